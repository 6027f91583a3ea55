/- A part of it. -/
import Derived.Test.YtgbpkbfghonllaaFcZ
import Derived.Test.YtgbpkbfghonllaaFcM44
import Derived.Test.YtgbpkbfghonllaaFcM23
import Derived.Test.YtgbpkbfghonllaaFcP4
import Derived.Test.YtgbpkbfghonllaaFcP5
import Derived.Test.YtgbpkbfghonllaaFcP13
import Derived.Outline
set_option linter.unusedVariables false
set_option linter.unusedSimpArgs false
namespace Go.Proofs.Ytgbpkbfghonllaa.P
open Go Go.RowKit Go.Proofs.YtgbpkbfghonllaaW.PrintWords Go.Proofs.YtgbpkbfghonllaaW.PrintLast Go.Proofs.YtgbpkbfghonllaaW.PrintMore Go.Proofs.Ytgbpkbfghonllaa.Pure
attribute [local go_sem] max2_int min2_int max_two min_two
def allV (rg uv rq : List Int) : Bool := decide (uv.length = rq.length) && (List.range uv.length).all (fun i => decide (rd rg (uv.getD i 0) = rq.getD i 0))
theorem all_l0 (rg uv rq : List Int) (a0 : ByteArray) (a1 a2 : Int) (a4 : List (List S42)) (hl : uv.length < 1000000) (he : uv.length = rq.length) (hr : ∀ i, i < uv.length → 0 ≤ uv.getD i 0 ∧ uv.getD i 0 < (rg.length : Int)) : ∀ d i, uv.length - i = d → i ≤ uv.length → ∀ k, d < k →
  balustraderef16_all.l0 k uv rq (i : Int) a0 a1 a2 rg a4 = some ((List.range' i (uv.length - i)).all (fun j => decide (rd rg (uv.getD j 0) = rq.getD j 0))) := by
 intro d
 induction d with
 | zero =>
  intro i hd hi k hk
  obtain ⟨k, rfl⟩ : ∃ m, k = m + 1 := ⟨k - 1, by omega⟩
  simp only [balustraderef16_all.l0]
  rw [if_neg (by omega), hd]
  rfl
 | succ d ih =>
  intro i hd hi k hk
  obtain ⟨k, rfl⟩ : ∃ m, k = m + 1 := ⟨k - 1, by omega⟩
  have h1 := hr i (by omega)
  have e1 : rd uv (i : Int) = uv.getD i 0 := rfl
  have e2 : rd rq (i : Int) = rq.getD i 0 := rfl
  simp only [balustraderef16_all.l0]
  rw [if_pos (by omega), if_pos (by omega), e1, e2, if_pos h1.1, if_pos h1.2, if_pos (by omega)]
  rw [hd, List.range'_succ, List.all_cons]
  have b1 : uv.length - (i + 1) = d := by omega
  have b2 : i + 1 ≤ uv.length := by omega
  have b3 : d < k := by omega
  have hw : wrap64 ((i : Int) + 1) = ((i + 1 : Nat) : Int) := by unfold wrap64; omega
  by_cases hq : rd rg (uv.getD i 0) = rq.getD i 0
  ·rw [if_pos hq, decide_eq_true hq, Bool.true_and]
   rw [hw, ih (i + 1) b1 b2 k b3, b1]
  ·rw [if_neg hq, decide_eq_false hq, Bool.false_and]
theorem all_ev (rg uv rq : List Int) (a0 : ByteArray) (a1 a2 : Int) (a4 : List (List S42)) (hl : uv.length < 1000000) (hr : ∀ i, i < uv.length → 0 ≤ uv.getD i 0 ∧ uv.getD i 0 < (rg.length : Int)) : ∃ k, balustraderef16_all.f k a0 a1 a2 rg a4 uv rq = some (allV rg uv rq) := by
 by_cases he : uv.length = rq.length
 ·refine ⟨uv.length + 1, ?_⟩
  unfold balustraderef16_all.f allV
  rw [if_pos (by omega), decide_eq_true he, Bool.true_and]
  have h := all_l0 rg uv rq a0 a1 a2 a4 hl he hr (uv.length - 0) 0 rfl (Nat.zero_le _) (uv.length + 1) (by omega)
  rw [show ((0 : Nat) : Int) = 0 from rfl] at h
  rw [h, Nat.sub_zero, List.range_eq_range']
 ·refine ⟨0, ?_⟩
  unfold balustraderef16_all.f allV
  rw [if_neg (by omega), decide_eq_false he]
  rfl
def oneV (L : LA) (pv : Int) (b : List S42) (j : Nat) : Int :=
 if !formR b j then 5 else if !thereP L pv (b.getD j z42) then 2
 else if (!allV L.rg (usesI (b.getD j z42)) (readsR L (b.getD j z42)) || (rr_wrV (b.getD j z42).f0 && !decide (rd L.rg (b.getD j z42).f1 = writesR L (b.getD j z42)))) then 11 else 0
theorem def_wr (x : S42) (h : rightI x = true) (hw : rr_wrV x.f0 = true) : defI x = x.f1 := by
 unfold defI defV
 rw [show rr_rightV _ _ _ _ _ _ _ _ _ = true from h, hw]
 rfl
theorem one_needs (L : LA) (pv : Int) (x : S42) (hR : rightI x = true) (hT : thereP L pv x = true) : (x.f0 = 3 ∨ x.f0 = 4 → 0 ≤ x.f2 ∧ x.f2 < (L.rg.length : Int)) ∧ (x.f0 = 23 ∨ x.f0 = 44 → 0 ≤ x.f1 ∧ x.f1 < (L.rg.length : Int)) ∧ (x.f0 = 39 → 0 ≤ x.f5 ∧ x.f5 < (L.fs.length : Int)) ∧ (∀ i, i < (usesI x).length → 0 ≤ (usesI x).getD i 0 ∧ (usesI x).getD i 0 < (L.rg.length : Int)) ∧ (rr_wrV x.f0 = true → 0 ≤ x.f1 ∧ x.f1 < (L.rg.length : Int)) := by
 have hT' : thereV { L with pr := [pv] } 0 x = true := hT
 obtain ⟨n1, n2, n3, n4, n5, n6⟩ := fits_needs { L with pr := [pv] } 0 x hR hT'
 have hw : rr_wrV x.f0 = true → 0 ≤ x.f1 ∧ x.f1 < (L.rg.length : Int) := by
  intro hw
  rw [def_wr x hR hw] at n6
  exact ⟨(right_parts x hR).2.1, n6⟩
 exact ⟨fun h => n2 (by omega), fun h => hw (by rcases h with h | h <;> rw [h] <;> decide), n4, n5, hw⟩
theorem formR_right {b : List S42} {j : Nat} (h : formR b j = true) : rightI (b.getD j z42) = true := by
 unfold formR at h
 simp only [Bool.and_eq_true] at h
 exact h.1.1
set_option maxHeartbeats 16000000 in
set_option maxRecDepth 100000 in
theorem rone_at (L : LA) (k j : Nat) (w : World) (hL : LOk L w) (hk : k < L.bl.length) (hkl : L.bl.length < 1000000) (b : List S42) (hb : L.bl.getD k [] = b) (hj : j < b.length) (hbl : b.length < 100000) (hl : ∀ i, i < b.length → (b.getD i z42).f8.length < 100000) (kP : Nat) (pv : Int) (hP : balustraderef16_Preds.f kP L.nm L.ps L.rt L.rg L.bl (k : Int) = some pv) (e : Int) (he : oneV L pv b j = e) :
  Calls Try.prog 27 #[.agg #[.slice L.Af L.fs.length L.cf, .int .i64 L.mn, .slice L.As L.ss.length L.cs], .agg #[.string L.nm, .int .i64 L.ps, .int .i64 L.rt, .slice L.Ar L.rg.length L.cr, .slice L.Ab L.bl.length L.cb], .int .i64 (k : Int), .int .i64 (j : Int)] w fun r w' => r = .returned (.int .i64 e) ∧ Below w.heap.size w w' := by
 obtain ⟨qb, A0, c0, ebq, cb_, hbl_, hbC⟩ := at_L5 hL.b (k : Int) (by omega) (by omega)
 rw [show rd_L5 L.bl (k : Int) = L.bl.getD k [] from rfl, hb] at cb_ hbl_ hbC
 obtain ⟨qx, A8, c8, exq, x0, x1, x2, x3, x4, x5, x6, x7, x8, hl8, hr8⟩ := at_T42 hbC (j : Int) (by omega) (by omega)
 subst exq
 rw [show rd_T42 b (j : Int) = b.getD j z42 from rfl] at x0 x1 x2 x3 x4 x5 x6 x7 x8 hl8 hr8
 (try simp only [Int.toNat_natCast] at cb_ x0 x1 x2 x3 x4 x5 x6 x7 x8)
 have hxl := hl j hj
 unfold oneV at he
 obtain ⟨x, ex⟩ : ∃ x, b.getD j z42 = x := ⟨_, rfl⟩
 rw [ex] at x0 x1 x2 x3 x4 x5 x6 x7 x8 hl8 hr8 hxl he
 have b2 : Below w.heap.size w ((w.alloc (.cells #[.slice L.Af L.fs.length L.cf, .int .i64 L.mn, .slice L.As L.ss.length L.cs] 25)).alloc (.cells #[.string L.nm, .int .i64 L.ps, .int .i64 L.rt, .slice L.Ar L.rg.length L.cr, .slice L.Ab L.bl.length L.cb] 39)) := below_step (below_alloc (Below.refl _ _) _) (below_alloc (Below.refl _ _) _)
 replace cb_ := pw_cell_below b2 cb_
 replace x0 := pw_cell_below b2 x0
 replace x1 := pw_cell_below b2 x1
 replace x2 := pw_cell_below b2 x2
 replace x3 := pw_cell_below b2 x3
 replace x4 := pw_cell_below b2 x4
 replace x5 := pw_cell_below b2 x5
 replace x6 := pw_cell_below b2 x6
 replace x7 := pw_cell_below b2 x7
 replace x8 := pw_cell_below b2 x8
 obtain ⟨FF, eF⟩ : ∃ r, formR b j = r := ⟨_, rfl⟩
 obtain ⟨TT, eT⟩ : ∃ r, thereP L pv x = r := ⟨_, rfl⟩
 rw [eF, eT] at he
 have HFF := Aside0.mk eF
 have HTT := Aside0.mk eT
 have HEX := Aside0.mk ex
 have HXL := Aside0.mk hxl
 have HBC := Aside0.mk hbC
 have HBL := Aside0.mk hbl_
 have HJ := Aside0.mk hj
 have HIL := Aside0.mk hl
 have HP := Aside0.mk hP
 have HE := Aside0.mk he
 have HS := Aside0.mk (RSt.start hL hr8 hl8)
 have HEB := Aside0.mk ebq
 have p1 : (0 : Int) ≤ (k : Int) := by omega
 have p2 : (k : Int) < (L.bl.length : Int) := by omega
 have p3 : (0 : Int) ≤ (j : Int) := by omega
 have p4 : (j : Int) < (b.length : Int) := by omega
 have hf4 : ((w.alloc (.cells #[.slice L.Af L.fs.length L.cf, .int .i64 L.mn, .slice L.As L.ss.length L.cs] 25)).alloc (.cells #[.string L.nm, .int .i64 L.ps, .int .i64 L.rt, .slice L.Ar L.rg.length L.cr, .slice L.Ab L.bl.length L.cb] 39)).cell? ⟨w.heap.size + 1, 4, none⟩ = some (.slice (some qb) L.bl.length L.cb) := by
  have h := blk_new (w.alloc (.cells #[.slice L.Af L.fs.length L.cf, .int .i64 L.mn, .slice L.As L.ss.length L.cs] 25)) (.cells #[.string L.nm, .int .i64 L.ps, .int .i64 L.rt, .slice L.Ar L.rg.length L.cr, .slice L.Ab L.bl.length L.cb] 39)
  rw [World.size_alloc] at h
  have h2 := blk_cell h 4
  rw [h2, ← ebq]
  rfl
 have HSZ := Aside0.mk (show ((w.alloc (.cells #[.slice L.Af L.fs.length L.cf, .int .i64 L.mn, .slice L.As L.ss.length L.cs] 25)).alloc (.cells #[.string L.nm, .int .i64 L.ps, .int .i64 L.rt, .slice L.Ar L.rg.length L.cr, .slice L.Ab L.bl.length L.cb] 39)).heap.size = w.heap.size + 2 by simp only [World.size_alloc])
 clear hL hb hj hbl hl hP he ex hxl hbC hbl_ hl8 hr8 b2 eF eT ebq hk hkl
 go_enter Try.func27, Try.ntmps27
 go_upto_region 1 with (fail)
 generalize ((w.alloc (.cells #[.slice L.Af L.fs.length L.cf, .int .i64 L.mn, .slice L.As L.ss.length L.cs] 25)).alloc (.cells #[.string L.nm, .int .i64 L.ps, .int .i64 L.rt, .slice L.Ar L.rg.length L.cr, .slice L.Ab L.bl.length L.cb] 39)) = W2 at *
 go_upto_region 3 with (fail)
 clear cb_ x0 x1 x2 x3 x4 x5 x6 x7 x8 hf4
 generalize W2.alloc (.cells #[.int .i64 x.f0, .int .i64 x.f1, .int .i64 x.f2, .int .i64 x.f3, .int .i64 x.f4, .int .i64 x.f5, .int .i64 x.f6, .int .i64 x.f7, .slice A8 x.f8.length c8] 42) = W at *
 generalize W2.heap.size = g2 at *
 have hsz := HSZ.out
 subst hsz
 clear HSZ
 obtain ⟨p0, p1_, p2_⟩ := HS.out.pc
 obtain ⟨f0, f1, f2, f3, f4⟩ := HS.out.fc
 obtain ⟨z0, z1, z2, z3, z4, z5, z6, z7, z8⟩ := HS.out.xc
 cases FF
 ·go_wp2_with ((go_at_call 58; ((with_reducible refine (rform_at (some qx) c0 b j _ (Kd.C_below HBC.out HS.out.B) HBL.out HJ.out HIL.out _ HFF.out).mono ?_); rintro r w' ⟨rfl, hb⟩; (first | replace HS := Aside0.mk (HS.out.step hb) | replace HS := Aside0.mk (HS.out.draw.step hb) | replace HS := Aside0.mk ((HS.out.drawN _).step hb)); clear hb; obtain ⟨p0, p1_, p2_⟩ := HS.out.pc; obtain ⟨f0, f1, f2, f3, f4⟩ := HS.out.fc; obtain ⟨z0, z1, z2, z3, z4, z5, z6, z7, z8⟩ := HS.out.xc)))
  go_ret
  exact ⟨by rw [← HE.out]; rfl, HS.out.B⟩
 have HRI : Aside0 (rightI x = true) := ⟨by rw [← HEX.out]; exact formR_right HFF.out⟩
 cases TT
 ·go_wp2_with (first | (go_at_call 58; ((with_reducible refine (rform_at (some qx) c0 b j _ (Kd.C_below HBC.out HS.out.B) HBL.out HJ.out HIL.out _ HFF.out).mono ?_); rintro r w' ⟨rfl, hb⟩; (first | replace HS := Aside0.mk (HS.out.step hb) | replace HS := Aside0.mk (HS.out.draw.step hb) | replace HS := Aside0.mk ((HS.out.drawN _).step hb)); clear hb; obtain ⟨p0, p1_, p2_⟩ := HS.out.pc; obtain ⟨f0, f1, f2, f3, f4⟩ := HS.out.fc; obtain ⟨z0, z1, z2, z3, z4, z5, z6, z7, z8⟩ := HS.out.xc)) | (go_at_call 59; ((with_reducible refine (rthere_at L k x A8 c8 _ HS.out.l kP pv HP.out HS.out.a HS.out.ac HXL.out HRI.out _ HTT.out).mono ?_); rintro r w'' ⟨rfl, hb⟩; (first | replace HS := Aside0.mk (HS.out.step hb) | replace HS := Aside0.mk (HS.out.draw.step hb) | replace HS := Aside0.mk ((HS.out.drawN _).step hb)); clear hb; obtain ⟨p0, p1_, p2_⟩ := HS.out.pc; obtain ⟨f0, f1, f2, f3, f4⟩ := HS.out.fc; obtain ⟨z0, z1, z2, z3, z4, z5, z6, z7, z8⟩ := HS.out.xc)))
  go_ret
  exact ⟨by rw [← HE.out]; rfl, HS.out.B⟩
 obtain ⟨n1, n2, n3, n4, n5⟩ := one_needs L pv x HRI.out HTT.out
 obtain ⟨rq, erq⟩ : ∃ r, readsR L x = r := ⟨_, rfl⟩
 obtain ⟨kw, ekw⟩ : ∃ r, writesR L x = r := ⟨_, rfl⟩
 obtain ⟨kU, hU⟩ := ruses_ev x HXL.out
 have hul := usesI_le x HXL.out
 obtain ⟨uv, eu⟩ : ∃ r, usesI x = r := ⟨_, rfl⟩
 rw [eu] at hU hul n4
 obtain ⟨kA, hA⟩ := all_ev L.rg uv rq L.nm L.ps L.rt L.bl (by omega) n4
 obtain ⟨AA, eA⟩ : ∃ r, allV L.rg uv rq = r := ⟨_, rfl⟩
 obtain ⟨WW, eW⟩ : ∃ r, rr_wrV x.f0 = r := ⟨_, rfl⟩
 have he := HE.out
 rw [erq, ekw, eu, eA, eW] at he
 rw [eA] at hA
 have HE := Aside0.mk he
 have HU := Aside0.mk hU
 have HA := Aside0.mk hA
 have HWR : Aside0 (balustraderef15_Writes.f x.f0 = some WW) := ⟨by rw [rr_wr_val, eW]⟩
 have HN := Aside0.mk (And.intro n1 (And.intro n2 (And.intro n3 (fun h : WW = true => n5 (eW.trans h)))))
 have HRQ := Aside0.mk erq
 have HKW := Aside0.mk ekw
 clear he hU hul hA erq ekw eu eA eW n1 n2 n3 n4 n5
 go_upto_region 7 with (first | (go_at_call 58; ((with_reducible refine (rform_at (some qx) c0 b j _ (Kd.C_below HBC.out HS.out.B) HBL.out HJ.out HIL.out _ HFF.out).mono ?_); rintro r w' ⟨rfl, hb⟩; (first | replace HS := Aside0.mk (HS.out.step hb) | replace HS := Aside0.mk (HS.out.draw.step hb) | replace HS := Aside0.mk ((HS.out.drawN _).step hb)); clear hb; obtain ⟨p0, p1_, p2_⟩ := HS.out.pc; obtain ⟨f0, f1, f2, f3, f4⟩ := HS.out.fc; obtain ⟨z0, z1, z2, z3, z4, z5, z6, z7, z8⟩ := HS.out.xc)) | (go_at_call 59; ((with_reducible refine (rthere_at L k x A8 c8 _ HS.out.l kP pv HP.out HS.out.a HS.out.ac HXL.out HRI.out _ HTT.out).mono ?_); rintro r w'' ⟨rfl, hb⟩; (first | replace HS := Aside0.mk (HS.out.step hb) | replace HS := Aside0.mk (HS.out.draw.step hb) | replace HS := Aside0.mk ((HS.out.drawN _).step hb)); clear hb; obtain ⟨p0, p1_, p2_⟩ := HS.out.pc; obtain ⟨f0, f1, f2, f3, f4⟩ := HS.out.fc; obtain ⟨z0, z1, z2, z3, z4, z5, z6, z7, z8⟩ := HS.out.xc)))
 clear p0 p1_ p2_ f0 f1 f2 f3 f4 z0 z1 z2 z3 z4 z5 z6 z7 z8
 cases AA
 ·refine start_ (n := 27) (S := fun w' => w'.cell? ⟨w.heap.size, 0, none⟩ = some (.slice L.Af L.fs.length L.cf) ∧ w'.cell? ⟨w.heap.size, 1, none⟩ = some (.int .i64 L.mn) ∧ w'.cell? ⟨w.heap.size, 2, none⟩ = some (.slice L.As L.ss.length L.cs) ∧ w'.cell? ⟨w.heap.size + 1, 0, none⟩ = some (.string L.nm) ∧ w'.cell? ⟨w.heap.size + 1, 1, none⟩ = some (.int .i64 L.ps) ∧ w'.cell? ⟨w.heap.size + 1, 2, none⟩ = some (.int .i64 L.rt) ∧ w'.cell? ⟨w.heap.size + 1, 3, none⟩ = some (.slice L.Ar L.rg.length L.cr) ∧ w'.cell? ⟨w.heap.size + 1, 4, none⟩ = some (.slice L.Ab L.bl.length L.cb) ∧ w'.cell? ⟨w.heap.size + 2, 0, none⟩ = some (.int .i64 x.f0) ∧ w'.cell? ⟨w.heap.size + 2, 1, none⟩ = some (.int .i64 x.f1) ∧ w'.cell? ⟨w.heap.size + 2, 2, none⟩ = some (.int .i64 x.f2) ∧ w'.cell? ⟨w.heap.size + 2, 3, none⟩ = some (.int .i64 x.f3) ∧ w'.cell? ⟨w.heap.size + 2, 4, none⟩ = some (.int .i64 x.f4) ∧ w'.cell? ⟨w.heap.size + 2, 5, none⟩ = some (.int .i64 x.f5) ∧ w'.cell? ⟨w.heap.size + 2, 6, none⟩ = some (.int .i64 x.f6) ∧ w'.cell? ⟨w.heap.size + 2, 7, none⟩ = some (.int .i64 x.f7) ∧ w'.cell? ⟨w.heap.size + 2, 8, none⟩ = some (.slice A8 x.f8.length c8)) (ds := []) #[false, false, false, false, false, false, false, false, false, false, false, false, false, false, false, false, false, false, false, false, false, false, false, false, false, false, false] (by kernel_rfl) rfl rfl ⟨HS.out.pc.1, HS.out.pc.2.1, HS.out.pc.2.2, HS.out.fc.1, HS.out.fc.2.1, HS.out.fc.2.2.1, HS.out.fc.2.2.2.1, HS.out.fc.2.2.2.2, HS.out.xc.1, HS.out.xc.2.1, HS.out.xc.2.2.1, HS.out.xc.2.2.2.1, HS.out.xc.2.2.2.2.1, HS.out.xc.2.2.2.2.2.1, HS.out.xc.2.2.2.2.2.2.1, HS.out.xc.2.2.2.2.2.2.2.1, HS.out.xc.2.2.2.2.2.2.2.2⟩ (fun hHeld => ?_)
  refine tT 0 (some 30) (zb 27 1) hHeld (h := ?_)
  refine tT 1 (some 31) (zb 27 3) hHeld (h := ?_)
  refine tT 3 (some 33) (zb 27 11) hHeld (h := ?_)
  refine tT 4 (some 34) (zb 27 27) hHeld (h := ?_)
  refine tT 5 (some 35) (zb 27 59) hHeld (h := ?_)
  refine one_ (i := 2) (N := some 32) (zb 27 63) rfl rfl (by kernel_rfl) (by decide) (fun K hK => ?_)
  refine goes_ Try.func16 (by kernel_rfl) rfl #[.agg #[.int .i64 x.f0, .int .i64 x.f1, .int .i64 x.f2, .int .i64 x.f3, .int .i64 x.f4, .int .i64 x.f5, .int .i64 x.f6, .int .i64 x.f7, .slice A8 x.f8.length c8]] (by rfl) rfl rfl (by simp only [List.map_toArray, List.map_cons, List.map_nil]; rfl) ?_
  with_reducible refine (balustraderef15_Uses.calls kU x.f0 x.f1 x.f2 x.f3 x.f4 x.f5 x.f6 x.f7 A8 c8 x.f8 uv _ (RSt.a (by first | exact HS.out | exact HS.out.draw | exact HS.out.drawN _)) HS.out.ac HU.out).mono ?_
  rintro r w3 ⟨v_, rfl, hR_, hb⟩
  refine ⟨_, rfl, ?_⟩
  obtain ⟨Au, cu, rfl⟩ := Kd.R_slice hR_
  have HRU := Aside0.mk (Kd.R_reads' hR_).2
  (first | replace HS := Aside0.mk (HS.out.step hb) | replace HS := Aside0.mk (HS.out.draw.step hb) | replace HS := Aside0.mk ((HS.out.drawN _).step hb))
  clear hb hR_
  refine hK.out _ _ ⟨HS.out.pc.1, HS.out.pc.2.1, HS.out.pc.2.2, HS.out.fc.1, HS.out.fc.2.1, HS.out.fc.2.2.1, HS.out.fc.2.2.2.1, HS.out.fc.2.2.2.2, HS.out.xc.1, HS.out.xc.2.1, HS.out.xc.2.2.1, HS.out.xc.2.2.2.1, HS.out.xc.2.2.2.2.1, HS.out.xc.2.2.2.2.2.1, HS.out.xc.2.2.2.2.2.2.1, HS.out.xc.2.2.2.2.2.2.2.1, HS.out.xc.2.2.2.2.2.2.2.2⟩ (fun hHeld => ?_)
  clear hK K
  refine nN (some 32) (h := ?_)
  refine one_ (i := 6) (N := some 36) (zb 27 127) rfl rfl (by kernel_rfl) (by decide) (fun K hK => ?_)
  refine goes_ Try.func61 (by kernel_rfl) rfl #[.agg #[.slice L.Af L.fs.length L.cf, .int .i64 L.mn, .slice L.As L.ss.length L.cs], .agg #[.string L.nm, .int .i64 L.ps, .int .i64 L.rt, .slice L.Ar L.rg.length L.cr, .slice L.Ab L.bl.length L.cb], .agg #[.int .i64 x.f0, .int .i64 x.f1, .int .i64 x.f2, .int .i64 x.f3, .int .i64 x.f4, .int .i64 x.f5, .int .i64 x.f6, .int .i64 x.f7, .slice A8 x.f8.length c8]] (by rfl) rfl rfl (by simp only [List.map_toArray, List.map_cons, List.map_nil]; rfl) ?_
  with_reducible refine (rreads_at L x A8 c8 _ (RSt.l (by first | exact HS.out | exact HS.out.draw | exact HS.out.drawN _)) (RSt.a (by first | exact HS.out | exact HS.out.draw | exact HS.out.drawN _)) HS.out.ac HXL.out HN.out.1 HN.out.2.1 HN.out.2.2.1 rq HRQ.out).mono ?_
  rintro r w4 ⟨Az, cz, rfl, hz_, hzc_, hb⟩
  refine ⟨_, rfl, ?_⟩
  have HRZ := Aside0.mk (And.intro hzc_ hz_)
  replace HRU := Aside0.mk (And.intro HRU.out.1 (Kd.C_below HRU.out.2 hb))
  (first | replace HS := Aside0.mk (HS.out.step hb) | replace HS := Aside0.mk (HS.out.draw.step hb) | replace HS := Aside0.mk ((HS.out.drawN _).step hb))
  clear hb hz_ hzc_
  refine hK.out _ _ ⟨HS.out.pc.1, HS.out.pc.2.1, HS.out.pc.2.2, HS.out.fc.1, HS.out.fc.2.1, HS.out.fc.2.2.1, HS.out.fc.2.2.2.1, HS.out.fc.2.2.2.2, HS.out.xc.1, HS.out.xc.2.1, HS.out.xc.2.2.1, HS.out.xc.2.2.2.1, HS.out.xc.2.2.2.2.1, HS.out.xc.2.2.2.2.2.1, HS.out.xc.2.2.2.2.2.2.1, HS.out.xc.2.2.2.2.2.2.2.1, HS.out.xc.2.2.2.2.2.2.2.2⟩ (fun hHeld => ?_)
  clear hK K
  refine nN (some 36) (h := ?_)
  refine one_ (i := 7) (N := some 37) (zb 27 255) rfl rfl (by kernel_rfl) (by decide) (fun K hK => ?_)
  refine goes_ Try.func60 (by kernel_rfl) rfl #[.agg #[.string L.nm, .int .i64 L.ps, .int .i64 L.rt, .slice L.Ar L.rg.length L.cr, .slice L.Ab L.bl.length L.cb], .slice Au uv.length cu, .slice Az rq.length cz] (by rfl) rfl rfl (by simp only [List.map_toArray, List.map_cons, List.map_nil]; rfl) ?_
  with_reducible refine (balustraderef16_all.calls kA L.nm L.ps L.rt L.Ar L.cr L.rg L.Ab L.cb L.bl Au cu uv Az cz rq _ _ (LOk.r (RSt.l (by first | exact HS.out | exact HS.out.draw | exact HS.out.drawN _))) HS.out.l.rc (LOk.b (RSt.l (by first | exact HS.out | exact HS.out.draw | exact HS.out.drawN _))) HS.out.l.bc HRU.out.2 HRU.out.1 HRZ.out.2 HRZ.out.1 HA.out).mono ?_
  rintro r w5 ⟨rfl, hb⟩
  refine ⟨_, rfl, ?_⟩
  (first | replace HS := Aside0.mk (HS.out.step hb) | replace HS := Aside0.mk (HS.out.draw.step hb) | replace HS := Aside0.mk ((HS.out.drawN _).step hb))
  clear hb
  refine hK.out _ _ ⟨HS.out.pc.1, HS.out.pc.2.1, HS.out.pc.2.2, HS.out.fc.1, HS.out.fc.2.1, HS.out.fc.2.2.1, HS.out.fc.2.2.2.1, HS.out.fc.2.2.2.2, HS.out.xc.1, HS.out.xc.2.1, HS.out.xc.2.2.1, HS.out.xc.2.2.2.1, HS.out.xc.2.2.2.2.1, HS.out.xc.2.2.2.2.2.1, HS.out.xc.2.2.2.2.2.2.1, HS.out.xc.2.2.2.2.2.2.2.1, HS.out.xc.2.2.2.2.2.2.2.2⟩ (fun hHeld => ?_)
  clear hK K
  refine nN (some 37) (h := ?_)
  refine pT 8 (some 38) (zb 27 511) (h := ?_)
  refine pT 9 (some 39) (zb 27 1023) (h := ?_)
  refine pU 10 (some 40) (zb 27 2047) (h := ?_)
  refine pU 11 (some 41) (zb 27 4095) (h := ?_)
  refine pU 12 (some 42) (zb 27 8191) (h := ?_)
  refine pU 13 (some 43) (zb 27 16383) (h := ?_)
  refine pU 14 (some 44) (zb 27 32767) (h := ?_)
  refine pU 15 (some 45) (zb 27 65535) (h := ?_)
  refine pU 16 (some 46) (zb 27 131071) (h := ?_)
  refine pU 17 (some 47) (zb 27 262143) (h := ?_)
  refine pU 18 (some 48) (zb 27 524287) (h := ?_)
  refine pU 19 (some 49) (zb 27 1048575) (h := ?_)
  refine pU 20 (some 50) (zb 27 2097151) (h := ?_)
  refine pU 21 (some 51) (zb 27 4194303) (h := ?_)
  refine pU 22 (some 52) (zb 27 8388607) (h := ?_)
  refine pU 23 (some 53) (zb 27 16777215) (h := ?_)
  refine pU 24 (some 54) (zb 27 33554431) (h := ?_)
  refine pU 25 (some 55) (zb 27 67108863) (h := ?_)
  refine pT 26 (some 56) (zb 27 134217727) (h := ?_)
  refine done_ (by kernel_rfl) ?_
  clear hHeld
  go_wp2
  go_ret
  exact ⟨by rw [← HE.out]; rfl, HS.out.B⟩
 cases WW
 ·refine start_ (n := 27) (S := fun w' => w'.cell? ⟨w.heap.size, 0, none⟩ = some (.slice L.Af L.fs.length L.cf) ∧ w'.cell? ⟨w.heap.size, 1, none⟩ = some (.int .i64 L.mn) ∧ w'.cell? ⟨w.heap.size, 2, none⟩ = some (.slice L.As L.ss.length L.cs) ∧ w'.cell? ⟨w.heap.size + 1, 0, none⟩ = some (.string L.nm) ∧ w'.cell? ⟨w.heap.size + 1, 1, none⟩ = some (.int .i64 L.ps) ∧ w'.cell? ⟨w.heap.size + 1, 2, none⟩ = some (.int .i64 L.rt) ∧ w'.cell? ⟨w.heap.size + 1, 3, none⟩ = some (.slice L.Ar L.rg.length L.cr) ∧ w'.cell? ⟨w.heap.size + 1, 4, none⟩ = some (.slice L.Ab L.bl.length L.cb) ∧ w'.cell? ⟨w.heap.size + 2, 0, none⟩ = some (.int .i64 x.f0) ∧ w'.cell? ⟨w.heap.size + 2, 1, none⟩ = some (.int .i64 x.f1) ∧ w'.cell? ⟨w.heap.size + 2, 2, none⟩ = some (.int .i64 x.f2) ∧ w'.cell? ⟨w.heap.size + 2, 3, none⟩ = some (.int .i64 x.f3) ∧ w'.cell? ⟨w.heap.size + 2, 4, none⟩ = some (.int .i64 x.f4) ∧ w'.cell? ⟨w.heap.size + 2, 5, none⟩ = some (.int .i64 x.f5) ∧ w'.cell? ⟨w.heap.size + 2, 6, none⟩ = some (.int .i64 x.f6) ∧ w'.cell? ⟨w.heap.size + 2, 7, none⟩ = some (.int .i64 x.f7) ∧ w'.cell? ⟨w.heap.size + 2, 8, none⟩ = some (.slice A8 x.f8.length c8)) (ds := []) #[false, false, false, false, false, false, false, false, false, false, false, false, false, false, false, false, false, false, false, false, false, false, false, false, false, false, false] (by kernel_rfl) rfl rfl ⟨HS.out.pc.1, HS.out.pc.2.1, HS.out.pc.2.2, HS.out.fc.1, HS.out.fc.2.1, HS.out.fc.2.2.1, HS.out.fc.2.2.2.1, HS.out.fc.2.2.2.2, HS.out.xc.1, HS.out.xc.2.1, HS.out.xc.2.2.1, HS.out.xc.2.2.2.1, HS.out.xc.2.2.2.2.1, HS.out.xc.2.2.2.2.2.1, HS.out.xc.2.2.2.2.2.2.1, HS.out.xc.2.2.2.2.2.2.2.1, HS.out.xc.2.2.2.2.2.2.2.2⟩ (fun hHeld => ?_)
  refine tT 0 (some 30) (zb 27 1) hHeld (h := ?_)
  refine tT 1 (some 31) (zb 27 3) hHeld (h := ?_)
  refine tT 3 (some 33) (zb 27 11) hHeld (h := ?_)
  refine tT 4 (some 34) (zb 27 27) hHeld (h := ?_)
  refine tT 5 (some 35) (zb 27 59) hHeld (h := ?_)
  refine one_ (i := 2) (N := some 32) (zb 27 63) rfl rfl (by kernel_rfl) (by decide) (fun K hK => ?_)
  refine goes_ Try.func16 (by kernel_rfl) rfl #[.agg #[.int .i64 x.f0, .int .i64 x.f1, .int .i64 x.f2, .int .i64 x.f3, .int .i64 x.f4, .int .i64 x.f5, .int .i64 x.f6, .int .i64 x.f7, .slice A8 x.f8.length c8]] (by rfl) rfl rfl (by simp only [List.map_toArray, List.map_cons, List.map_nil]; rfl) ?_
  with_reducible refine (balustraderef15_Uses.calls kU x.f0 x.f1 x.f2 x.f3 x.f4 x.f5 x.f6 x.f7 A8 c8 x.f8 uv _ (RSt.a (by first | exact HS.out | exact HS.out.draw | exact HS.out.drawN _)) HS.out.ac HU.out).mono ?_
  rintro r w3 ⟨v_, rfl, hR_, hb⟩
  refine ⟨_, rfl, ?_⟩
  obtain ⟨Au, cu, rfl⟩ := Kd.R_slice hR_
  have HRU := Aside0.mk (Kd.R_reads' hR_).2
  (first | replace HS := Aside0.mk (HS.out.step hb) | replace HS := Aside0.mk (HS.out.draw.step hb) | replace HS := Aside0.mk ((HS.out.drawN _).step hb))
  clear hb hR_
  refine hK.out _ _ ⟨HS.out.pc.1, HS.out.pc.2.1, HS.out.pc.2.2, HS.out.fc.1, HS.out.fc.2.1, HS.out.fc.2.2.1, HS.out.fc.2.2.2.1, HS.out.fc.2.2.2.2, HS.out.xc.1, HS.out.xc.2.1, HS.out.xc.2.2.1, HS.out.xc.2.2.2.1, HS.out.xc.2.2.2.2.1, HS.out.xc.2.2.2.2.2.1, HS.out.xc.2.2.2.2.2.2.1, HS.out.xc.2.2.2.2.2.2.2.1, HS.out.xc.2.2.2.2.2.2.2.2⟩ (fun hHeld => ?_)
  clear hK K
  refine nN (some 32) (h := ?_)
  refine one_ (i := 6) (N := some 36) (zb 27 127) rfl rfl (by kernel_rfl) (by decide) (fun K hK => ?_)
  refine goes_ Try.func61 (by kernel_rfl) rfl #[.agg #[.slice L.Af L.fs.length L.cf, .int .i64 L.mn, .slice L.As L.ss.length L.cs], .agg #[.string L.nm, .int .i64 L.ps, .int .i64 L.rt, .slice L.Ar L.rg.length L.cr, .slice L.Ab L.bl.length L.cb], .agg #[.int .i64 x.f0, .int .i64 x.f1, .int .i64 x.f2, .int .i64 x.f3, .int .i64 x.f4, .int .i64 x.f5, .int .i64 x.f6, .int .i64 x.f7, .slice A8 x.f8.length c8]] (by rfl) rfl rfl (by simp only [List.map_toArray, List.map_cons, List.map_nil]; rfl) ?_
  with_reducible refine (rreads_at L x A8 c8 _ (RSt.l (by first | exact HS.out | exact HS.out.draw | exact HS.out.drawN _)) (RSt.a (by first | exact HS.out | exact HS.out.draw | exact HS.out.drawN _)) HS.out.ac HXL.out HN.out.1 HN.out.2.1 HN.out.2.2.1 rq HRQ.out).mono ?_
  rintro r w4 ⟨Az, cz, rfl, hz_, hzc_, hb⟩
  refine ⟨_, rfl, ?_⟩
  have HRZ := Aside0.mk (And.intro hzc_ hz_)
  replace HRU := Aside0.mk (And.intro HRU.out.1 (Kd.C_below HRU.out.2 hb))
  (first | replace HS := Aside0.mk (HS.out.step hb) | replace HS := Aside0.mk (HS.out.draw.step hb) | replace HS := Aside0.mk ((HS.out.drawN _).step hb))
  clear hb hz_ hzc_
  refine hK.out _ _ ⟨HS.out.pc.1, HS.out.pc.2.1, HS.out.pc.2.2, HS.out.fc.1, HS.out.fc.2.1, HS.out.fc.2.2.1, HS.out.fc.2.2.2.1, HS.out.fc.2.2.2.2, HS.out.xc.1, HS.out.xc.2.1, HS.out.xc.2.2.1, HS.out.xc.2.2.2.1, HS.out.xc.2.2.2.2.1, HS.out.xc.2.2.2.2.2.1, HS.out.xc.2.2.2.2.2.2.1, HS.out.xc.2.2.2.2.2.2.2.1, HS.out.xc.2.2.2.2.2.2.2.2⟩ (fun hHeld => ?_)
  clear hK K
  refine nN (some 36) (h := ?_)
  refine one_ (i := 7) (N := some 37) (zb 27 255) rfl rfl (by kernel_rfl) (by decide) (fun K hK => ?_)
  refine goes_ Try.func60 (by kernel_rfl) rfl #[.agg #[.string L.nm, .int .i64 L.ps, .int .i64 L.rt, .slice L.Ar L.rg.length L.cr, .slice L.Ab L.bl.length L.cb], .slice Au uv.length cu, .slice Az rq.length cz] (by rfl) rfl rfl (by simp only [List.map_toArray, List.map_cons, List.map_nil]; rfl) ?_
  with_reducible refine (balustraderef16_all.calls kA L.nm L.ps L.rt L.Ar L.cr L.rg L.Ab L.cb L.bl Au cu uv Az cz rq _ _ (LOk.r (RSt.l (by first | exact HS.out | exact HS.out.draw | exact HS.out.drawN _))) HS.out.l.rc (LOk.b (RSt.l (by first | exact HS.out | exact HS.out.draw | exact HS.out.drawN _))) HS.out.l.bc HRU.out.2 HRU.out.1 HRZ.out.2 HRZ.out.1 HA.out).mono ?_
  rintro r w5 ⟨rfl, hb⟩
  refine ⟨_, rfl, ?_⟩
  (first | replace HS := Aside0.mk (HS.out.step hb) | replace HS := Aside0.mk (HS.out.draw.step hb) | replace HS := Aside0.mk ((HS.out.drawN _).step hb))
  clear hb
  refine hK.out _ _ ⟨HS.out.pc.1, HS.out.pc.2.1, HS.out.pc.2.2, HS.out.fc.1, HS.out.fc.2.1, HS.out.fc.2.2.1, HS.out.fc.2.2.2.1, HS.out.fc.2.2.2.2, HS.out.xc.1, HS.out.xc.2.1, HS.out.xc.2.2.1, HS.out.xc.2.2.2.1, HS.out.xc.2.2.2.2.1, HS.out.xc.2.2.2.2.2.1, HS.out.xc.2.2.2.2.2.2.1, HS.out.xc.2.2.2.2.2.2.2.1, HS.out.xc.2.2.2.2.2.2.2.2⟩ (fun hHeld => ?_)
  clear hK K
  refine nN (some 37) (h := ?_)
  refine pT 8 (some 38) (zb 27 511) (h := ?_)
  refine pT 9 (some 39) (zb 27 1023) (h := ?_)
  refine pT 10 (some 40) (zb 27 2047) (h := ?_)
  refine tT 11 (some 41) (zb 27 4095) hHeld (h := ?_)
  refine one_ (i := 12) (N := some 42) (zb 27 8191) rfl rfl (by kernel_rfl) (by decide) (fun K hK => ?_)
  refine goes_ Try.func34 (by kernel_rfl) rfl #[.int .i64 x.f0] (by rfl) rfl rfl (by simp only [List.map_toArray, List.map_cons, List.map_nil]; rfl) ?_
  with_reducible refine (balustraderef15_Writes.calls x.f0 _ _ HWR.out).mono ?_
  rintro r w6 ⟨rfl, hb⟩
  refine ⟨_, rfl, ?_⟩
  replace hb := Drawn0.below hb
  (first | replace HS := Aside0.mk (HS.out.step hb) | replace HS := Aside0.mk (HS.out.draw.step hb) | replace HS := Aside0.mk ((HS.out.drawN _).step hb))
  clear hb
  refine hK.out _ _ ⟨HS.out.pc.1, HS.out.pc.2.1, HS.out.pc.2.2, HS.out.fc.1, HS.out.fc.2.1, HS.out.fc.2.2.1, HS.out.fc.2.2.2.1, HS.out.fc.2.2.2.2, HS.out.xc.1, HS.out.xc.2.1, HS.out.xc.2.2.1, HS.out.xc.2.2.2.1, HS.out.xc.2.2.2.2.1, HS.out.xc.2.2.2.2.2.1, HS.out.xc.2.2.2.2.2.2.1, HS.out.xc.2.2.2.2.2.2.2.1, HS.out.xc.2.2.2.2.2.2.2.2⟩ (fun hHeld => ?_)
  clear hK K
  refine nN (some 42) (h := ?_)
  refine pT 13 (some 43) (zb 27 16383) (h := ?_)
  refine pU 14 (some 44) (zb 27 32767) (h := ?_)
  refine pU 15 (some 45) (zb 27 65535) (h := ?_)
  refine pU 16 (some 46) (zb 27 131071) (h := ?_)
  refine pU 17 (some 47) (zb 27 262143) (h := ?_)
  refine pU 18 (some 48) (zb 27 524287) (h := ?_)
  refine pU 19 (some 49) (zb 27 1048575) (h := ?_)
  refine pU 20 (some 50) (zb 27 2097151) (h := ?_)
  refine pU 21 (some 51) (zb 27 4194303) (h := ?_)
  refine pU 22 (some 52) (zb 27 8388607) (h := ?_)
  refine pU 23 (some 53) (zb 27 16777215) (h := ?_)
  refine pU 24 (some 54) (zb 27 33554431) (h := ?_)
  refine pT 25 (some 55) (zb 27 67108863) (h := ?_)
  refine pT 26 (some 56) (zb 27 134217727) (h := ?_)
  refine done_ (by kernel_rfl) ?_
  clear hHeld
  go_wp2
  go_ret
  exact ⟨by rw [← HE.out]; rfl, HS.out.B⟩
 have hrg := HN.out.2.2.2 rfl
 obtain ⟨qr, er, cr_⟩ := Kd.at_int HS.out.l.r x.f1 hrg.1 hrg.2
 have HER := Aside0.mk er
 have HCR := Aside0.mk cr_
 have g1 := hrg.1
 have g2 := hrg.2
 clear er cr_ hrg
 obtain ⟨MM, eM⟩ : ∃ r, decide (rd L.rg x.f1 = kw) = r := ⟨_, rfl⟩
 have he := HE.out
 rw [eM] at he
 have HE := Aside0.mk he
 have s1 : (rd L.rg x.f1 != kw) = !MM := by rw [← eM, Bool.eq_iff_iff]; simp
 clear he eM
 have CR : Aside0 (∀ W, RSt w L x A8 c8 W → Calls Try.prog 61 #[.agg #[.slice L.Af L.fs.length L.cf, .int .i64 L.mn, .slice L.As L.ss.length L.cs], .agg #[.string L.nm, .int .i64 L.ps, .int .i64 L.rt, .slice (some qr) L.rg.length L.cr, .slice L.Ab L.bl.length L.cb], .agg #[.int .i64 x.f0, .int .i64 x.f1, .int .i64 x.f2, .int .i64 x.f3, .int .i64 x.f4, .int .i64 x.f5, .int .i64 x.f6, .int .i64 x.f7, .slice A8 x.f8.length c8]] W fun e w' => ∃ (A : Option Addr) (c : Nat), e = .returned (.slice A rq.length c) ∧ (Kd.int .i64).C w' A rq.length rq ∧ rq.length ≤ c ∧ Below W.heap.size W w') := ⟨fun W h => by
  have h_ := rreads_at L x A8 c8 W h.l h.a h.ac HXL.out HN.out.1 HN.out.2.1 HN.out.2.2.1 rq HRQ.out
  rw [HER.out] at h_
  exact h_⟩
 have CA : Aside0 (∀ W Au cu Az cz, RSt w L x A8 c8 W → uv.length ≤ cu → (Kd.int .i64).C W Au uv.length uv → rq.length ≤ cz → (Kd.int .i64).C W Az rq.length rq → Calls Try.prog 60 #[.agg #[.string L.nm, .int .i64 L.ps, .int .i64 L.rt, .slice (some qr) L.rg.length L.cr, .slice L.Ab L.bl.length L.cb], .slice Au uv.length cu, .slice Az rq.length cz] W fun e w' => e = .returned (.bool true) ∧ Below W.heap.size W w') := ⟨fun W Au cu Az cz h h1 h2 h3 h4 => by
  have h_ := balustraderef16_all.calls kA L.nm L.ps L.rt L.Ar L.cr L.rg L.Ab L.cb L.bl Au cu uv Az cz rq _ W h.l.r h.l.rc h.l.b h.l.bc h2 h1 h4 h3 HA.out
  rw [HER.out] at h_
  exact h_⟩
 have CW : Aside0 (∀ W, RSt w L x A8 c8 W → Calls Try.prog 62 #[.agg #[.slice L.Af L.fs.length L.cf, .int .i64 L.mn, .slice L.As L.ss.length L.cs], .agg #[.string L.nm, .int .i64 L.ps, .int .i64 L.rt, .slice (some qr) L.rg.length L.cr, .slice L.Ab L.bl.length L.cb], .agg #[.int .i64 x.f0, .int .i64 x.f1, .int .i64 x.f2, .int .i64 x.f3, .int .i64 x.f4, .int .i64 x.f5, .int .i64 x.f6, .int .i64 x.f7, .slice A8 x.f8.length c8]] W fun e w' => e = .returned (.int .i64 kw) ∧ Below W.heap.size W w') := ⟨fun W h => by
  have h_ := rwrites_at L x A8 c8 W h.l h.a h.ac HN.out.2.1 HN.out.2.2.1 kw HKW.out
  rw [HER.out] at h_
  exact h_⟩
 cases MM
 all_goals
  refine start_ (n := 27) (S := fun w' => w'.cell? ⟨w.heap.size, 0, none⟩ = some (.slice L.Af L.fs.length L.cf) ∧ w'.cell? ⟨w.heap.size, 1, none⟩ = some (.int .i64 L.mn) ∧ w'.cell? ⟨w.heap.size, 2, none⟩ = some (.slice L.As L.ss.length L.cs) ∧ w'.cell? ⟨w.heap.size + 1, 0, none⟩ = some (.string L.nm) ∧ w'.cell? ⟨w.heap.size + 1, 1, none⟩ = some (.int .i64 L.ps) ∧ w'.cell? ⟨w.heap.size + 1, 2, none⟩ = some (.int .i64 L.rt) ∧ w'.cell? ⟨w.heap.size + 1, 3, none⟩ = some (.slice (some qr) L.rg.length L.cr) ∧ w'.cell? ⟨w.heap.size + 1, 4, none⟩ = some (.slice L.Ab L.bl.length L.cb) ∧ w'.cell? ⟨w.heap.size + 2, 0, none⟩ = some (.int .i64 x.f0) ∧ w'.cell? ⟨w.heap.size + 2, 1, none⟩ = some (.int .i64 x.f1) ∧ w'.cell? ⟨w.heap.size + 2, 2, none⟩ = some (.int .i64 x.f2) ∧ w'.cell? ⟨w.heap.size + 2, 3, none⟩ = some (.int .i64 x.f3) ∧ w'.cell? ⟨w.heap.size + 2, 4, none⟩ = some (.int .i64 x.f4) ∧ w'.cell? ⟨w.heap.size + 2, 5, none⟩ = some (.int .i64 x.f5) ∧ w'.cell? ⟨w.heap.size + 2, 6, none⟩ = some (.int .i64 x.f6) ∧ w'.cell? ⟨w.heap.size + 2, 7, none⟩ = some (.int .i64 x.f7) ∧ w'.cell? ⟨w.heap.size + 2, 8, none⟩ = some (.slice A8 x.f8.length c8) ∧ w'.cell? (qr.add x.f1.toNat) = some (.int .i64 (rd L.rg x.f1))) (ds := []) #[false, false, false, false, false, false, false, false, false, false, false, false, false, false, false, false, false, false, false, false, false, false, false, false, false, false, false] (by kernel_rfl) rfl rfl ⟨HS.out.pc.1, HS.out.pc.2.1, HS.out.pc.2.2, HS.out.fc.1, HS.out.fc.2.1, HS.out.fc.2.2.1, (by have h_ := HS.out.fc.2.2.2.1; rw [HER.out] at h_; exact h_), HS.out.fc.2.2.2.2, HS.out.xc.1, HS.out.xc.2.1, HS.out.xc.2.2.1, HS.out.xc.2.2.2.1, HS.out.xc.2.2.2.2.1, HS.out.xc.2.2.2.2.2.1, HS.out.xc.2.2.2.2.2.2.1, HS.out.xc.2.2.2.2.2.2.2.1, HS.out.xc.2.2.2.2.2.2.2.2, HCR.out⟩ (fun hHeld => ?_)
  refine tT 0 (some 30) (zb 27 1) hHeld (h := ?_)
  refine tT 1 (some 31) (zb 27 3) hHeld (h := ?_)
  refine tT 3 (some 33) (zb 27 11) hHeld (h := ?_)
  refine tT 4 (some 34) (zb 27 27) hHeld (h := ?_)
  refine tT 5 (some 35) (zb 27 59) hHeld (h := ?_)
  refine one_ (i := 2) (N := some 32) (zb 27 63) rfl rfl (by kernel_rfl) (by decide) (fun K hK => ?_)
  refine goes_ Try.func16 (by kernel_rfl) rfl #[.agg #[.int .i64 x.f0, .int .i64 x.f1, .int .i64 x.f2, .int .i64 x.f3, .int .i64 x.f4, .int .i64 x.f5, .int .i64 x.f6, .int .i64 x.f7, .slice A8 x.f8.length c8]] (by rfl) rfl rfl (by simp only [List.map_toArray, List.map_cons, List.map_nil]; rfl) ?_
  with_reducible refine (balustraderef15_Uses.calls kU x.f0 x.f1 x.f2 x.f3 x.f4 x.f5 x.f6 x.f7 A8 c8 x.f8 uv _ (RSt.a (by first | exact HS.out | exact HS.out.draw | exact HS.out.drawN _)) HS.out.ac HU.out).mono ?_
  rintro r w3 ⟨v_, rfl, hR_, hb⟩
  refine ⟨_, rfl, ?_⟩
  obtain ⟨Au, cu, rfl⟩ := Kd.R_slice hR_
  have HRU := Aside0.mk (Kd.R_reads' hR_).2
  replace HCR := Aside0.mk (pw_cell_below hb HCR.out)
  (first | replace HS := Aside0.mk (HS.out.step hb) | replace HS := Aside0.mk (HS.out.draw.step hb) | replace HS := Aside0.mk ((HS.out.drawN _).step hb))
  clear hb hR_
  refine hK.out _ _ ⟨HS.out.pc.1, HS.out.pc.2.1, HS.out.pc.2.2, HS.out.fc.1, HS.out.fc.2.1, HS.out.fc.2.2.1, (by have h_ := HS.out.fc.2.2.2.1; rw [HER.out] at h_; exact h_), HS.out.fc.2.2.2.2, HS.out.xc.1, HS.out.xc.2.1, HS.out.xc.2.2.1, HS.out.xc.2.2.2.1, HS.out.xc.2.2.2.2.1, HS.out.xc.2.2.2.2.2.1, HS.out.xc.2.2.2.2.2.2.1, HS.out.xc.2.2.2.2.2.2.2.1, HS.out.xc.2.2.2.2.2.2.2.2, HCR.out⟩ (fun hHeld => ?_)
  clear hK K
  refine nN (some 32) (h := ?_)
  refine one_ (i := 6) (N := some 36) (zb 27 127) rfl rfl (by kernel_rfl) (by decide) (fun K hK => ?_)
  refine goes_ Try.func61 (by kernel_rfl) rfl #[.agg #[.slice L.Af L.fs.length L.cf, .int .i64 L.mn, .slice L.As L.ss.length L.cs], .agg #[.string L.nm, .int .i64 L.ps, .int .i64 L.rt, .slice (some qr) L.rg.length L.cr, .slice L.Ab L.bl.length L.cb], .agg #[.int .i64 x.f0, .int .i64 x.f1, .int .i64 x.f2, .int .i64 x.f3, .int .i64 x.f4, .int .i64 x.f5, .int .i64 x.f6, .int .i64 x.f7, .slice A8 x.f8.length c8]] (by rfl) rfl rfl (by simp only [List.map_toArray, List.map_cons, List.map_nil]; rfl) ?_
  with_reducible refine (CR.out _ (by first | exact HS.out | exact HS.out.draw | exact HS.out.drawN _)).mono ?_
  rintro r w4 ⟨Az, cz, rfl, hz_, hzc_, hb⟩
  refine ⟨_, rfl, ?_⟩
  have HRZ := Aside0.mk (And.intro hzc_ hz_)
  replace HRU := Aside0.mk (And.intro HRU.out.1 (Kd.C_below HRU.out.2 hb))
  replace HCR := Aside0.mk (pw_cell_below hb HCR.out)
  (first | replace HS := Aside0.mk (HS.out.step hb) | replace HS := Aside0.mk (HS.out.draw.step hb) | replace HS := Aside0.mk ((HS.out.drawN _).step hb))
  clear hb hz_ hzc_
  refine hK.out _ _ ⟨HS.out.pc.1, HS.out.pc.2.1, HS.out.pc.2.2, HS.out.fc.1, HS.out.fc.2.1, HS.out.fc.2.2.1, (by have h_ := HS.out.fc.2.2.2.1; rw [HER.out] at h_; exact h_), HS.out.fc.2.2.2.2, HS.out.xc.1, HS.out.xc.2.1, HS.out.xc.2.2.1, HS.out.xc.2.2.2.1, HS.out.xc.2.2.2.2.1, HS.out.xc.2.2.2.2.2.1, HS.out.xc.2.2.2.2.2.2.1, HS.out.xc.2.2.2.2.2.2.2.1, HS.out.xc.2.2.2.2.2.2.2.2, HCR.out⟩ (fun hHeld => ?_)
  clear hK K
  refine nN (some 36) (h := ?_)
  refine one_ (i := 7) (N := some 37) (zb 27 255) rfl rfl (by kernel_rfl) (by decide) (fun K hK => ?_)
  refine goes_ Try.func60 (by kernel_rfl) rfl #[.agg #[.string L.nm, .int .i64 L.ps, .int .i64 L.rt, .slice (some qr) L.rg.length L.cr, .slice L.Ab L.bl.length L.cb], .slice Au uv.length cu, .slice Az rq.length cz] (by rfl) rfl rfl (by simp only [List.map_toArray, List.map_cons, List.map_nil]; rfl) ?_
  with_reducible refine (CA.out _ Au cu Az cz (by first | exact HS.out | exact HS.out.draw | exact HS.out.drawN _) HRU.out.1 HRU.out.2 HRZ.out.1 HRZ.out.2).mono ?_
  rintro r w5 ⟨rfl, hb⟩
  refine ⟨_, rfl, ?_⟩
  replace HCR := Aside0.mk (pw_cell_below hb HCR.out)
  (first | replace HS := Aside0.mk (HS.out.step hb) | replace HS := Aside0.mk (HS.out.draw.step hb) | replace HS := Aside0.mk ((HS.out.drawN _).step hb))
  clear hb
  refine hK.out _ _ ⟨HS.out.pc.1, HS.out.pc.2.1, HS.out.pc.2.2, HS.out.fc.1, HS.out.fc.2.1, HS.out.fc.2.2.1, (by have h_ := HS.out.fc.2.2.2.1; rw [HER.out] at h_; exact h_), HS.out.fc.2.2.2.2, HS.out.xc.1, HS.out.xc.2.1, HS.out.xc.2.2.1, HS.out.xc.2.2.2.1, HS.out.xc.2.2.2.2.1, HS.out.xc.2.2.2.2.2.1, HS.out.xc.2.2.2.2.2.2.1, HS.out.xc.2.2.2.2.2.2.2.1, HS.out.xc.2.2.2.2.2.2.2.2, HCR.out⟩ (fun hHeld => ?_)
  clear hK K
  refine nN (some 37) (h := ?_)
  refine pT 8 (some 38) (zb 27 511) (h := ?_)
  refine pT 9 (some 39) (zb 27 1023) (h := ?_)
  refine pT 10 (some 40) (zb 27 2047) (h := ?_)
  refine tT 11 (some 41) (zb 27 4095) hHeld (h := ?_)
  refine one_ (i := 12) (N := some 42) (zb 27 8191) rfl rfl (by kernel_rfl) (by decide) (fun K hK => ?_)
  refine goes_ Try.func34 (by kernel_rfl) rfl #[.int .i64 x.f0] (by rfl) rfl rfl (by simp only [List.map_toArray, List.map_cons, List.map_nil]; rfl) ?_
  with_reducible refine (balustraderef15_Writes.calls x.f0 _ _ HWR.out).mono ?_
  rintro r w6 ⟨rfl, hb⟩
  refine ⟨_, rfl, ?_⟩
  replace hb := Drawn0.below hb
  replace HCR := Aside0.mk (pw_cell_below hb HCR.out)
  (first | replace HS := Aside0.mk (HS.out.step hb) | replace HS := Aside0.mk (HS.out.draw.step hb) | replace HS := Aside0.mk ((HS.out.drawN _).step hb))
  clear hb
  refine hK.out _ _ ⟨HS.out.pc.1, HS.out.pc.2.1, HS.out.pc.2.2, HS.out.fc.1, HS.out.fc.2.1, HS.out.fc.2.2.1, (by have h_ := HS.out.fc.2.2.2.1; rw [HER.out] at h_; exact h_), HS.out.fc.2.2.2.2, HS.out.xc.1, HS.out.xc.2.1, HS.out.xc.2.2.1, HS.out.xc.2.2.2.1, HS.out.xc.2.2.2.2.1, HS.out.xc.2.2.2.2.2.1, HS.out.xc.2.2.2.2.2.2.1, HS.out.xc.2.2.2.2.2.2.2.1, HS.out.xc.2.2.2.2.2.2.2.2, HCR.out⟩ (fun hHeld => ?_)
  clear hK K
  refine nN (some 42) (h := ?_)
  refine pT 13 (some 43) (zb 27 16383) (h := ?_)
  refine pT 14 (some 44) (zb 27 32767) (h := ?_)
  refine pT 16 (some 46) (zb 27 98303) (h := ?_)
  refine tT 15 (some 45) (zb 27 131071) hHeld (h := ?_)
  refine tT 17 (some 47) (zb 27 262143) hHeld (h := ?_)
  refine pT 18 (some 48) (zb 27 524287) (h := ?_)
  refine tT 19 (some 49) (zb 27 1048575) hHeld (h := ?_)
  refine tT 20 (some 50) (zb 27 2097151) hHeld (h := ?_)
  refine tT 21 (some 51) (zb 27 4194303) hHeld (h := ?_)
  refine tT 22 (some 52) (zb 27 8388607) hHeld (h := ?_)
  refine one_ (i := 23) (N := some 53) (zb 27 16777215) rfl rfl (by kernel_rfl) (by decide) (fun K hK => ?_)
  refine goes_ Try.func62 (by kernel_rfl) rfl #[.agg #[.slice L.Af L.fs.length L.cf, .int .i64 L.mn, .slice L.As L.ss.length L.cs], .agg #[.string L.nm, .int .i64 L.ps, .int .i64 L.rt, .slice (some qr) L.rg.length L.cr, .slice L.Ab L.bl.length L.cb], .agg #[.int .i64 x.f0, .int .i64 x.f1, .int .i64 x.f2, .int .i64 x.f3, .int .i64 x.f4, .int .i64 x.f5, .int .i64 x.f6, .int .i64 x.f7, .slice A8 x.f8.length c8]] (by rfl) rfl rfl (by simp only [List.map_toArray, List.map_cons, List.map_nil]; rfl) ?_
  with_reducible refine (CW.out _ (by first | exact HS.out | exact HS.out.draw | exact HS.out.drawN _)).mono ?_
  rintro r w7 ⟨rfl, hb⟩
  refine ⟨_, rfl, ?_⟩
  replace HCR := Aside0.mk (pw_cell_below hb HCR.out)
  (first | replace HS := Aside0.mk (HS.out.step hb) | replace HS := Aside0.mk (HS.out.draw.step hb) | replace HS := Aside0.mk ((HS.out.drawN _).step hb))
  clear hb
  refine hK.out _ _ ⟨HS.out.pc.1, HS.out.pc.2.1, HS.out.pc.2.2, HS.out.fc.1, HS.out.fc.2.1, HS.out.fc.2.2.1, (by have h_ := HS.out.fc.2.2.2.1; rw [HER.out] at h_; exact h_), HS.out.fc.2.2.2.2, HS.out.xc.1, HS.out.xc.2.1, HS.out.xc.2.2.1, HS.out.xc.2.2.2.1, HS.out.xc.2.2.2.2.1, HS.out.xc.2.2.2.2.2.1, HS.out.xc.2.2.2.2.2.2.1, HS.out.xc.2.2.2.2.2.2.2.1, HS.out.xc.2.2.2.2.2.2.2.2, HCR.out⟩ (fun hHeld => ?_)
  clear hK K
  refine nN (some 53) (h := ?_)
  refine pT 24 (some 54) (zb 27 33554431) (h := ?_)
  refine pT 25 (some 55) (zb 27 67108863) (h := ?_)
  refine pT 26 (some 56) (zb 27 134217727) (h := ?_)
  refine done_ (by kernel_rfl) ?_
  clear hHeld
  go_wp2
  go_ret
  exact ⟨by rw [← HE.out]; rfl, HS.out.B⟩
end Go.Proofs.Ytgbpkbfghonllaa.P

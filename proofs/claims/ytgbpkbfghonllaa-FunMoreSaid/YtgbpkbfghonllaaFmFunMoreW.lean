/- A part of it. -/
import Derived.Test.YtgbpkbfghonllaaFmZ
import Derived.Test.YtgbpkbfghonllaaFmFunR
import Derived.Test.YtgbpkbfghonllaaFmM50
import Derived.Test.YtgbpkbfghonllaaFmM49
import Derived.Test.YtgbpkbfghonllaaFmM21
import Derived.Test.YtgbpkbfghonllaaFmP19
import Derived.Test.YtgbpkbfghonllaaFmP21
import Derived.Test.YtgbpkbfghonllaaFmP22
import Derived.Outline
set_option linter.unusedVariables false
set_option linter.unusedSimpArgs false
namespace Go.Proofs.Ytgbpkbfghonllaa.P
open Go Go.RowKit Go.Proofs.YtgbpkbfghonllaaW.PrintWords Go.Proofs.YtgbpkbfghonllaaW.PrintLast Go.Proofs.YtgbpkbfghonllaaW.PrintMore Go.Proofs.Ytgbpkbfghonllaa.Pure
set_option maxHeartbeats 16000000 in
set_option maxRecDepth 100000 in
theorem balustradelaw16_FunMore.walk (Af : Option Addr) (cf : Nat) (fs : List S39) (mn : Int) (As : Option Addr) (cs : Nat) (ss : List S48) (s : S48) (w : World)
  (hf : Kd.C k39 w Af fs.length fs) (hfc : fs.length ≤ cf) (hs : Kd.C k48 w As ss.length ss) (hsc : ss.length ≤ cs) (hg : Sized fs) :
  Calls Try.prog 5 #[.agg #[.slice Af fs.length cf, .int .i64 mn, .slice As ss.length cs], .agg #[.int .i64 s.f0, .int .i64 s.f1]] w fun e w' => e = .returned (.bool true) ∧ Below w.heap.size w w' := by
 obtain ⟨kF, hF⟩ := (few_ev 300 (by omega) fs mn ss hg).rounds
 obtain ⟨kW, hW⟩ := works_ev.rounds
 have HW := Aside0.mk hW
 have HS := Aside0.mk ((PSt.start (mn := mn) hf hfc hs hsc).alloc (.cells #[.int .i64 s.f0, .int .i64 s.f1] 48))
 have HX := Aside0.mk (blk_new1 w (.cells #[.slice Af fs.length cf, .int .i64 mn, .slice As ss.length cs] 25) (.cells #[.int .i64 s.f0, .int .i64 s.f1] 48))
 have hfd : ∀ (a b c d : Int) (w : World), (Instr.field 30 (.agg #[.int .i64 a, .int .i64 b, .int .i64 c, .int .i64 d]) 3).run Try.prog w = .ok (.int .i64 d) w := fun _ _ _ _ _ => by kernel_rfl
 have hu30 := Try.underlying30
 obtain ⟨q, eq⟩ : ∃ q, fewV 300 fs ss = q := ⟨_, rfl⟩
 have hT : q = true → Tiny fs ss := fun e => (few_tiny (by omega) (eq.trans e)).1
 have hC : q = true → fs.length ≤ 10 ∧ ss.length ≤ 200 := fun e => few_lens (eq.trans e)
 rw [eq] at hF
 replace hF : balustraderef16_Few.f kF fs mn ss 300 = some q := hF
 have HF := Aside0.mk hF
 clear hF hW hf hfc hs hsc eq
 cases q
 ·clear hT hC
  go_enter Try.func5, Try.ntmps5
  go_upto_region 1 with (fail)
  have HSZ := Aside0.mk (show w.heap.size + 2 ≤ ((w.alloc (.cells #[.slice Af fs.length cf, .int .i64 mn, .slice As ss.length cs] 25)).alloc (.cells #[.int .i64 s.f0, .int .i64 s.f1] 48)).heap.size by simp)
  generalize ((w.alloc (.cells #[.slice Af fs.length cf, .int .i64 mn, .slice As ss.length cs] 25)).alloc (.cells #[.int .i64 s.f0, .int .i64 s.f1] 48)) = W at *
  have p0 := HS.out.c0
  have p1 := HS.out.c1
  have p2 := HS.out.c2
  go_wp2_with (first | (go_at_call 7; ((with_reducible refine (balustraderef16_Few.calls kF Af cf fs mn As cs ss 300 _ _ (PSt.f HS.out) HS.out.fc (PSt.s HS.out) HS.out.sc HF.out).mono ?_); rintro e W1 ⟨rfl, hb⟩; (first | replace HX := Aside0.mk (blk_below HX.out hb) | replace HX := Aside0.mk (blk_below (g := w.heap.size + 1) (o := .cells #[.int .i64 s.f0, .int .i64 s.f1] 48 (0, 0)) (blk_drew HX.out) hb)); (first | replace HS := Aside0.mk (HS.out.step hb) | replace HS := Aside0.mk (HS.out.drew.step hb) | replace HS := Aside0.mk ((HS.out.drewN _).step hb)); clear hb; have p0 := HS.out.c0; have p1 := HS.out.c1; have p2 := HS.out.c2)) | (go_at_call 8; ((with_reducible refine (balustradelaw16_works.calls kW true _ HW.out).mono ?_); rintro e w' ⟨rfl, hb⟩; (first | replace HX := Aside0.mk (blk_below HX.out hb) | replace HX := Aside0.mk (blk_below (g := w.heap.size + 1) (o := .cells #[.int .i64 s.f0, .int .i64 s.f1] 48 (0, 0)) (blk_drew HX.out) hb)); (first | replace HS := Aside0.mk (HS.out.step hb) | replace HS := Aside0.mk (HS.out.drew.step hb) | replace HS := Aside0.mk ((HS.out.drewN _).step hb)); clear hb; have p0 := HS.out.c0; have p1 := HS.out.c1; have p2 := HS.out.c2)))
  go_ret
  exact ⟨rfl, HS.out.B⟩
 have ht := hT rfl
 obtain ⟨h10, h200⟩ := hC rfl
 clear hT hC
 by_cases hz : fs.length = 0
 ·have z0 : ((fs.length : Int) == 0) = true := by simp [hz]
  clear hz
  go_enter Try.func5, Try.ntmps5
  go_upto_region 1 with (fail)
  have HSZ := Aside0.mk (show w.heap.size + 2 ≤ ((w.alloc (.cells #[.slice Af fs.length cf, .int .i64 mn, .slice As ss.length cs] 25)).alloc (.cells #[.int .i64 s.f0, .int .i64 s.f1] 48)).heap.size by simp)
  generalize ((w.alloc (.cells #[.slice Af fs.length cf, .int .i64 mn, .slice As ss.length cs] 25)).alloc (.cells #[.int .i64 s.f0, .int .i64 s.f1] 48)) = W at *
  have p0 := HS.out.c0
  have p1 := HS.out.c1
  have p2 := HS.out.c2
  go_wp2_with (first | (go_at_call 7; ((with_reducible refine (balustraderef16_Few.calls kF Af cf fs mn As cs ss 300 _ _ (PSt.f HS.out) HS.out.fc (PSt.s HS.out) HS.out.sc HF.out).mono ?_); rintro e W1 ⟨rfl, hb⟩; (first | replace HX := Aside0.mk (blk_below HX.out hb) | replace HX := Aside0.mk (blk_below (g := w.heap.size + 1) (o := .cells #[.int .i64 s.f0, .int .i64 s.f1] 48 (0, 0)) (blk_drew HX.out) hb)); (first | replace HS := Aside0.mk (HS.out.step hb) | replace HS := Aside0.mk (HS.out.drew.step hb) | replace HS := Aside0.mk ((HS.out.drewN _).step hb)); clear hb; have p0 := HS.out.c0; have p1 := HS.out.c1; have p2 := HS.out.c2)) | (go_at_call 8; ((with_reducible refine (balustradelaw16_works.calls kW true _ HW.out).mono ?_); rintro e w' ⟨rfl, hb⟩; (first | replace HX := Aside0.mk (blk_below HX.out hb) | replace HX := Aside0.mk (blk_below (g := w.heap.size + 1) (o := .cells #[.int .i64 s.f0, .int .i64 s.f1] 48 (0, 0)) (blk_drew HX.out) hb)); (first | replace HS := Aside0.mk (HS.out.step hb) | replace HS := Aside0.mk (HS.out.drew.step hb) | replace HS := Aside0.mk ((HS.out.drewN _).step hb)); clear hb; have p0 := HS.out.c0; have p1 := HS.out.c1; have p2 := HS.out.c2)))
  go_ret
  exact ⟨rfl, HS.out.B⟩
 have z0 : ((fs.length : Int) == 0) = false := by rw [beq_eq_false_iff_ne]; omega
 obtain ⟨k1, h1⟩ := (check_ev fs mn ss ht).rounds
 obtain ⟨⟨v1, v2, v3, v4⟩, ev⟩ : ∃ v, checkV fs mn ss = v := ⟨_, rfl⟩
 rw [ev] at h1
 have H1 := Aside0.mk h1
 clear h1
 by_cases hv : v4 = 0
 rotate_left
 ·have z1 : (v4 != 0) = true := by simpa using hv
  clear hv ev hz
  go_enter Try.func5, Try.ntmps5
  go_upto_region 1 with (fail)
  have HSZ := Aside0.mk (show w.heap.size + 2 ≤ ((w.alloc (.cells #[.slice Af fs.length cf, .int .i64 mn, .slice As ss.length cs] 25)).alloc (.cells #[.int .i64 s.f0, .int .i64 s.f1] 48)).heap.size by simp)
  generalize ((w.alloc (.cells #[.slice Af fs.length cf, .int .i64 mn, .slice As ss.length cs] 25)).alloc (.cells #[.int .i64 s.f0, .int .i64 s.f1] 48)) = W at *
  have p0 := HS.out.c0
  have p1 := HS.out.c1
  have p2 := HS.out.c2
  go_wp2_with (first | (go_at_call 7; ((with_reducible refine (balustraderef16_Few.calls kF Af cf fs mn As cs ss 300 _ _ (PSt.f HS.out) HS.out.fc (PSt.s HS.out) HS.out.sc HF.out).mono ?_); rintro e W1 ⟨rfl, hb⟩; (first | replace HX := Aside0.mk (blk_below HX.out hb) | replace HX := Aside0.mk (blk_below (g := w.heap.size + 1) (o := .cells #[.int .i64 s.f0, .int .i64 s.f1] 48 (0, 0)) (blk_drew HX.out) hb)); (first | replace HS := Aside0.mk (HS.out.step hb) | replace HS := Aside0.mk (HS.out.drew.step hb) | replace HS := Aside0.mk ((HS.out.drewN _).step hb)); clear hb; have p0 := HS.out.c0; have p1 := HS.out.c1; have p2 := HS.out.c2)) | (go_at_call 9; ((with_reducible refine (fun_Check.calls k1 Af cf fs mn As cs ss v1 v2 v3 v4 _ (PSt.f HS.out) HS.out.fc (PSt.s HS.out) HS.out.sc H1.out).mono ?_); rintro e W2 ⟨rfl, hb⟩; (first | replace HX := Aside0.mk (blk_below HX.out hb) | replace HX := Aside0.mk (blk_below (g := w.heap.size + 1) (o := .cells #[.int .i64 s.f0, .int .i64 s.f1] 48 (0, 0)) (blk_drew HX.out) hb)); (first | replace HS := Aside0.mk (HS.out.step hb) | replace HS := Aside0.mk (HS.out.drew.step hb) | replace HS := Aside0.mk ((HS.out.drewN _).step hb)); clear hb; have p0 := HS.out.c0; have p1 := HS.out.c1; have p2 := HS.out.c2)) | (go_at_call 8; ((with_reducible refine (balustradelaw16_works.calls kW true _ HW.out).mono ?_); rintro e w' ⟨rfl, hb⟩; (first | replace HX := Aside0.mk (blk_below HX.out hb) | replace HX := Aside0.mk (blk_below (g := w.heap.size + 1) (o := .cells #[.int .i64 s.f0, .int .i64 s.f1] 48 (0, 0)) (blk_drew HX.out) hb)); (first | replace HS := Aside0.mk (HS.out.step hb) | replace HS := Aside0.mk (HS.out.drew.step hb) | replace HS := Aside0.mk ((HS.out.drewN _).step hb)); clear hb; have p0 := HS.out.c0; have p1 := HS.out.c1; have p2 := HS.out.c2)))
  go_ret
  exact ⟨rfl, HS.out.B⟩
 have z1 : (v4 != 0) = false := by simpa using hv
 have hc : (checkV fs mn ss).2.2.2 = 0 := by rw [ev]; exact hv
 have hm : fs.getD 0 z39 ∈ fs := by rw [getD_L _ _ 0 (by omega)]; exact List.getElem_mem _
 have mt := more_tiny _ hm s h10 h200 ht
 have mc := more_check _ hm s (mn := mn) ht hc
 have mp := more_plain _ hm s (mn := mn) ht hc
 obtain ⟨x, ex⟩ : ∃ x, fs.getD 0 z39 = x := ⟨_, rfl⟩
 rw [ex] at mt mc mp
 have EX := Aside0.mk ex
 obtain ⟨fs2, efs⟩ : ∃ l, fs ++ [x] = l := ⟨_, rfl⟩
 obtain ⟨ss2, ess⟩ : ∃ l, ss ++ [s] = l := ⟨_, rfl⟩
 rw [efs, ess] at mt mc mp
 have EF := Aside0.mk efs
 have ES := Aside0.mk ess
 obtain ⟨k2, h2⟩ := (check_ev fs2 mn ss2 mt).rounds
 obtain ⟨k3, h3⟩ := (plain_ev fs mn ss ht).rounds
 obtain ⟨k4, h4⟩ := (plain_ev fs2 mn ss2 mt).rounds
 rw [mc] at h2
 rw [mp] at h4
 obtain ⟨pv, ep⟩ : ∃ v, plainV fs mn ss = v := ⟨_, rfl⟩
 rw [ep] at h3 h4
 have H2 := Aside0.mk h2
 have H3 := Aside0.mk h3
 have H4 := Aside0.mk h4
 have HL := Aside0.mk (show 0 < fs.length ∧ fs.length ≤ 10 ∧ ss.length ≤ 200 from ⟨by omega, h10, h200⟩)
 have q5 : (pv == pv) = true := by simp
 clear h2 h3 h4 ht h10 h200 hz hv hc hm mt mc mp ex efs ess ep ev hg
 go_enter Try.func5, Try.ntmps5
 go_upto_region 1 with (fail)
 have HSZ := Aside0.mk (show w.heap.size + 2 ≤ ((w.alloc (.cells #[.slice Af fs.length cf, .int .i64 mn, .slice As ss.length cs] 25)).alloc (.cells #[.int .i64 s.f0, .int .i64 s.f1] 48)).heap.size by simp)
 generalize ((w.alloc (.cells #[.slice Af fs.length cf, .int .i64 mn, .slice As ss.length cs] 25)).alloc (.cells #[.int .i64 s.f0, .int .i64 s.f1] 48)) = W at *
 have p0 := HS.out.c0
 have p1 := HS.out.c1
 have p2 := HS.out.c2
 go_upto_region 4 with (first | (go_at_call 7; ((with_reducible refine (balustraderef16_Few.calls kF Af cf fs mn As cs ss 300 _ _ (PSt.f HS.out) HS.out.fc (PSt.s HS.out) HS.out.sc HF.out).mono ?_); rintro e W1 ⟨rfl, hb⟩; (first | replace HX := Aside0.mk (blk_below HX.out hb) | replace HX := Aside0.mk (blk_below (g := w.heap.size + 1) (o := .cells #[.int .i64 s.f0, .int .i64 s.f1] 48 (0, 0)) (blk_drew HX.out) hb)); (first | replace HS := Aside0.mk (HS.out.step hb) | replace HS := Aside0.mk (HS.out.drew.step hb) | replace HS := Aside0.mk ((HS.out.drewN _).step hb)); clear hb; have p0 := HS.out.c0; have p1 := HS.out.c1; have p2 := HS.out.c2)) | (go_at_call 9; ((with_reducible refine (fun_Check.calls k1 Af cf fs mn As cs ss v1 v2 v3 v4 _ (PSt.f HS.out) HS.out.fc (PSt.s HS.out) HS.out.sc H1.out).mono ?_); rintro e W2 ⟨rfl, hb⟩; (first | replace HX := Aside0.mk (blk_below HX.out hb) | replace HX := Aside0.mk (blk_below (g := w.heap.size + 1) (o := .cells #[.int .i64 s.f0, .int .i64 s.f1] 48 (0, 0)) (blk_drew HX.out) hb)); (first | replace HS := Aside0.mk (HS.out.step hb) | replace HS := Aside0.mk (HS.out.drew.step hb) | replace HS := Aside0.mk ((HS.out.drewN _).step hb)); clear hb; have p0 := HS.out.c0; have p1 := HS.out.c1; have p2 := HS.out.c2)) | (go_at_call 8; ((with_reducible refine (balustradelaw16_works.calls kW true _ HW.out).mono ?_); rintro e w' ⟨rfl, hb⟩; (first | replace HX := Aside0.mk (blk_below HX.out hb) | replace HX := Aside0.mk (blk_below (g := w.heap.size + 1) (o := .cells #[.int .i64 s.f0, .int .i64 s.f1] 48 (0, 0)) (blk_drew HX.out) hb)); (first | replace HS := Aside0.mk (HS.out.step hb) | replace HS := Aside0.mk (HS.out.drew.step hb) | replace HS := Aside0.mk ((HS.out.drewN _).step hb)); clear hb; have p0 := HS.out.c0; have p1 := HS.out.c1; have p2 := HS.out.c2)))
 have HM := Aside0.mk (MSt.start HS.out HX.out (.slice Af fs.length cf) (.int .i64 mn) (.slice As ss.length cs))
 clear HS HX HSZ
 generalize HWX : (World.alloc W2 _) = W4 at *
 clear HWX p0 p1 p2
 generalize W2.heap.size = gq at *
 have p0 := HM.out.P.c0
 have p1 := HM.out.P.c1
 have p2 := HM.out.P.c2
 have x0 : W4.cell? ⟨w.heap.size + 1, 0, none⟩ = some (.int .i64 s.f0) := (blk_cell HM.out.x 0).trans rfl
 have x1 : W4.cell? ⟨w.heap.size + 1, 1, none⟩ = some (.int .i64 s.f1) := (blk_cell HM.out.x 1).trans rfl
 have HM0 := HM
 have HB : Aside0 (Below W4.heap.size W4 W4) := ⟨Below.refl _ _⟩
 refine start_ (n := 9) (S := fun w' => w'.cell? ⟨w.heap.size, 0, none⟩ = some (.slice Af fs.length cf) ∧ w'.cell? ⟨w.heap.size, 1, none⟩ = some (.int .i64 mn) ∧ w'.cell? ⟨w.heap.size, 2, none⟩ = some (.slice As ss.length cs) ∧ w'.cell? ⟨w.heap.size + 1, 0, none⟩ = some (.int .i64 s.f0) ∧ w'.cell? ⟨w.heap.size + 1, 1, none⟩ = some (.int .i64 s.f1)) (ds := [8]) #[false, false, false, false, false, false, false, false, false] (by kernel_rfl) rfl rfl ⟨p0, p1, p2, x0, x1⟩ (fun hHeld => ?_)
 refine pT 1 (some 24) (zb 9 2) (h := ?_)
 refine take_ (i := 2) (N := some 25) (v := ?_) (a' := ?_) (zb 9 6) rfl rfl (by kernel_rfl) (fun _ _ _ h => h) (Or.inl ⟨by rfl, ?_⟩) hHeld ?_ ?_
 rotate_left
 ·rintro w' ⟨s0, s1, s2, s3, s4⟩
  go_simp
  with_reducible rfl
 rotate_left
 ·simp only [Act.put, List.setIfInBounds_toArray, List.set_cons_zero, List.set_cons_succ, i64_w, i32_w]
  rfl
 refine take_ (i := 4) (N := some 27) (v := ?_) (a' := ?_) (zb 9 22) rfl rfl (by kernel_rfl) (fun _ _ _ h => h) (Or.inl ⟨by rfl, ?_⟩) hHeld ?_ ?_
 rotate_left
 ·rintro w' ⟨s0, s1, s2, s3, s4⟩
  go_simp
  with_reducible rfl
 rotate_left
 ·simp only [Act.put, List.setIfInBounds_toArray, List.set_cons_zero, List.set_cons_succ, i64_w, i32_w]
  rfl
 refine join_ (σ := Value × Value × Nat) 3 (zb 9 63) (fun s_ => [(23, s_.1), (26, s_.2.1), (28, .slice (some ⟨s_.2.2, 0, none⟩) 1 1)]) (fun s_ w' => (w'.cell? ⟨w.heap.size, 0, none⟩ = some (.slice Af fs.length cf) ∧ w'.cell? ⟨w.heap.size, 1, none⟩ = some (.int .i64 mn) ∧ w'.cell? ⟨w.heap.size, 2, none⟩ = some (.slice As ss.length cs) ∧ w'.cell? ⟨w.heap.size + 1, 0, none⟩ = some (.int .i64 s.f0) ∧ w'.cell? ⟨w.heap.size + 1, 1, none⟩ = some (.int .i64 s.f1)) ∧ MSt w Af cf fs mn As cs ss s gq #[.slice Af fs.length cf, .int .i64 mn, .slice As ss.length cs] w' ∧ Kd.N k48 48 w' W4.heap.size (fun k => k ≠ gq) s_.2.1 ss ∧ w'.heap[s_.2.2]? = some (.cells #[.int .i64 s.f0, .int .i64 s.f1] 48 (0, 0)) ∧ Below W4.heap.size W4 w') ?_ ?_
 rotate_left
 ·intro hCont
  refine two_ (i := 0) (j := 5) (Ni := some 23) (Nj := some 28) (zb 9 23) (zb 9 54) rfl rfl rfl rfl (by kernel_rfl) (by decide) (by decide) (fun K hK => ?_) (fun K hK => ?_)
  ·skip
   refine Kd.N_lit_step k48 (w0 := W4) W4.heap.size 48 (by rfl) (N' := 23) (by rfl) (xs := ([] : List S48)) (inner := []) (ok := (fun k => k ≠ gq)) (okp := fun _ => False) (by first | (go_simp; done) | (go_simp; rfl)) (Reps.none _ _) (fun _ h => h.elim) (show _ ≠ gq by have h_ := HB.out.size; have := HM0.out.lt; simp; omega) (by repeat (first | (with_reducible exact HB.out) | (with_reducible exact Below.refl _ _) | (with_reducible refine below_alloc ?_ _) | (with_reducible refine below_drew ?_))) (by have h_ := HB.out.size; have := HM0.out.lt; first | exact h_ | omega | (simp; done) | (simp; omega)) (by simp) ?_
   intro v0 w1 ho hb hg hat
   have HN := Aside0.mk ho
   replace HM := Aside0.mk (MSt.step HM0.out hb)
   have HB1 := Aside0.mk hb
   clear HB
   have HB := HB1
   clear HB1
   clear hb ho hg hat
   refine hK.out _ _ ⟨(PSt.c0 (MSt.P (by first | exact HM.out | exact HM.out.drew | exact HM.out.alloc _ | exact (HM.out.alloc _).drew | exact HM.out.drew.alloc _ | exact (HM.out.drew.alloc _).drew))), (PSt.c1 (MSt.P (by first | exact HM.out | exact HM.out.drew | exact HM.out.alloc _ | exact (HM.out.alloc _).drew | exact HM.out.drew.alloc _ | exact (HM.out.drew.alloc _).drew))), (PSt.c2 (MSt.P (by first | exact HM.out | exact HM.out.drew | exact HM.out.alloc _ | exact (HM.out.alloc _).drew | exact HM.out.drew.alloc _ | exact (HM.out.drew.alloc _).drew))), ((blk_cell (MSt.x (by first | exact HM.out | exact HM.out.drew | exact HM.out.alloc _ | exact (HM.out.alloc _).drew | exact HM.out.drew.alloc _ | exact (HM.out.drew.alloc _).drew)) 0).trans rfl), ((blk_cell (MSt.x (by first | exact HM.out | exact HM.out.drew | exact HM.out.alloc _ | exact (HM.out.alloc _).drew | exact HM.out.drew.alloc _ | exact (HM.out.drew.alloc _).drew)) 1).trans rfl)⟩ (fun hHeld => ?_)
   clear hK K
   refine norm_ (a' := ?_) ?_ ?_
   rotate_left
   ·show Act.put _ (some 23) _ = _
    simp only [Act.put, List.setIfInBounds_toArray, List.set_cons_zero, List.set_cons_succ, i64_w, i32_w]
    rfl
   refine two_ (i := 3) (j := 5) (Ni := some 26) (Nj := some 28) (zb 9 31) (zb 9 55) rfl rfl rfl rfl (by kernel_rfl) (by decide) (by decide) (fun K hK => ?_) (fun K hK => ?_)
   ·skip
    refine Kd.N_append_rows_step k48 (w0 := W4) W4.heap.size (by rfl) (.tmp 23) (.tmp 25) 23 48 (.agg #[.int .i64 0, .int .i64 0]) 16 (by rfl) Try.underlying23 inf_site rfl (by decide) (by omega) v0 [] ss As ss.length cs (fun k => k ≠ gq) (fun k => k < w.heap.size) rfl rfl (by (with_reducible repeat (first | apply Kd.N_alloc | apply Kd.N_drewN | apply Kd.N_drew)); exact HN.out) (MSt.sF (by first | exact HM.out | exact HM.out.drew | exact HM.out.alloc _ | exact (HM.out.alloc _).drew | exact HM.out.drew.alloc _ | exact (HM.out.drew.alloc _).drew)) (fun k hk => ⟨(by have := HM0.out.hq; show k ≠ gq; omega), fun e_ => by have h_ := Kd.N_base HN.out k e_.symm; have := HM0.out.lt; have := HM0.out.hq; omega⟩) (fun k hk => (show k ≠ gq by have h_ := HB.out.size; have := HM0.out.lt; (try simp at hk); omega)) (by repeat (first | (with_reducible exact HB.out) | (with_reducible exact Below.refl _ _) | (with_reducible refine below_alloc ?_ _) | (with_reducible refine below_drew ?_))) (by have h_ := HB.out.size; have := HM0.out.lt; first | exact h_ | omega | (simp; done) | (simp; omega)) (by have := HL.out; simp; omega) ?_
    intro v1 w2 ho hb hg hat
    rw [List.nil_append] at ho
    clear HN
    have HN := Aside0.mk ho
    replace HM := Aside0.mk (MSt.step HM0.out hb)
    have HB1 := Aside0.mk hb
    clear HB
    have HB := HB1
    clear HB1
    clear hb ho hg hat
    refine hK.out _ _ ⟨(PSt.c0 (MSt.P (by first | exact HM.out | exact HM.out.drew | exact HM.out.alloc _ | exact (HM.out.alloc _).drew | exact HM.out.drew.alloc _ | exact (HM.out.drew.alloc _).drew))), (PSt.c1 (MSt.P (by first | exact HM.out | exact HM.out.drew | exact HM.out.alloc _ | exact (HM.out.alloc _).drew | exact HM.out.drew.alloc _ | exact (HM.out.drew.alloc _).drew))), (PSt.c2 (MSt.P (by first | exact HM.out | exact HM.out.drew | exact HM.out.alloc _ | exact (HM.out.alloc _).drew | exact HM.out.drew.alloc _ | exact (HM.out.drew.alloc _).drew))), ((blk_cell (MSt.x (by first | exact HM.out | exact HM.out.drew | exact HM.out.alloc _ | exact (HM.out.alloc _).drew | exact HM.out.drew.alloc _ | exact (HM.out.drew.alloc _).drew)) 0).trans rfl), ((blk_cell (MSt.x (by first | exact HM.out | exact HM.out.drew | exact HM.out.alloc _ | exact (HM.out.alloc _).drew | exact HM.out.drew.alloc _ | exact (HM.out.drew.alloc _).drew)) 1).trans rfl)⟩ (fun hHeld => ?_)
    clear hK K
    refine norm_ (a' := ?_) ?_ ?_
    rotate_left
    ·show Act.put _ (some 26) _ = _
     simp only [Act.put, List.setIfInBounds_toArray, List.set_cons_zero, List.set_cons_succ, i64_w, i32_w]
     rfl
    refine one_ (i := 5) (N := some 28) (zb 9 63) rfl rfl (by kernel_rfl) (by decide) (fun K hK => ?_)
    refine value_ (w1 := ?_) (v := ?_) (by rfl) rfl ?_ ?_
    rotate_left 2
    ·go_simp
     constructor
     ·rfl
     ·rfl
    refine hK.out _ _ ⟨(PSt.c0 (MSt.P (by first | exact HM.out | exact HM.out.drew | exact HM.out.alloc _ | exact (HM.out.alloc _).drew | exact HM.out.drew.alloc _ | exact (HM.out.drew.alloc _).drew))), (PSt.c1 (MSt.P (by first | exact HM.out | exact HM.out.drew | exact HM.out.alloc _ | exact (HM.out.alloc _).drew | exact HM.out.drew.alloc _ | exact (HM.out.drew.alloc _).drew))), (PSt.c2 (MSt.P (by first | exact HM.out | exact HM.out.drew | exact HM.out.alloc _ | exact (HM.out.alloc _).drew | exact HM.out.drew.alloc _ | exact (HM.out.drew.alloc _).drew))), ((blk_cell (MSt.x (by first | exact HM.out | exact HM.out.drew | exact HM.out.alloc _ | exact (HM.out.alloc _).drew | exact HM.out.drew.alloc _ | exact (HM.out.drew.alloc _).drew)) 0).trans rfl), ((blk_cell (MSt.x (by first | exact HM.out | exact HM.out.drew | exact HM.out.alloc _ | exact (HM.out.alloc _).drew | exact HM.out.drew.alloc _ | exact (HM.out.drew.alloc _).drew)) 1).trans rfl)⟩ (fun hHeld => ?_)
    clear hK K
    refine norm_ (a' := ?_) ?_ ?_
    rotate_left
    ·show Act.put _ (some 28) _ = _
     simp only [Act.put, List.setIfInBounds_toArray, List.set_cons_zero, List.set_cons_succ, i64_w, i32_w]
     rfl
    exact norm_ (by simp only [putAll, Act.put, List.setIfInBounds_toArray, List.set_cons_zero, List.set_cons_succ]) (hCont (v0, v1, w2.heap.size) _ ⟨hHeld, (by first | exact HM.out | exact HM.out.drew | exact HM.out.alloc _ | exact (HM.out.alloc _).drew | exact HM.out.drew.alloc _ | exact (HM.out.drew.alloc _).drew), (by (with_reducible repeat (first | apply Kd.N_alloc | apply Kd.N_drewN | apply Kd.N_drew)); exact HN.out), (by (try dsimp only); repeat (first | (with_reducible exact blk_new _ _) | (with_reducible exact blk_new1 _ _ _) | (with_reducible exact XB.out) | (with_reducible refine blk_alloc ?_ _) | (with_reducible refine blk_drew ?_))), (by repeat (first | (with_reducible exact HB.out) | (with_reducible exact Below.refl _ _) | (with_reducible refine below_alloc ?_ _) | (with_reducible refine below_drew ?_)))⟩)
   ·skip
    refine value_ (w1 := ?_) (v := ?_) (by rfl) rfl ?_ ?_
    rotate_left 2
    ·go_simp
     constructor
     ·rfl
     ·rfl
    refine hK.out _ _ ⟨(PSt.c0 (MSt.P (by first | exact HM.out | exact HM.out.drew | exact HM.out.alloc _ | exact (HM.out.alloc _).drew | exact HM.out.drew.alloc _ | exact (HM.out.drew.alloc _).drew))), (PSt.c1 (MSt.P (by first | exact HM.out | exact HM.out.drew | exact HM.out.alloc _ | exact (HM.out.alloc _).drew | exact HM.out.drew.alloc _ | exact (HM.out.drew.alloc _).drew))), (PSt.c2 (MSt.P (by first | exact HM.out | exact HM.out.drew | exact HM.out.alloc _ | exact (HM.out.alloc _).drew | exact HM.out.drew.alloc _ | exact (HM.out.drew.alloc _).drew))), ((blk_cell (MSt.x (by first | exact HM.out | exact HM.out.drew | exact HM.out.alloc _ | exact (HM.out.alloc _).drew | exact HM.out.drew.alloc _ | exact (HM.out.drew.alloc _).drew)) 0).trans rfl), ((blk_cell (MSt.x (by first | exact HM.out | exact HM.out.drew | exact HM.out.alloc _ | exact (HM.out.alloc _).drew | exact HM.out.drew.alloc _ | exact (HM.out.drew.alloc _).drew)) 1).trans rfl)⟩ (fun hHeld => ?_)
    clear hK K
    refine norm_ (a' := ?_) ?_ ?_
    rotate_left
    ·show Act.put _ (some 28) _ = _
     simp only [Act.put, List.setIfInBounds_toArray, List.set_cons_zero, List.set_cons_succ, i64_w, i32_w]
     rfl
    refine one_ (i := 3) (N := some 26) (zb 9 63) rfl rfl (by kernel_rfl) (by decide) (fun K hK => ?_)
    refine Kd.N_append_rows_step k48 (w0 := W4) W4.heap.size (by rfl) (.tmp 23) (.tmp 25) 23 48 (.agg #[.int .i64 0, .int .i64 0]) 16 (by rfl) Try.underlying23 inf_site rfl (by decide) (by omega) v0 [] ss As ss.length cs (fun k => k ≠ gq) (fun k => k < w.heap.size) rfl rfl (by (with_reducible repeat (first | apply Kd.N_alloc | apply Kd.N_drewN | apply Kd.N_drew)); exact HN.out) (MSt.sF (by first | exact HM.out | exact HM.out.drew | exact HM.out.alloc _ | exact (HM.out.alloc _).drew | exact HM.out.drew.alloc _ | exact (HM.out.drew.alloc _).drew)) (fun k hk => ⟨(by have := HM0.out.hq; show k ≠ gq; omega), fun e_ => by have h_ := Kd.N_base HN.out k e_.symm; have := HM0.out.lt; have := HM0.out.hq; omega⟩) (fun k hk => (show k ≠ gq by have h_ := HB.out.size; have := HM0.out.lt; (try simp at hk); omega)) (by repeat (first | (with_reducible exact HB.out) | (with_reducible exact Below.refl _ _) | (with_reducible refine below_alloc ?_ _) | (with_reducible refine below_drew ?_))) (by have h_ := HB.out.size; have := HM0.out.lt; first | exact h_ | omega | (simp; done) | (simp; omega)) (by have := HL.out; simp; omega) ?_
    intro v1 w2 ho hb hg hat
    rw [List.nil_append] at ho
    have XB1 : Aside0 (w2.heap[w1.heap.size]? = some (.cells #[.int .i64 s.f0, .int .i64 s.f1] 48 (0, 0))) := ⟨blk_grown (by (try dsimp only); repeat (first | (with_reducible exact blk_new _ _) | (with_reducible exact blk_new1 _ _ _) | (with_reducible exact XB.out) | (with_reducible refine blk_alloc ?_ _) | (with_reducible refine blk_drew ?_))) hg (fun e_ => by have h_ := Kd.N_lt HN.out _ e_.symm; omega)⟩
    (try clear XB)
    have XB := XB1
    clear XB1
    clear HN
    have HN := Aside0.mk ho
    replace HM := Aside0.mk (MSt.step HM0.out hb)
    have HB1 := Aside0.mk hb
    clear HB
    have HB := HB1
    clear HB1
    clear hb ho hg hat
    refine hK.out _ _ ⟨(PSt.c0 (MSt.P (by first | exact HM.out | exact HM.out.drew | exact HM.out.alloc _ | exact (HM.out.alloc _).drew | exact HM.out.drew.alloc _ | exact (HM.out.drew.alloc _).drew))), (PSt.c1 (MSt.P (by first | exact HM.out | exact HM.out.drew | exact HM.out.alloc _ | exact (HM.out.alloc _).drew | exact HM.out.drew.alloc _ | exact (HM.out.drew.alloc _).drew))), (PSt.c2 (MSt.P (by first | exact HM.out | exact HM.out.drew | exact HM.out.alloc _ | exact (HM.out.alloc _).drew | exact HM.out.drew.alloc _ | exact (HM.out.drew.alloc _).drew))), ((blk_cell (MSt.x (by first | exact HM.out | exact HM.out.drew | exact HM.out.alloc _ | exact (HM.out.alloc _).drew | exact HM.out.drew.alloc _ | exact (HM.out.drew.alloc _).drew)) 0).trans rfl), ((blk_cell (MSt.x (by first | exact HM.out | exact HM.out.drew | exact HM.out.alloc _ | exact (HM.out.alloc _).drew | exact HM.out.drew.alloc _ | exact (HM.out.drew.alloc _).drew)) 1).trans rfl)⟩ (fun hHeld => ?_)
    clear hK K
    refine norm_ (a' := ?_) ?_ ?_
    rotate_left
    ·show Act.put _ (some 26) _ = _
     simp only [Act.put, List.setIfInBounds_toArray, List.set_cons_zero, List.set_cons_succ, i64_w, i32_w]
     rfl
    exact norm_ (by simp only [putAll, Act.put, List.setIfInBounds_toArray, List.set_cons_zero, List.set_cons_succ]) (hCont (v0, v1, w1.heap.size) _ ⟨hHeld, (by first | exact HM.out | exact HM.out.drew | exact HM.out.alloc _ | exact (HM.out.alloc _).drew | exact HM.out.drew.alloc _ | exact (HM.out.drew.alloc _).drew), (by (with_reducible repeat (first | apply Kd.N_alloc | apply Kd.N_drewN | apply Kd.N_drew)); exact HN.out), (by (try dsimp only); repeat (first | (with_reducible exact blk_new _ _) | (with_reducible exact blk_new1 _ _ _) | (with_reducible exact XB.out) | (with_reducible refine blk_alloc ?_ _) | (with_reducible refine blk_drew ?_))), (by repeat (first | (with_reducible exact HB.out) | (with_reducible exact Below.refl _ _) | (with_reducible refine below_alloc ?_ _) | (with_reducible refine below_drew ?_)))⟩)
  ·skip
   refine value_ (w1 := ?_) (v := ?_) (by rfl) rfl ?_ ?_
   rotate_left 2
   ·go_simp
    constructor
    ·rfl
    ·rfl
   refine hK.out _ _ ⟨(PSt.c0 (MSt.P (by first | exact HM.out | exact HM.out.drew | exact HM.out.alloc _ | exact (HM.out.alloc _).drew | exact HM.out.drew.alloc _ | exact (HM.out.drew.alloc _).drew))), (PSt.c1 (MSt.P (by first | exact HM.out | exact HM.out.drew | exact HM.out.alloc _ | exact (HM.out.alloc _).drew | exact HM.out.drew.alloc _ | exact (HM.out.drew.alloc _).drew))), (PSt.c2 (MSt.P (by first | exact HM.out | exact HM.out.drew | exact HM.out.alloc _ | exact (HM.out.alloc _).drew | exact HM.out.drew.alloc _ | exact (HM.out.drew.alloc _).drew))), ((blk_cell (MSt.x (by first | exact HM.out | exact HM.out.drew | exact HM.out.alloc _ | exact (HM.out.alloc _).drew | exact HM.out.drew.alloc _ | exact (HM.out.drew.alloc _).drew)) 0).trans rfl), ((blk_cell (MSt.x (by first | exact HM.out | exact HM.out.drew | exact HM.out.alloc _ | exact (HM.out.alloc _).drew | exact HM.out.drew.alloc _ | exact (HM.out.drew.alloc _).drew)) 1).trans rfl)⟩ (fun hHeld => ?_)
   clear hK K
   refine norm_ (a' := ?_) ?_ ?_
   rotate_left
   ·show Act.put _ (some 28) _ = _
    simp only [Act.put, List.setIfInBounds_toArray, List.set_cons_zero, List.set_cons_succ, i64_w, i32_w]
    rfl
   refine one_ (i := 0) (N := some 23) (zb 9 55) rfl rfl (by kernel_rfl) (by decide) (fun K hK => ?_)
   refine Kd.N_lit_step k48 (w0 := W4) W4.heap.size 48 (by rfl) (N' := 23) (by rfl) (xs := ([] : List S48)) (inner := []) (ok := (fun k => k ≠ gq)) (okp := fun _ => False) (by first | (go_simp; done) | (go_simp; rfl)) (Reps.none _ _) (fun _ h => h.elim) (show _ ≠ gq by have h_ := HB.out.size; have := HM0.out.lt; simp; omega) (by repeat (first | (with_reducible exact HB.out) | (with_reducible exact Below.refl _ _) | (with_reducible refine below_alloc ?_ _) | (with_reducible refine below_drew ?_))) (by have h_ := HB.out.size; have := HM0.out.lt; first | exact h_ | omega | (simp; done) | (simp; omega)) (by simp) ?_
   intro v0 w1 ho hb hg hat
   have XB : Aside0 (w1.heap[W4.heap.size]? = some (.cells #[.int .i64 s.f0, .int .i64 s.f1] 48 (0, 0))) := ⟨blk_grown (by (try dsimp only); repeat (first | (with_reducible exact blk_new _ _) | (with_reducible exact blk_new1 _ _ _) | (with_reducible exact HM0.out) | (with_reducible refine blk_alloc ?_ _) | (with_reducible refine blk_drew ?_))) hg (by simp)⟩
   have HNX : Aside0 (some (W4.heap.size) ≠ v0.ownBlock) := ⟨by obtain ⟨b_, hb1_, hb2_⟩ := hat; rw [hb1_]; intro e_; injection e_ with e_; simp at hb2_; omega⟩
   have HN := Aside0.mk ho
   replace HM := Aside0.mk (MSt.step HM0.out hb)
   have HB1 := Aside0.mk hb
   clear HB
   have HB := HB1
   clear HB1
   clear hb ho hg hat
   refine hK.out _ _ ⟨(PSt.c0 (MSt.P (by first | exact HM.out | exact HM.out.drew | exact HM.out.alloc _ | exact (HM.out.alloc _).drew | exact HM.out.drew.alloc _ | exact (HM.out.drew.alloc _).drew))), (PSt.c1 (MSt.P (by first | exact HM.out | exact HM.out.drew | exact HM.out.alloc _ | exact (HM.out.alloc _).drew | exact HM.out.drew.alloc _ | exact (HM.out.drew.alloc _).drew))), (PSt.c2 (MSt.P (by first | exact HM.out | exact HM.out.drew | exact HM.out.alloc _ | exact (HM.out.alloc _).drew | exact HM.out.drew.alloc _ | exact (HM.out.drew.alloc _).drew))), ((blk_cell (MSt.x (by first | exact HM.out | exact HM.out.drew | exact HM.out.alloc _ | exact (HM.out.alloc _).drew | exact HM.out.drew.alloc _ | exact (HM.out.drew.alloc _).drew)) 0).trans rfl), ((blk_cell (MSt.x (by first | exact HM.out | exact HM.out.drew | exact HM.out.alloc _ | exact (HM.out.alloc _).drew | exact HM.out.drew.alloc _ | exact (HM.out.drew.alloc _).drew)) 1).trans rfl)⟩ (fun hHeld => ?_)
   clear hK K
   refine norm_ (a' := ?_) ?_ ?_
   rotate_left
   ·show Act.put _ (some 23) _ = _
    simp only [Act.put, List.setIfInBounds_toArray, List.set_cons_zero, List.set_cons_succ, i64_w, i32_w]
    rfl
   refine one_ (i := 3) (N := some 26) (zb 9 63) rfl rfl (by kernel_rfl) (by decide) (fun K hK => ?_)
   refine Kd.N_append_rows_step k48 (w0 := W4) W4.heap.size (by rfl) (.tmp 23) (.tmp 25) 23 48 (.agg #[.int .i64 0, .int .i64 0]) 16 (by rfl) Try.underlying23 inf_site rfl (by decide) (by omega) v0 [] ss As ss.length cs (fun k => k ≠ gq) (fun k => k < w.heap.size) rfl rfl (by (with_reducible repeat (first | apply Kd.N_alloc | apply Kd.N_drewN | apply Kd.N_drew)); exact HN.out) (MSt.sF (by first | exact HM.out | exact HM.out.drew | exact HM.out.alloc _ | exact (HM.out.alloc _).drew | exact HM.out.drew.alloc _ | exact (HM.out.drew.alloc _).drew)) (fun k hk => ⟨(by have := HM0.out.hq; show k ≠ gq; omega), fun e_ => by have h_ := Kd.N_base HN.out k e_.symm; have := HM0.out.lt; have := HM0.out.hq; omega⟩) (fun k hk => (show k ≠ gq by have h_ := HB.out.size; have := HM0.out.lt; (try simp at hk); omega)) (by repeat (first | (with_reducible exact HB.out) | (with_reducible exact Below.refl _ _) | (with_reducible refine below_alloc ?_ _) | (with_reducible refine below_drew ?_))) (by have h_ := HB.out.size; have := HM0.out.lt; first | exact h_ | omega | (simp; done) | (simp; omega)) (by have := HL.out; simp; omega) ?_
   intro v1 w2 ho hb hg hat
   rw [List.nil_append] at ho
   have XB1 : Aside0 (w2.heap[W4.heap.size]? = some (.cells #[.int .i64 s.f0, .int .i64 s.f1] 48 (0, 0))) := ⟨blk_grown (by (try dsimp only); repeat (first | (with_reducible exact blk_new _ _) | (with_reducible exact blk_new1 _ _ _) | (with_reducible exact XB.out) | (with_reducible refine blk_alloc ?_ _) | (with_reducible refine blk_drew ?_))) hg HNX.out⟩
   (try clear XB)
   have XB := XB1
   clear XB1
   clear HN
   have HN := Aside0.mk ho
   replace HM := Aside0.mk (MSt.step HM0.out hb)
   have HB1 := Aside0.mk hb
   clear HB
   have HB := HB1
   clear HB1
   clear hb ho hg hat
   refine hK.out _ _ ⟨(PSt.c0 (MSt.P (by first | exact HM.out | exact HM.out.drew | exact HM.out.alloc _ | exact (HM.out.alloc _).drew | exact HM.out.drew.alloc _ | exact (HM.out.drew.alloc _).drew))), (PSt.c1 (MSt.P (by first | exact HM.out | exact HM.out.drew | exact HM.out.alloc _ | exact (HM.out.alloc _).drew | exact HM.out.drew.alloc _ | exact (HM.out.drew.alloc _).drew))), (PSt.c2 (MSt.P (by first | exact HM.out | exact HM.out.drew | exact HM.out.alloc _ | exact (HM.out.alloc _).drew | exact HM.out.drew.alloc _ | exact (HM.out.drew.alloc _).drew))), ((blk_cell (MSt.x (by first | exact HM.out | exact HM.out.drew | exact HM.out.alloc _ | exact (HM.out.alloc _).drew | exact HM.out.drew.alloc _ | exact (HM.out.drew.alloc _).drew)) 0).trans rfl), ((blk_cell (MSt.x (by first | exact HM.out | exact HM.out.drew | exact HM.out.alloc _ | exact (HM.out.alloc _).drew | exact HM.out.drew.alloc _ | exact (HM.out.drew.alloc _).drew)) 1).trans rfl)⟩ (fun hHeld => ?_)
   clear hK K
   refine norm_ (a' := ?_) ?_ ?_
   rotate_left
   ·show Act.put _ (some 26) _ = _
    simp only [Act.put, List.setIfInBounds_toArray, List.set_cons_zero, List.set_cons_succ, i64_w, i32_w]
    rfl
   exact norm_ (by simp only [putAll, Act.put, List.setIfInBounds_toArray, List.set_cons_zero, List.set_cons_succ]) (hCont (v0, v1, W4.heap.size) _ ⟨hHeld, (by first | exact HM.out | exact HM.out.drew | exact HM.out.alloc _ | exact (HM.out.alloc _).drew | exact HM.out.drew.alloc _ | exact (HM.out.drew.alloc _).drew), (by (with_reducible repeat (first | apply Kd.N_alloc | apply Kd.N_drewN | apply Kd.N_drew)); exact HN.out), (by (try dsimp only); repeat (first | (with_reducible exact blk_new _ _) | (with_reducible exact blk_new1 _ _ _) | (with_reducible exact XB.out) | (with_reducible refine blk_alloc ?_ _) | (with_reducible refine blk_drew ?_))), (by repeat (first | (with_reducible exact HB.out) | (with_reducible exact Below.refl _ _) | (with_reducible refine below_alloc ?_ _) | (with_reducible refine below_drew ?_)))⟩)
 rintro ⟨v0, v1, xb⟩ w3 ⟨hS_, h0_, h1_, h2_, h3_⟩
 have hHeld := hS_
 dsimp only at h1_ h2_
 clear HM HB
 (try clear HN)
 (try clear XB)
 have HM := Aside0.mk h0_
 have HN := Aside0.mk h1_
 have XB := Aside0.mk h2_
 have HB := Aside0.mk h3_
 clear h0_ h1_ h2_ h3_ hS_
 refine norm_ (a' := ?_) ?_ ?_
 rotate_left
 ·simp only [putAll, Act.put, List.setIfInBounds_toArray, List.set_cons_zero, List.set_cons_succ]
  rfl
 refine one_ (i := 6) (N := some 29) (zb 9 127) rfl rfl (by kernel_rfl) (by decide) (fun K hK => ?_)
 refine N_append_at k48 (w0 := W4) W4.heap.size (by rfl) (.tmp 26) (.tmp 28) 23 48 (.agg #[.int .i64 0, .int .i64 0]) 16 (by rfl) Try.underlying23 inf_site rfl (by decide) (by omega) v1 ss s [.int .i64 s.f0, .int .i64 s.f1] (fun k => k ≠ gq) (fun k => k < w.heap.size) rfl xb rfl (by (try dsimp only); repeat (first | (with_reducible exact blk_new _ _) | (with_reducible exact blk_new1 _ _ _) | (with_reducible exact XB.out) | (with_reducible refine blk_alloc ?_ _) | (with_reducible refine blk_drew ?_))) (fun _ _ => ⟨_, _, rfl, rfl, rfl⟩) (fun k hk => ⟨(by have := HM0.out.hq; show k ≠ gq; omega), fun e_ => by have h_ := Kd.N_base HN.out k e_.symm; have := HM0.out.lt; have := HM0.out.hq; omega⟩) (fun k hk => (show k ≠ gq by have h_ := HB.out.size; have := HM0.out.lt; (try simp at hk); omega)) (by (with_reducible repeat (first | apply Kd.N_alloc | apply Kd.N_drewN | apply Kd.N_drew)); exact HN.out) (by repeat (first | (with_reducible exact HB.out) | (with_reducible exact Below.refl _ _) | (with_reducible refine below_alloc ?_ _) | (with_reducible refine below_drew ?_))) (by have h_ := HB.out.size; have := HM0.out.lt; first | exact h_ | omega | (simp; done) | (simp; omega)) (by have := HL.out; simp; omega) ?_
 intro v2 w4 ho hb hg hat
 rw [ES.out] at ho
 replace HM := Aside0.mk (MSt.step HM0.out hb)
 clear HB hg hat XB HN
 have HB := Aside0.mk hb
 obtain ⟨A2, c2_, rfl⟩ := Kd.N_slice ho
 have HN2 := Aside0.mk ho
 clear ho hb
 have z0_ := (blk_cell HM.out.q 2).trans rfl
 simp only [List.getElem?_toArray, List.getElem?_cons_zero, List.getElem?_cons_succ] at z0_
 have z1_ := blk_frozen HM.out.q 2
 refine hK.out _ _ ⟨(PSt.c0 (MSt.P (by first | exact HM.out | exact HM.out.drew | exact HM.out.alloc _ | exact (HM.out.alloc _).drew | exact HM.out.drew.alloc _ | exact (HM.out.drew.alloc _).drew))), (PSt.c1 (MSt.P (by first | exact HM.out | exact HM.out.drew | exact HM.out.alloc _ | exact (HM.out.alloc _).drew | exact HM.out.drew.alloc _ | exact (HM.out.drew.alloc _).drew))), (PSt.c2 (MSt.P (by first | exact HM.out | exact HM.out.drew | exact HM.out.alloc _ | exact (HM.out.alloc _).drew | exact HM.out.drew.alloc _ | exact (HM.out.drew.alloc _).drew))), ((blk_cell (MSt.x (by first | exact HM.out | exact HM.out.drew | exact HM.out.alloc _ | exact (HM.out.alloc _).drew | exact HM.out.drew.alloc _ | exact (HM.out.drew.alloc _).drew)) 0).trans rfl), ((blk_cell (MSt.x (by first | exact HM.out | exact HM.out.drew | exact HM.out.alloc _ | exact (HM.out.alloc _).drew | exact HM.out.drew.alloc _ | exact (HM.out.drew.alloc _).drew)) 1).trans rfl)⟩ (fun hHeld => ?_)
 clear hK K
 refine norm_ (a' := ?_) ?_ ?_
 rotate_left
 ·show Act.put _ (some 29) _ = _
  simp only [Act.put, List.setIfInBounds_toArray, List.set_cons_zero, List.set_cons_succ, i64_w, i32_w]
  rfl
 refine pT 7 (some 30) (zb 9 255) (h := ?_)
 refine last_ (i := 8) (N := none) (zb 9 511) rfl rfl (by kernel_rfl) (by decide) (fun K hK => ?_)
 refine skip_ (w1 := ?_) (by rfl) rfl ?_ ?_
 rotate_left
 ·go_simp
  rfl
 refine hK.out _ _ ?_
 clear hK K
 refine done_ (by kernel_rfl) ?_
 have HM5 := Aside0.mk (show MSt w Af cf fs mn As cs ss s gq #[.slice Af fs.length cf, .int .i64 mn, .slice A2 ss2.length c2_] _ from HM.out.set 2 _)
 have HN5 := Aside0.mk (Kd.N_far HN2.out (p := ⟨gq, 2, none⟩) (fun k hk => hk) (.slice A2 ss2.length c2_))
 clear HM HN2 hHeld HM0 z0_ z1_
 have HM := HM5
 clear HM5
 go_upto_region 5 with (fail)
 generalize HWX : (World.setCell _ _ _) = W5 at *
 clear HWX p0 p1 p2 x0 x1
 have p0 := HM.out.P.c0
 have p1 := HM.out.P.c1
 have p2 := HM.out.P.c2
 obtain ⟨ad, A3, c3, A4, c4, eA, hFK, y0, y1, y2, y3, y4⟩ := HM.out.elem0 HL.out.1
 rw [EX.out] at hFK y0 y1 y2 y3 y4
 subst eA
 have HFK := Aside0.mk hFK
 have hlt0 := HL.out.1
 clear hFK
 have HM0 := HM
 clear HB
 have HB : Aside0 (Below W5.heap.size W5 W5) := ⟨Below.refl _ _⟩
 refine start_ (n := 12) (S := fun w' => w'.cell? ⟨w.heap.size, 0, none⟩ = some (.slice (some ad) fs.length cf) ∧ w'.cell? ⟨w.heap.size, 1, none⟩ = some (.int .i64 mn) ∧ w'.cell? ⟨w.heap.size, 2, none⟩ = some (.slice As ss.length cs) ∧ w'.cell? ad = some (.string x.f0) ∧ w'.cell? ⟨ad.block, ad.off + 1, none⟩ = some (.int .i64 x.f1) ∧ w'.cell? ⟨ad.block, ad.off + 2, none⟩ = some (.int .i64 x.f2) ∧ w'.cell? ⟨ad.block, ad.off + 3, none⟩ = some (.slice A3 x.f3.length c3) ∧ w'.cell? ⟨ad.block, ad.off + 4, none⟩ = some (.slice A4 x.f4.length c4)) (ds := [11]) #[false, false, false, false, false, false, false, false, false, false, false, false] (by kernel_rfl) rfl rfl ⟨p0, p1, p2, y0, y1, y2, y3, y4⟩ (fun hHeld => ?_)
 refine pT 1 (some 32) (zb 12 2) (h := ?_)
 refine pT 4 (some 35) (zb 12 18) (h := ?_)
 refine take_ (i := 2) (N := some 33) (v := ?_) (a' := ?_) (zb 12 22) rfl rfl (by kernel_rfl) (fun _ _ _ h => h) (Or.inl ⟨by rfl, ?_⟩) hHeld ?_ ?_
 rotate_left
 ·rintro w' ⟨s0, s1, s2, s3, s4, s5, s6, s7⟩
  go_simp
  with_reducible rfl
 rotate_left
 ·simp only [Act.put, List.setIfInBounds_toArray, List.set_cons_zero, List.set_cons_succ, i64_w, i32_w]
  rfl
 refine take_ (i := 5) (N := some 36) (v := ?_) (a' := ?_) (zb 12 54) rfl rfl (by kernel_rfl) (fun _ _ _ h => h) (Or.inl ⟨by rfl, ?_⟩) hHeld ?_ ?_
 rotate_left
 ·rintro w' ⟨s0, s1, s2, s3, s4, s5, s6, s7⟩
  go_simp
  with_reducible rfl
 rotate_left
 ·simp only [Act.put, List.setIfInBounds_toArray, List.set_cons_zero, List.set_cons_succ, i64_w, i32_w]
  rfl
 refine pT 6 (some 37) (zb 12 118) (h := ?_)
 refine take_ (i := 7) (N := some 38) (v := ?_) (a' := ?_) (zb 12 246) rfl rfl (by kernel_rfl) (fun _ _ _ h => h) (Or.inl ⟨by rfl, ?_⟩) hHeld ?_ ?_
 rotate_left
 ·rintro w' ⟨s0, s1, s2, s3, s4, s5, s6, s7⟩
  go_simp
  with_reducible rfl
 rotate_left
 ·simp only [Act.put, List.setIfInBounds_toArray, List.set_cons_zero, List.set_cons_succ, i64_w, i32_w]
  rfl
 refine join_ (σ := Value × Value × Nat) 3 (zb 12 511) (fun s_ => [(31, s_.1), (34, s_.2.1), (39, .slice (some ⟨s_.2.2, 0, none⟩) 1 1)]) (fun s_ w' => (w'.cell? ⟨w.heap.size, 0, none⟩ = some (.slice (some ad) fs.length cf) ∧ w'.cell? ⟨w.heap.size, 1, none⟩ = some (.int .i64 mn) ∧ w'.cell? ⟨w.heap.size, 2, none⟩ = some (.slice As ss.length cs) ∧ w'.cell? ad = some (.string x.f0) ∧ w'.cell? ⟨ad.block, ad.off + 1, none⟩ = some (.int .i64 x.f1) ∧ w'.cell? ⟨ad.block, ad.off + 2, none⟩ = some (.int .i64 x.f2) ∧ w'.cell? ⟨ad.block, ad.off + 3, none⟩ = some (.slice A3 x.f3.length c3) ∧ w'.cell? ⟨ad.block, ad.off + 4, none⟩ = some (.slice A4 x.f4.length c4)) ∧ MSt w (some ad) cf fs mn As cs ss s gq #[.slice (some ad) fs.length cf, .int .i64 mn, .slice A2 ss2.length c2_] w' ∧ Kd.N k39 39 w' W5.heap.size (fun k => k ≠ gq) s_.2.1 fs ∧ w'.heap[s_.2.2]? = some (.cells #[.string x.f0, .int .i64 x.f1, .int .i64 x.f2, .slice A3 x.f3.length c3, .slice A4 x.f4.length c4] 39 (0, 0)) ∧ Below W5.heap.size W5 w') ?_ ?_
 rotate_left
 ·intro hCont
  refine two_ (i := 0) (j := 8) (Ni := some 31) (Nj := some 39) (zb 12 247) (zb 12 502) rfl rfl rfl rfl (by kernel_rfl) (by decide) (by decide) (fun K hK => ?_) (fun K hK => ?_)
  ·skip
   refine Kd.N_lit_step k39 (w0 := W5) W5.heap.size 39 (by rfl) (N' := 31) (by rfl) (xs := ([] : List S39)) (inner := []) (ok := (fun k => k ≠ gq)) (okp := fun _ => False) (by first | (go_simp; done) | (go_simp; rfl)) (Reps.none _ _) (fun _ h => h.elim) (show _ ≠ gq by have h_ := HB.out.size; have := HM0.out.lt; simp; omega) (by repeat (first | (with_reducible exact HB.out) | (with_reducible exact Below.refl _ _) | (with_reducible refine below_alloc ?_ _) | (with_reducible refine below_drew ?_))) (by have h_ := HB.out.size; have := HM0.out.lt; first | exact h_ | omega | (simp; done) | (simp; omega)) (by simp) ?_
   intro v0 w1 ho hb hg hat
   have HN := Aside0.mk ho
   replace HM := Aside0.mk (MSt.step HM0.out hb)
   have HB1 := Aside0.mk hb
   clear HB
   have HB := HB1
   clear HB1
   clear hb ho hg hat
   refine hK.out _ _ ⟨(PSt.c0 (MSt.P (by first | exact HM.out | exact HM.out.drew | exact HM.out.alloc _ | exact (HM.out.alloc _).drew | exact HM.out.drew.alloc _ | exact (HM.out.drew.alloc _).drew))), (PSt.c1 (MSt.P (by first | exact HM.out | exact HM.out.drew | exact HM.out.alloc _ | exact (HM.out.alloc _).drew | exact HM.out.drew.alloc _ | exact (HM.out.drew.alloc _).drew))), (PSt.c2 (MSt.P (by first | exact HM.out | exact HM.out.drew | exact HM.out.alloc _ | exact (HM.out.alloc _).drew | exact HM.out.drew.alloc _ | exact (HM.out.drew.alloc _).drew))), (pw_cell_below (by repeat (first | (with_reducible exact HB.out) | (with_reducible exact Below.refl _ _) | (with_reducible refine below_alloc ?_ _) | (with_reducible refine below_drew ?_))) y0), (pw_cell_below (by repeat (first | (with_reducible exact HB.out) | (with_reducible exact Below.refl _ _) | (with_reducible refine below_alloc ?_ _) | (with_reducible refine below_drew ?_))) y1), (pw_cell_below (by repeat (first | (with_reducible exact HB.out) | (with_reducible exact Below.refl _ _) | (with_reducible refine below_alloc ?_ _) | (with_reducible refine below_drew ?_))) y2), (pw_cell_below (by repeat (first | (with_reducible exact HB.out) | (with_reducible exact Below.refl _ _) | (with_reducible refine below_alloc ?_ _) | (with_reducible refine below_drew ?_))) y3), (pw_cell_below (by repeat (first | (with_reducible exact HB.out) | (with_reducible exact Below.refl _ _) | (with_reducible refine below_alloc ?_ _) | (with_reducible refine below_drew ?_))) y4)⟩ (fun hHeld => ?_)
   clear hK K
   refine norm_ (a' := ?_) ?_ ?_
   rotate_left
   ·show Act.put _ (some 31) _ = _
    simp only [Act.put, List.setIfInBounds_toArray, List.set_cons_zero, List.set_cons_succ, i64_w, i32_w]
    rfl
   refine two_ (i := 3) (j := 8) (Ni := some 34) (Nj := some 39) (zb 12 255) (zb 12 503) rfl rfl rfl rfl (by kernel_rfl) (by decide) (by decide) (fun K hK => ?_) (fun K hK => ?_)
   ·skip
    refine Kd.N_append_rows_step k39 (w0 := W5) W5.heap.size (by rfl) (.tmp 31) (.tmp 33) 22 39 (.agg #[.string ⟨#[]⟩, .int .i64 0, .int .i64 0, .slice none 0 0, .slice none 0 0]) 80 (by rfl) Try.underlying22 inf_func rfl (by decide) (by omega) v0 [] fs (some ad) fs.length cf (fun k => k ≠ gq) (fun k => k < w.heap.size) rfl rfl (by (with_reducible repeat (first | apply Kd.N_alloc | apply Kd.N_drewN | apply Kd.N_drew)); exact HN.out) (MSt.fF (by first | exact HM.out | exact HM.out.drew | exact HM.out.alloc _ | exact (HM.out.alloc _).drew | exact HM.out.drew.alloc _ | exact (HM.out.drew.alloc _).drew)) (fun k hk => ⟨(by have := HM0.out.hq; show k ≠ gq; omega), fun e_ => by have h_ := Kd.N_base HN.out k e_.symm; have := HM0.out.lt; have := HM0.out.hq; omega⟩) (fun k hk => (show k ≠ gq by have h_ := HB.out.size; have := HM0.out.lt; (try simp at hk); omega)) (by repeat (first | (with_reducible exact HB.out) | (with_reducible exact Below.refl _ _) | (with_reducible refine below_alloc ?_ _) | (with_reducible refine below_drew ?_))) (by have h_ := HB.out.size; have := HM0.out.lt; first | exact h_ | omega | (simp; done) | (simp; omega)) (by have := HL.out; simp; omega) ?_
    intro v1 w2 ho hb hg hat
    rw [List.nil_append] at ho
    clear HN
    have HN := Aside0.mk ho
    replace HM := Aside0.mk (MSt.step HM0.out hb)
    have HB1 := Aside0.mk hb
    clear HB
    have HB := HB1
    clear HB1
    clear hb ho hg hat
    refine hK.out _ _ ⟨(PSt.c0 (MSt.P (by first | exact HM.out | exact HM.out.drew | exact HM.out.alloc _ | exact (HM.out.alloc _).drew | exact HM.out.drew.alloc _ | exact (HM.out.drew.alloc _).drew))), (PSt.c1 (MSt.P (by first | exact HM.out | exact HM.out.drew | exact HM.out.alloc _ | exact (HM.out.alloc _).drew | exact HM.out.drew.alloc _ | exact (HM.out.drew.alloc _).drew))), (PSt.c2 (MSt.P (by first | exact HM.out | exact HM.out.drew | exact HM.out.alloc _ | exact (HM.out.alloc _).drew | exact HM.out.drew.alloc _ | exact (HM.out.drew.alloc _).drew))), (pw_cell_below (by repeat (first | (with_reducible exact HB.out) | (with_reducible exact Below.refl _ _) | (with_reducible refine below_alloc ?_ _) | (with_reducible refine below_drew ?_))) y0), (pw_cell_below (by repeat (first | (with_reducible exact HB.out) | (with_reducible exact Below.refl _ _) | (with_reducible refine below_alloc ?_ _) | (with_reducible refine below_drew ?_))) y1), (pw_cell_below (by repeat (first | (with_reducible exact HB.out) | (with_reducible exact Below.refl _ _) | (with_reducible refine below_alloc ?_ _) | (with_reducible refine below_drew ?_))) y2), (pw_cell_below (by repeat (first | (with_reducible exact HB.out) | (with_reducible exact Below.refl _ _) | (with_reducible refine below_alloc ?_ _) | (with_reducible refine below_drew ?_))) y3), (pw_cell_below (by repeat (first | (with_reducible exact HB.out) | (with_reducible exact Below.refl _ _) | (with_reducible refine below_alloc ?_ _) | (with_reducible refine below_drew ?_))) y4)⟩ (fun hHeld => ?_)
    clear hK K
    refine norm_ (a' := ?_) ?_ ?_
    rotate_left
    ·show Act.put _ (some 34) _ = _
     simp only [Act.put, List.setIfInBounds_toArray, List.set_cons_zero, List.set_cons_succ, i64_w, i32_w]
     rfl
    refine one_ (i := 8) (N := some 39) (zb 12 511) rfl rfl (by kernel_rfl) (by decide) (fun K hK => ?_)
    refine value_ (w1 := ?_) (v := ?_) (by rfl) rfl ?_ ?_
    rotate_left 2
    ·go_simp
     constructor
     ·rfl
     ·rfl
    refine hK.out _ _ ⟨(PSt.c0 (MSt.P (by first | exact HM.out | exact HM.out.drew | exact HM.out.alloc _ | exact (HM.out.alloc _).drew | exact HM.out.drew.alloc _ | exact (HM.out.drew.alloc _).drew))), (PSt.c1 (MSt.P (by first | exact HM.out | exact HM.out.drew | exact HM.out.alloc _ | exact (HM.out.alloc _).drew | exact HM.out.drew.alloc _ | exact (HM.out.drew.alloc _).drew))), (PSt.c2 (MSt.P (by first | exact HM.out | exact HM.out.drew | exact HM.out.alloc _ | exact (HM.out.alloc _).drew | exact HM.out.drew.alloc _ | exact (HM.out.drew.alloc _).drew))), (pw_cell_below (by repeat (first | (with_reducible exact HB.out) | (with_reducible exact Below.refl _ _) | (with_reducible refine below_alloc ?_ _) | (with_reducible refine below_drew ?_))) y0), (pw_cell_below (by repeat (first | (with_reducible exact HB.out) | (with_reducible exact Below.refl _ _) | (with_reducible refine below_alloc ?_ _) | (with_reducible refine below_drew ?_))) y1), (pw_cell_below (by repeat (first | (with_reducible exact HB.out) | (with_reducible exact Below.refl _ _) | (with_reducible refine below_alloc ?_ _) | (with_reducible refine below_drew ?_))) y2), (pw_cell_below (by repeat (first | (with_reducible exact HB.out) | (with_reducible exact Below.refl _ _) | (with_reducible refine below_alloc ?_ _) | (with_reducible refine below_drew ?_))) y3), (pw_cell_below (by repeat (first | (with_reducible exact HB.out) | (with_reducible exact Below.refl _ _) | (with_reducible refine below_alloc ?_ _) | (with_reducible refine below_drew ?_))) y4)⟩ (fun hHeld => ?_)
    clear hK K
    refine norm_ (a' := ?_) ?_ ?_
    rotate_left
    ·show Act.put _ (some 39) _ = _
     simp only [Act.put, List.setIfInBounds_toArray, List.set_cons_zero, List.set_cons_succ, i64_w, i32_w]
     rfl
    exact norm_ (by simp only [putAll, Act.put, List.setIfInBounds_toArray, List.set_cons_zero, List.set_cons_succ]) (hCont (v0, v1, w2.heap.size) _ ⟨hHeld, (by first | exact HM.out | exact HM.out.drew | exact HM.out.alloc _ | exact (HM.out.alloc _).drew | exact HM.out.drew.alloc _ | exact (HM.out.drew.alloc _).drew), (by (with_reducible repeat (first | apply Kd.N_alloc | apply Kd.N_drewN | apply Kd.N_drew)); exact HN.out), (by (try dsimp only); repeat (first | (with_reducible exact blk_new _ _) | (with_reducible exact blk_new1 _ _ _) | (with_reducible exact XB.out) | (with_reducible refine blk_alloc ?_ _) | (with_reducible refine blk_drew ?_))), (by repeat (first | (with_reducible exact HB.out) | (with_reducible exact Below.refl _ _) | (with_reducible refine below_alloc ?_ _) | (with_reducible refine below_drew ?_)))⟩)
   ·skip
    refine value_ (w1 := ?_) (v := ?_) (by rfl) rfl ?_ ?_
    rotate_left 2
    ·go_simp
     constructor
     ·rfl
     ·rfl
    refine hK.out _ _ ⟨(PSt.c0 (MSt.P (by first | exact HM.out | exact HM.out.drew | exact HM.out.alloc _ | exact (HM.out.alloc _).drew | exact HM.out.drew.alloc _ | exact (HM.out.drew.alloc _).drew))), (PSt.c1 (MSt.P (by first | exact HM.out | exact HM.out.drew | exact HM.out.alloc _ | exact (HM.out.alloc _).drew | exact HM.out.drew.alloc _ | exact (HM.out.drew.alloc _).drew))), (PSt.c2 (MSt.P (by first | exact HM.out | exact HM.out.drew | exact HM.out.alloc _ | exact (HM.out.alloc _).drew | exact HM.out.drew.alloc _ | exact (HM.out.drew.alloc _).drew))), (pw_cell_below (by repeat (first | (with_reducible exact HB.out) | (with_reducible exact Below.refl _ _) | (with_reducible refine below_alloc ?_ _) | (with_reducible refine below_drew ?_))) y0), (pw_cell_below (by repeat (first | (with_reducible exact HB.out) | (with_reducible exact Below.refl _ _) | (with_reducible refine below_alloc ?_ _) | (with_reducible refine below_drew ?_))) y1), (pw_cell_below (by repeat (first | (with_reducible exact HB.out) | (with_reducible exact Below.refl _ _) | (with_reducible refine below_alloc ?_ _) | (with_reducible refine below_drew ?_))) y2), (pw_cell_below (by repeat (first | (with_reducible exact HB.out) | (with_reducible exact Below.refl _ _) | (with_reducible refine below_alloc ?_ _) | (with_reducible refine below_drew ?_))) y3), (pw_cell_below (by repeat (first | (with_reducible exact HB.out) | (with_reducible exact Below.refl _ _) | (with_reducible refine below_alloc ?_ _) | (with_reducible refine below_drew ?_))) y4)⟩ (fun hHeld => ?_)
    clear hK K
    refine norm_ (a' := ?_) ?_ ?_
    rotate_left
    ·show Act.put _ (some 39) _ = _
     simp only [Act.put, List.setIfInBounds_toArray, List.set_cons_zero, List.set_cons_succ, i64_w, i32_w]
     rfl
    refine one_ (i := 3) (N := some 34) (zb 12 511) rfl rfl (by kernel_rfl) (by decide) (fun K hK => ?_)
    refine Kd.N_append_rows_step k39 (w0 := W5) W5.heap.size (by rfl) (.tmp 31) (.tmp 33) 22 39 (.agg #[.string ⟨#[]⟩, .int .i64 0, .int .i64 0, .slice none 0 0, .slice none 0 0]) 80 (by rfl) Try.underlying22 inf_func rfl (by decide) (by omega) v0 [] fs (some ad) fs.length cf (fun k => k ≠ gq) (fun k => k < w.heap.size) rfl rfl (by (with_reducible repeat (first | apply Kd.N_alloc | apply Kd.N_drewN | apply Kd.N_drew)); exact HN.out) (MSt.fF (by first | exact HM.out | exact HM.out.drew | exact HM.out.alloc _ | exact (HM.out.alloc _).drew | exact HM.out.drew.alloc _ | exact (HM.out.drew.alloc _).drew)) (fun k hk => ⟨(by have := HM0.out.hq; show k ≠ gq; omega), fun e_ => by have h_ := Kd.N_base HN.out k e_.symm; have := HM0.out.lt; have := HM0.out.hq; omega⟩) (fun k hk => (show k ≠ gq by have h_ := HB.out.size; have := HM0.out.lt; (try simp at hk); omega)) (by repeat (first | (with_reducible exact HB.out) | (with_reducible exact Below.refl _ _) | (with_reducible refine below_alloc ?_ _) | (with_reducible refine below_drew ?_))) (by have h_ := HB.out.size; have := HM0.out.lt; first | exact h_ | omega | (simp; done) | (simp; omega)) (by have := HL.out; simp; omega) ?_
    intro v1 w2 ho hb hg hat
    rw [List.nil_append] at ho
    have XB1 : Aside0 (w2.heap[w1.heap.size]? = some (.cells #[.string x.f0, .int .i64 x.f1, .int .i64 x.f2, .slice A3 x.f3.length c3, .slice A4 x.f4.length c4] 39 (0, 0))) := ⟨blk_grown (by (try dsimp only); repeat (first | (with_reducible exact blk_new _ _) | (with_reducible exact blk_new1 _ _ _) | (with_reducible exact XB.out) | (with_reducible refine blk_alloc ?_ _) | (with_reducible refine blk_drew ?_))) hg (fun e_ => by have h_ := Kd.N_lt HN.out _ e_.symm; omega)⟩
    (try clear XB)
    have XB := XB1
    clear XB1
    clear HN
    have HN := Aside0.mk ho
    replace HM := Aside0.mk (MSt.step HM0.out hb)
    have HB1 := Aside0.mk hb
    clear HB
    have HB := HB1
    clear HB1
    clear hb ho hg hat
    refine hK.out _ _ ⟨(PSt.c0 (MSt.P (by first | exact HM.out | exact HM.out.drew | exact HM.out.alloc _ | exact (HM.out.alloc _).drew | exact HM.out.drew.alloc _ | exact (HM.out.drew.alloc _).drew))), (PSt.c1 (MSt.P (by first | exact HM.out | exact HM.out.drew | exact HM.out.alloc _ | exact (HM.out.alloc _).drew | exact HM.out.drew.alloc _ | exact (HM.out.drew.alloc _).drew))), (PSt.c2 (MSt.P (by first | exact HM.out | exact HM.out.drew | exact HM.out.alloc _ | exact (HM.out.alloc _).drew | exact HM.out.drew.alloc _ | exact (HM.out.drew.alloc _).drew))), (pw_cell_below (by repeat (first | (with_reducible exact HB.out) | (with_reducible exact Below.refl _ _) | (with_reducible refine below_alloc ?_ _) | (with_reducible refine below_drew ?_))) y0), (pw_cell_below (by repeat (first | (with_reducible exact HB.out) | (with_reducible exact Below.refl _ _) | (with_reducible refine below_alloc ?_ _) | (with_reducible refine below_drew ?_))) y1), (pw_cell_below (by repeat (first | (with_reducible exact HB.out) | (with_reducible exact Below.refl _ _) | (with_reducible refine below_alloc ?_ _) | (with_reducible refine below_drew ?_))) y2), (pw_cell_below (by repeat (first | (with_reducible exact HB.out) | (with_reducible exact Below.refl _ _) | (with_reducible refine below_alloc ?_ _) | (with_reducible refine below_drew ?_))) y3), (pw_cell_below (by repeat (first | (with_reducible exact HB.out) | (with_reducible exact Below.refl _ _) | (with_reducible refine below_alloc ?_ _) | (with_reducible refine below_drew ?_))) y4)⟩ (fun hHeld => ?_)
    clear hK K
    refine norm_ (a' := ?_) ?_ ?_
    rotate_left
    ·show Act.put _ (some 34) _ = _
     simp only [Act.put, List.setIfInBounds_toArray, List.set_cons_zero, List.set_cons_succ, i64_w, i32_w]
     rfl
    exact norm_ (by simp only [putAll, Act.put, List.setIfInBounds_toArray, List.set_cons_zero, List.set_cons_succ]) (hCont (v0, v1, w1.heap.size) _ ⟨hHeld, (by first | exact HM.out | exact HM.out.drew | exact HM.out.alloc _ | exact (HM.out.alloc _).drew | exact HM.out.drew.alloc _ | exact (HM.out.drew.alloc _).drew), (by (with_reducible repeat (first | apply Kd.N_alloc | apply Kd.N_drewN | apply Kd.N_drew)); exact HN.out), (by (try dsimp only); repeat (first | (with_reducible exact blk_new _ _) | (with_reducible exact blk_new1 _ _ _) | (with_reducible exact XB.out) | (with_reducible refine blk_alloc ?_ _) | (with_reducible refine blk_drew ?_))), (by repeat (first | (with_reducible exact HB.out) | (with_reducible exact Below.refl _ _) | (with_reducible refine below_alloc ?_ _) | (with_reducible refine below_drew ?_)))⟩)
  ·skip
   refine value_ (w1 := ?_) (v := ?_) (by rfl) rfl ?_ ?_
   rotate_left 2
   ·go_simp
    constructor
    ·rfl
    ·rfl
   refine hK.out _ _ ⟨(PSt.c0 (MSt.P (by first | exact HM.out | exact HM.out.drew | exact HM.out.alloc _ | exact (HM.out.alloc _).drew | exact HM.out.drew.alloc _ | exact (HM.out.drew.alloc _).drew))), (PSt.c1 (MSt.P (by first | exact HM.out | exact HM.out.drew | exact HM.out.alloc _ | exact (HM.out.alloc _).drew | exact HM.out.drew.alloc _ | exact (HM.out.drew.alloc _).drew))), (PSt.c2 (MSt.P (by first | exact HM.out | exact HM.out.drew | exact HM.out.alloc _ | exact (HM.out.alloc _).drew | exact HM.out.drew.alloc _ | exact (HM.out.drew.alloc _).drew))), (pw_cell_below (by repeat (first | (with_reducible exact HB.out) | (with_reducible exact Below.refl _ _) | (with_reducible refine below_alloc ?_ _) | (with_reducible refine below_drew ?_))) y0), (pw_cell_below (by repeat (first | (with_reducible exact HB.out) | (with_reducible exact Below.refl _ _) | (with_reducible refine below_alloc ?_ _) | (with_reducible refine below_drew ?_))) y1), (pw_cell_below (by repeat (first | (with_reducible exact HB.out) | (with_reducible exact Below.refl _ _) | (with_reducible refine below_alloc ?_ _) | (with_reducible refine below_drew ?_))) y2), (pw_cell_below (by repeat (first | (with_reducible exact HB.out) | (with_reducible exact Below.refl _ _) | (with_reducible refine below_alloc ?_ _) | (with_reducible refine below_drew ?_))) y3), (pw_cell_below (by repeat (first | (with_reducible exact HB.out) | (with_reducible exact Below.refl _ _) | (with_reducible refine below_alloc ?_ _) | (with_reducible refine below_drew ?_))) y4)⟩ (fun hHeld => ?_)
   clear hK K
   refine norm_ (a' := ?_) ?_ ?_
   rotate_left
   ·show Act.put _ (some 39) _ = _
    simp only [Act.put, List.setIfInBounds_toArray, List.set_cons_zero, List.set_cons_succ, i64_w, i32_w]
    rfl
   refine one_ (i := 0) (N := some 31) (zb 12 503) rfl rfl (by kernel_rfl) (by decide) (fun K hK => ?_)
   refine Kd.N_lit_step k39 (w0 := W5) W5.heap.size 39 (by rfl) (N' := 31) (by rfl) (xs := ([] : List S39)) (inner := []) (ok := (fun k => k ≠ gq)) (okp := fun _ => False) (by first | (go_simp; done) | (go_simp; rfl)) (Reps.none _ _) (fun _ h => h.elim) (show _ ≠ gq by have h_ := HB.out.size; have := HM0.out.lt; simp; omega) (by repeat (first | (with_reducible exact HB.out) | (with_reducible exact Below.refl _ _) | (with_reducible refine below_alloc ?_ _) | (with_reducible refine below_drew ?_))) (by have h_ := HB.out.size; have := HM0.out.lt; first | exact h_ | omega | (simp; done) | (simp; omega)) (by simp) ?_
   intro v0 w1 ho hb hg hat
   have XB : Aside0 (w1.heap[W5.heap.size]? = some (.cells #[.string x.f0, .int .i64 x.f1, .int .i64 x.f2, .slice A3 x.f3.length c3, .slice A4 x.f4.length c4] 39 (0, 0))) := ⟨blk_grown (by (try dsimp only); repeat (first | (with_reducible exact blk_new _ _) | (with_reducible exact blk_new1 _ _ _) | (with_reducible exact HM0.out) | (with_reducible refine blk_alloc ?_ _) | (with_reducible refine blk_drew ?_))) hg (by simp)⟩
   have HNX : Aside0 (some (W5.heap.size) ≠ v0.ownBlock) := ⟨by obtain ⟨b_, hb1_, hb2_⟩ := hat; rw [hb1_]; intro e_; injection e_ with e_; simp at hb2_; omega⟩
   have HN := Aside0.mk ho
   replace HM := Aside0.mk (MSt.step HM0.out hb)
   have HB1 := Aside0.mk hb
   clear HB
   have HB := HB1
   clear HB1
   clear hb ho hg hat
   refine hK.out _ _ ⟨(PSt.c0 (MSt.P (by first | exact HM.out | exact HM.out.drew | exact HM.out.alloc _ | exact (HM.out.alloc _).drew | exact HM.out.drew.alloc _ | exact (HM.out.drew.alloc _).drew))), (PSt.c1 (MSt.P (by first | exact HM.out | exact HM.out.drew | exact HM.out.alloc _ | exact (HM.out.alloc _).drew | exact HM.out.drew.alloc _ | exact (HM.out.drew.alloc _).drew))), (PSt.c2 (MSt.P (by first | exact HM.out | exact HM.out.drew | exact HM.out.alloc _ | exact (HM.out.alloc _).drew | exact HM.out.drew.alloc _ | exact (HM.out.drew.alloc _).drew))), (pw_cell_below (by repeat (first | (with_reducible exact HB.out) | (with_reducible exact Below.refl _ _) | (with_reducible refine below_alloc ?_ _) | (with_reducible refine below_drew ?_))) y0), (pw_cell_below (by repeat (first | (with_reducible exact HB.out) | (with_reducible exact Below.refl _ _) | (with_reducible refine below_alloc ?_ _) | (with_reducible refine below_drew ?_))) y1), (pw_cell_below (by repeat (first | (with_reducible exact HB.out) | (with_reducible exact Below.refl _ _) | (with_reducible refine below_alloc ?_ _) | (with_reducible refine below_drew ?_))) y2), (pw_cell_below (by repeat (first | (with_reducible exact HB.out) | (with_reducible exact Below.refl _ _) | (with_reducible refine below_alloc ?_ _) | (with_reducible refine below_drew ?_))) y3), (pw_cell_below (by repeat (first | (with_reducible exact HB.out) | (with_reducible exact Below.refl _ _) | (with_reducible refine below_alloc ?_ _) | (with_reducible refine below_drew ?_))) y4)⟩ (fun hHeld => ?_)
   clear hK K
   refine norm_ (a' := ?_) ?_ ?_
   rotate_left
   ·show Act.put _ (some 31) _ = _
    simp only [Act.put, List.setIfInBounds_toArray, List.set_cons_zero, List.set_cons_succ, i64_w, i32_w]
    rfl
   refine one_ (i := 3) (N := some 34) (zb 12 511) rfl rfl (by kernel_rfl) (by decide) (fun K hK => ?_)
   refine Kd.N_append_rows_step k39 (w0 := W5) W5.heap.size (by rfl) (.tmp 31) (.tmp 33) 22 39 (.agg #[.string ⟨#[]⟩, .int .i64 0, .int .i64 0, .slice none 0 0, .slice none 0 0]) 80 (by rfl) Try.underlying22 inf_func rfl (by decide) (by omega) v0 [] fs (some ad) fs.length cf (fun k => k ≠ gq) (fun k => k < w.heap.size) rfl rfl (by (with_reducible repeat (first | apply Kd.N_alloc | apply Kd.N_drewN | apply Kd.N_drew)); exact HN.out) (MSt.fF (by first | exact HM.out | exact HM.out.drew | exact HM.out.alloc _ | exact (HM.out.alloc _).drew | exact HM.out.drew.alloc _ | exact (HM.out.drew.alloc _).drew)) (fun k hk => ⟨(by have := HM0.out.hq; show k ≠ gq; omega), fun e_ => by have h_ := Kd.N_base HN.out k e_.symm; have := HM0.out.lt; have := HM0.out.hq; omega⟩) (fun k hk => (show k ≠ gq by have h_ := HB.out.size; have := HM0.out.lt; (try simp at hk); omega)) (by repeat (first | (with_reducible exact HB.out) | (with_reducible exact Below.refl _ _) | (with_reducible refine below_alloc ?_ _) | (with_reducible refine below_drew ?_))) (by have h_ := HB.out.size; have := HM0.out.lt; first | exact h_ | omega | (simp; done) | (simp; omega)) (by have := HL.out; simp; omega) ?_
   intro v1 w2 ho hb hg hat
   rw [List.nil_append] at ho
   have XB1 : Aside0 (w2.heap[W5.heap.size]? = some (.cells #[.string x.f0, .int .i64 x.f1, .int .i64 x.f2, .slice A3 x.f3.length c3, .slice A4 x.f4.length c4] 39 (0, 0))) := ⟨blk_grown (by (try dsimp only); repeat (first | (with_reducible exact blk_new _ _) | (with_reducible exact blk_new1 _ _ _) | (with_reducible exact XB.out) | (with_reducible refine blk_alloc ?_ _) | (with_reducible refine blk_drew ?_))) hg HNX.out⟩
   (try clear XB)
   have XB := XB1
   clear XB1
   clear HN
   have HN := Aside0.mk ho
   replace HM := Aside0.mk (MSt.step HM0.out hb)
   have HB1 := Aside0.mk hb
   clear HB
   have HB := HB1
   clear HB1
   clear hb ho hg hat
   refine hK.out _ _ ⟨(PSt.c0 (MSt.P (by first | exact HM.out | exact HM.out.drew | exact HM.out.alloc _ | exact (HM.out.alloc _).drew | exact HM.out.drew.alloc _ | exact (HM.out.drew.alloc _).drew))), (PSt.c1 (MSt.P (by first | exact HM.out | exact HM.out.drew | exact HM.out.alloc _ | exact (HM.out.alloc _).drew | exact HM.out.drew.alloc _ | exact (HM.out.drew.alloc _).drew))), (PSt.c2 (MSt.P (by first | exact HM.out | exact HM.out.drew | exact HM.out.alloc _ | exact (HM.out.alloc _).drew | exact HM.out.drew.alloc _ | exact (HM.out.drew.alloc _).drew))), (pw_cell_below (by repeat (first | (with_reducible exact HB.out) | (with_reducible exact Below.refl _ _) | (with_reducible refine below_alloc ?_ _) | (with_reducible refine below_drew ?_))) y0), (pw_cell_below (by repeat (first | (with_reducible exact HB.out) | (with_reducible exact Below.refl _ _) | (with_reducible refine below_alloc ?_ _) | (with_reducible refine below_drew ?_))) y1), (pw_cell_below (by repeat (first | (with_reducible exact HB.out) | (with_reducible exact Below.refl _ _) | (with_reducible refine below_alloc ?_ _) | (with_reducible refine below_drew ?_))) y2), (pw_cell_below (by repeat (first | (with_reducible exact HB.out) | (with_reducible exact Below.refl _ _) | (with_reducible refine below_alloc ?_ _) | (with_reducible refine below_drew ?_))) y3), (pw_cell_below (by repeat (first | (with_reducible exact HB.out) | (with_reducible exact Below.refl _ _) | (with_reducible refine below_alloc ?_ _) | (with_reducible refine below_drew ?_))) y4)⟩ (fun hHeld => ?_)
   clear hK K
   refine norm_ (a' := ?_) ?_ ?_
   rotate_left
   ·show Act.put _ (some 34) _ = _
    simp only [Act.put, List.setIfInBounds_toArray, List.set_cons_zero, List.set_cons_succ, i64_w, i32_w]
    rfl
   exact norm_ (by simp only [putAll, Act.put, List.setIfInBounds_toArray, List.set_cons_zero, List.set_cons_succ]) (hCont (v0, v1, W5.heap.size) _ ⟨hHeld, (by first | exact HM.out | exact HM.out.drew | exact HM.out.alloc _ | exact (HM.out.alloc _).drew | exact HM.out.drew.alloc _ | exact (HM.out.drew.alloc _).drew), (by (with_reducible repeat (first | apply Kd.N_alloc | apply Kd.N_drewN | apply Kd.N_drew)); exact HN.out), (by (try dsimp only); repeat (first | (with_reducible exact blk_new _ _) | (with_reducible exact blk_new1 _ _ _) | (with_reducible exact XB.out) | (with_reducible refine blk_alloc ?_ _) | (with_reducible refine blk_drew ?_))), (by repeat (first | (with_reducible exact HB.out) | (with_reducible exact Below.refl _ _) | (with_reducible refine below_alloc ?_ _) | (with_reducible refine below_drew ?_)))⟩)
 rintro ⟨v0, v1, xb⟩ w3 ⟨hS_, h0_, h1_, h2_, h3_⟩
 have hHeld := hS_
 dsimp only at h1_ h2_
 clear HM HB
 (try clear HN)
 (try clear XB)
 have HM := Aside0.mk h0_
 have HN := Aside0.mk h1_
 have XB := Aside0.mk h2_
 have HB := Aside0.mk h3_
 clear h0_ h1_ h2_ h3_ hS_
 refine norm_ (a' := ?_) ?_ ?_
 rotate_left
 ·simp only [putAll, Act.put, List.setIfInBounds_toArray, List.set_cons_zero, List.set_cons_succ]
  rfl
 refine one_ (i := 9) (N := some 40) (zb 12 1023) rfl rfl (by kernel_rfl) (by decide) (fun K hK => ?_)
 refine N_append_at k39 (w0 := W5) W5.heap.size (by rfl) (.tmp 34) (.tmp 39) 22 39 (.agg #[.string ⟨#[]⟩, .int .i64 0, .int .i64 0, .slice none 0 0, .slice none 0 0]) 80 (by rfl) Try.underlying22 inf_func rfl (by decide) (by omega) v1 fs x [.string x.f0, .int .i64 x.f1, .int .i64 x.f2, .slice A3 x.f3.length c3, .slice A4 x.f4.length c4] (fun k => k ≠ gq) (fun k => k < w.heap.size) rfl xb rfl (by (try dsimp only); repeat (first | (with_reducible exact blk_new _ _) | (with_reducible exact blk_new1 _ _ _) | (with_reducible exact XB.out) | (with_reducible refine blk_alloc ?_ _) | (with_reducible refine blk_drew ?_))) (Kd.FK_below HFK.out (by repeat (first | (with_reducible exact HB.out) | (with_reducible exact Below.refl _ _) | (with_reducible refine below_alloc ?_ _) | (with_reducible refine below_drew ?_)))) (fun k hk => ⟨(by have := HM0.out.hq; show k ≠ gq; omega), fun e_ => by have h_ := Kd.N_base HN.out k e_.symm; have := HM0.out.lt; have := HM0.out.hq; omega⟩) (fun k hk => (show k ≠ gq by have h_ := HB.out.size; have := HM0.out.lt; (try simp at hk); omega)) (by (with_reducible repeat (first | apply Kd.N_alloc | apply Kd.N_drewN | apply Kd.N_drew)); exact HN.out) (by repeat (first | (with_reducible exact HB.out) | (with_reducible exact Below.refl _ _) | (with_reducible refine below_alloc ?_ _) | (with_reducible refine below_drew ?_))) (by have h_ := HB.out.size; have := HM0.out.lt; first | exact h_ | omega | (simp; done) | (simp; omega)) (by have := HL.out; simp; omega) ?_
 intro v2 w4 ho hb hg hat
 rw [EF.out] at ho
 replace HM := Aside0.mk (MSt.step HM0.out hb)
 clear HB hg hat XB HN
 have HB := Aside0.mk hb
 obtain ⟨A1, c1_, rfl⟩ := Kd.N_slice ho
 have HN2 := Aside0.mk ho
 clear ho hb
 have z0_ := (blk_cell HM.out.q 0).trans rfl
 simp only [List.getElem?_toArray, List.getElem?_cons_zero, List.getElem?_cons_succ] at z0_
 have z1_ := blk_frozen HM.out.q 0
 refine hK.out _ _ ⟨(PSt.c0 (MSt.P (by first | exact HM.out | exact HM.out.drew | exact HM.out.alloc _ | exact (HM.out.alloc _).drew | exact HM.out.drew.alloc _ | exact (HM.out.drew.alloc _).drew))), (PSt.c1 (MSt.P (by first | exact HM.out | exact HM.out.drew | exact HM.out.alloc _ | exact (HM.out.alloc _).drew | exact HM.out.drew.alloc _ | exact (HM.out.drew.alloc _).drew))), (PSt.c2 (MSt.P (by first | exact HM.out | exact HM.out.drew | exact HM.out.alloc _ | exact (HM.out.alloc _).drew | exact HM.out.drew.alloc _ | exact (HM.out.drew.alloc _).drew))), (pw_cell_below (by repeat (first | (with_reducible exact HB.out) | (with_reducible exact Below.refl _ _) | (with_reducible refine below_alloc ?_ _) | (with_reducible refine below_drew ?_))) y0), (pw_cell_below (by repeat (first | (with_reducible exact HB.out) | (with_reducible exact Below.refl _ _) | (with_reducible refine below_alloc ?_ _) | (with_reducible refine below_drew ?_))) y1), (pw_cell_below (by repeat (first | (with_reducible exact HB.out) | (with_reducible exact Below.refl _ _) | (with_reducible refine below_alloc ?_ _) | (with_reducible refine below_drew ?_))) y2), (pw_cell_below (by repeat (first | (with_reducible exact HB.out) | (with_reducible exact Below.refl _ _) | (with_reducible refine below_alloc ?_ _) | (with_reducible refine below_drew ?_))) y3), (pw_cell_below (by repeat (first | (with_reducible exact HB.out) | (with_reducible exact Below.refl _ _) | (with_reducible refine below_alloc ?_ _) | (with_reducible refine below_drew ?_))) y4)⟩ (fun hHeld => ?_)
 clear hK K
 refine norm_ (a' := ?_) ?_ ?_
 rotate_left
 ·show Act.put _ (some 40) _ = _
  simp only [Act.put, List.setIfInBounds_toArray, List.set_cons_zero, List.set_cons_succ, i64_w, i32_w]
  rfl
 refine pT 10 (some 41) (zb 12 2047) (h := ?_)
 refine last_ (i := 11) (N := none) (zb 12 4095) rfl rfl (by kernel_rfl) (by decide) (fun K hK => ?_)
 refine skip_ (w1 := ?_) (by rfl) rfl ?_ ?_
 rotate_left
 ·go_simp
  rfl
 refine hK.out _ _ ?_
 clear hK K
 refine done_ (by kernel_rfl) ?_
 have HM6 := Aside0.mk (show MSt w (some ad) cf fs mn As cs ss s gq #[.slice A1 fs2.length c1_, .int .i64 mn, .slice A2 ss2.length c2_] _ from HM.out.set 0 _)
 have HNF := Aside0.mk (Kd.N_far HN2.out (p := ⟨gq, 0, none⟩) (fun k hk => hk) (.slice A1 fs2.length c1_))
 have HNS := Aside0.mk (Kd.N_far (Kd.N_below HN5.out HB.out) (p := ⟨gq, 0, none⟩) (fun k hk => hk) (.slice A1 fs2.length c1_))
 clear HM HN2 HN5 hHeld HM0 z0_ z1_ HB HFK hlt0
 have HM := HM6
 clear HM6
 go_upto_region 6 with (fail)
 generalize HWX : (World.setCell _ _ _) = W6 at *
 clear HWX p0 p1 p2 y0 y1 y2 y3 y4
 have p0 := HM.out.P.c0
 have p1 := HM.out.P.c1
 have p2 := HM.out.P.c2
 have r0 : W6.cell? ⟨gq, 0, none⟩ = some (.slice A1 fs2.length c1_) := (blk_cell HM.out.q 0).trans rfl
 have r1 : W6.cell? ⟨gq, 1, none⟩ = some (.int .i64 mn) := (blk_cell HM.out.q 1).trans rfl
 have r2 : W6.cell? ⟨gq, 2, none⟩ = some (.slice A2 ss2.length c2_) := (blk_cell HM.out.q 2).trans rfl
 refine start_ (n := 15) (S := fun w' => w'.cell? ⟨w.heap.size, 0, none⟩ = some (.slice (some ad) fs.length cf) ∧ w'.cell? ⟨w.heap.size, 1, none⟩ = some (.int .i64 mn) ∧ w'.cell? ⟨w.heap.size, 2, none⟩ = some (.slice As ss.length cs) ∧ w'.cell? ⟨gq, 0, none⟩ = some (.slice A1 fs2.length c1_) ∧ w'.cell? ⟨gq, 1, none⟩ = some (.int .i64 mn) ∧ w'.cell? ⟨gq, 2, none⟩ = some (.slice A2 ss2.length c2_)) (ds := []) #[false, false, false, false, false, false, false, false, false, false, false, false, false, false, false] (by kernel_rfl) rfl rfl ⟨p0, p1, p2, r0, r1, r2⟩ (fun hHeld => ?_)
 refine pT 2 (some 44) (zb 15 4) (h := ?_)
 refine take_ (i := 0) (N := some 42) (v := ?_) (a' := ?_) (zb 15 5) rfl rfl (by kernel_rfl) (fun _ _ _ h => h) (Or.inl ⟨by rfl, ?_⟩) hHeld ?_ ?_
 rotate_left
 ·rintro w' ⟨s0, s1, s2, s3, s4, s5⟩
  go_simp
  with_reducible rfl
 rotate_left
 ·simp only [Act.put, List.setIfInBounds_toArray, List.set_cons_zero, List.set_cons_succ, i64_w, i32_w]
  rfl
 refine one_ (i := 1) (N := some 43) (zb 15 7) rfl rfl (by kernel_rfl) (by decide) (fun K hK => ?_)
 refine goes_ Try.func9 (by kernel_rfl) rfl #[.agg #[.slice A1 fs2.length c1_, .int .i64 mn, .slice A2 ss2.length c2_]] (by rfl) rfl rfl (by simp only [List.map_toArray, List.map_cons, List.map_nil]; rfl) ?_
 with_reducible refine (fun_Check.calls k2 A1 c1_ fs2 mn A2 c2_ ss2 0 0 0 0 _ ?side1 ?side2 ?side3 ?side4 H2.out).mono ?_
 (case side1 => exact zC (Kd.N_reads' HNF.out).2.2)
 (case side2 => exact (Kd.N_reads' HNF.out).2.1)
 (case side3 => exact zC (Kd.N_reads' HNS.out).2.2)
 (case side4 => exact (Kd.N_reads' HNS.out).2.1)
 rintro r wa ⟨rfl, hb⟩
 refine ⟨_, rfl, ?_⟩
 replace HNF := Aside0.mk (Kd.N_below (by (with_reducible repeat (first | apply Kd.N_alloc | apply Kd.N_drewN | apply Kd.N_drew)); exact HNF.out) hb)
 replace HNS := Aside0.mk (Kd.N_below (by (with_reducible repeat (first | apply Kd.N_alloc | apply Kd.N_drewN | apply Kd.N_drew)); exact HNS.out) hb)
 replace HM := Aside0.mk (MSt.step (by first | exact HM.out | exact HM.out.drew | exact HM.out.alloc _ | exact (HM.out.alloc _).drew | exact HM.out.drew.alloc _ | exact (HM.out.drew.alloc _).drew) hb)
 clear hb
 refine hK.out _ _ ⟨(PSt.c0 (MSt.P (by first | exact HM.out | exact HM.out.drew | exact HM.out.alloc _ | exact (HM.out.alloc _).drew | exact HM.out.drew.alloc _ | exact (HM.out.drew.alloc _).drew))), (PSt.c1 (MSt.P (by first | exact HM.out | exact HM.out.drew | exact HM.out.alloc _ | exact (HM.out.alloc _).drew | exact HM.out.drew.alloc _ | exact (HM.out.drew.alloc _).drew))), (PSt.c2 (MSt.P (by first | exact HM.out | exact HM.out.drew | exact HM.out.alloc _ | exact (HM.out.alloc _).drew | exact HM.out.drew.alloc _ | exact (HM.out.drew.alloc _).drew))), ((blk_cell (MSt.q (by first | exact HM.out | exact HM.out.drew | exact HM.out.alloc _ | exact (HM.out.alloc _).drew | exact HM.out.drew.alloc _ | exact (HM.out.drew.alloc _).drew)) 0).trans rfl), ((blk_cell (MSt.q (by first | exact HM.out | exact HM.out.drew | exact HM.out.alloc _ | exact (HM.out.alloc _).drew | exact HM.out.drew.alloc _ | exact (HM.out.drew.alloc _).drew)) 1).trans rfl), ((blk_cell (MSt.q (by first | exact HM.out | exact HM.out.drew | exact HM.out.alloc _ | exact (HM.out.alloc _).drew | exact HM.out.drew.alloc _ | exact (HM.out.drew.alloc _).drew)) 2).trans rfl)⟩ (fun hHeld => ?_)
 clear hK K
 refine norm_ (a' := ?_) ?_ ?_
 rotate_left
 ·show Act.put _ (some 43) _ = _
  simp only [Act.put, List.setIfInBounds_toArray, List.set_cons_zero, List.set_cons_succ, i64_w, i32_w]
  rfl
 refine pT 3 (some 45) (zb 15 15) (h := ?_)
 refine pT 4 (some 46) (zb 15 31) (h := ?_)
 refine take_ (i := 5) (N := some 47) (v := ?_) (a' := ?_) (zb 15 63) rfl rfl (by kernel_rfl) (fun _ _ _ h => h) (Or.inl ⟨by rfl, ?_⟩) hHeld ?_ ?_
 rotate_left
 ·rintro w' ⟨s0, s1, s2, s3, s4, s5⟩
  go_simp
  with_reducible rfl
 rotate_left
 ·simp only [Act.put, List.setIfInBounds_toArray, List.set_cons_zero, List.set_cons_succ, i64_w, i32_w]
  rfl
 refine take_ (i := 7) (N := some 49) (v := ?_) (a' := ?_) (zb 15 191) rfl rfl (by kernel_rfl) (fun _ _ _ h => h) (Or.inl ⟨by rfl, ?_⟩) hHeld ?_ ?_
 rotate_left
 ·rintro w' ⟨s0, s1, s2, s3, s4, s5⟩
  go_simp
  with_reducible rfl
 rotate_left
 ·simp only [Act.put, List.setIfInBounds_toArray, List.set_cons_zero, List.set_cons_succ, i64_w, i32_w]
  rfl
 refine one_ (i := 6) (N := some 48) (zb 15 255) rfl rfl (by kernel_rfl) (by decide) (fun K hK => ?_)
 refine goes_ Try.func11 (by kernel_rfl) rfl #[.agg #[.slice (some ad) fs.length cf, .int .i64 mn, .slice As ss.length cs]] (by rfl) rfl rfl (by simp only [List.map_toArray, List.map_cons, List.map_nil]; rfl) ?_
 with_reducible refine (fun_Plain.calls k3 (some ad) cf fs mn As cs ss pv _ (PSt.f (MSt.P (by first | exact HM.out | exact HM.out.drew | exact HM.out.alloc _ | exact (HM.out.alloc _).drew | exact HM.out.drew.alloc _ | exact (HM.out.drew.alloc _).drew))) HM.out.P.fc (PSt.s (MSt.P (by first | exact HM.out | exact HM.out.drew | exact HM.out.alloc _ | exact (HM.out.alloc _).drew | exact HM.out.drew.alloc _ | exact (HM.out.drew.alloc _).drew))) HM.out.P.sc H3.out).mono ?_
 rintro r wb ⟨rfl, hb⟩
 refine ⟨_, rfl, ?_⟩
 replace HNF := Aside0.mk (Kd.N_below (by (with_reducible repeat (first | apply Kd.N_alloc | apply Kd.N_drewN | apply Kd.N_drew)); exact HNF.out) hb)
 replace HNS := Aside0.mk (Kd.N_below (by (with_reducible repeat (first | apply Kd.N_alloc | apply Kd.N_drewN | apply Kd.N_drew)); exact HNS.out) hb)
 replace HM := Aside0.mk (MSt.step (by first | exact HM.out | exact HM.out.drew | exact HM.out.alloc _ | exact (HM.out.alloc _).drew | exact HM.out.drew.alloc _ | exact (HM.out.drew.alloc _).drew) hb)
 clear hb
 refine hK.out _ _ ⟨(PSt.c0 (MSt.P (by first | exact HM.out | exact HM.out.drew | exact HM.out.alloc _ | exact (HM.out.alloc _).drew | exact HM.out.drew.alloc _ | exact (HM.out.drew.alloc _).drew))), (PSt.c1 (MSt.P (by first | exact HM.out | exact HM.out.drew | exact HM.out.alloc _ | exact (HM.out.alloc _).drew | exact HM.out.drew.alloc _ | exact (HM.out.drew.alloc _).drew))), (PSt.c2 (MSt.P (by first | exact HM.out | exact HM.out.drew | exact HM.out.alloc _ | exact (HM.out.alloc _).drew | exact HM.out.drew.alloc _ | exact (HM.out.drew.alloc _).drew))), ((blk_cell (MSt.q (by first | exact HM.out | exact HM.out.drew | exact HM.out.alloc _ | exact (HM.out.alloc _).drew | exact HM.out.drew.alloc _ | exact (HM.out.drew.alloc _).drew)) 0).trans rfl), ((blk_cell (MSt.q (by first | exact HM.out | exact HM.out.drew | exact HM.out.alloc _ | exact (HM.out.alloc _).drew | exact HM.out.drew.alloc _ | exact (HM.out.drew.alloc _).drew)) 1).trans rfl), ((blk_cell (MSt.q (by first | exact HM.out | exact HM.out.drew | exact HM.out.alloc _ | exact (HM.out.alloc _).drew | exact HM.out.drew.alloc _ | exact (HM.out.drew.alloc _).drew)) 2).trans rfl)⟩ (fun hHeld => ?_)
 clear hK K
 refine norm_ (a' := ?_) ?_ ?_
 rotate_left
 ·show Act.put _ (some 48) _ = _
  simp only [Act.put, List.setIfInBounds_toArray, List.set_cons_zero, List.set_cons_succ, i64_w, i32_w]
  rfl
 refine one_ (i := 8) (N := some 50) (zb 15 511) rfl rfl (by kernel_rfl) (by decide) (fun K hK => ?_)
 refine goes_ Try.func11 (by kernel_rfl) rfl #[.agg #[.slice A1 fs2.length c1_, .int .i64 mn, .slice A2 ss2.length c2_]] (by rfl) rfl rfl (by simp only [List.map_toArray, List.map_cons, List.map_nil]; rfl) ?_
 with_reducible refine (fun_Plain.calls k4 A1 c1_ fs2 mn A2 c2_ ss2 pv _ ?side1 ?side2 ?side3 ?side4 H4.out).mono ?_
 (case side1 => exact zC (Kd.N_reads' HNF.out).2.2)
 (case side2 => exact (Kd.N_reads' HNF.out).2.1)
 (case side3 => exact zC (Kd.N_reads' HNS.out).2.2)
 (case side4 => exact (Kd.N_reads' HNS.out).2.1)
 rintro r wc ⟨rfl, hb⟩
 refine ⟨_, rfl, ?_⟩
 replace HNF := Aside0.mk (Kd.N_below (by (with_reducible repeat (first | apply Kd.N_alloc | apply Kd.N_drewN | apply Kd.N_drew)); exact HNF.out) hb)
 replace HNS := Aside0.mk (Kd.N_below (by (with_reducible repeat (first | apply Kd.N_alloc | apply Kd.N_drewN | apply Kd.N_drew)); exact HNS.out) hb)
 replace HM := Aside0.mk (MSt.step (by first | exact HM.out | exact HM.out.drew | exact HM.out.alloc _ | exact (HM.out.alloc _).drew | exact HM.out.drew.alloc _ | exact (HM.out.drew.alloc _).drew) hb)
 clear hb
 refine hK.out _ _ ⟨(PSt.c0 (MSt.P (by first | exact HM.out | exact HM.out.drew | exact HM.out.alloc _ | exact (HM.out.alloc _).drew | exact HM.out.drew.alloc _ | exact (HM.out.drew.alloc _).drew))), (PSt.c1 (MSt.P (by first | exact HM.out | exact HM.out.drew | exact HM.out.alloc _ | exact (HM.out.alloc _).drew | exact HM.out.drew.alloc _ | exact (HM.out.drew.alloc _).drew))), (PSt.c2 (MSt.P (by first | exact HM.out | exact HM.out.drew | exact HM.out.alloc _ | exact (HM.out.alloc _).drew | exact HM.out.drew.alloc _ | exact (HM.out.drew.alloc _).drew))), ((blk_cell (MSt.q (by first | exact HM.out | exact HM.out.drew | exact HM.out.alloc _ | exact (HM.out.alloc _).drew | exact HM.out.drew.alloc _ | exact (HM.out.drew.alloc _).drew)) 0).trans rfl), ((blk_cell (MSt.q (by first | exact HM.out | exact HM.out.drew | exact HM.out.alloc _ | exact (HM.out.alloc _).drew | exact HM.out.drew.alloc _ | exact (HM.out.drew.alloc _).drew)) 1).trans rfl), ((blk_cell (MSt.q (by first | exact HM.out | exact HM.out.drew | exact HM.out.alloc _ | exact (HM.out.alloc _).drew | exact HM.out.drew.alloc _ | exact (HM.out.drew.alloc _).drew)) 2).trans rfl)⟩ (fun hHeld => ?_)
 clear hK K
 refine norm_ (a' := ?_) ?_ ?_
 rotate_left
 ·show Act.put _ (some 50) _ = _
  simp only [Act.put, List.setIfInBounds_toArray, List.set_cons_zero, List.set_cons_succ, i64_w, i32_w]
  rfl
 refine pT 9 (some 51) (zb 15 1023) (h := ?_)
 refine pT 10 (some 52) (zb 15 2047) (h := ?_)
 refine pT 11 (some 53) (zb 15 4095) (h := ?_)
 refine one_ (i := 12) (N := some 54) (zb 15 8191) rfl rfl (by kernel_rfl) (by decide) (fun K hK => ?_)
 refine goes_ Try.func8 (by kernel_rfl) rfl #[] (by rfl) rfl rfl (by simp) ?_
 with_reducible refine (balustradelaw16_works.calls kW  true _  HW.out).mono ?_
 rintro r wd ⟨rfl, hb⟩
 refine ⟨_, rfl, ?_⟩
 replace HNF := Aside0.mk (Kd.N_below (by (with_reducible repeat (first | apply Kd.N_alloc | apply Kd.N_drewN | apply Kd.N_drew)); exact HNF.out) hb)
 replace HNS := Aside0.mk (Kd.N_below (by (with_reducible repeat (first | apply Kd.N_alloc | apply Kd.N_drewN | apply Kd.N_drew)); exact HNS.out) hb)
 replace HM := Aside0.mk (MSt.step (by first | exact HM.out | exact HM.out.drew | exact HM.out.alloc _ | exact (HM.out.alloc _).drew | exact HM.out.drew.alloc _ | exact (HM.out.drew.alloc _).drew) hb)
 clear hb
 refine hK.out _ _ ⟨(PSt.c0 (MSt.P (by first | exact HM.out | exact HM.out.drew | exact HM.out.alloc _ | exact (HM.out.alloc _).drew | exact HM.out.drew.alloc _ | exact (HM.out.drew.alloc _).drew))), (PSt.c1 (MSt.P (by first | exact HM.out | exact HM.out.drew | exact HM.out.alloc _ | exact (HM.out.alloc _).drew | exact HM.out.drew.alloc _ | exact (HM.out.drew.alloc _).drew))), (PSt.c2 (MSt.P (by first | exact HM.out | exact HM.out.drew | exact HM.out.alloc _ | exact (HM.out.alloc _).drew | exact HM.out.drew.alloc _ | exact (HM.out.drew.alloc _).drew))), ((blk_cell (MSt.q (by first | exact HM.out | exact HM.out.drew | exact HM.out.alloc _ | exact (HM.out.alloc _).drew | exact HM.out.drew.alloc _ | exact (HM.out.drew.alloc _).drew)) 0).trans rfl), ((blk_cell (MSt.q (by first | exact HM.out | exact HM.out.drew | exact HM.out.alloc _ | exact (HM.out.alloc _).drew | exact HM.out.drew.alloc _ | exact (HM.out.drew.alloc _).drew)) 1).trans rfl), ((blk_cell (MSt.q (by first | exact HM.out | exact HM.out.drew | exact HM.out.alloc _ | exact (HM.out.alloc _).drew | exact HM.out.drew.alloc _ | exact (HM.out.drew.alloc _).drew)) 2).trans rfl)⟩ (fun hHeld => ?_)
 clear hK K
 refine norm_ (a' := ?_) ?_ ?_
 rotate_left
 ·show Act.put _ (some 54) _ = _
  simp only [Act.put, List.setIfInBounds_toArray, List.set_cons_zero, List.set_cons_succ, i64_w, i32_w]
  rfl
 refine pT 13 (some 55) (zb 15 16383) (h := ?_)
 refine pT 14 (some 4) (zb 15 32767) (h := ?_)
 refine done_ (by kernel_rfl) ?_
 clear hHeld
 go_wp2
 go_ret
 exact ⟨rfl, HM.out.P.B⟩
end Go.Proofs.Ytgbpkbfghonllaa.P

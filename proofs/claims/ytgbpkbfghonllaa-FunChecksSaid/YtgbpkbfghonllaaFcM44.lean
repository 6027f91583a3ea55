/- A part of it. -/
import Derived.Test.YtgbpkbfghonllaaFcRefFB
import Derived.Test.YtgbpkbfghonllaaFcP0
import Derived.Test.YtgbpkbfghonllaaFcP5
import Derived.Outline
set_option linter.unusedVariables false
set_option linter.unusedSimpArgs false
namespace Go.Proofs.Ytgbpkbfghonllaa.P
open Go Go.RowKit Go.Proofs.YtgbpkbfghonllaaW.PrintWords Go.Proofs.YtgbpkbfghonllaaW.PrintLast Go.Proofs.YtgbpkbfghonllaaW.PrintMore Go.Proofs.Ytgbpkbfghonllaa.Pure
attribute [local go_sem] max2_int min2_int max_two min_two
def readsR (L : LA) (x : S42) : List Int :=
 if x.f0 = 3 ∨ x.f0 = 4 then [rd L.rg x.f2, rd L.rg x.f2]
 else if x.f0 = 23 then [rd L.rg x.f1]
 else if x.f0 = 25 ∨ x.f0 = 42 then [2]
 else if x.f0 = 26 ∨ x.f0 = 27 ∨ x.f0 = 31 then [3]
 else if x.f0 = 29 ∨ x.f0 = 32 then [3, 1]
 else if x.f0 = 30 then [3, 1, 1]
 else if x.f0 = 39 then (rd_T39 L.fs x.f5).f3.take (max 0 (min (rd_T39 L.fs x.f5).f1 ((rd_T39 L.fs x.f5).f3.length : Int))).toNat
 else if x.f0 = 43 then [L.rt]
 else if x.f0 = 45 ∧ x.f6 = 21 then [3]
 else if x.f0 = 45 ∧ x.f6 = 20 then [1, 3]
 else List.replicate (usesI x).length (if x.f0 = 44 then rd L.rg x.f1 else 1)
def writesR (L : LA) (x : S42) : Int :=
 if x.f0 ≤ 8 ∨ x.f0 = 21 ∨ x.f0 = 25 ∨ x.f0 = 26 then 2
 else if x.f0 = 22 ∨ x.f0 = 28 ∨ (x.f0 = 45 ∧ x.f6 = 21) then 3
 else if x.f0 = 39 then (rd_T39 L.fs x.f5).f2
 else if x.f0 = 23 ∨ x.f0 = 44 then rd L.rg x.f1
 else 1
set_option maxHeartbeats 16000000 in
set_option maxRecDepth 100000 in
theorem rreads_at (L : LA) (x : S42) (A8 : Option Addr) (c8 : Nat) (w : World) (hL : LOk L w) (hA : (Kd.int .i64).C w A8 x.f8.length x.f8) (hc : x.f8.length ≤ c8) (hl : x.f8.length < 100000) (h2 : x.f0 = 3 ∨ x.f0 = 4 → 0 ≤ x.f2 ∧ x.f2 < (L.rg.length : Int)) (h1 : x.f0 = 23 ∨ x.f0 = 44 → 0 ≤ x.f1 ∧ x.f1 < (L.rg.length : Int)) (h5 : x.f0 = 39 → 0 ≤ x.f5 ∧ x.f5 < (L.fs.length : Int)) (rq : List Int) (hq : readsR L x = rq) :
  Calls Try.prog 61 #[.agg #[.slice L.Af L.fs.length L.cf, .int .i64 L.mn, .slice L.As L.ss.length L.cs], .agg #[.string L.nm, .int .i64 L.ps, .int .i64 L.rt, .slice L.Ar L.rg.length L.cr, .slice L.Ab L.bl.length L.cb], .agg #[.int .i64 x.f0, .int .i64 x.f1, .int .i64 x.f2, .int .i64 x.f3, .int .i64 x.f4, .int .i64 x.f5, .int .i64 x.f6, .int .i64 x.f7, .slice A8 x.f8.length c8]] w fun e w' => ∃ (A : Option Addr) (c : Nat), e = .returned (.slice A (rq).length c) ∧ (Kd.int .i64).C w' A (rq).length (rq) ∧ (rq).length ≤ c ∧ Below w.heap.size w w' := by
 obtain ⟨kU, hU⟩ := ruses_ev x hl
 have hul := usesI_le x hl
 have HS := Aside0.mk (RSt.start hL hA hc)
 have HL := Aside0.mk hl
 obtain ⟨uv, eu⟩ : ∃ r, usesI x = r := ⟨_, rfl⟩
 rw [eu] at hU hul
 have HU := Aside0.mk hU
 have LU := Aside0.mk hul
 clear hL hA hc hl hU hul
 go_enter Try.func61, Try.ntmps61
 go_upto_region 1 with (fail)
 generalize (((w.alloc (.cells #[.slice L.Af L.fs.length L.cf, .int .i64 L.mn, .slice L.As L.ss.length L.cs] 25)).alloc (.cells #[.string L.nm, .int .i64 L.ps, .int .i64 L.rt, .slice L.Ar L.rg.length L.cr, .slice L.Ab L.bl.length L.cb] 39)).alloc (.cells #[.int .i64 x.f0, .int .i64 x.f1, .int .i64 x.f2, .int .i64 x.f3, .int .i64 x.f4, .int .i64 x.f5, .int .i64 x.f6, .int .i64 x.f7, .slice A8 x.f8.length c8] 42)) = W at *
 obtain ⟨p0, p1_, p2_⟩ := HS.out.pc
 obtain ⟨f0, f1, f2, f3, f4⟩ := HS.out.fc
 obtain ⟨z0, z1, z2, z3, z4, z5, z6, z7, z8⟩ := HS.out.xc
 go_upto_region 2 with ((go_at_call 16; ((with_reducible refine (balustraderef15_Uses.calls kU x.f0 x.f1 x.f2 x.f3 x.f4 x.f5 x.f6 x.f7 A8 c8 x.f8 uv _ (RSt.a (by first | exact HS.out | exact HS.out.draw | exact HS.out.drawN _)) HS.out.ac HU.out).mono ?_); rintro e w' ⟨v_, rfl, hR_, hb⟩; (first | replace HS := Aside0.mk (HS.out.step hb) | replace HS := Aside0.mk (HS.out.draw.step hb) | replace HS := Aside0.mk ((HS.out.drawN _).step hb)); obtain ⟨Au, cu, rfl⟩ := Kd.R_slice hR_; have HRU := Aside0.mk (Kd.R_reads' hR_).2.2; clear hR_; clear hb; obtain ⟨p0, p1_, p2_⟩ := HS.out.pc; obtain ⟨f0, f1, f2, f3, f4⟩ := HS.out.fc; obtain ⟨z0, z1, z2, z3, z4, z5, z6, z7, z8⟩ := HS.out.xc)))
 clear p0 p1_ p2_ f0 f1 f2 f3 f4 z0 z1 z2 z3 z4 z5 z6 z7 z8
 obtain ⟨p0, p1_, p2_⟩ := HS.out.pc
 obtain ⟨f0, f1, f2, f3, f4⟩ := HS.out.fc
 obtain ⟨z0, z1, z2, z3, z4, z5, z6, z7, z8⟩ := HS.out.xc
 by_cases h : x.f0 = 3 ∨ x.f0 = 4
 ·have hrg := h2 h
  unfold readsR at hq
  repeat (first | rw [if_pos (by omega)] at hq | rw [if_neg (by omega)] at hq)
  subst hq
  clear h1 h2 h5 eu
  obtain ⟨qr, er, cr_⟩ := Kd.at_int HS.out.l.r x.f2 hrg.1 hrg.2
  rw [er] at f3
  have p1 := hrg.1
  have p2 := hrg.2
  clear hrg er
  rcases h with h | h
  all_goals
   go_upto_region 5 with (fail)
   clear h
   go_region_held3 (fun w' => w'.cell? ⟨w.heap.size + 1, 3, none⟩ = some (.slice (some qr) L.rg.length L.cr) ∧ w'.cell? ⟨w.heap.size + 2, 2, none⟩ = some (.int .i64 x.f2) ∧ w'.cell? (qr.add x.f2.toNat) = some (.int .i64 (rd L.rg x.f2))) (first | exact ⟨f3, z2, cr_⟩ | go_keep) (fail)
   all_goals
    go_wp2
    go_ret
    exact ⟨_, _, rfl, kc_lit _ [rd L.rg x.f2, rd L.rg x.f2] (by simp), Nat.le_refl _, below_drew (below_alloc HS.out.B _)⟩
 by_cases h : x.f0 = 23
 ·have hrg := h1 (.inl h)
  unfold readsR at hq
  repeat (first | rw [if_pos (by omega)] at hq | rw [if_neg (by omega)] at hq)
  subst hq
  clear h1 h2 h5 eu
  obtain ⟨qr, er, cr_⟩ := Kd.at_int HS.out.l.r x.f1 hrg.1 hrg.2
  rw [er] at f3
  have p1 := hrg.1
  have p2 := hrg.2
  clear hrg er
  go_wp2
  go_ret
  exact ⟨_, _, rfl, kc_lit _ [rd L.rg x.f1] (by simp), Nat.le_refl _, below_alloc HS.out.B _⟩
 by_cases h : x.f0 = 25 ∨ x.f0 = 42
 ·unfold readsR at hq
  repeat (first | rw [if_pos (by omega)] at hq | rw [if_neg (by omega)] at hq)
  subst hq
  clear h1 h2 h5 eu
  rcases h with h | h
  all_goals
   go_wp2
   go_ret
   exact ⟨_, _, rfl, kc_lit _ [2] (by simp), Nat.le_refl _, below_alloc HS.out.B _⟩
 by_cases h : x.f0 = 26 ∨ x.f0 = 27 ∨ x.f0 = 31
 ·unfold readsR at hq
  repeat (first | rw [if_pos (by omega)] at hq | rw [if_neg (by omega)] at hq)
  subst hq
  clear h1 h2 h5 eu
  rcases h with h | h | h
  all_goals
   go_wp2
   go_ret
   exact ⟨_, _, rfl, kc_lit _ [3] (by simp), Nat.le_refl _, below_alloc HS.out.B _⟩
 by_cases h : x.f0 = 29 ∨ x.f0 = 32
 ·unfold readsR at hq
  repeat (first | rw [if_pos (by omega)] at hq | rw [if_neg (by omega)] at hq)
  subst hq
  clear h1 h2 h5 eu
  rcases h with h | h
  all_goals
   go_wp2
   go_ret
   exact ⟨_, _, rfl, kc_lit _ [3, 1] (by simp), Nat.le_refl _, below_alloc HS.out.B _⟩
 by_cases h : x.f0 = 30
 ·unfold readsR at hq
  repeat (first | rw [if_pos (by omega)] at hq | rw [if_neg (by omega)] at hq)
  subst hq
  clear h1 h2 h5 eu
  go_wp2
  go_ret
  exact ⟨_, _, rfl, kc_lit _ [3, 1, 1] (by simp), Nat.le_refl _, below_alloc HS.out.B _⟩
 by_cases h : x.f0 = 39
 ·have hfs := h5 h
  unfold readsR at hq
  repeat (first | rw [if_pos (by omega)] at hq | rw [if_neg (by omega)] at hq)
  clear h1 h2 h5 eu
  have p1 := hfs.1
  have p2 := hfs.2
  obtain ⟨qf, g3, c3, g4, c4, ef, y0, y1, y2, y3, y4, ly3, Cy3, ly4, Cy4⟩ := at_T39 HS.out.l.f x.f5 hfs.1 hfs.2
  rw [ef] at p0
  obtain ⟨fn_, efn⟩ : ∃ r, rd_T39 L.fs x.f5 = r := ⟨_, rfl⟩
  rw [efn] at y0 y1 y2 y3 y4 ly3 Cy3 ly4 Cy4 hq
  clear ef efn hfs
  have CY := Aside0.mk Cy3
  have LY := Aside0.mk ly3
  clear Cy3 Cy4 ly3 ly4
  obtain ⟨ps, eps⟩ : ∃ r, fn_.f1 = r := ⟨_, rfl⟩
  rw [eps] at y1 hq
  obtain ⟨n3, en3⟩ : ∃ r, fn_.f3.length = r := ⟨_, rfl⟩
  obtain ⟨i3, hi3, _⟩ := Option.map_eq_some_iff.1 info3
  have hcut : ∀ j : Int, 0 ≤ j → j ≤ n3 → ∀ W : World, (Instr.slice 36 (.slice g3 n3 c3) none (some (.int .i64 j)) none).run Try.prog W = .ok (.slice g3 j.toNat c3) W := fun j h0 h1 => cut_to 36 3 .i64 Try.underlying36 hi3 g3 n3 c3 j h0 h1 (by rw [← en3]; exact LY.out)
  obtain ⟨Wb, eWb⟩ : ∃ q, q = w' := ⟨_, rfl⟩
  have htake : ∀ j : Int, 0 ≤ j → j ≤ n3 → ∀ W1, Below w'.heap.size w' W1 → (Kd.int .i64).C W1 g3 (fn_.f3.take j.toNat).length (fn_.f3.take j.toNat) ∧ (fn_.f3.take j.toNat).length = j.toNat := fun j h0 h1 W1 hb => ⟨Kd.C_take (Kd.C_below CY.out hb) (by omega), by rw [List.length_take]; omega⟩
  clear eWb
  rw [en3] at hq
  have hj : max 0 (min ps (n3 : Int)) = (if 0 < (if (n3 : Int) < ps then (n3 : Int) else ps) then (if (n3 : Int) < ps then (n3 : Int) else ps) else 0) := by
   (repeat' split) <;> omega
  rw [hj] at hq
  obtain ⟨m1, em1⟩ : ∃ r, (if (n3 : Int) < ps then (n3 : Int) else ps) = r := ⟨_, rfl⟩
  rw [em1] at hq
  have hm1 : m1 ≤ n3 := by rw [← em1]; split <;> omega
  obtain ⟨m2, em2⟩ : ∃ r, (if 0 < m1 then m1 else 0) = r := ⟨_, rfl⟩
  rw [em2] at hq
  subst hq
  have hm2 : 0 ≤ m2 ∧ m2 ≤ n3 := by rw [← em2]; constructor <;> split <;> omega
  rw [en3] at y3
  have hc2 := hcut m2 hm2.1 hm2.2
  have HT2 := Aside0.mk (htake m2 hm2.1 hm2.2)
  have EM1 := Aside0.mk em1
  have EM2 := Aside0.mk em2
  have HM2 := Aside0.mk (show m2.toNat ≤ c3 by have := LY.out; omega)
  clear hcut htake hj hm1 hm2 hi3 em1 em2
  go_upto_region 22 with (fail)
  have em1_ := EM1.out
  have em2_ := EM2.out
  have BF := blk_new w' (.cells #[.string fn_.f0, .int .i64 ps, .int .i64 fn_.f2, .slice g3 n3 c3, .slice g4 fn_.f4.length c4] 39)
  have q1 := blk_cell BF 1
  have q3 := blk_cell BF 3
  simp only [List.getElem?_toArray, List.getElem?_cons_zero, List.getElem?_cons_succ] at q1 q3
  have HB3 := Aside0.mk (below_alloc (Below.refl w'.heap.size w') (.cells #[.string fn_.f0, .int .i64 ps, .int .i64 fn_.f2, .slice g3 n3 c3, .slice g4 fn_.f4.length c4] 39))
  go_wp2
  go_ret
  exact ⟨g3, c3, by rw [(HT2.out w' (Below.refl _ _)).2]; rfl, (HT2.out _ HB3.out).1, by rw [(HT2.out w' (Below.refl _ _)).2]; exact HM2.out, below_step HS.out.B HB3.out⟩
 by_cases h : x.f0 = 43
 ·unfold readsR at hq
  repeat (first | rw [if_pos (by omega)] at hq | rw [if_neg (by omega)] at hq)
  subst hq
  clear h1 h2 h5 eu
  go_wp2
  go_ret
  exact ⟨_, _, rfl, kc_lit _ [L.rt] (by simp), Nat.le_refl _, below_alloc HS.out.B _⟩
 by_cases h : x.f0 = 45 ∧ x.f6 = 21
 ·obtain ⟨h, h6⟩ := h
  unfold readsR at hq
  repeat (first | rw [if_pos (by omega)] at hq | rw [if_neg (by omega)] at hq)
  subst hq
  clear h1 h2 h5 eu
  go_wp2
  go_ret
  exact ⟨_, _, rfl, kc_lit _ [3] (by simp), Nat.le_refl _, below_alloc HS.out.B _⟩
 by_cases h : x.f0 = 45 ∧ x.f6 = 20
 ·obtain ⟨h, h6⟩ := h
  unfold readsR at hq
  repeat (first | rw [if_pos (by omega)] at hq | rw [if_neg (by omega)] at hq)
  subst hq
  clear h1 h2 h5 eu
  go_wp2
  go_ret
  exact ⟨_, _, rfl, kc_lit _ [1, 3] (by simp), Nat.le_refl _, below_alloc HS.out.B _⟩
 unfold readsR at hq
 repeat (first | rw [if_neg (by assumption)] at hq | rw [if_neg (by omega)] at hq)
 rw [eu] at hq
 have GE : (x.f0 == 3) = false ∧ (x.f0 == 4) = false ∧ (x.f0 == 23) = false ∧ (x.f0 == 25) = false ∧ (x.f0 == 42) = false ∧ (x.f0 == 26) = false ∧ (x.f0 == 27) = false ∧ (x.f0 == 31) = false ∧ (x.f0 == 29) = false ∧ (x.f0 == 32) = false ∧ (x.f0 == 30) = false ∧ (x.f0 == 39) = false ∧ (x.f0 == 43) = false := by
  refine ⟨?_, ?_, ?_, ?_, ?_, ?_, ?_, ?_, ?_, ?_, ?_, ?_, ?_⟩
  all_goals exact beq_eq_false_iff_ne.mpr (by omega)
 obtain ⟨g1, g2, g3, g4, g5, g6, g7, g8, g9, g10, g11, g12, g13⟩ := GE
 have g14 : (x.f0 == 45) = false ∨ ((x.f6 == 21) = false ∧ (x.f6 == 20) = false) := by
  by_cases h45 : x.f0 = 45
  ·exact .inr ⟨beq_eq_false_iff_ne.mpr (by omega), beq_eq_false_iff_ne.mpr (by omega)⟩
  ·exact .inl (beq_eq_false_iff_ne.mpr h45)
 obtain ⟨Q, eQ⟩ : ∃ q, (if x.f0 = 44 then rd L.rg x.f1 else 1) = q := ⟨_, rfl⟩
 rw [eQ] at hq
 subst hq
 have HQ := Aside0.mk eQ
 have H1 := Aside0.mk h1
 obtain ⟨R, eR⟩ : ∃ r, (x.f0 == 45) = r := ⟨_, rfl⟩
 rw [eR] at g14
 clear h2 h1 h5 eu eQ h
 cases R
 ·go_wp2_with ((first | ((with_reducible refine gate_dst (N := 89) rfl ?_); refine Kd.R_lit (Kd.int .i64) _ 3 ?hg (N := 89) ?hd (xs := ([] : List Int)) (inner := []) (ok := fun _ => True) (okp := fun _ => True) ?hr ?hp (fun _ hk => hk) trivial (Below.refl _ _) (Nat.le_refl _) (by simp) ?_; (case hd => rfl); (case hg => rfl); (case hr => first | (go_simp; done) | (go_simp; rfl)); (case hp => exact (Reps.none _ _)); intro v1 w2 ho4 hb hg_ hnew_; clear hg_ hnew_; (try simp only [Int.reduceToNat] at ho4); have HO := Aside0.mk (Kd.R_mono (Kd.R_bound ho4) (ok' := fun k => w'.heap.size ≤ k) (fun k hk => hk.2.1)); have HB := Aside0.mk hb; clear ho4 hb)))
  go_loopw [9, 10] (fun v9 v10 wr => ∃ j : Nat, v10 = .int .i64 (j : Int) ∧ Aside0 (j ≤ uv.length) ∧ Aside0 ((Kd.int .i64).R 3 wr w'.heap.size (fun k => w'.heap.size ≤ k) v9 (List.replicate j Q)) ∧ Aside0 (Below w'.heap.size w' wr)) (fun v9 v10 wr => uv.length - (intOf v10).toNat)
  case atStart => exact ⟨0, rfl, ⟨Nat.zero_le _⟩, HO, HB⟩
  case round =>
   clear HO HB
   obtain ⟨j, rfl, HJ, HO, HB⟩ := hrel
   obtain ⟨Ao, co, rfl⟩ := Kd.R_slice HO.out
   by_cases hlt : j < uv.length
   rotate_left
   ·obtain rfl : j = uv.length := by have := HJ.out; omega
    have t1 : decide ((uv.length : Int) < (uv.length : Int)) = false := decide_eq_false (by omega)
    have t2 : decide (uv.length < uv.length) = false := decide_eq_false (by omega)
    have hR := Aside0.mk (Kd.R_reads' HO.out)
    go_wp2
    go_ret
    exact ⟨Ao, co, by first | rfl | (rw [List.length_replicate]; rfl), by first | exact hR.out.2.2 | (have h_ := hR.out.2.2; rwa [List.length_replicate] at h_), by have h_ := hR.out.2.1; first | exact h_ | (rw [List.length_replicate] at h_; exact h_), below_step HS.out.B HB.out⟩
   have HLT := Aside0.mk hlt
   have HLJ : Aside0 (j < 200000) := ⟨by have := LU.out; omega⟩
   have t1 : decide ((j : Int) < (uv.length : Int)) = true := decide_eq_true (by omega)
   have t2 : decide (j < uv.length) = true := decide_eq_true hlt
   have hwr : wrap64 ((j : Int) + 1) = ((j + 1 : Nat) : Int) := by have := LU.out; unfold wrap64; omega
   have HWR := Aside0.mk hwr
   clear hwr
   have y0 := pw_cell_below HB.out z0
   have y1 := pw_cell_below HB.out z1
   have y3 := pw_cell_below HB.out f3
   by_cases h44 : x.f0 = 44
   ·have s1 : (x.f0 == 44) = true := beq_iff_eq.mpr h44
    have hrg := H1.out (.inr h44)
    obtain ⟨qr, er, cr_⟩ := Kd.at_int HS.out.l.r x.f1 hrg.1 hrg.2
    rw [er] at y3
    replace cr_ := pw_cell_below HB.out cr_
    have hQ : rd L.rg x.f1 = Q := by rw [← HQ.out, if_pos h44]
    rw [hQ] at cr_
    have p1 := hrg.1
    have p2 := hrg.2
    clear h44 hrg er hQ
    go_wp2_with ((first | ((with_reducible refine gate_builtin (b := .append) (xs := #[.tmp 99, .tmp 106]) rfl ?_); at_builtin; refine Kd.R_append (Kd.int .i64) (w0 := w') w'.heap.size rfl (.tmp 99) (.tmp 106) 36 3 (.int .i64 0) 8 rfl Try.underlying36 info3 rfl (by decide) (by omega) _ (List.replicate j Q) (Q) [.int .i64 (Q)] (fun k => w'.heap.size ≤ k) (fun _ => False) rfl rfl ?aP (fun _ hk => hk.elim) ?aF ?aO ?aB ?aS ?aL ?_; (case aP => exact rfl); (case aB => exact HB.out); (case aF => exact fun k hk => Nat.le_trans (below_size HB.out) hk); (case aO => exact HO.out); (case aS => exact below_size HB.out); (case aL => have := HLJ.out; simp only [List.length_replicate]; omega); intro v2 w3 ho hb hg hat; clear hg hat; replace HO := Aside0.mk ho; replace HB := Aside0.mk hb; clear ho hb)))
    go_round
    case rel => exact ⟨j + 1, by first | (rw [HWR.out]; done) | (rw [HWR.out]) | go_num, HLT, ⟨by rw [List.replicate_succ']; exact HO.out⟩, HB⟩
    case measure => exact bd_meas2 _ _ _ (by first | exact HWR.out | omega) HLT.out
   ·have s1 : (x.f0 == 44) = false := beq_eq_false_iff_ne.mpr h44
    have hQ : (1 : Int) = Q := by rw [← HQ.out, if_neg h44]
    clear h44
    subst hQ
    go_wp2_with ((first | ((with_reducible refine gate_builtin (b := .append) (xs := #[.tmp 108, .tmp 109]) rfl ?_); at_builtin; refine Kd.R_append (Kd.int .i64) (w0 := w') w'.heap.size rfl (.tmp 108) (.tmp 109) 36 3 (.int .i64 0) 8 rfl Try.underlying36 info3 rfl (by decide) (by omega) _ (List.replicate j 1) (1) [.int .i64 (1)] (fun k => w'.heap.size ≤ k) (fun _ => False) rfl rfl ?aP (fun _ hk => hk.elim) ?aF ?aO ?aB ?aS ?aL ?_; (case aP => exact rfl); (case aB => exact HB.out); (case aF => exact fun k hk => Nat.le_trans (below_size HB.out) hk); (case aO => exact HO.out); (case aS => exact below_size HB.out); (case aL => have := HLJ.out; simp only [List.length_replicate]; omega); intro v2 w3 ho hb hg hat; clear hg hat; replace HO := Aside0.mk ho; replace HB := Aside0.mk hb; clear ho hb)))
    go_round
    case rel => exact ⟨j + 1, by first | (rw [HWR.out]; done) | (rw [HWR.out]) | go_num, HLT, ⟨by rw [List.replicate_succ']; exact HO.out⟩, HB⟩
    case measure => exact bd_meas2 _ _ _ (by first | exact HWR.out | omega) HLT.out
 rcases g14 with g14 | ⟨g14, g15⟩
 ·cases g14
 ·go_wp2_with ((first | ((with_reducible refine gate_dst (N := 89) rfl ?_); refine Kd.R_lit (Kd.int .i64) _ 3 ?hg (N := 89) ?hd (xs := ([] : List Int)) (inner := []) (ok := fun _ => True) (okp := fun _ => True) ?hr ?hp (fun _ hk => hk) trivial (Below.refl _ _) (Nat.le_refl _) (by simp) ?_; (case hd => rfl); (case hg => rfl); (case hr => first | (go_simp; done) | (go_simp; rfl)); (case hp => exact (Reps.none _ _)); intro v1 w2 ho4 hb hg_ hnew_; clear hg_ hnew_; (try simp only [Int.reduceToNat] at ho4); have HO := Aside0.mk (Kd.R_mono (Kd.R_bound ho4) (ok' := fun k => w'.heap.size ≤ k) (fun k hk => hk.2.1)); have HB := Aside0.mk hb; clear ho4 hb)))
  go_loopw [9, 10] (fun v9 v10 wr => ∃ j : Nat, v10 = .int .i64 (j : Int) ∧ Aside0 (j ≤ uv.length) ∧ Aside0 ((Kd.int .i64).R 3 wr w'.heap.size (fun k => w'.heap.size ≤ k) v9 (List.replicate j Q)) ∧ Aside0 (Below w'.heap.size w' wr)) (fun v9 v10 wr => uv.length - (intOf v10).toNat)
  case atStart => exact ⟨0, rfl, ⟨Nat.zero_le _⟩, HO, HB⟩
  case round =>
   clear HO HB
   obtain ⟨j, rfl, HJ, HO, HB⟩ := hrel
   obtain ⟨Ao, co, rfl⟩ := Kd.R_slice HO.out
   by_cases hlt : j < uv.length
   rotate_left
   ·obtain rfl : j = uv.length := by have := HJ.out; omega
    have t1 : decide ((uv.length : Int) < (uv.length : Int)) = false := decide_eq_false (by omega)
    have t2 : decide (uv.length < uv.length) = false := decide_eq_false (by omega)
    have hR := Aside0.mk (Kd.R_reads' HO.out)
    go_wp2
    go_ret
    exact ⟨Ao, co, by first | rfl | (rw [List.length_replicate]; rfl), by first | exact hR.out.2.2 | (have h_ := hR.out.2.2; rwa [List.length_replicate] at h_), by have h_ := hR.out.2.1; first | exact h_ | (rw [List.length_replicate] at h_; exact h_), below_step HS.out.B HB.out⟩
   have HLT := Aside0.mk hlt
   have HLJ : Aside0 (j < 200000) := ⟨by have := LU.out; omega⟩
   have t1 : decide ((j : Int) < (uv.length : Int)) = true := decide_eq_true (by omega)
   have t2 : decide (j < uv.length) = true := decide_eq_true hlt
   have hwr : wrap64 ((j : Int) + 1) = ((j + 1 : Nat) : Int) := by have := LU.out; unfold wrap64; omega
   have HWR := Aside0.mk hwr
   clear hwr
   have y0 := pw_cell_below HB.out z0
   have y1 := pw_cell_below HB.out z1
   have y3 := pw_cell_below HB.out f3
   by_cases h44 : x.f0 = 44
   ·have s1 : (x.f0 == 44) = true := beq_iff_eq.mpr h44
    have hrg := H1.out (.inr h44)
    obtain ⟨qr, er, cr_⟩ := Kd.at_int HS.out.l.r x.f1 hrg.1 hrg.2
    rw [er] at y3
    replace cr_ := pw_cell_below HB.out cr_
    have hQ : rd L.rg x.f1 = Q := by rw [← HQ.out, if_pos h44]
    rw [hQ] at cr_
    have p1 := hrg.1
    have p2 := hrg.2
    clear h44 hrg er hQ
    go_wp2_with ((first | ((with_reducible refine gate_builtin (b := .append) (xs := #[.tmp 99, .tmp 106]) rfl ?_); at_builtin; refine Kd.R_append (Kd.int .i64) (w0 := w') w'.heap.size rfl (.tmp 99) (.tmp 106) 36 3 (.int .i64 0) 8 rfl Try.underlying36 info3 rfl (by decide) (by omega) _ (List.replicate j Q) (Q) [.int .i64 (Q)] (fun k => w'.heap.size ≤ k) (fun _ => False) rfl rfl ?aP (fun _ hk => hk.elim) ?aF ?aO ?aB ?aS ?aL ?_; (case aP => exact rfl); (case aB => exact HB.out); (case aF => exact fun k hk => Nat.le_trans (below_size HB.out) hk); (case aO => exact HO.out); (case aS => exact below_size HB.out); (case aL => have := HLJ.out; simp only [List.length_replicate]; omega); intro v2 w3 ho hb hg hat; clear hg hat; replace HO := Aside0.mk ho; replace HB := Aside0.mk hb; clear ho hb)))
    go_round
    case rel => exact ⟨j + 1, by first | (rw [HWR.out]; done) | (rw [HWR.out]) | go_num, HLT, ⟨by rw [List.replicate_succ']; exact HO.out⟩, HB⟩
    case measure => exact bd_meas2 _ _ _ (by first | exact HWR.out | omega) HLT.out
   ·have s1 : (x.f0 == 44) = false := beq_eq_false_iff_ne.mpr h44
    have hQ : (1 : Int) = Q := by rw [← HQ.out, if_neg h44]
    clear h44
    subst hQ
    go_wp2_with ((first | ((with_reducible refine gate_builtin (b := .append) (xs := #[.tmp 108, .tmp 109]) rfl ?_); at_builtin; refine Kd.R_append (Kd.int .i64) (w0 := w') w'.heap.size rfl (.tmp 108) (.tmp 109) 36 3 (.int .i64 0) 8 rfl Try.underlying36 info3 rfl (by decide) (by omega) _ (List.replicate j 1) (1) [.int .i64 (1)] (fun k => w'.heap.size ≤ k) (fun _ => False) rfl rfl ?aP (fun _ hk => hk.elim) ?aF ?aO ?aB ?aS ?aL ?_; (case aP => exact rfl); (case aB => exact HB.out); (case aF => exact fun k hk => Nat.le_trans (below_size HB.out) hk); (case aO => exact HO.out); (case aS => exact below_size HB.out); (case aL => have := HLJ.out; simp only [List.length_replicate]; omega); intro v2 w3 ho hb hg hat; clear hg hat; replace HO := Aside0.mk ho; replace HB := Aside0.mk hb; clear ho hb)))
    go_round
    case rel => exact ⟨j + 1, by first | (rw [HWR.out]; done) | (rw [HWR.out]) | go_num, HLT, ⟨by rw [List.replicate_succ']; exact HO.out⟩, HB⟩
    case measure => exact bd_meas2 _ _ _ (by first | exact HWR.out | omega) HLT.out
end Go.Proofs.Ytgbpkbfghonllaa.P
set_option linter.unusedVariables false
set_option linter.unusedSimpArgs false
namespace Go.Proofs.Ytgbpkbfghonllaa.P
open Go Go.RowKit Go.Proofs.YtgbpkbfghonllaaW.PrintWords Go.Proofs.YtgbpkbfghonllaaW.PrintLast Go.Proofs.YtgbpkbfghonllaaW.PrintMore Go.Proofs.Ytgbpkbfghonllaa.Pure
attribute [local go_sem] max2_int min2_int max_two min_two
set_option maxHeartbeats 16000000 in
set_option maxRecDepth 100000 in
theorem rwrites_at (L : LA) (x : S42) (A8 : Option Addr) (c8 : Nat) (w : World) (hL : LOk L w) (hA : (Kd.int .i64).C w A8 x.f8.length x.f8) (hc : x.f8.length ≤ c8) (h1 : x.f0 = 23 ∨ x.f0 = 44 → 0 ≤ x.f1 ∧ x.f1 < (L.rg.length : Int)) (h5 : x.f0 = 39 → 0 ≤ x.f5 ∧ x.f5 < (L.fs.length : Int)) (kq : Int) (hq : writesR L x = kq) :
  Calls Try.prog 62 #[.agg #[.slice L.Af L.fs.length L.cf, .int .i64 L.mn, .slice L.As L.ss.length L.cs], .agg #[.string L.nm, .int .i64 L.ps, .int .i64 L.rt, .slice L.Ar L.rg.length L.cr, .slice L.Ab L.bl.length L.cb], .agg #[.int .i64 x.f0, .int .i64 x.f1, .int .i64 x.f2, .int .i64 x.f3, .int .i64 x.f4, .int .i64 x.f5, .int .i64 x.f6, .int .i64 x.f7, .slice A8 x.f8.length c8]] w fun e w' => e = .returned (.int .i64 kq) ∧ Below w.heap.size w w' := by
 have HS := Aside0.mk (RSt.start hL hA hc)
 clear hL hA hc
 go_enter Try.func62, Try.ntmps62
 go_upto_region 1 with (fail)
 generalize (((w.alloc (.cells #[.slice L.Af L.fs.length L.cf, .int .i64 L.mn, .slice L.As L.ss.length L.cs] 25)).alloc (.cells #[.string L.nm, .int .i64 L.ps, .int .i64 L.rt, .slice L.Ar L.rg.length L.cr, .slice L.Ab L.bl.length L.cb] 39)).alloc (.cells #[.int .i64 x.f0, .int .i64 x.f1, .int .i64 x.f2, .int .i64 x.f3, .int .i64 x.f4, .int .i64 x.f5, .int .i64 x.f6, .int .i64 x.f7, .slice A8 x.f8.length c8] 42)) = W at *
 obtain ⟨p0, p1_, p2_⟩ := HS.out.pc
 obtain ⟨f0, f1, f2, f3, f4⟩ := HS.out.fc
 obtain ⟨z0, z1, z2, z3, z4, z5, z6, z7, z8⟩ := HS.out.xc
 unfold writesR at hq
 by_cases h : x.f0 ≤ 8
 ·repeat (first | rw [if_pos (by omega)] at hq | rw [if_neg (by omega)] at hq)
  subst hq
  clear h1 h5
  have g1 : decide (x.f0 ≤ 8) = true := decide_eq_true h
  go_wp2
  go_ret
  exact ⟨rfl, HS.out.B⟩
 by_cases h : x.f0 = 21
 ·repeat (first | rw [if_pos (by omega)] at hq | rw [if_neg (by omega)] at hq)
  subst hq
  clear h1 h5
  go_wp2
  go_ret
  exact ⟨rfl, HS.out.B⟩
 by_cases h : x.f0 = 25
 ·repeat (first | rw [if_pos (by omega)] at hq | rw [if_neg (by omega)] at hq)
  subst hq
  clear h1 h5
  go_wp2
  go_ret
  exact ⟨rfl, HS.out.B⟩
 by_cases h : x.f0 = 26
 ·repeat (first | rw [if_pos (by omega)] at hq | rw [if_neg (by omega)] at hq)
  subst hq
  clear h1 h5
  go_wp2
  go_ret
  exact ⟨rfl, HS.out.B⟩
 by_cases h : x.f0 = 22
 ·repeat (first | rw [if_pos (by omega)] at hq | rw [if_neg (by omega)] at hq)
  subst hq
  clear h1 h5
  go_wp2
  go_ret
  exact ⟨rfl, HS.out.B⟩
 by_cases h : x.f0 = 28
 ·repeat (first | rw [if_pos (by omega)] at hq | rw [if_neg (by omega)] at hq)
  subst hq
  clear h1 h5
  go_wp2
  go_ret
  exact ⟨rfl, HS.out.B⟩
 by_cases h : x.f0 = 45 ∧ x.f6 = 21
 ·obtain ⟨h, h6⟩ := h
  repeat (first | rw [if_pos (by omega)] at hq | rw [if_neg (by omega)] at hq)
  subst hq
  clear h1 h5
  go_wp2
  go_ret
  exact ⟨rfl, HS.out.B⟩
 by_cases h : x.f0 = 39
 ·have hfs := h5 h
  repeat (first | rw [if_pos (by omega)] at hq | rw [if_neg (by omega)] at hq)
  subst hq
  have p1 := hfs.1
  have p2 := hfs.2
  obtain ⟨qf, g3, c3, g4, c4, ef, y0, y1, y2, y3, y4, ly3, Cy3, ly4, Cy4⟩ := at_T39 HS.out.l.f x.f5 hfs.1 hfs.2
  rw [ef] at p0
  clear h1 h5 ef hfs Cy3 Cy4
  go_wp2
  go_ret
  exact ⟨rfl, HS.out.B⟩
 by_cases h : x.f0 = 23
 ·have hrg := h1 (by omega)
  repeat (first | rw [if_pos (by omega)] at hq | rw [if_neg (by omega)] at hq)
  subst hq
  obtain ⟨qr, er, cr_⟩ := Kd.at_int HS.out.l.r x.f1 hrg.1 hrg.2
  rw [er] at f3
  have p1 := hrg.1
  have p2 := hrg.2
  clear h1 h5 hrg er
  go_wp2
  go_ret
  exact ⟨rfl, HS.out.B⟩
 by_cases h : x.f0 = 44
 ·have hrg := h1 (by omega)
  repeat (first | rw [if_pos (by omega)] at hq | rw [if_neg (by omega)] at hq)
  subst hq
  obtain ⟨qr, er, cr_⟩ := Kd.at_int HS.out.l.r x.f1 hrg.1 hrg.2
  rw [er] at f3
  have p1 := hrg.1
  have p2 := hrg.2
  clear h1 h5 hrg er
  go_wp2
  go_ret
  exact ⟨rfl, HS.out.B⟩
 repeat (first | rw [if_pos (by omega)] at hq | rw [if_neg (by omega)] at hq)
 subst hq
 have GE : decide (x.f0 ≤ 8) = false ∧ (x.f0 == 21) = false ∧ (x.f0 == 25) = false ∧ (x.f0 == 26) = false ∧ (x.f0 == 22) = false ∧ (x.f0 == 28) = false ∧ (x.f0 == 39) = false ∧ (x.f0 == 23) = false ∧ (x.f0 == 44) = false := by
  refine ⟨?_, ?_, ?_, ?_, ?_, ?_, ?_, ?_, ?_⟩
  all_goals first | exact decide_eq_false (by omega) | exact beq_eq_false_iff_ne.mpr (by omega)
 obtain ⟨g1, g2, g3, g4, g5, g6, g7, g8, g9⟩ := GE
 clear h1 h5
 by_cases h45 : x.f0 = 45
 ·have s1 : (x.f0 == 45) = true := beq_iff_eq.mpr h45
  have s2 : (x.f6 == 21) = false := beq_eq_false_iff_ne.mpr (by omega)
  clear h45
  go_wp2
  go_ret
  exact ⟨rfl, HS.out.B⟩
 ·have s1 : (x.f0 == 45) = false := beq_eq_false_iff_ne.mpr h45
  clear h45
  go_wp2
  go_ret
  exact ⟨rfl, HS.out.B⟩
end Go.Proofs.Ytgbpkbfghonllaa.P

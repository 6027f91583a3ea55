/- A part of it. -/
import Derived.Test.YtgbpkbfghonllaaFcM42
import Derived.Test.YtgbpkbfghonllaaFcM23
import Derived.Test.YtgbpkbfghonllaaFcP5
import Derived.Test.YtgbpkbfghonllaaFcP6
import Derived.Test.YtgbpkbfghonllaaFcP11
import Derived.Test.YtgbpkbfghonllaaFcP13
import Derived.Outline
set_option linter.unusedVariables false
set_option linter.unusedSimpArgs false
namespace Go.Proofs.Ytgbpkbfghonllaa.P
open Go Go.RowKit Go.Proofs.YtgbpkbfghonllaaW.PrintWords Go.Proofs.YtgbpkbfghonllaaW.PrintLast Go.Proofs.YtgbpkbfghonllaaW.PrintMore Go.Proofs.Ytgbpkbfghonllaa.Pure
attribute [local go_sem] max2_int min2_int max_two min_two
structure RSt (w : World) (L : LA) (x : S42) (A8 : Option Addr) (c8 : Nat) (W : World) : Prop where
 B : Below w.heap.size w W
 l : LOk L W
 a : (Kd.int .i64).C W A8 x.f8.length x.f8
 ac : x.f8.length ≤ c8
 bp : W.heap[w.heap.size]? = some (.cells #[.slice L.Af L.fs.length L.cf, .int .i64 L.mn, .slice L.As L.ss.length L.cs] 25 (0, 0))
 bf : W.heap[w.heap.size + 1]? = some (.cells #[.string L.nm, .int .i64 L.ps, .int .i64 L.rt, .slice L.Ar L.rg.length L.cr, .slice L.Ab L.bl.length L.cb] 39 (0, 0))
 bx : W.heap[w.heap.size + 2]? = some (.cells #[.int .i64 x.f0, .int .i64 x.f1, .int .i64 x.f2, .int .i64 x.f3, .int .i64 x.f4, .int .i64 x.f5, .int .i64 x.f6, .int .i64 x.f7, .slice A8 x.f8.length c8] 42 (0, 0))
section
variable {w W W1 : World} {L : LA} {x : S42} {A8 : Option Addr} {c8 : Nat}
theorem RSt.step (h : RSt w L x A8 c8 W) (hb : Below W.heap.size W W1) : RSt w L x A8 c8 W1 :=
 ⟨below_step h.B hb, h.l.below hb, Kd.C_below h.a hb, h.ac, blk_below h.bp hb, blk_below h.bf hb, blk_below h.bx hb⟩
theorem RSt.drawN (h : RSt w L x A8 c8 W) (n : Nat) : RSt w L x A8 c8 (W.drewN n) := h.step (pw_below_drewN (Below.refl _ _) n)
theorem RSt.draw (h : RSt w L x A8 c8 W) : RSt w L x A8 c8 W.drew := h.step (below_drew (Below.refl _ _))
theorem RSt.start (hL : LOk L w) (hA : (Kd.int .i64).C w A8 x.f8.length x.f8) (hc : x.f8.length ≤ c8) : RSt w L x A8 c8 (((w.alloc (.cells #[.slice L.Af L.fs.length L.cf, .int .i64 L.mn, .slice L.As L.ss.length L.cs] 25)).alloc (.cells #[.string L.nm, .int .i64 L.ps, .int .i64 L.rt, .slice L.Ar L.rg.length L.cr, .slice L.Ab L.bl.length L.cb] 39)).alloc (.cells #[.int .i64 x.f0, .int .i64 x.f1, .int .i64 x.f2, .int .i64 x.f3, .int .i64 x.f4, .int .i64 x.f5, .int .i64 x.f6, .int .i64 x.f7, .slice A8 x.f8.length c8] 42)) := by
 have b1 := below_alloc (Below.refl w.heap.size w) (.cells #[.slice L.Af L.fs.length L.cf, .int .i64 L.mn, .slice L.As L.ss.length L.cs] 25)
 have b2 : Below (w.alloc (.cells #[.slice L.Af L.fs.length L.cf, .int .i64 L.mn, .slice L.As L.ss.length L.cs] 25)).heap.size (w.alloc (.cells #[.slice L.Af L.fs.length L.cf, .int .i64 L.mn, .slice L.As L.ss.length L.cs] 25)) ((w.alloc (.cells #[.slice L.Af L.fs.length L.cf, .int .i64 L.mn, .slice L.As L.ss.length L.cs] 25)).alloc (.cells #[.string L.nm, .int .i64 L.ps, .int .i64 L.rt, .slice L.Ar L.rg.length L.cr, .slice L.Ab L.bl.length L.cb] 39)) := below_alloc (Below.refl _ _) _
 have b3 : Below ((w.alloc (.cells #[.slice L.Af L.fs.length L.cf, .int .i64 L.mn, .slice L.As L.ss.length L.cs] 25)).alloc (.cells #[.string L.nm, .int .i64 L.ps, .int .i64 L.rt, .slice L.Ar L.rg.length L.cr, .slice L.Ab L.bl.length L.cb] 39)).heap.size ((w.alloc (.cells #[.slice L.Af L.fs.length L.cf, .int .i64 L.mn, .slice L.As L.ss.length L.cs] 25)).alloc (.cells #[.string L.nm, .int .i64 L.ps, .int .i64 L.rt, .slice L.Ar L.rg.length L.cr, .slice L.Ab L.bl.length L.cb] 39)) (((w.alloc (.cells #[.slice L.Af L.fs.length L.cf, .int .i64 L.mn, .slice L.As L.ss.length L.cs] 25)).alloc (.cells #[.string L.nm, .int .i64 L.ps, .int .i64 L.rt, .slice L.Ar L.rg.length L.cr, .slice L.Ab L.bl.length L.cb] 39)).alloc (.cells #[.int .i64 x.f0, .int .i64 x.f1, .int .i64 x.f2, .int .i64 x.f3, .int .i64 x.f4, .int .i64 x.f5, .int .i64 x.f6, .int .i64 x.f7, .slice A8 x.f8.length c8] 42)) := below_alloc (Below.refl _ _) _
 refine ⟨below_step (below_step b1 b2) b3, ((hL.below b1).below b2).below b3, Kd.C_below (Kd.C_below (Kd.C_below hA b1) b2) b3, hc, blk_below (blk_below (blk_new _ _) b2) b3, blk_below ?_ b3, ?_⟩
 ·have h := blk_new (w.alloc (.cells #[.slice L.Af L.fs.length L.cf, .int .i64 L.mn, .slice L.As L.ss.length L.cs] 25)) (.cells #[.string L.nm, .int .i64 L.ps, .int .i64 L.rt, .slice L.Ar L.rg.length L.cr, .slice L.Ab L.bl.length L.cb] 39)
  simpa only [World.size_alloc] using h
 ·have h := blk_new ((w.alloc (.cells #[.slice L.Af L.fs.length L.cf, .int .i64 L.mn, .slice L.As L.ss.length L.cs] 25)).alloc (.cells #[.string L.nm, .int .i64 L.ps, .int .i64 L.rt, .slice L.Ar L.rg.length L.cr, .slice L.Ab L.bl.length L.cb] 39)) (.cells #[.int .i64 x.f0, .int .i64 x.f1, .int .i64 x.f2, .int .i64 x.f3, .int .i64 x.f4, .int .i64 x.f5, .int .i64 x.f6, .int .i64 x.f7, .slice A8 x.f8.length c8] 42)
  simpa only [World.size_alloc] using h
theorem RSt.pc (h : RSt w L x A8 c8 W) : W.cell? ⟨w.heap.size, 0, none⟩ = some (.slice L.Af L.fs.length L.cf) ∧ W.cell? ⟨w.heap.size, 1, none⟩ = some (.int .i64 L.mn) ∧ W.cell? ⟨w.heap.size, 2, none⟩ = some (.slice L.As L.ss.length L.cs) := by
 refine ⟨?_, ?_, ?_⟩
 all_goals exact (blk_cell h.bp _).trans rfl
theorem RSt.fc (h : RSt w L x A8 c8 W) : W.cell? ⟨w.heap.size + 1, 0, none⟩ = some (.string L.nm) ∧ W.cell? ⟨w.heap.size + 1, 1, none⟩ = some (.int .i64 L.ps) ∧ W.cell? ⟨w.heap.size + 1, 2, none⟩ = some (.int .i64 L.rt) ∧ W.cell? ⟨w.heap.size + 1, 3, none⟩ = some (.slice L.Ar L.rg.length L.cr) ∧ W.cell? ⟨w.heap.size + 1, 4, none⟩ = some (.slice L.Ab L.bl.length L.cb) := by
 refine ⟨?_, ?_, ?_, ?_, ?_⟩
 all_goals exact (blk_cell h.bf _).trans rfl
theorem RSt.xc (h : RSt w L x A8 c8 W) : W.cell? ⟨w.heap.size + 2, 0, none⟩ = some (.int .i64 x.f0) ∧ W.cell? ⟨w.heap.size + 2, 1, none⟩ = some (.int .i64 x.f1) ∧ W.cell? ⟨w.heap.size + 2, 2, none⟩ = some (.int .i64 x.f2) ∧ W.cell? ⟨w.heap.size + 2, 3, none⟩ = some (.int .i64 x.f3) ∧ W.cell? ⟨w.heap.size + 2, 4, none⟩ = some (.int .i64 x.f4) ∧ W.cell? ⟨w.heap.size + 2, 5, none⟩ = some (.int .i64 x.f5) ∧ W.cell? ⟨w.heap.size + 2, 6, none⟩ = some (.int .i64 x.f6) ∧ W.cell? ⟨w.heap.size + 2, 7, none⟩ = some (.int .i64 x.f7) ∧ W.cell? ⟨w.heap.size + 2, 8, none⟩ = some (.slice A8 x.f8.length c8) := by
 refine ⟨?_, ?_, ?_, ?_, ?_, ?_, ?_, ?_, ?_⟩
 all_goals exact (blk_cell h.bx _).trans rfl
end
def thereP (L : LA) (pv : Int) (x : S42) : Bool :=
 decide (defI x < (L.rg.length : Int)) && (usesI x).all (fun r => decide (r < (L.rg.length : Int))) && (targetsI x).all (fun t => decide (0 < t) && decide (t < (L.bl.length : Int))) &&
  (if x.f0 = 39 then decide (x.f5 < (L.fs.length : Int)) else if x.f0 = 44 then decide ((x.f8.length : Int) = pv) else if checkI x.f0 then decide (x.f7 < (L.ss.length : Int)) && decide ((rd_T48 L.ss x.f7).f0 = trapI x.f0) else true)
theorem rdef (x : S42) (h : x.f8.length < 100000) : balustraderef15_Def.f x.f0 x.f1 x.f2 x.f3 x.f4 x.f5 x.f6 x.f7 x.f8 = some (defI x) := refDef_val x.f0 x.f1 x.f2 x.f3 x.f4 x.f5 x.f6 x.f7 x.f8 (by omega)
theorem ruses_ev (x : S42) (h : x.f8.length < 100000) : ∃ k, balustraderef15_Uses.f k x.f0 x.f1 x.f2 x.f3 x.f4 x.f5 x.f6 x.f7 x.f8 = some (usesI x) := (refUses_ev x.f0 x.f1 x.f2 x.f3 x.f4 x.f5 x.f6 x.f7 x.f8 (by omega)).rounds
theorem rtargets_ev (x : S42) (h : x.f8.length < 100000) : ∃ k, balustraderef15_Targets.f k x.f0 x.f1 x.f2 x.f3 x.f4 x.f5 x.f6 x.f7 x.f8 = some (targetsI x) := (refTargets_ev x.f0 x.f1 x.f2 x.f3 x.f4 x.f5 x.f6 x.f7 x.f8 (by omega)).rounds
theorem rcheck (op : Int) : balustraderef15_Check.f op = some (checkI op) := (check_val op).symm.trans (check_f op)
theorem rtrap (op : Int) : balustraderef15_Trap.f op = some (trapI op) := by
 obtain ⟨v, h1, h2⟩ := trap_val op
 rw [h2, ← h1, trap_f]
theorem all_bad {l : List Int} {p : Int → Bool} {j : Nat} (hj : j < l.length) (h : p (l.getD j 0) = false) : l.all p = false := by
 rw [List.all_eq_false]
 refine ⟨l.getD j 0, ?_, by rw [h]; simp⟩
 rw [List.getD_eq_getElem?_getD, List.getElem?_eq_getElem hj]
 exact List.getElem_mem hj
theorem all_ok {l : List Int} {p : Int → Bool} (h : ∀ j, j < l.length → p (l.getD j 0) = true) : l.all p = true := by
 rw [List.all_eq_true]
 intro y hy
 obtain ⟨j, hj, rfl⟩ := List.getElem_of_mem hy
 have := h j hj
 rwa [List.getD_eq_getElem?_getD, List.getElem?_eq_getElem hj] at this
set_option maxHeartbeats 16000000 in
set_option maxRecDepth 100000 in
theorem rthere_at (L : LA) (k : Nat) (x : S42) (A8 : Option Addr) (c8 : Nat) (w : World) (hL : LOk L w) (kP : Nat) (pv : Int) (hP : balustraderef16_Preds.f kP L.nm L.ps L.rt L.rg L.bl (k : Int) = some pv) (hA : (Kd.int .i64).C w A8 x.f8.length x.f8) (hc : x.f8.length ≤ c8) (hl : x.f8.length < 100000) (hR : rightI x = true) (res : Bool) (hres : thereP L pv x = res) :
  Calls Try.prog 59 #[.agg #[.slice L.Af L.fs.length L.cf, .int .i64 L.mn, .slice L.As L.ss.length L.cs], .agg #[.string L.nm, .int .i64 L.ps, .int .i64 L.rt, .slice L.Ar L.rg.length L.cr, .slice L.Ab L.bl.length L.cb], .int .i64 (k : Int), .agg #[.int .i64 x.f0, .int .i64 x.f1, .int .i64 x.f2, .int .i64 x.f3, .int .i64 x.f4, .int .i64 x.f5, .int .i64 x.f6, .int .i64 x.f7, .slice A8 x.f8.length c8]] w fun e w' => e = .returned (.bool res) ∧ Below w.heap.size w w' := by
 unfold thereP at hres
 have hD := rdef x hl
 obtain ⟨kU, hU⟩ := ruses_ev x hl
 obtain ⟨kT, hT⟩ := rtargets_ev x hl
 have hu := usesI_le x hl
 have ht := targetsI_le x
 have htp := targets_pos x
 have h7 := right_f7 x hR
 obtain ⟨dv, ed⟩ : ∃ r, defI x = r := ⟨_, rfl⟩
 obtain ⟨uv, eu⟩ : ∃ r, usesI x = r := ⟨_, rfl⟩
 obtain ⟨tv, et⟩ : ∃ r, targetsI x = r := ⟨_, rfl⟩
 rw [ed] at hD hres
 rw [eu] at hU hres hu
 rw [et] at hT hres ht htp
 have HD := Aside0.mk hD
 have HU := Aside0.mk hU
 have HT := Aside0.mk hT
 have HP := Aside0.mk hP
 have HRES := Aside0.mk hres
 have LU := Aside0.mk hu
 have LT := Aside0.mk (show tv.length < 200000 by omega)
 have HTP := Aside0.mk htp
 have H7 := Aside0.mk h7
 have HC := Aside0.mk (rcheck x.f0)
 have HTR := Aside0.mk (rtrap x.f0)
 have HS := Aside0.mk (RSt.start hL hA hc)
 clear hD hU hT hP hres hu ht htp h7 hR hL hA hc hl ed eu et
 go_enter Try.func59, Try.ntmps59
 go_upto_region 1 with (fail)
 generalize (((w.alloc (.cells #[.slice L.Af L.fs.length L.cf, .int .i64 L.mn, .slice L.As L.ss.length L.cs] 25)).alloc (.cells #[.string L.nm, .int .i64 L.ps, .int .i64 L.rt, .slice L.Ar L.rg.length L.cr, .slice L.Ab L.bl.length L.cb] 39)).alloc (.cells #[.int .i64 x.f0, .int .i64 x.f1, .int .i64 x.f2, .int .i64 x.f3, .int .i64 x.f4, .int .i64 x.f5, .int .i64 x.f6, .int .i64 x.f7, .slice A8 x.f8.length c8] 42)) = W at *
 by_cases hdv : dv < (L.rg.length : Int)
 rotate_left
 ·have g1 : decide (dv ≥ (L.rg.length : Int)) = true := decide_eq_true (by omega)
  have g2 : decide ((L.rg.length : Int) ≤ dv) = true := decide_eq_true (by omega)
  have hr := HRES.out
  rw [decide_eq_false hdv, Bool.false_and] at hr
  replace HRES := Aside0.mk hr
  clear hr hdv
  go_region_held3 (fun w' => (w'.cell? ⟨w.heap.size, 0, none⟩ = some (.slice L.Af L.fs.length L.cf) ∧ w'.cell? ⟨w.heap.size, 1, none⟩ = some (.int .i64 L.mn) ∧ w'.cell? ⟨w.heap.size, 2, none⟩ = some (.slice L.As L.ss.length L.cs)) ∧ (w'.cell? ⟨w.heap.size + 1, 0, none⟩ = some (.string L.nm) ∧ w'.cell? ⟨w.heap.size + 1, 1, none⟩ = some (.int .i64 L.ps) ∧ w'.cell? ⟨w.heap.size + 1, 2, none⟩ = some (.int .i64 L.rt) ∧ w'.cell? ⟨w.heap.size + 1, 3, none⟩ = some (.slice L.Ar L.rg.length L.cr) ∧ w'.cell? ⟨w.heap.size + 1, 4, none⟩ = some (.slice L.Ab L.bl.length L.cb)) ∧ (w'.cell? ⟨w.heap.size + 2, 0, none⟩ = some (.int .i64 x.f0) ∧ w'.cell? ⟨w.heap.size + 2, 1, none⟩ = some (.int .i64 x.f1) ∧ w'.cell? ⟨w.heap.size + 2, 2, none⟩ = some (.int .i64 x.f2) ∧ w'.cell? ⟨w.heap.size + 2, 3, none⟩ = some (.int .i64 x.f3) ∧ w'.cell? ⟨w.heap.size + 2, 4, none⟩ = some (.int .i64 x.f4) ∧ w'.cell? ⟨w.heap.size + 2, 5, none⟩ = some (.int .i64 x.f5) ∧ w'.cell? ⟨w.heap.size + 2, 6, none⟩ = some (.int .i64 x.f6) ∧ w'.cell? ⟨w.heap.size + 2, 7, none⟩ = some (.int .i64 x.f7) ∧ w'.cell? ⟨w.heap.size + 2, 8, none⟩ = some (.slice A8 x.f8.length c8))) (first | exact ⟨HS.out.pc, HS.out.fc, HS.out.xc⟩ | exact ⟨HS.out.draw.pc, HS.out.draw.fc, HS.out.draw.xc⟩ | go_keep) (first | (go_at_call 17; ((with_reducible refine (balustraderef15_Def.calls x.f0 x.f1 x.f2 x.f3 x.f4 x.f5 x.f6 x.f7 A8 c8 x.f8 dv _ (RSt.a (by first | exact HS.out | exact HS.out.draw | exact HS.out.drawN _)) HS.out.ac HD.out).mono ?_); rintro e w' ⟨rfl, hb⟩; (first | replace HS := Aside0.mk (HS.out.step hb) | replace HS := Aside0.mk (HS.out.draw.step hb) | replace HS := Aside0.mk ((HS.out.drawN _).step hb)); clear hb; obtain ⟨p0, p1_, p2_⟩ := HS.out.pc; obtain ⟨f0, f1, f2, f3, f4⟩ := HS.out.fc; obtain ⟨z0, z1, z2, z3, z4, z5, z6, z7, z8⟩ := HS.out.xc)))
  all_goals
   go_wp2
   go_ret
   exact ⟨by rw [← HRES.out]; rfl, by first | exact HS.out.B | exact HS.out.draw.B | exact (HS.out.drawN _).B | exact ((HS.out.drawN _).drawN _).B | (rw [← World.drewN_drewN]; exact (HS.out.drawN _).B)⟩
 have g1 : decide (dv ≥ (L.rg.length : Int)) = false := decide_eq_false (by omega)
 have g2 : decide ((L.rg.length : Int) ≤ dv) = false := decide_eq_false (by omega)
 have hr := HRES.out
 rw [decide_eq_true hdv, Bool.true_and] at hr
 replace HRES := Aside0.mk hr
 clear hr hdv
 go_region_held3 (fun w' => (w'.cell? ⟨w.heap.size, 0, none⟩ = some (.slice L.Af L.fs.length L.cf) ∧ w'.cell? ⟨w.heap.size, 1, none⟩ = some (.int .i64 L.mn) ∧ w'.cell? ⟨w.heap.size, 2, none⟩ = some (.slice L.As L.ss.length L.cs)) ∧ (w'.cell? ⟨w.heap.size + 1, 0, none⟩ = some (.string L.nm) ∧ w'.cell? ⟨w.heap.size + 1, 1, none⟩ = some (.int .i64 L.ps) ∧ w'.cell? ⟨w.heap.size + 1, 2, none⟩ = some (.int .i64 L.rt) ∧ w'.cell? ⟨w.heap.size + 1, 3, none⟩ = some (.slice L.Ar L.rg.length L.cr) ∧ w'.cell? ⟨w.heap.size + 1, 4, none⟩ = some (.slice L.Ab L.bl.length L.cb)) ∧ (w'.cell? ⟨w.heap.size + 2, 0, none⟩ = some (.int .i64 x.f0) ∧ w'.cell? ⟨w.heap.size + 2, 1, none⟩ = some (.int .i64 x.f1) ∧ w'.cell? ⟨w.heap.size + 2, 2, none⟩ = some (.int .i64 x.f2) ∧ w'.cell? ⟨w.heap.size + 2, 3, none⟩ = some (.int .i64 x.f3) ∧ w'.cell? ⟨w.heap.size + 2, 4, none⟩ = some (.int .i64 x.f4) ∧ w'.cell? ⟨w.heap.size + 2, 5, none⟩ = some (.int .i64 x.f5) ∧ w'.cell? ⟨w.heap.size + 2, 6, none⟩ = some (.int .i64 x.f6) ∧ w'.cell? ⟨w.heap.size + 2, 7, none⟩ = some (.int .i64 x.f7) ∧ w'.cell? ⟨w.heap.size + 2, 8, none⟩ = some (.slice A8 x.f8.length c8))) (first | exact ⟨HS.out.pc, HS.out.fc, HS.out.xc⟩ | exact ⟨HS.out.draw.pc, HS.out.draw.fc, HS.out.draw.xc⟩ | go_keep) (first | (go_at_call 17; ((with_reducible refine (balustraderef15_Def.calls x.f0 x.f1 x.f2 x.f3 x.f4 x.f5 x.f6 x.f7 A8 c8 x.f8 dv _ (RSt.a (by first | exact HS.out | exact HS.out.draw | exact HS.out.drawN _)) HS.out.ac HD.out).mono ?_); rintro e w' ⟨rfl, hb⟩; (first | replace HS := Aside0.mk (HS.out.step hb) | replace HS := Aside0.mk (HS.out.draw.step hb) | replace HS := Aside0.mk ((HS.out.drawN _).step hb)); clear hb; obtain ⟨p0, p1_, p2_⟩ := HS.out.pc; obtain ⟨f0, f1, f2, f3, f4⟩ := HS.out.fc; obtain ⟨z0, z1, z2, z3, z4, z5, z6, z7, z8⟩ := HS.out.xc)))
 go_upto_region 3 with (fail)
 obtain ⟨p0, p1_, p2_⟩ := HS.out.pc
 obtain ⟨f0, f1, f2, f3, f4⟩ := HS.out.fc
 obtain ⟨z0, z1, z2, z3, z4, z5, z6, z7, z8⟩ := HS.out.xc
 go_region_held3 (fun w' => (w'.cell? ⟨w.heap.size, 0, none⟩ = some (.slice L.Af L.fs.length L.cf) ∧ w'.cell? ⟨w.heap.size, 1, none⟩ = some (.int .i64 L.mn) ∧ w'.cell? ⟨w.heap.size, 2, none⟩ = some (.slice L.As L.ss.length L.cs)) ∧ (w'.cell? ⟨w.heap.size + 1, 0, none⟩ = some (.string L.nm) ∧ w'.cell? ⟨w.heap.size + 1, 1, none⟩ = some (.int .i64 L.ps) ∧ w'.cell? ⟨w.heap.size + 1, 2, none⟩ = some (.int .i64 L.rt) ∧ w'.cell? ⟨w.heap.size + 1, 3, none⟩ = some (.slice L.Ar L.rg.length L.cr) ∧ w'.cell? ⟨w.heap.size + 1, 4, none⟩ = some (.slice L.Ab L.bl.length L.cb)) ∧ (w'.cell? ⟨w.heap.size + 2, 0, none⟩ = some (.int .i64 x.f0) ∧ w'.cell? ⟨w.heap.size + 2, 1, none⟩ = some (.int .i64 x.f1) ∧ w'.cell? ⟨w.heap.size + 2, 2, none⟩ = some (.int .i64 x.f2) ∧ w'.cell? ⟨w.heap.size + 2, 3, none⟩ = some (.int .i64 x.f3) ∧ w'.cell? ⟨w.heap.size + 2, 4, none⟩ = some (.int .i64 x.f4) ∧ w'.cell? ⟨w.heap.size + 2, 5, none⟩ = some (.int .i64 x.f5) ∧ w'.cell? ⟨w.heap.size + 2, 6, none⟩ = some (.int .i64 x.f6) ∧ w'.cell? ⟨w.heap.size + 2, 7, none⟩ = some (.int .i64 x.f7) ∧ w'.cell? ⟨w.heap.size + 2, 8, none⟩ = some (.slice A8 x.f8.length c8))) (first | exact ⟨HS.out.pc, HS.out.fc, HS.out.xc⟩ | exact ⟨HS.out.draw.pc, HS.out.draw.fc, HS.out.draw.xc⟩ | go_keep) (first | (go_at_call 16; ((with_reducible refine (balustraderef15_Uses.calls kU x.f0 x.f1 x.f2 x.f3 x.f4 x.f5 x.f6 x.f7 A8 c8 x.f8 uv _ (RSt.a (by first | exact HS.out | exact HS.out.draw | exact HS.out.drawN _)) HS.out.ac HU.out).mono ?_); rintro e w' ⟨v_, rfl, hR_, hb⟩; (first | replace HS := Aside0.mk (HS.out.step hb) | replace HS := Aside0.mk (HS.out.draw.step hb) | replace HS := Aside0.mk ((HS.out.drawN _).step hb)); obtain ⟨Au, cu, rfl⟩ := Kd.R_slice hR_; have HRU := Aside0.mk (Kd.R_reads' hR_).2.2; clear hR_; clear hb; obtain ⟨p0, p1_, p2_⟩ := HS.out.pc; obtain ⟨f0, f1, f2, f3, f4⟩ := HS.out.fc; obtain ⟨z0, z1, z2, z3, z4, z5, z6, z7, z8⟩ := HS.out.xc)) | (go_at_call 18; ((with_reducible refine (balustraderef15_Targets.calls kT x.f0 x.f1 x.f2 x.f3 x.f4 x.f5 x.f6 x.f7 A8 c8 x.f8 tv _ (RSt.a (by first | exact HS.out | exact HS.out.draw | exact HS.out.drawN _)) HS.out.ac HT.out).mono ?_); rintro e w' ⟨v_, rfl, hR_, hb⟩; (first | replace HS := Aside0.mk (HS.out.step hb) | replace HS := Aside0.mk (HS.out.draw.step hb) | replace HS := Aside0.mk ((HS.out.drawN _).step hb)); obtain ⟨At, ct, rfl⟩ := Kd.R_slice hR_; have HRT := Aside0.mk (Kd.R_reads' hR_).2.2; replace HRU := Aside0.mk (Kd.C_below HRU.out hb); clear hR_; clear hb; obtain ⟨p0, p1_, p2_⟩ := HS.out.pc; obtain ⟨f0, f1, f2, f3, f4⟩ := HS.out.fc; obtain ⟨z0, z1, z2, z3, z4, z5, z6, z7, z8⟩ := HS.out.xc)))
 go_wp2
 go_loopw [11] (fun v11 wr => ∃ j : Nat, v11 = .int .i64 (j : Int) ∧ Aside0 (j ≤ uv.length ∧ ∀ i, i < j → decide (uv.getD i 0 < (L.rg.length : Int)) = true) ∧ Aside0 (RSt w L x A8 c8 wr) ∧ Aside0 ((Kd.int .i64).C wr Au uv.length uv) ∧ Aside0 ((Kd.int .i64).C wr At tv.length tv)) (fun v11 wr => uv.length - (intOf v11).toNat)
 case atStart => exact ⟨0, rfl, ⟨Nat.zero_le _, fun i hi => absurd hi (Nat.not_lt_zero i)⟩, HS, HRU, HRT⟩
 case round =>
  clear HS HRU HRT
  obtain ⟨j, rfl, HJ, HS, HRU, HRT⟩ := hrel
  obtain ⟨p0, p1_, p2_⟩ := HS.out.pc
  obtain ⟨f0, f1, f2, f3, f4⟩ := HS.out.fc
  obtain ⟨z0, z1, z2, z3, z4, z5, z6, z7, z8⟩ := HS.out.xc
  by_cases hlt : j < uv.length
  ·have HLT := Aside0.mk hlt
   have t1 : decide ((j : Int) < (uv.length : Int)) = true := decide_eq_true (by omega)
   have t2 : decide (j < uv.length) = true := decide_eq_true hlt
   have q1 : (0 : Int) ≤ (j : Int) := by omega
   have q2 : (j : Int) < (uv.length : Int) := by omega
   have hwr : wrap64 ((j : Int) + 1) = ((j + 1 : Nat) : Int) := by have := LU.out; unfold wrap64; omega
   have HWR := Aside0.mk hwr
   clear hwr
   obtain ⟨q, eq_, cq⟩ := Kd.at_int HRU.out (j : Int) q1 q2
   subst eq_
   rw [show rd uv (j : Int) = uv.getD j 0 from rfl] at cq
   (try simp only [Int.toNat_natCast] at cq)
   obtain ⟨y, hy⟩ : ∃ y, uv.getD j 0 = y := ⟨_, rfl⟩
   rw [hy] at cq
   have HY := Aside0.mk hy
   clear hy
   by_cases hy : y < (L.rg.length : Int)
   ·have g1 : decide (y ≥ (L.rg.length : Int)) = false := decide_eq_false (by omega)
    have g2 : decide ((L.rg.length : Int) ≤ y) = false := decide_eq_false (by omega)
    have HYL := Aside0.mk hy
    clear hy
    go_upto_region 7 with (fail)
    go_quiet (fail)
    go_wp2
    go_round
    case rel => exact ⟨j + 1, by first | (rw [HWR.out]; done) | (rw [HWR.out]) | go_num, ⟨HLT.out, fun i hi => by rcases Nat.lt_succ_iff_lt_or_eq.1 hi with h | rfl; exact HJ.out.2 i h; rw [HY.out]; exact decide_eq_true HYL.out⟩, ⟨HS.out.drawN _⟩, ⟨Kd.C_drewN HRU.out _⟩, ⟨Kd.C_drewN HRT.out _⟩⟩
    case measure => exact bd_meas2 _ _ _ (by first | exact HWR.out | omega) HLT.out
   ·have g1 : decide (y ≥ (L.rg.length : Int)) = true := decide_eq_true (by omega)
    have g2 : decide ((L.rg.length : Int) ≤ y) = true := decide_eq_true (by omega)
    have hall : uv.all (fun r => decide (r < (L.rg.length : Int))) = false := all_bad HLT.out (by rw [HY.out]; exact decide_eq_false hy)
    have hr := HRES.out
    rw [hall] at hr
    replace HRES := Aside0.mk hr
    clear hr hall hy
    go_upto_region 7 with (fail)
    go_quiet (fail)
    go_wp2
    go_ret
    exact ⟨by rw [← HRES.out]; rfl, by first | exact HS.out.B | exact HS.out.draw.B | exact (HS.out.drawN _).B | exact ((HS.out.drawN _).drawN _).B | (rw [← World.drewN_drewN]; exact (HS.out.drawN _).B)⟩
  have e_ : j = uv.length := by have := HJ.out.1; omega
  have t1 : decide ((j : Int) < (uv.length : Int)) = false := decide_eq_false (by omega)
  have t2 : decide (j < uv.length) = false := decide_eq_false (by omega)
  have hall : uv.all (fun r => decide (r < (L.rg.length : Int))) = true := all_ok (fun i hi => HJ.out.2 i (by omega))
  have hr := HRES.out
  rw [hall] at hr
  replace HRES := Aside0.mk hr
  clear hr hall e_ hlt HJ
  go_wp2
  go_loopw [12] (fun v12 wr => ∃ j : Nat, v12 = .int .i64 (j : Int) ∧ Aside0 (j ≤ tv.length ∧ ∀ i, i < j → (decide (0 < tv.getD i 0) && decide (tv.getD i 0 < (L.bl.length : Int))) = true) ∧ Aside0 (RSt w L x A8 c8 wr) ∧ Aside0 ((Kd.int .i64).C wr At tv.length tv)) (fun v12 wr => tv.length - (intOf v12).toNat)
  case atStart => exact ⟨0, rfl, ⟨Nat.zero_le _, fun i hi => absurd hi (Nat.not_lt_zero i)⟩, HS, HRT⟩
  case round =>
   clear HS HRT
   obtain ⟨j, rfl, HJ, HS, HRT⟩ := hrel
   obtain ⟨p0, p1_, p2_⟩ := HS.out.pc
   obtain ⟨f0, f1, f2, f3, f4⟩ := HS.out.fc
   obtain ⟨z0, z1, z2, z3, z4, z5, z6, z7, z8⟩ := HS.out.xc
   by_cases hlt : j < tv.length
   ·have HLT := Aside0.mk hlt
    have t1 : decide ((j : Int) < (tv.length : Int)) = true := decide_eq_true (by omega)
    have t2 : decide (j < tv.length) = true := decide_eq_true hlt
    have q1 : (0 : Int) ≤ (j : Int) := by omega
    have q2 : (j : Int) < (tv.length : Int) := by omega
    have hwr : wrap64 ((j : Int) + 1) = ((j + 1 : Nat) : Int) := by have := LT.out; unfold wrap64; omega
    have HWR := Aside0.mk hwr
    clear hwr
    obtain ⟨q, eq_, cq⟩ := Kd.at_int HRT.out (j : Int) q1 q2
    subst eq_
    rw [show rd tv (j : Int) = tv.getD j 0 from rfl] at cq
    (try simp only [Int.toNat_natCast] at cq)
    have hpos := HTP.out _ (show tv.getD j 0 ∈ tv by rw [List.getD_eq_getElem?_getD, List.getElem?_eq_getElem hlt]; exact List.getElem_mem hlt)
    obtain ⟨y, hy⟩ : ∃ y, tv.getD j 0 = y := ⟨_, rfl⟩
    rw [hy] at cq hpos
    have HY := Aside0.mk hy
    clear hy
    by_cases hy : 0 < y ∧ y < (L.bl.length : Int)
    ·have g0 : (y == 0) = false := beq_eq_false_iff_ne.mpr (by omega)
     have g1 : decide (y ≥ (L.bl.length : Int)) = false := decide_eq_false (by omega)
     have g2 : decide ((L.bl.length : Int) ≤ y) = false := decide_eq_false (by omega)
     have HYL := Aside0.mk hy
     clear hy hpos
     go_upto_region 12 with (fail)
     go_quiet (fail)
     go_wp2
     go_round
     case rel => exact ⟨j + 1, by first | (rw [HWR.out]; done) | (rw [HWR.out]) | go_num, ⟨HLT.out, fun i hi => by rcases Nat.lt_succ_iff_lt_or_eq.1 hi with h | rfl; exact HJ.out.2 i h; rw [HY.out, decide_eq_true HYL.out.1, decide_eq_true HYL.out.2]; rfl⟩, ⟨HS.out.drawN _⟩, ⟨Kd.C_drewN HRT.out _⟩⟩
     case measure => exact bd_meas2 _ _ _ (by first | exact HWR.out | omega) HLT.out
    ·have hall : tv.all (fun t => decide (0 < t) && decide (t < (L.bl.length : Int))) = false := all_bad HLT.out (by rw [HY.out]; simp only [Bool.and_eq_false_iff, decide_eq_false_iff_not]; omega)
     have hr := HRES.out
     rw [hall] at hr
     replace HRES := Aside0.mk hr
     clear hr hall
     by_cases hy0 : y = 0
     ·have g0 : (y == 0) = true := beq_iff_eq.mpr hy0
      clear hy hpos hy0
      go_upto_region 12 with (fail)
      go_quiet (fail)
      go_wp2
      go_ret
      exact ⟨by rw [← HRES.out]; rfl, by first | exact HS.out.B | exact HS.out.draw.B | exact (HS.out.drawN _).B | exact ((HS.out.drawN _).drawN _).B | (rw [← World.drewN_drewN]; exact (HS.out.drawN _).B)⟩
     ·have g0 : (y == 0) = false := beq_eq_false_iff_ne.mpr hy0
      have g1 : decide (y ≥ (L.bl.length : Int)) = true := decide_eq_true (by omega)
      have g2 : decide ((L.bl.length : Int) ≤ y) = true := decide_eq_true (by omega)
      clear hy hpos hy0
      go_upto_region 12 with (fail)
      go_quiet (fail)
      go_wp2
      go_ret
      exact ⟨by rw [← HRES.out]; rfl, by first | exact HS.out.B | exact HS.out.draw.B | exact (HS.out.drawN _).B | exact ((HS.out.drawN _).drawN _).B | (rw [← World.drewN_drewN]; exact (HS.out.drawN _).B)⟩
   have e_ : j = tv.length := by have := HJ.out.1; omega
   have t1 : decide ((j : Int) < (tv.length : Int)) = false := decide_eq_false (by omega)
   have t2 : decide (j < tv.length) = false := decide_eq_false (by omega)
   have hall : tv.all (fun t => decide (0 < t) && decide (t < (L.bl.length : Int))) = true := all_ok (fun i hi => HJ.out.2 i (by omega))
   have hr := HRES.out
   rw [hall] at hr
   replace HRES := Aside0.mk hr
   clear hr hall e_ hlt HJ
   have hr := HRES.out
   rw [Bool.true_and, Bool.true_and] at hr
   replace HRES := Aside0.mk hr
   clear hr HRT
   rcases there_ends x.f0 with ⟨h1, _⟩ | ⟨h1, h2⟩ | ⟨h1, h2, h3⟩ | ⟨h1, h2, h3⟩
   ·have hres := HRES.out
    rw [if_pos h1] at hres
    have hc_ := HC.out
    rw [show checkI x.f0 = false by unfold checkI; rw [h1]; rfl] at hc_
    have HC := Aside0.mk hc_
    have s1 : (x.f0 == 39) = true := beq_iff_eq.mpr h1
    have HRES := Aside0.mk hres
    clear hres h1 hc_
    go_wp2_with ((go_at_call 19; ((with_reducible refine (balustraderef15_Check.calls x.f0 _ _ HC.out).mono ?_); rintro e w' ⟨rfl, ⟨nd, rfl⟩⟩)))
    go_ret
    exact ⟨by rw [← HRES.out]; rfl, by first | exact HS.out.B | exact HS.out.draw.B | exact (HS.out.drawN _).B | exact ((HS.out.drawN _).drawN _).B | (rw [← World.drewN_drewN]; exact (HS.out.drawN _).B)⟩
   ·have hres := HRES.out
    rw [if_neg h1, if_pos h2] at hres
    have hc_ := HC.out
    rw [show checkI x.f0 = false by unfold checkI; rw [h2]; rfl] at hc_
    have HC := Aside0.mk hc_
    have s1 : (x.f0 == 39) = false := beq_eq_false_iff_ne.mpr h1
    have s2 : (x.f0 != 44) = false := bne_eq_false_iff_eq.mpr h2
    have s3 : ((x.f8.length : Int) == pv) = res := by rw [← hres, Bool.eq_iff_iff]; simp
    have HRES := Aside0.mk hres
    clear hres h1 h2 hc_
    go_upto_region 18 with ((go_at_call 19; ((with_reducible refine (balustraderef15_Check.calls x.f0 _ _ HC.out).mono ?_); rintro e w' ⟨rfl, ⟨nd, rfl⟩⟩)))
    go_region_held3 (fun w' => (w'.cell? ⟨w.heap.size, 0, none⟩ = some (.slice L.Af L.fs.length L.cf) ∧ w'.cell? ⟨w.heap.size, 1, none⟩ = some (.int .i64 L.mn) ∧ w'.cell? ⟨w.heap.size, 2, none⟩ = some (.slice L.As L.ss.length L.cs)) ∧ (w'.cell? ⟨w.heap.size + 1, 0, none⟩ = some (.string L.nm) ∧ w'.cell? ⟨w.heap.size + 1, 1, none⟩ = some (.int .i64 L.ps) ∧ w'.cell? ⟨w.heap.size + 1, 2, none⟩ = some (.int .i64 L.rt) ∧ w'.cell? ⟨w.heap.size + 1, 3, none⟩ = some (.slice L.Ar L.rg.length L.cr) ∧ w'.cell? ⟨w.heap.size + 1, 4, none⟩ = some (.slice L.Ab L.bl.length L.cb)) ∧ (w'.cell? ⟨w.heap.size + 2, 0, none⟩ = some (.int .i64 x.f0) ∧ w'.cell? ⟨w.heap.size + 2, 1, none⟩ = some (.int .i64 x.f1) ∧ w'.cell? ⟨w.heap.size + 2, 2, none⟩ = some (.int .i64 x.f2) ∧ w'.cell? ⟨w.heap.size + 2, 3, none⟩ = some (.int .i64 x.f3) ∧ w'.cell? ⟨w.heap.size + 2, 4, none⟩ = some (.int .i64 x.f4) ∧ w'.cell? ⟨w.heap.size + 2, 5, none⟩ = some (.int .i64 x.f5) ∧ w'.cell? ⟨w.heap.size + 2, 6, none⟩ = some (.int .i64 x.f6) ∧ w'.cell? ⟨w.heap.size + 2, 7, none⟩ = some (.int .i64 x.f7) ∧ w'.cell? ⟨w.heap.size + 2, 8, none⟩ = some (.slice A8 x.f8.length c8))) (first | exact ⟨⟨p0, p1_, p2_⟩, ⟨f0, f1, f2, f3, f4⟩, ⟨z0, z1, z2, z3, z4, z5, z6, z7, z8⟩⟩ | (first | exact ⟨HS.out.pc, HS.out.fc, HS.out.xc⟩ | exact ⟨HS.out.draw.pc, HS.out.draw.fc, HS.out.draw.xc⟩ | go_keep) | go_keep) (first | (go_at_call 82; ((with_reducible refine (balustraderef16_Preds.calls kP L.nm L.ps L.rt L.Ar L.cr L.rg L.Ab L.cb L.bl (k : Int) pv _ (LOk.r (RSt.l (by first | exact HS.out | exact HS.out.draw | exact HS.out.drawN _))) HS.out.l.rc (LOk.b (RSt.l (by first | exact HS.out | exact HS.out.draw | exact HS.out.drawN _))) HS.out.l.bc HP.out).mono ?_); rintro e w' ⟨rfl, hb⟩; (first | replace HS := Aside0.mk (HS.out.step hb) | replace HS := Aside0.mk (HS.out.draw.step hb) | replace HS := Aside0.mk ((HS.out.drawN _).step hb)); clear hb; obtain ⟨p0, p1_, p2_⟩ := HS.out.pc; obtain ⟨f0, f1, f2, f3, f4⟩ := HS.out.fc; obtain ⟨z0, z1, z2, z3, z4, z5, z6, z7, z8⟩ := HS.out.xc)))
    all_goals
     go_wp2
     go_ret
     exact ⟨by first | rfl | rw [s3], by first | exact HS.out.B | exact HS.out.draw.B | exact (HS.out.drawN _).B⟩
   ·have hres := HRES.out
    rw [if_neg h1, if_neg h2, if_pos h3] at hres
    obtain ⟨D, eD⟩ : ∃ r, decide (x.f7 < (L.ss.length : Int)) = r := ⟨_, rfl⟩
    obtain ⟨M, eM⟩ : ∃ r, decide ((rd_T48 L.ss x.f7).f0 = trapI x.f0) = r := ⟨_, rfl⟩
    obtain ⟨tr, etr⟩ : ∃ r, trapI x.f0 = r := ⟨_, rfl⟩
    rw [eD, eM] at hres
    rw [etr] at eM
    have htr := HTR.out
    rw [etr] at htr
    have HTR := Aside0.mk htr
    have hc_ := HC.out
    rw [h3] at hc_
    have HC := Aside0.mk hc_
    have s3 : ((rd_T48 L.ss x.f7).f0 == tr) = M := by rw [← eM, Bool.eq_iff_iff]; simp
    have s4 : (0 : Int) ≤ x.f7 := H7.out
    have HRES := Aside0.mk hres
    clear hres h1 h2 h3 eM etr hc_ htr
    cases D
    ·go_upto_region 15 with ((go_at_call 19; ((with_reducible refine (balustraderef15_Check.calls x.f0 _ _ HC.out).mono ?_); rintro e w' ⟨rfl, ⟨nd, rfl⟩⟩)))
     go_quiet (fail)
     go_wp2
     go_ret
     exact ⟨by rw [← HRES.out]; rfl, by first | exact HS.out.B | exact HS.out.draw.B | exact (HS.out.drawN _).B | exact ((HS.out.drawN _).drawN _).B | (rw [← World.drewN_drewN]; exact (HS.out.drawN _).B)⟩
    have s5 : x.f7 < (L.ss.length : Int) := of_decide_eq_true eD
    obtain ⟨sa, es, cs0, cs1⟩ := at_T48 HS.out.l.s x.f7 s4 s5
    rw [es] at p2_
    have HES := Aside0.mk es
    clear es cs1
    cases M
    all_goals
     go_upto_region 15 with ((go_at_call 19; ((with_reducible refine (balustraderef15_Check.calls x.f0 _ _ HC.out).mono ?_); rintro e w' ⟨rfl, ⟨nd, rfl⟩⟩)))
     go_region_held3 (fun w' => (w'.cell? ⟨w.heap.size, 0, none⟩ = some (.slice L.Af L.fs.length L.cf) ∧ w'.cell? ⟨w.heap.size, 1, none⟩ = some (.int .i64 L.mn) ∧ w'.cell? ⟨w.heap.size, 2, none⟩ = some (.slice (some sa) L.ss.length L.cs)) ∧ (w'.cell? ⟨w.heap.size + 1, 0, none⟩ = some (.string L.nm) ∧ w'.cell? ⟨w.heap.size + 1, 1, none⟩ = some (.int .i64 L.ps) ∧ w'.cell? ⟨w.heap.size + 1, 2, none⟩ = some (.int .i64 L.rt) ∧ w'.cell? ⟨w.heap.size + 1, 3, none⟩ = some (.slice L.Ar L.rg.length L.cr) ∧ w'.cell? ⟨w.heap.size + 1, 4, none⟩ = some (.slice L.Ab L.bl.length L.cb)) ∧ (w'.cell? ⟨w.heap.size + 2, 0, none⟩ = some (.int .i64 x.f0) ∧ w'.cell? ⟨w.heap.size + 2, 1, none⟩ = some (.int .i64 x.f1) ∧ w'.cell? ⟨w.heap.size + 2, 2, none⟩ = some (.int .i64 x.f2) ∧ w'.cell? ⟨w.heap.size + 2, 3, none⟩ = some (.int .i64 x.f3) ∧ w'.cell? ⟨w.heap.size + 2, 4, none⟩ = some (.int .i64 x.f4) ∧ w'.cell? ⟨w.heap.size + 2, 5, none⟩ = some (.int .i64 x.f5) ∧ w'.cell? ⟨w.heap.size + 2, 6, none⟩ = some (.int .i64 x.f6) ∧ w'.cell? ⟨w.heap.size + 2, 7, none⟩ = some (.int .i64 x.f7) ∧ w'.cell? ⟨w.heap.size + 2, 8, none⟩ = some (.slice A8 x.f8.length c8)) ∧ w'.cell? (sa.add (x.f7.toNat * 2)) = some (.int .i64 (rd_T48 L.ss x.f7).f0)) (first | exact ⟨⟨⟨p0, p1_, p2_⟩, ⟨f0, f1, f2, f3, f4⟩, ⟨z0, z1, z2, z3, z4, z5, z6, z7, z8⟩⟩, cs0⟩ | go_keep) (first | (go_at_call 81; ((with_reducible refine (balustraderef15_Trap.calls x.f0 tr _ HTR.out).mono ?_); rintro e w' ⟨rfl, hb⟩; (first | replace HS := Aside0.mk (HS.out.step hb) | replace HS := Aside0.mk (HS.out.draw.step hb) | replace HS := Aside0.mk ((HS.out.drawN _).step hb)); replace cs0 := pw_cell_below hb cs0; clear hb; obtain ⟨p0, p1_, p2_⟩ := HS.out.pc; obtain ⟨f0, f1, f2, f3, f4⟩ := HS.out.fc; obtain ⟨z0, z1, z2, z3, z4, z5, z6, z7, z8⟩ := HS.out.xc; rw [HES.out] at p2_)))
     all_goals
      go_wp2
      go_ret
      exact ⟨by rw [← HRES.out]; rfl, by first | exact HS.out.B | exact HS.out.draw.B | exact (HS.out.drawN _).B | exact ((HS.out.drawN _).drawN _).B | (rw [← World.drewN_drewN]; exact (HS.out.drawN _).B)⟩
   ·have hres := HRES.out
    rw [if_neg h1, if_neg h2, h3, if_neg Bool.false_ne_true] at hres
    have hc_ := HC.out
    rw [h3] at hc_
    have HC := Aside0.mk hc_
    have s1 : (x.f0 == 39) = false := beq_eq_false_iff_ne.mpr h1
    have s2 : (x.f0 != 44) = true := bne_iff_ne.mpr h2
    have HRES := Aside0.mk hres
    clear hres h1 h2 h3 hc_
    go_upto_region 18 with ((go_at_call 19; ((with_reducible refine (balustraderef15_Check.calls x.f0 _ _ HC.out).mono ?_); rintro e w' ⟨rfl, ⟨nd, rfl⟩⟩)))
    go_quiet (fail)
    go_wp2
    go_ret
    exact ⟨by rw [← HRES.out]; rfl, by first | exact HS.out.B | exact HS.out.draw.B | exact (HS.out.drawN _).B | exact ((HS.out.drawN _).drawN _).B | (rw [← World.drewN_drewN]; exact (HS.out.drawN _).B)⟩
end Go.Proofs.Ytgbpkbfghonllaa.P

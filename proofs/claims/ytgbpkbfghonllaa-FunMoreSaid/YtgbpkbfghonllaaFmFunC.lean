/- A part of it. -/
import Derived.Test.YtgbpkbfghonllaaFmM32
import Derived.Outline
set_option linter.unusedVariables false
set_option linter.unusedSimpArgs false
namespace Go.Proofs.Ytgbpkbfghonllaa.P
open Go Go.RowKit Go.Proofs.YtgbpkbfghonllaaW.PrintWords Go.Proofs.YtgbpkbfghonllaaW.PrintLast Go.Proofs.YtgbpkbfghonllaaW.PrintMore Go.Proofs.Ytgbpkbfghonllaa.Pure
attribute [local go_sem] max2_int min2_int max_two min_two
structure LSt (w : World) (L : LA) (x : S42) (A8 : Option Addr) (c8 : Nat) (W : World) : Prop where
 B : Below w.heap.size w W
 l : LOk L W
 a : (Kd.int .i64).C W A8 x.f8.length x.f8
 ac : x.f8.length ≤ c8
 bl : W.heap[w.heap.size]? = some (.cells #[.slice L.Af L.fs.length L.cf, .int .i64 L.mn, .slice L.As L.ss.length L.cs, .string L.nm, .int .i64 L.ps, .int .i64 L.rt, .slice L.Ar L.rg.length L.cr, .slice L.Ab L.bl.length L.cb, .slice L.Aq L.pr.length L.cq] 74 (0, 0))
 bx : W.heap[w.heap.size + 1]? = some (.cells #[.int .i64 x.f0, .int .i64 x.f1, .int .i64 x.f2, .int .i64 x.f3, .int .i64 x.f4, .int .i64 x.f5, .int .i64 x.f6, .int .i64 x.f7, .slice A8 x.f8.length c8] 42 (0, 0))
section
variable {w W W1 : World} {L : LA} {x : S42} {A8 : Option Addr} {c8 : Nat}
theorem LSt.step (h : LSt w L x A8 c8 W) (hb : Below W.heap.size W W1) : LSt w L x A8 c8 W1 :=
 ⟨below_step h.B hb, h.l.below hb, Kd.C_below h.a hb, h.ac, blk_below h.bl hb, blk_below h.bx hb⟩
theorem LSt.drawN (h : LSt w L x A8 c8 W) (n : Nat) : LSt w L x A8 c8 (W.drewN n) := h.step (pw_below_drewN (Below.refl _ _) n)
theorem LSt.draw (h : LSt w L x A8 c8 W) : LSt w L x A8 c8 W.drew := h.step (below_drew (Below.refl _ _))
theorem LSt.start (hL : LOk L w) (hA : (Kd.int .i64).C w A8 x.f8.length x.f8) (hc : x.f8.length ≤ c8) : LSt w L x A8 c8 ((w.alloc (.cells #[.slice L.Af L.fs.length L.cf, .int .i64 L.mn, .slice L.As L.ss.length L.cs, .string L.nm, .int .i64 L.ps, .int .i64 L.rt, .slice L.Ar L.rg.length L.cr, .slice L.Ab L.bl.length L.cb, .slice L.Aq L.pr.length L.cq] 74)).alloc (.cells #[.int .i64 x.f0, .int .i64 x.f1, .int .i64 x.f2, .int .i64 x.f3, .int .i64 x.f4, .int .i64 x.f5, .int .i64 x.f6, .int .i64 x.f7, .slice A8 x.f8.length c8] 42)) := by
 have b1 := below_alloc (Below.refl w.heap.size w) (.cells #[.slice L.Af L.fs.length L.cf, .int .i64 L.mn, .slice L.As L.ss.length L.cs, .string L.nm, .int .i64 L.ps, .int .i64 L.rt, .slice L.Ar L.rg.length L.cr, .slice L.Ab L.bl.length L.cb, .slice L.Aq L.pr.length L.cq] 74)
 have b2 : Below (w.alloc (.cells #[.slice L.Af L.fs.length L.cf, .int .i64 L.mn, .slice L.As L.ss.length L.cs, .string L.nm, .int .i64 L.ps, .int .i64 L.rt, .slice L.Ar L.rg.length L.cr, .slice L.Ab L.bl.length L.cb, .slice L.Aq L.pr.length L.cq] 74)).heap.size (w.alloc (.cells #[.slice L.Af L.fs.length L.cf, .int .i64 L.mn, .slice L.As L.ss.length L.cs, .string L.nm, .int .i64 L.ps, .int .i64 L.rt, .slice L.Ar L.rg.length L.cr, .slice L.Ab L.bl.length L.cb, .slice L.Aq L.pr.length L.cq] 74)) ((w.alloc (.cells #[.slice L.Af L.fs.length L.cf, .int .i64 L.mn, .slice L.As L.ss.length L.cs, .string L.nm, .int .i64 L.ps, .int .i64 L.rt, .slice L.Ar L.rg.length L.cr, .slice L.Ab L.bl.length L.cb, .slice L.Aq L.pr.length L.cq] 74)).alloc (.cells #[.int .i64 x.f0, .int .i64 x.f1, .int .i64 x.f2, .int .i64 x.f3, .int .i64 x.f4, .int .i64 x.f5, .int .i64 x.f6, .int .i64 x.f7, .slice A8 x.f8.length c8] 42)) := below_alloc (Below.refl _ _) _
 refine ⟨below_step b1 b2, (hL.below b1).below b2, Kd.C_below (Kd.C_below hA b1) b2, hc, blk_below (blk_new _ _) b2, ?_⟩
 have h := blk_new (w.alloc (.cells #[.slice L.Af L.fs.length L.cf, .int .i64 L.mn, .slice L.As L.ss.length L.cs, .string L.nm, .int .i64 L.ps, .int .i64 L.rt, .slice L.Ar L.rg.length L.cr, .slice L.Ab L.bl.length L.cb, .slice L.Aq L.pr.length L.cq] 74)) (.cells #[.int .i64 x.f0, .int .i64 x.f1, .int .i64 x.f2, .int .i64 x.f3, .int .i64 x.f4, .int .i64 x.f5, .int .i64 x.f6, .int .i64 x.f7, .slice A8 x.f8.length c8] 42)
 simpa only [World.size_alloc] using h
theorem LSt.lc (h : LSt w L x A8 c8 W) : W.cell? ⟨w.heap.size, 0, none⟩ = some (.slice L.Af L.fs.length L.cf) ∧ W.cell? ⟨w.heap.size, 1, none⟩ = some (.int .i64 L.mn) ∧ W.cell? ⟨w.heap.size, 2, none⟩ = some (.slice L.As L.ss.length L.cs) ∧ W.cell? ⟨w.heap.size, 3, none⟩ = some (.string L.nm) ∧ W.cell? ⟨w.heap.size, 4, none⟩ = some (.int .i64 L.ps) ∧ W.cell? ⟨w.heap.size, 5, none⟩ = some (.int .i64 L.rt) ∧ W.cell? ⟨w.heap.size, 6, none⟩ = some (.slice L.Ar L.rg.length L.cr) ∧ W.cell? ⟨w.heap.size, 7, none⟩ = some (.slice L.Ab L.bl.length L.cb) ∧ W.cell? ⟨w.heap.size, 8, none⟩ = some (.slice L.Aq L.pr.length L.cq) := by
 refine ⟨?_, ?_, ?_, ?_, ?_, ?_, ?_, ?_, ?_⟩
 all_goals exact (blk_cell h.bl _).trans rfl
theorem LSt.xc (h : LSt w L x A8 c8 W) : W.cell? ⟨w.heap.size + 1, 0, none⟩ = some (.int .i64 x.f0) ∧ W.cell? ⟨w.heap.size + 1, 1, none⟩ = some (.int .i64 x.f1) ∧ W.cell? ⟨w.heap.size + 1, 2, none⟩ = some (.int .i64 x.f2) ∧ W.cell? ⟨w.heap.size + 1, 3, none⟩ = some (.int .i64 x.f3) ∧ W.cell? ⟨w.heap.size + 1, 4, none⟩ = some (.int .i64 x.f4) ∧ W.cell? ⟨w.heap.size + 1, 5, none⟩ = some (.int .i64 x.f5) ∧ W.cell? ⟨w.heap.size + 1, 6, none⟩ = some (.int .i64 x.f6) ∧ W.cell? ⟨w.heap.size + 1, 7, none⟩ = some (.int .i64 x.f7) ∧ W.cell? ⟨w.heap.size + 1, 8, none⟩ = some (.slice A8 x.f8.length c8) := by
 refine ⟨?_, ?_, ?_, ?_, ?_, ?_, ?_, ?_, ?_⟩
 all_goals exact (blk_cell h.bx _).trans rfl
end
theorem reg_at (L : LA) (r : Int) (w : World) : Calls Try.prog 73 #[.agg #[.slice L.Af L.fs.length L.cf, .int .i64 L.mn, .slice L.As L.ss.length L.cs, .string L.nm, .int .i64 L.ps, .int .i64 L.rt, .slice L.Ar L.rg.length L.cr, .slice L.Ab L.bl.length L.cb, .slice L.Aq L.pr.length L.cq], .int .i64 r] w fun e w' => e = .returned (.bool (decide (r < (L.rg.length : Int)))) ∧ Below w.heap.size w w' := by
 go_enter Try.func73, Try.ntmps73
 go_wp2
 go_ret
 exact ⟨rfl, below_alloc (Below.refl _ _) _⟩
theorem block_at (L : LA) (r : Int) (w : World) : Calls Try.prog 76 #[.agg #[.slice L.Af L.fs.length L.cf, .int .i64 L.mn, .slice L.As L.ss.length L.cs, .string L.nm, .int .i64 L.ps, .int .i64 L.rt, .slice L.Ar L.rg.length L.cr, .slice L.Ab L.bl.length L.cb, .slice L.Aq L.pr.length L.cq], .int .i64 r] w fun e w' => e = .returned (.bool (decide (0 < r) && decide (r < (L.bl.length : Int)))) ∧ Below w.heap.size w w' := by
 obtain ⟨q, hq⟩ : ∃ q, (decide (0 < r) && decide (r < (L.bl.length : Int))) = q := ⟨_, rfl⟩
 rw [hq]
 have HQ := Aside0.mk hq
 clear hq
 by_cases h : 0 < r
 ·have t1 : decide (0 < r) = true := decide_eq_true h
  go_enter Try.func76, Try.ntmps76
  go_wp2
  go_ret
  exact ⟨by rw [← HQ.out, t1]; rfl, below_alloc (Below.refl _ _) _⟩
 ·have t1 : decide (0 < r) = false := decide_eq_false h
  go_enter Try.func76, Try.ntmps76
  go_wp2
  go_ret
  exact ⟨by rw [← HQ.out, t1]; rfl, below_alloc (Below.refl _ _) _⟩
end Go.Proofs.Ytgbpkbfghonllaa.P

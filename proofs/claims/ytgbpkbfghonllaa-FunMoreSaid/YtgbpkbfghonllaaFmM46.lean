/- A part of it. -/
import Derived.Test.YtgbpkbfghonllaaFmFunG
import Derived.Test.YtgbpkbfghonllaaFmM21
import Derived.Test.YtgbpkbfghonllaaFmP11
import Derived.Outline
import Derived.Test.YtgbpkbfghonllaaFmP5
import Derived.Test.YtgbpkbfghonllaaFmP6
import Derived.Test.YtgbpkbfghonllaaFmP13
import Derived.Test.YtgbpkbfghonllaaFmM45
import Derived.Test.YtgbpkbfghonllaaFmP10
set_option linter.unusedVariables false
set_option linter.unusedSimpArgs false
namespace Go.Proofs.Ytgbpkbfghonllaa.P
open Go Go.RowKit Go.Proofs.YtgbpkbfghonllaaW.PrintWords Go.Proofs.YtgbpkbfghonllaaW.PrintLast Go.Proofs.YtgbpkbfghonllaaW.PrintMore Go.Proofs.Ytgbpkbfghonllaa.Pure
attribute [local go_sem] max2_int min2_int max_two min_two
end Go.Proofs.Ytgbpkbfghonllaa.P
set_option linter.unusedVariables false
set_option linter.unusedSimpArgs false
namespace Go.Proofs.Ytgbpkbfghonllaa.P
open Go Go.RowKit Go.Proofs.YtgbpkbfghonllaaW.PrintWords Go.Proofs.YtgbpkbfghonllaaW.PrintLast Go.Proofs.YtgbpkbfghonllaaW.PrintMore Go.Proofs.Ytgbpkbfghonllaa.Pure
attribute [local go_sem] max2_int min2_int max_two min_two
structure RSt (w : World) (L : LA) (x : S42) (A8 : Option Addr) (c8 : Nat) (W : World) : Prop where
 B : Below w.heap.size w W
 l : LOk L W
 a : (Kd.int .i64).C W A8 x.f8.length x.f8
 ac : x.f8.length ≤ c8
 bp : W.heap[w.heap.size]? = some (.cells #[.slice L.Af L.fs.length L.cf, .int .i64 L.mn, .slice L.As L.ss.length L.cs] 25 (0, 0))
 bf : W.heap[w.heap.size + 1]? = some (.cells #[.string L.nm, .int .i64 L.ps, .int .i64 L.rt, .slice L.Ar L.rg.length L.cr, .slice L.Ab L.bl.length L.cb] 39 (0, 0))
 bx : W.heap[w.heap.size + 2]? = some (.cells #[.int .i64 x.f0, .int .i64 x.f1, .int .i64 x.f2, .int .i64 x.f3, .int .i64 x.f4, .int .i64 x.f5, .int .i64 x.f6, .int .i64 x.f7, .slice A8 x.f8.length c8] 42 (0, 0))
section
variable {w W W1 : World} {L : LA} {x : S42} {A8 : Option Addr} {c8 : Nat}
theorem RSt.step (h : RSt w L x A8 c8 W) (hb : Below W.heap.size W W1) : RSt w L x A8 c8 W1 :=
 ⟨below_step h.B hb, h.l.below hb, Kd.C_below h.a hb, h.ac, blk_below h.bp hb, blk_below h.bf hb, blk_below h.bx hb⟩
theorem RSt.start (hL : LOk L w) (hA : (Kd.int .i64).C w A8 x.f8.length x.f8) (hc : x.f8.length ≤ c8) : RSt w L x A8 c8 (((w.alloc (.cells #[.slice L.Af L.fs.length L.cf, .int .i64 L.mn, .slice L.As L.ss.length L.cs] 25)).alloc (.cells #[.string L.nm, .int .i64 L.ps, .int .i64 L.rt, .slice L.Ar L.rg.length L.cr, .slice L.Ab L.bl.length L.cb] 39)).alloc (.cells #[.int .i64 x.f0, .int .i64 x.f1, .int .i64 x.f2, .int .i64 x.f3, .int .i64 x.f4, .int .i64 x.f5, .int .i64 x.f6, .int .i64 x.f7, .slice A8 x.f8.length c8] 42)) := by
 have b1 := below_alloc (Below.refl w.heap.size w) (.cells #[.slice L.Af L.fs.length L.cf, .int .i64 L.mn, .slice L.As L.ss.length L.cs] 25)
 have b2 : Below (w.alloc (.cells #[.slice L.Af L.fs.length L.cf, .int .i64 L.mn, .slice L.As L.ss.length L.cs] 25)).heap.size (w.alloc (.cells #[.slice L.Af L.fs.length L.cf, .int .i64 L.mn, .slice L.As L.ss.length L.cs] 25)) ((w.alloc (.cells #[.slice L.Af L.fs.length L.cf, .int .i64 L.mn, .slice L.As L.ss.length L.cs] 25)).alloc (.cells #[.string L.nm, .int .i64 L.ps, .int .i64 L.rt, .slice L.Ar L.rg.length L.cr, .slice L.Ab L.bl.length L.cb] 39)) := below_alloc (Below.refl _ _) _
 have b3 : Below ((w.alloc (.cells #[.slice L.Af L.fs.length L.cf, .int .i64 L.mn, .slice L.As L.ss.length L.cs] 25)).alloc (.cells #[.string L.nm, .int .i64 L.ps, .int .i64 L.rt, .slice L.Ar L.rg.length L.cr, .slice L.Ab L.bl.length L.cb] 39)).heap.size ((w.alloc (.cells #[.slice L.Af L.fs.length L.cf, .int .i64 L.mn, .slice L.As L.ss.length L.cs] 25)).alloc (.cells #[.string L.nm, .int .i64 L.ps, .int .i64 L.rt, .slice L.Ar L.rg.length L.cr, .slice L.Ab L.bl.length L.cb] 39)) (((w.alloc (.cells #[.slice L.Af L.fs.length L.cf, .int .i64 L.mn, .slice L.As L.ss.length L.cs] 25)).alloc (.cells #[.string L.nm, .int .i64 L.ps, .int .i64 L.rt, .slice L.Ar L.rg.length L.cr, .slice L.Ab L.bl.length L.cb] 39)).alloc (.cells #[.int .i64 x.f0, .int .i64 x.f1, .int .i64 x.f2, .int .i64 x.f3, .int .i64 x.f4, .int .i64 x.f5, .int .i64 x.f6, .int .i64 x.f7, .slice A8 x.f8.length c8] 42)) := below_alloc (Below.refl _ _) _
 refine ⟨below_step (below_step b1 b2) b3, ((hL.below b1).below b2).below b3, Kd.C_below (Kd.C_below (Kd.C_below hA b1) b2) b3, hc, blk_below (blk_below (blk_new _ _) b2) b3, blk_below ?_ b3, ?_⟩
 ·have h := blk_new (w.alloc (.cells #[.slice L.Af L.fs.length L.cf, .int .i64 L.mn, .slice L.As L.ss.length L.cs] 25)) (.cells #[.string L.nm, .int .i64 L.ps, .int .i64 L.rt, .slice L.Ar L.rg.length L.cr, .slice L.Ab L.bl.length L.cb] 39)
  simpa only [World.size_alloc] using h
 ·have h := blk_new ((w.alloc (.cells #[.slice L.Af L.fs.length L.cf, .int .i64 L.mn, .slice L.As L.ss.length L.cs] 25)).alloc (.cells #[.string L.nm, .int .i64 L.ps, .int .i64 L.rt, .slice L.Ar L.rg.length L.cr, .slice L.Ab L.bl.length L.cb] 39)) (.cells #[.int .i64 x.f0, .int .i64 x.f1, .int .i64 x.f2, .int .i64 x.f3, .int .i64 x.f4, .int .i64 x.f5, .int .i64 x.f6, .int .i64 x.f7, .slice A8 x.f8.length c8] 42)
  simpa only [World.size_alloc] using h
theorem RSt.fc (h : RSt w L x A8 c8 W) : W.cell? ⟨w.heap.size + 1, 0, none⟩ = some (.string L.nm) ∧ W.cell? ⟨w.heap.size + 1, 1, none⟩ = some (.int .i64 L.ps) ∧ W.cell? ⟨w.heap.size + 1, 2, none⟩ = some (.int .i64 L.rt) ∧ W.cell? ⟨w.heap.size + 1, 3, none⟩ = some (.slice L.Ar L.rg.length L.cr) ∧ W.cell? ⟨w.heap.size + 1, 4, none⟩ = some (.slice L.Ab L.bl.length L.cb) := by
 refine ⟨?_, ?_, ?_, ?_, ?_⟩
 all_goals exact (blk_cell h.bf _).trans rfl
end
end Go.Proofs.Ytgbpkbfghonllaa.P
set_option linter.unusedVariables false
set_option linter.unusedSimpArgs false
namespace Go.Proofs.Ytgbpkbfghonllaa.P
open Go Go.RowKit Go.Proofs.YtgbpkbfghonllaaW.PrintWords Go.Proofs.YtgbpkbfghonllaaW.PrintLast Go.Proofs.YtgbpkbfghonllaaW.PrintMore Go.Proofs.Ytgbpkbfghonllaa.Pure
attribute [local go_sem] max2_int min2_int max_two min_two
end Go.Proofs.Ytgbpkbfghonllaa.P
set_option linter.unusedVariables false
set_option linter.unusedSimpArgs false
namespace Go.Proofs.Ytgbpkbfghonllaa.P
open Go Go.RowKit Go.Proofs.YtgbpkbfghonllaaW.PrintWords Go.Proofs.YtgbpkbfghonllaaW.PrintLast Go.Proofs.YtgbpkbfghonllaaW.PrintMore Go.Proofs.Ytgbpkbfghonllaa.Pure
attribute [local go_sem] max2_int min2_int max_two min_two
end Go.Proofs.Ytgbpkbfghonllaa.P
set_option linter.unusedVariables false
set_option linter.unusedSimpArgs false
namespace Go.Proofs.Ytgbpkbfghonllaa.P
open Go Go.RowKit Go.Proofs.YtgbpkbfghonllaaW.PrintWords Go.Proofs.YtgbpkbfghonllaaW.PrintLast Go.Proofs.YtgbpkbfghonllaaW.PrintMore Go.Proofs.Ytgbpkbfghonllaa.Pure
attribute [local go_sem] max2_int min2_int max_two min_two
end Go.Proofs.Ytgbpkbfghonllaa.P
set_option linter.unusedVariables false
set_option linter.unusedSimpArgs false
namespace Go.Proofs.Ytgbpkbfghonllaa.P
open Go Go.RowKit Go.Proofs.YtgbpkbfghonllaaW.PrintWords Go.Proofs.YtgbpkbfghonllaaW.PrintLast Go.Proofs.YtgbpkbfghonllaaW.PrintMore Go.Proofs.Ytgbpkbfghonllaa.Pure
end Go.Proofs.Ytgbpkbfghonllaa.P
set_option linter.unusedVariables false
set_option linter.unusedSimpArgs false
namespace Go.Proofs.Ytgbpkbfghonllaa.P
open Go Go.RowKit Go.Proofs.YtgbpkbfghonllaaW.PrintWords Go.Proofs.YtgbpkbfghonllaaW.PrintLast Go.Proofs.YtgbpkbfghonllaaW.PrintMore Go.Proofs.Ytgbpkbfghonllaa.Pure
theorem insV_form {L : LA} {k : Nat} {b : List S42} {j : Nat} (h : insV L k b j = 0) : formV b j = true := by
 unfold insV at h
 cases hf : formV b j with
 | true => rfl
 | false => rw [hf] at h; simp at h
end Go.Proofs.Ytgbpkbfghonllaa.P

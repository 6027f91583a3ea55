/- A text of this claim, what is not used left out. -/
import Derived.Test.YtomopjomapkmjaaBaBBdL
import Derived.Outline
set_option linter.unusedVariables false
set_option linter.unusedSimpArgs false
namespace Go.Proofs.Ytomopjomapkmjaa.B
open Go Go.RowKit Go.Proofs.YtomopjomapkmjaaW.PrintWords Go.Proofs.YtomopjomapkmjaaW.PrintLast Go.Proofs.YtomopjomapkmjaaW.PrintMore Go.Proofs.Ytomopjomapkmjaa.Pure
section
variable {base g : Nat} {ok : Nat → Prop} {w w0 w1 w2 W : World} {V : BV}
def doneB (V : BV) : Bool := !V.st.any (fun k => !decide (k = 2))
set_option maxHeartbeats 2000000 in
theorem Func_bad (h : BAt base ok w g V) (hf : Fit V) (hd : doneB V = false) : Calls Try.prog 13 #[.pointer (some ⟨g, 0, none⟩)] w fun e w' => e = .returned (.tuple #[.agg #[.string ⟨#[]⟩, .int .i64 0, .int .i64 0, .slice none 0 0, .slice none 0 0], .bool false]) ∧ Below w.heap.size w w' := by
  have hu := Try.underlying32
  obtain ⟨f0, f1, f2⟩ := hf
  obtain ⟨h1, h2, h3, f, vr, vb, vs, hc, hr, hB, ht⟩ := h
  obtain ⟨As, cs, rfl⟩ := Kd.R_slice ht
  have HM := Aside0.mk (made_at (blk_alloc hc (.cells #[.string ⟨#[]⟩, .int .i64 0, .int .i64 0, .slice none 0 0, .slice none 0 0] 32)) (show 0 < V.st.length by omega))
  have HH := Aside0.mk (HasFunc As cs V.st _ (Kd.C_alloc (Kd.R_reads' ht).2.2 (.cells #[.string ⟨#[]⟩, .int .i64 0, .int .i64 0, .slice none 0 0, .slice none 0 0] 32)) (Kd.R_reads' ht).2.1)
  have hd' : (V.st.any fun k => !decide (k = 2)) = true := by simpa [doneB] using hd
  rw [hd'] at HH
  have HB := Aside0.mk (below_alloc (Below.refl w.heap.size w) (.cells #[.string ⟨#[]⟩, .int .i64 0, .int .i64 0, .slice none 0 0, .slice none 0 0] 32))
  have BZ := Aside0.mk (blk_new w (.cells #[.string ⟨#[]⟩, .int .i64 0, .int .i64 0, .slice none 0 0, .slice none 0 0] 32))
  have c5 := blk_cell (blk_alloc hc (.cells #[.string ⟨#[]⟩, .int .i64 0, .int .i64 0, .slice none 0 0, .slice none 0 0] 32)) 5
  simp only [List.getElem?_toArray, List.getElem?_cons_zero, List.getElem?_cons_succ] at c5
  clear h1 h2 h3 hc hr hB ht f0 f1 f2 hd hd'
  have rc0 := blk_cell BZ.out 0
  have rf0 := blk_frozen BZ.out 0
  have rc1 := blk_cell BZ.out 1
  have rf1 := blk_frozen BZ.out 1
  have rc2 := blk_cell BZ.out 2
  have rf2 := blk_frozen BZ.out 2
  have rc3 := blk_cell BZ.out 3
  have rf3 := blk_frozen BZ.out 3
  have rc4 := blk_cell BZ.out 4
  have rf4 := blk_frozen BZ.out 4
  simp only [List.getElem?_toArray, List.getElem?_cons_zero, List.getElem?_cons_succ] at rc0 rc1 rc2 rc3 rc4
  go_enter Try.func13, Try.ntmps13
  go_wp2_with (first | (go_at_call 47; ((with_reducible refine HM.out.mono ?_); rintro e w' ⟨rfl, rfl⟩)) | (go_at_call 41; ((with_reducible refine HH.out.mono ?_); rintro e w' ⟨rfl, rfl⟩)))
  exact bodyPost_ret (results_ct rfl _ _ w.heap.size 32 #[.string ⟨#[]⟩, .int .i64 0, .int .i64 0, .slice none 0 0, .slice none 0 0] (0, 0) _ rfl BZ.out hu rfl (by kernel_rfl)) rfl ⟨rfl, HB.out⟩
end
end Go.Proofs.Ytomopjomapkmjaa.B

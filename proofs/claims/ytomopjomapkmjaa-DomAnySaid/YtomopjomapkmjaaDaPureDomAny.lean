/- A text of this claim, what is not used left out. -/
import Derived.Test.YtomopjomapkmjaaDaDomF
import Derived.Test.YtomopjomapkmjaaDaP7
import Derived.Test.YtomopjomapkmjaaDaP8
set_option linter.unusedVariables false
namespace Go.Proofs.Ytomopjomapkmjaa.Pure
open Go.RowKit Go.Proofs.Ytomopjomapkmjaa.P Go.Proofs.YtomopjomapkmjaaW.PrintWords Go.Proofs.YtomopjomapkmjaaW.PrintLast Go.Proofs.YtomopjomapkmjaaW.PrintMore
theorem domAny_ev (l : List Int) (a b : Int) : Ev (fun k => balustradelaw28_DomAny.f k l a b) true := by
  unfold balustradelaw28_DomAny.f
  have wk : Ev (fun k => (balustradelaw28_works.f k).bind fun t => some t) true := Ev.bind works28_ev (Ev.now _)
  by_cases hl : (l.length : Int) > 100
  · exact Ev.congr (fun k => if_pos hl) wk
  · refine Ev.congr (fun k => if_neg hl) ?_
    obtain ⟨v, hv⟩ := dominatesF_any l (by omega) a b
    obtain ⟨d, hd, h1, h2, _⟩ := depthF_any l (by omega) a
    refine Ev.bind hv (Ev.bind hd ?_)
    refine Ev.congr (fun k => by rw [if_pos h1, if_pos (by rw [wrap_id] <;> omega)]) ?_
    refine Ev.bind (kids_ev l (by omega)) ?_
    exact Ev.congr (fun k => if_pos (by simp)) wk
theorem DomAny : ∀ (l0 : List Int) (a1 : Int) (a2 : Int), l0.length ≤ maxLen → l0.length * 8 ≤ 140737488351232 → (∀ x ∈ l0, (Lit.int .i64 x).wf = true) → (Lit.int .i64 a1).wf = true → (Lit.int .i64 a2).wf = true → ∃ k, balustradelaw28_DomAny.f k l0 a1 a2 = some true :=
  fun l a b _ _ _ _ _ => (domAny_ev l a b).rounds
end Go.Proofs.Ytomopjomapkmjaa.Pure

/- A text of this claim, what is not used left out. -/
import Derived.Test.YtlhaopjdpkhogaaGtGraphB
import Derived.Test.YtlhaopjdpkhogaaGtP15
set_option linter.unusedVariables false
namespace Go.Proofs.Ytlhaopjdpkhogaa.Pure
open Go.RowKit Go.Proofs.Ytlhaopjdpkhogaa.P Go.Proofs.YtlhaopjdpkhogaaW.PrintWords Go.Proofs.YtlhaopjdpkhogaaW.PrintLast Go.Proofs.YtlhaopjdpkhogaaW.PrintMore
theorem sameTruths_from (a : List Bool) (hl : a.length < 4611686018427387904) : ∀ d i, a.length - i = d → i ≤ a.length → Ev (fun k => balustraderef17_SameTruths.l0 k a a (i : Int)) true := by
  intro d
  induction d with
  | zero =>
    intro i hd hi
    exact Ev.step (fun k => by rw [balustraderef17_SameTruths.l0, if_neg (by omega)]) (Ev.now _)
  | succ d ih =>
    intro i hd hi
    exact Ev.step (fun k => by rw [balustraderef17_SameTruths.l0, if_pos (by omega), if_pos (by omega), if_pos (by omega), if_neg (by simp), wrap_succ i (by omega)]) (ih (i + 1) (by omega) (by omega))
theorem sameTruths_ev (a : List Bool) (hl : a.length < 4611686018427387904) : Ev (fun k => balustraderef17_SameTruths.f k a a) true := by
  unfold balustraderef17_SameTruths.f
  exact Ev.congr (fun k => if_pos rfl) (sameTruths_from a hl a.length 0 (by omega) (by omega))
theorem works17_ev : Ev (fun k => balustradelaw17_works.f k) true := Ev.of (k := 100) balustradelaw17_works.mono (by decide +kernel)
end Go.Proofs.Ytlhaopjdpkhogaa.Pure

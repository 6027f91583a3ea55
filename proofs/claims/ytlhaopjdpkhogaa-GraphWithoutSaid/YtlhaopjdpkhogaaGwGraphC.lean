/- A text of this claim, what is not used left out. -/
import Derived.Test.YtlhaopjdpkhogaaGwGraphB
import Derived.Test.YtlhaopjdpkhogaaGwP14
import Derived.Test.YtlhaopjdpkhogaaGwP15
import Derived.Test.YtlhaopjdpkhogaaGwP18
set_option linter.unusedVariables false
namespace Go.Proofs.Ytlhaopjdpkhogaa.Pure
open Go.RowKit Go.Proofs.Ytlhaopjdpkhogaa.P Go.Proofs.YtlhaopjdpkhogaaW.PrintWords Go.Proofs.YtlhaopjdpkhogaaW.PrintLast Go.Proofs.YtlhaopjdpkhogaaW.PrintMore
theorem sameTruths_from (a : List Bool) (hl : a.length < 4611686018427387904) : ∀ d i, a.length - i = d → i ≤ a.length → Ev (fun k => balustraderef17_SameTruths.l0 k a a (i : Int)) true := by
  intro d
  induction d with
  | zero =>
    intro i hd hi
    exact Ev.step (fun k => by rw [balustraderef17_SameTruths.l0, if_neg (by omega)]) (Ev.now _)
  | succ d ih =>
    intro i hd hi
    exact Ev.step (fun k => by rw [balustraderef17_SameTruths.l0, if_pos (by omega), if_pos (by omega), if_pos (by omega), if_neg (by simp), wrap_succ i (by omega)]) (ih (i + 1) (by omega) (by omega))
theorem sameTruths_ev (a : List Bool) (hl : a.length < 4611686018427387904) : Ev (fun k => balustraderef17_SameTruths.f k a a) true := by
  unfold balustraderef17_SameTruths.f
  exact Ev.congr (fun k => if_pos rfl) (sameTruths_from a hl a.length 0 (by omega) (by omega))
theorem works17_ev : Ev (fun k => balustradelaw17_works.f k) true := Ev.of (k := 100) balustradelaw17_works.mono (by decide +kernel)
theorem graphWithout_ev (bl : List (List S24)) (p0 : ByteArray) (p1 p2 : Int) (p3 : List Int) (but : Int) (hl : bl.length < 4611686018427387904) (hg : GoodB bl) : Ev (fun k => balustradelaw17_GraphWithout.f k p0 p1 p2 p3 bl but) true := by
  unfold balustradelaw17_GraphWithout.f
  obtain ⟨v, hv, hv2⟩ := few_ev bl p0 p1 p2 p3 hl
  have wk : Ev (fun k => (balustradelaw17_works.f k).bind fun t => some t) true := Ev.bind works17_ev (Ev.now _)
  refine Ev.bind hv ?_
  cases v with
  | false => exact Ev.congr (fun k => if_neg (by simp)) wk
  | true =>
    have h40 := hv2 rfl
    refine Ev.congr (fun k => if_pos rfl) ?_
    refine Ev.bind (gWithout_ev bl p0 p1 p2 p3 but h40 hg) (Ev.bind (rWithout_ev bl p0 p1 p2 p3 but h40 hg) (Ev.bind (sameTruths_ev _ ?_) ?_))
    · rw [gtAll_len, succsV_len]; omega
    · exact Ev.congr (fun k => if_pos rfl) wk
end Go.Proofs.Ytlhaopjdpkhogaa.Pure

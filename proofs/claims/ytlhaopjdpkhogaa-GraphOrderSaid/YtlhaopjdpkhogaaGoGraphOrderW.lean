/- A text of this claim, what is not used left out. -/
import Derived.Test.YtlhaopjdpkhogaaGoGraphG
import Derived.Test.YtlhaopjdpkhogaaGoP0
import Derived.Test.YtlhaopjdpkhogaaGoP22
set_option linter.unusedVariables false
namespace Go.Proofs.Ytlhaopjdpkhogaa.P
open Go Go.RowKit Go.Proofs.YtlhaopjdpkhogaaW.PrintWords Go.Proofs.YtlhaopjdpkhogaaW.PrintLast Go.Proofs.YtlhaopjdpkhogaaW.PrintMore Go.Proofs.Ytlhaopjdpkhogaa.Pure
theorem goodB_of {bl : List (List S24)} {G : S24 → Prop} {m : Nat} (hm : m = 140737488351232) (h : (∀ b ∈ bl, (∀ i ∈ b, G i) ∧ b.length * 88 ≤ m) ∧ bl.length * 24 ≤ m) (hG : ∀ i, G i → i.f8.length * 8 ≤ m) : GoodB bl ∧ bl.length < 4611686018427387904 :=
  ⟨fun b hb => ⟨by have := (h.1 b hb).2; omega, fun i hi => by have := hG i ((h.1 b hb).1 i hi); omega⟩, by have := h.2; omega⟩
theorem balustradelaw17_GraphOrder.walk (a0_0 : ByteArray) (a0_1 a0_2 : Int) (A0_3 : Option Addr) (c0_3 : Nat) (l0_3 : List Int) (A0_4 : Option Addr) (c0_4 : Nat) (l0_4 : List (List S24)) (w : World)
    (hr0_3 : Kd.C (Kd.int .i64) w A0_3 l0_3.length l0_3) (hc0_3 : l0_3.length ≤ c0_3) (hr0_4 : Kd.C (Kd.slice 24 k24) w A0_4 l0_4.length l0_4) (hc0_4 : l0_4.length ≤ c0_4) (hg : GoodB l0_4 ∧ l0_4.length < 4611686018427387904) :
    Calls Try.prog 6 #[.agg #[.string a0_0, .int .i64 a0_1, .int .i64 a0_2, .slice A0_3 l0_3.length c0_3, .slice A0_4 l0_4.length c0_4]] w fun e w' => e = .returned (.bool true) ∧ Below w.heap.size w w' := by
  obtain ⟨k, hk⟩ := (graphOrder_ev l0_4 a0_0 a0_1 a0_2 l0_3 hg.2 hg.1).rounds
  exact balustradelaw17_GraphOrder.calls k a0_0 a0_1 a0_2 A0_3 c0_3 l0_3 A0_4 c0_4 l0_4 true w hr0_3 hc0_3 hr0_4 hc0_4 hk
end Go.Proofs.Ytlhaopjdpkhogaa.P

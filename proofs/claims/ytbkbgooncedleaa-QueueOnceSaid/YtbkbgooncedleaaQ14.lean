import Derived.Test.YtbkbgooncedleaaQ8
namespace Go.Proofs.Ytbkbgooncedleaa.P
set_option linter.unusedVariables false
open Go Go.RowKit Go.Proofs.YtbkbgooncedleaaW.PrintWords Go.Proofs.YtbkbgooncedleaaW.PrintLast Go.Proofs.YtbkbgooncedleaaW.PrintMore
def balustradelaw03_QueueNone.Pure : Prop := True
theorem balustradelaw03_QueueNone.walk (P : balustradelaw03_QueueNone.Pure) (a0 : Int) (w : World) (w0 : (Lit.int .i64 a0).wf = true) :
    Calls Try.prog 5 #[.int .i64 a0] w fun e w' => e = .returned (.bool true) ∧ Below w.heap.size w w' := YtbkbgooncedleaaQ.none_q a0 w
def balustradelaw03_QueueOnce.Pure : Prop := True
theorem balustradelaw03_QueueOnce.walk (P : balustradelaw03_QueueOnce.Pure) (a0 : Int) (a1 : Option Addr) (len1 cap1 : Nat) (z1 : List Int) (w : World) (w0 : (Lit.int .u8 a0).wf = true)
    (w1 : (a1 = none ∧ len1 = 0 ∧ cap1 = 0 ∧ z1 = []) ∨ ∃ x, a1 = some x ∧ len1 ≤ cap1 ∧ cap1 ≤ maxLen ∧ z1.length = cap1 ∧ (∀ i, i < z1.length → w.cell? (x.add i) = some (.int .i64 (z1.getD i 0))) ∧ ∀ n ∈ z1, (Lit.int .i64 n).wf = true) (y1 : len1 * 8 ≤ 140737488351232) :
    Calls Try.prog 4 #[.int .u8 a0, .slice a1 len1 cap1] w fun e w' => e = .returned (.bool true) ∧ Below w.heap.size w w' := by
  obtain ⟨l1, rfl, hr1, hm1, hw1, hc1⟩ := ReadsInt.ofRowC w1
  have h0 : 0 ≤ a0 ∧ a0 < 256 := by
    simp [Lit.wf, IntKind.min, IntKind.max, IntKind.signed, IntKind.bits] at w0
    omega
  exact YtbkbgooncedleaaQ.once_q a0 h0.1 h0.2 a1 cap1 l1 w (Kd.C_of_reads (d := (0 : Int)) (h1 := fun _ => rfl) hr1) hc1
end Go.Proofs.Ytbkbgooncedleaa.P

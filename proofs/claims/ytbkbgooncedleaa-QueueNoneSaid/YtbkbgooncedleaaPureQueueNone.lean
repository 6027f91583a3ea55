import Derived.Test.YtbkbgooncedleaaQ14
namespace Go.Proofs.Ytbkbgooncedleaa.Pure
open Go.RowKit Go.Proofs.Ytbkbgooncedleaa.P Go.Proofs.YtbkbgooncedleaaW.PrintWords Go.Proofs.YtbkbgooncedleaaW.PrintLast

/-- The law, by its walk. -/
theorem QueueNone : balustradelaw03_QueueNone.Pure := by
  trivial

end Go.Proofs.Ytbkbgooncedleaa.Pure

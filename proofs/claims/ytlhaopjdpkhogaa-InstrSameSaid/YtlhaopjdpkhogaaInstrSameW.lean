/- The walk of the law InstrSame, in the row's form. -/
import Derived.Test.YtlhaopjdpkhogaaInstrSameP
namespace Go.Proofs.Ytlhaopjdpkhogaa.P
open Go Go.RowKit Go.Proofs.YtlhaopjdpkhogaaW.PrintWords Go.Proofs.YtlhaopjdpkhogaaW.PrintLast Go.Proofs.YtlhaopjdpkhogaaW.PrintMore
theorem balustradelaw15_InstrSame.walk (x0 : S24) (A0_8 : Option Addr) (c0_8 : Nat) (x1 : S24) (A1_8 : Option Addr) (c1_8 : Nat) (w : World) (hr0 : (Kd.int .i64).C w A0_8 x0.f8.length x0.f8) (hl0 : x0.f8.length ≤ c0_8) (hr1 : (Kd.int .i64).C w A1_8 x1.f8.length x1.f8) (hl1 : x1.f8.length ≤ c1_8) :
    Calls Try.prog 7 #[.agg #[.int .i64 x0.f0, .int .i64 x0.f1, .int .i64 x0.f2, .int .i64 x0.f3, .int .i64 x0.f4, .int .i64 x0.f5, .int .i64 x0.f6, .int .i64 x0.f7, .slice A0_8 x0.f8.length c0_8], .agg #[.int .i64 x1.f0, .int .i64 x1.f1, .int .i64 x1.f2, .int .i64 x1.f3, .int .i64 x1.f4, .int .i64 x1.f5, .int .i64 x1.f6, .int .i64 x1.f7, .slice A1_8 x1.f8.length c1_8]] w fun e w' => e = .returned (.bool true) ∧ Below w.heap.size w w' := by
  obtain ⟨k, hk⟩ := Pure.instrSame_pure x0.f0 x0.f1 x0.f2 x0.f3 x0.f4 x0.f5 x0.f6 x0.f7 x0.f8 x1.f0 x1.f1 x1.f2 x1.f3 x1.f4 x1.f5 x1.f6 x1.f7 x1.f8
  exact balustradelaw15_InstrSame.calls k _ _ _ _ _ _ _ _ A0_8 c0_8 _ _ _ _ _ _ _ _ _ A1_8 c1_8 _ true w hr0 hl0 hr1 hl1 hk
end Go.Proofs.Ytlhaopjdpkhogaa.P

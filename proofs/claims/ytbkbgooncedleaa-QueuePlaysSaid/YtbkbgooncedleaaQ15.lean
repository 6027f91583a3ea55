import Derived.Test.YtbkbgooncedleaaQ13
namespace Go.Proofs.Ytbkbgooncedleaa.P
open Go Go.RowKit Go.Proofs.YtbkbgooncedleaaW.PrintWords Go.Proofs.YtbkbgooncedleaaW.PrintLast Go.Proofs.YtbkbgooncedleaaW.PrintMore
theorem acts_of {w : World} {A : Option Addr} {len : Nat} {xs : List (Int × Int)} (h : Kd.C (Kd.pair (Kd.int .i64) (Kd.int .i64)) w A len xs) : YtbkbgooncedleaaQ.ActsAt w A len := by
  intro hn
  obtain ⟨ad, e, hc⟩ := h.2.2 hn
  refine ⟨ad, e, fun i hi => ?_⟩
  have hi2 : i < xs.length := by rw [h.1]; exact hi
  obtain ⟨c, hl, ⟨c0, c1, rfl, h0, h1⟩, hcell⟩ := hc i _ (List.getElem?_eq_getElem hi2)
  have h0' : c0 = [.int .i64 (xs[i]).1] := h0
  have h1' : c1 = [.int .i64 (xs[i]).2] := h1
  subst h0' h1'
  exact ⟨(xs[i]).1, (xs[i]).2, hcell 0 _ rfl, hcell 1 _ rfl⟩
theorem balustradelaw03_QueuePlays.walk (a0 : Int) (a1 : Option Addr) (len1 cap1 : Nat) (xs : List (Int × Int)) (w : World) (h : Kd.C (Kd.pair (Kd.int .i64) (Kd.int .i64)) w a1 len1 xs) (hc : len1 ≤ cap1) :
    Calls Try.prog 3 #[.int .i64 a0, .slice a1 len1 cap1] w fun e w' => e = .returned (.bool true) ∧ Below w.heap.size w w' := YtbkbgooncedleaaQ.plays_q a0 a1 len1 cap1 w (acts_of h) hc
end Go.Proofs.Ytbkbgooncedleaa.P

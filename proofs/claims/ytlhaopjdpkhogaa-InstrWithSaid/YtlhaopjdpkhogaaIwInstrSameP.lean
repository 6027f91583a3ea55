/- A text of this claim, what is not used left out. -/
import Derived.Test.YtlhaopjdpkhogaaIwInstrA
import Derived.Test.YtlhaopjdpkhogaaIwP4
import Derived.Test.YtlhaopjdpkhogaaIwP6
import Derived.Test.YtlhaopjdpkhogaaIwP11
import Derived.Test.YtlhaopjdpkhogaaIwP12
namespace Go.Proofs.Ytlhaopjdpkhogaa.Pure
open Go.RowKit Go.Proofs.Ytlhaopjdpkhogaa.P Go.Proofs.YtlhaopjdpkhogaaW.PrintWords Go.Proofs.YtlhaopjdpkhogaaW.PrintLast Go.Proofs.YtlhaopjdpkhogaaW.PrintMore
theorem same_ev (a0 a1 a2 a3 a4 a5 a6 a7 : Int) (l : List Int) (b0 b1 b2 b3 b4 b5 b6 b7 : Int) (m : List Int) (hl : l.length < 4611686018427387904) :
    Ev (fun k => balustradebase_SameInstr.f k a0 a1 a2 a3 a4 a5 a6 a7 l b0 b1 b2 b3 b4 b5 b6 b7 m) (sm_val a0 a1 a2 a3 a4 a5 a6 a7 l b0 b1 b2 b3 b4 b5 b6 b7 m) := by
  unfold balustradebase_SameInstr.f
  by_cases h : a0 = b0 ∧ a1 = b1 ∧ a2 = b2 ∧ a3 = b3 ∧ a4 = b4 ∧ a5 = b5 ∧ a6 = b6 ∧ a7 = b7
  · obtain ⟨rfl, rfl, rfl, rfl, rfl, rfl, rfl, rfl⟩ := h
    have e : sm_val a0 a1 a2 a3 a4 a5 a6 a7 l a0 a1 a2 a3 a4 a5 a6 a7 m = decide (l = m) := by simp [sm_val]
    rw [e]
    refine Ev.congr (f := fun k => (balustradebase_SameInts.f k l m).bind fun t => some t) (fun k => by simp only [if_true]) ?_
    exact Ev.bind (sameInts_ev l m hl) (Ev.now _)
  · have e : sm_val a0 a1 a2 a3 a4 a5 a6 a7 l b0 b1 b2 b3 b4 b5 b6 b7 m = false := by
      rw [Bool.eq_false_iff]
      intro hs
      apply h
      simp [sm_val] at hs
      omega
    rw [e]
    refine Ev.congr (f := fun _ => some false) (fun k => ?_) (Ev.now _)
    repeat' split
    all_goals first | rfl | (exfalso; apply h; exact ⟨by assumption, by assumption, by assumption, by assumption, by assumption, by assumption, by assumption, by assumption⟩)
theorem works15_ev : Ev (fun k => balustradelaw15_works.f k) true := by
  unfold balustradelaw15_works.f
  have h1 := instrUses_ev2 30 0 2 3 4 0 0 0 [] (by decide)
  rw [show usesV2 30 0 2 3 4 0 0 0 [] = [2, 3, 4] by decide] at h1
  have h2 := sameInts_ev [2, 3, 4] [2, 3, 4] (by decide)
  rw [decide_eq_true rfl] at h2
  have h3 := instrDef_ev2 22 7 0 0 0 0 0 0 [] (by decide)
  rw [show defV2 22 7 0 0 0 0 0 0 [] = 7 by decide] at h3
  refine Ev.bind h1 (Ev.bind h2 ?_)
  refine Ev.congr (fun k => if_pos rfl) (Ev.bind h3 ?_)
  refine Ev.congr (f := fun _ => some true) (fun k => ?_) (Ev.now _)
  rw [if_pos rfl]
  decide
theorem same_self (a0 a1 a2 a3 a4 a5 a6 a7 : Int) (l : List Int) : sm_val a0 a1 a2 a3 a4 a5 a6 a7 l a0 a1 a2 a3 a4 a5 a6 a7 l = true := by simp [sm_val]
end Go.Proofs.Ytlhaopjdpkhogaa.Pure

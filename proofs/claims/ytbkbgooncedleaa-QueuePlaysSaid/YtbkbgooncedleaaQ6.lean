import Derived.Test.YtbkbgooncedleaaQ5
namespace Go.Proofs.YtbkbgooncedleaaQ
open Go Go.Conc Go.RowKit Go.Proofs.YtbkbgooncedleaaW.PrintWords Go.Proofs.YtbkbgooncedleaaW.PrintLast Go.Proofs.YtbkbgooncedleaaW.PrintMore Go.Proofs.YtbkbgooncedleaaSel
set_option maxHeartbeats 4000000 in
theorem works_q (w : World) : Calls Try.prog 6 #[] w fun e w' => e = .returned (.bool true) ∧ Below w.heap.size w w' := by
  go_enter Try.func6, Try.ntmps6
  go_wp2_with (first
    | (go_at_call 7; refine (New_q 3 (by omega) _).mono ?_; rintro e w' ⟨g, c, b, rfl, hq, hg, hc, hb, hB⟩; have HQ0 := Aside0.mk hq; have HC := Aside0.mk hc; have HBb := Aside0.mk hb; have HB0 := Aside0.mk hB; clear hq hc hb hB hg)
    | (go_at_call 9; refine (Put_in 2 _ HQ0.out (by omega) (by omega) (by simp) HB0.out HC.out HBb.out).mono ?_; rintro e w' ⟨rfl, hq, hk, hB⟩; have HQ1 := Aside0.mk hq; have HB1 := Aside0.mk hB; clear hq hB HQ0 HB0 hk)
    | (go_at_call 9; refine (Put_in 0 _ HQ1.out (by omega) (by omega) (by simp) HB1.out HC.out HBb.out).mono ?_; rintro e w' ⟨rfl, hq, hk, hB⟩; have HQ2 := Aside0.mk hq; have HB2 := Aside0.mk hB; clear hq hB HQ1 HB1 hk)
    | (go_at_call 9; refine (Put_out 2 _ HQ2.out (by simp)).mono ?_; rintro e w' ⟨rfl, rfl⟩)
    | (go_at_call 15; refine (Take_some (x := 2) (L := [0]) _ HQ2.out HB2.out HC.out HBb.out).mono ?_; rintro e w' ⟨rfl, hq, hk, hB⟩; have HQ3 := Aside0.mk hq; have HB3 := Aside0.mk hB; clear hq hB HQ2 HB2 hk)
    | (go_at_call 15; refine (Take_some (x := 0) (L := []) _ HQ3.out HB3.out HC.out HBb.out).mono ?_; rintro e w' ⟨rfl, hq, hk, hB⟩; have HQ4 := Aside0.mk hq; have HB4 := Aside0.mk hB; clear hq hB HQ3 HB3 hk)
    | (go_at_call 15; refine (Take_none _ HQ4.out HB4.out HC.out HBb.out).mono ?_; rintro e w' ⟨rfl, hq, hk, hB⟩; have HB5 := Aside0.mk hB; clear hq hB HQ4 HB4 hk))
  go_ret
  exact ⟨rfl, HB5.out⟩
set_option maxHeartbeats 4000000 in
theorem none_q (i : Int) (w : World) : Calls Try.prog 5 #[.int .i64 i] w fun e w' => e = .returned (.bool true) ∧ Below w.heap.size w w' := by
  have HZ : Aside0 (ZAt (w.alloc (.cells #[.chan none, .slice none 0 0] 45)) w.heap.size) := ⟨heap_alloc_new w _⟩
  go_enter Try.func5, Try.ntmps5
  go_wp2_with (first
    | (go_at_call 15; refine (Take_z _ HZ.out).mono ?_; rintro e w' ⟨rfl, rfl⟩)
    | (go_at_call 9; refine (Put_z _ _ HZ.out).mono ?_; rintro e w' ⟨rfl, rfl⟩)
    | (go_at_call 10; refine (Has_z _ _ HZ.out).mono ?_; rintro e w' ⟨rfl, rfl⟩)
    | (go_at_call 11; refine (Len_z _ HZ.out).mono ?_; rintro e w' ⟨rfl, rfl⟩)
    | (go_at_call 12; refine (Drain_z _ _ HZ.out).mono ?_; rintro e w' ⟨rfl, rfl⟩)
    | (go_at_call 6; refine (works_q _).mono ?_; rintro e w' ⟨rfl, hB⟩; have HB := Aside0.mk hB; clear hB))
  go_ret
  exact ⟨rfl, (below_alloc (Below.refl _ _) _).trans (HB.out.mono (by simp))⟩
end Go.Proofs.YtbkbgooncedleaaQ

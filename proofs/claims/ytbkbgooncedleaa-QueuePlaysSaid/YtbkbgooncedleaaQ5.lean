import Derived.Test.YtbkbgooncedleaaQ4
namespace Go.Proofs.YtbkbgooncedleaaQ
open Go Go.Conc Go.RowKit Go.Proofs.YtbkbgooncedleaaW.PrintWords Go.Proofs.YtbkbgooncedleaaW.PrintLast Go.Proofs.YtbkbgooncedleaaW.PrintMore Go.Proofs.YtbkbgooncedleaaSel
set_option maxHeartbeats 1000000 in
theorem Take_some {w0 : World} {g c b n : Nat} {x : Int} {L : List Int} (w : World) (h : QAt w g c b n (x :: L)) (hB : Below w0.heap.size w0 w) (hcw : w0.heap.size ≤ c) (hbw : w0.heap.size ≤ b) :
    Calls Try.prog 15 #[.pointer (some ⟨g, 0, none⟩)] w fun e w' => e = .returned (.tuple #[.int .i64 x, .bool true]) ∧ QAt w' g c b n L ∧ Kept w w' (fun k => k = c ∨ k = b) ∧ Below w0.heap.size w0 w' := by
  have HD := Aside0.mk (Drain_q 1 w h hB hcw hbw)
  clear h hB hcw hbw
  go_enter Try.func15, Try.ntmps15
  go_wp2_with (go_at_call 12; refine HD.out.mono ?_; rintro e w' ⟨v, rfl, ho, hq, hk, hb⟩; simp only [show (1 : Int).toNat = 1 from rfl, List.take_succ_cons, List.take_zero, List.drop_succ_cons, List.drop_zero] at ho hq; obtain ⟨g2, c2, e2, gb, gl, cl, hg⟩ := Kd.R_form ho (by simp); subst e2; have hx := (Kd.R_celln 0 ho 0 (by omega) (by simp)).1; replace hx : w'.cell? ⟨g2, 0, none⟩ = some (.int .i64 x) := hx; have HQ := Aside0.mk hq; have HK := Aside0.mk hk; have HB := Aside0.mk hb; clear ho hq hk hb gb gl cl hg HD)
  go_ret2
  exact ⟨rfl, HQ.out, HK.out, HB.out⟩
set_option maxHeartbeats 1000000 in
theorem Take_none {w0 : World} {g c b n : Nat} (w : World) (h : QAt w g c b n []) (hB : Below w0.heap.size w0 w) (hcw : w0.heap.size ≤ c) (hbw : w0.heap.size ≤ b) :
    Calls Try.prog 15 #[.pointer (some ⟨g, 0, none⟩)] w fun e w' => e = .returned (.tuple #[.int .i64 0, .bool false]) ∧ QAt w' g c b n [] ∧ Kept w w' (fun k => k = c ∨ k = b) ∧ Below w0.heap.size w0 w' := by
  have HD := Aside0.mk (Drain_q 1 w h hB hcw hbw)
  clear h hB hcw hbw
  go_enter Try.func15, Try.ntmps15
  go_wp2_with (go_at_call 12; refine HD.out.mono ?_; rintro e w' ⟨v, rfl, ho, hq, hk, hb⟩; simp only [List.take_nil, List.drop_nil] at ho hq; obtain ⟨A2, c2, e2⟩ := Kd.R_slice ho; subst e2; have HQ := Aside0.mk hq; have HK := Aside0.mk hk; have HB := Aside0.mk hb; clear ho hq hk hb HD)
  go_ret2
  exact ⟨rfl, HQ.out, HK.out, HB.out⟩
/-- A queue that no call made. -/
def ZAt (w : World) (g : Nat) : Prop := w.heap[g]? = some (.cells #[.chan none, .slice none 0 0] 45 (0, 0))
theorem ZAt.cell0 {w : World} {g : Nat} (h : ZAt w g) : w.cell? ⟨g, 0, none⟩ = some (.chan none) := by simp [World.cell?, show w.heap[g]? = _ from h]
theorem ZAt.cell1 {w : World} {g : Nat} (h : ZAt w g) : w.cell? ⟨g, 1, none⟩ = some (.slice none 0 0) := by simp [World.cell?, show w.heap[g]? = _ from h]
set_option maxHeartbeats 1000000 in
theorem Has_z {g : Nat} (i : Int) (w : World) (h : ZAt w g) :
    Calls Try.prog 10 #[.pointer (some ⟨g, 0, none⟩), .int .i64 i] w fun e w' => e = .returned (.bool false) ∧ w = w' := by
  have hc1 := h.cell1
  clear h
  by_cases h0 : 0 ≤ i
  · have t1 : decide (0 ≤ i) = true := decide_eq_true h0
    have t2 : decide (i < 0) = false := decide_eq_false (by omega)
    go_enter Try.func10, Try.ntmps10
    go_wp2
    go_ret
    exact ⟨rfl, rfl⟩
  · have t1 : decide (0 ≤ i) = false := decide_eq_false h0
    go_enter Try.func10, Try.ntmps10
    go_wp2
    go_ret
    exact ⟨rfl, rfl⟩
set_option maxHeartbeats 1000000 in
theorem Put_z {g : Nat} (i : Int) (w : World) (h : ZAt w g) :
    Calls Try.prog 9 #[.pointer (some ⟨g, 0, none⟩), .int .i64 i] w fun e w' => e = .returned (.bool false) ∧ w = w' := by
  have hc1 := h.cell1
  clear h
  by_cases h0 : 0 ≤ i
  · have t1 : decide (0 ≤ i) = true := decide_eq_true h0
    have t2 : decide (i < 0) = false := decide_eq_false (by omega)
    go_enter Try.func9, Try.ntmps9
    go_wp2
    go_ret
    exact ⟨rfl, rfl⟩
  · have t1 : decide (i < 0) = true := decide_eq_true (by omega)
    go_enter Try.func9, Try.ntmps9
    go_wp2
    go_ret
    exact ⟨rfl, rfl⟩
set_option maxHeartbeats 1000000 in
theorem Len_z {g : Nat} (w : World) (h : ZAt w g) :
    Calls Try.prog 11 #[.pointer (some ⟨g, 0, none⟩)] w fun e w' => e = .returned (.int .i64 0) ∧ w = w' := by
  have hc0 := h.cell0
  have hlen : (Builtin.len_ #[42] 3 #[.chan none]).run Try.prog w = .ok (goInt 0) w := by
    simp [Builtin.len_, run_underlying Try.underlying42]
  clear h
  go_enter Try.func11, Try.ntmps11
  go_wp2
  go_ret
  exact ⟨rfl, rfl⟩
set_option maxHeartbeats 1000000 in
theorem Drain_z {g : Nat} (m : Int) (w : World) (h : ZAt w g) :
    Calls Try.prog 12 #[.pointer (some ⟨g, 0, none⟩), .int .i64 m] w fun e w' => e = .returned (.slice none 0 0) ∧ w = w' := by
  have hc0 := h.cell0
  clear h
  go_enter Try.func12, Try.ntmps12
  go_wp2
  go_step3
  go_wp2
  go_step3
  go_wp2
  go_loopg [5] 0 (fun kq v5 w' => v5 = .slice none 0 0 ∧ w = w')
  case atStart => exact ⟨rfl, rfl⟩
  case round =>
    obtain ⟨rfl, rfl⟩ := hrel
    by_cases hm : 0 < m
    · have t1 : decide (0 < m) = true := decide_eq_true hm
      go_upto_region 6 with fail
      refine wp_sel_recv_default (z := .int .i64 0) (cv := .chan none) rfl ?hr (noWay_nil none) ?_
      case hr => simp [go_sem, execOp, Act.eval]
      go_wp2
      rw [Exit.noGoto_ret]
      go_ret
      exact ⟨rfl, rfl⟩
    · have t1 : decide (0 < m) = false := decide_eq_false hm
      go_wp2
      go_ret
      exact ⟨rfl, rfl⟩
set_option maxHeartbeats 1000000 in
theorem Take_z {g : Nat} (w : World) (h : ZAt w g) :
    Calls Try.prog 15 #[.pointer (some ⟨g, 0, none⟩)] w fun e w' => e = .returned (.tuple #[.int .i64 0, .bool false]) ∧ w = w' := by
  have HD := Aside0.mk (Drain_z 1 w h)
  clear h
  go_enter Try.func15, Try.ntmps15
  go_wp2_with (go_at_call 12; refine HD.out.mono ?_; rintro e w' ⟨rfl, rfl⟩)
  go_ret2
  exact ⟨rfl, rfl⟩
end Go.Proofs.YtbkbgooncedleaaQ

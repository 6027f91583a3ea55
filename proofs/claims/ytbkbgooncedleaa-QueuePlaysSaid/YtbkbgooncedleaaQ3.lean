import Derived.Test.YtbkbgooncedleaaQ2
import Derived.Deep.Cut
namespace Go.Proofs.YtbkbgooncedleaaQ
open Go Go.Conc Go.RowKit Go.Proofs.YtbkbgooncedleaaW.PrintWords Go.Proofs.YtbkbgooncedleaaW.PrintLast Go.Proofs.YtbkbgooncedleaaSel
set_option maxHeartbeats 1000000 in
theorem Put_in {w0 : World} {g c b n : Nat} {L : List Int} (i : Int) (w : World) (h : QAt w g c b n L) (h0 : 0 ≤ i) (h1 : i < (n : Int)) (hm : i ∉ L) (hB : Below w0.heap.size w0 w) (hcw : w0.heap.size ≤ c) (hbw : w0.heap.size ≤ b) :
    Calls Try.prog 9 #[.pointer (some ⟨g, 0, none⟩), .int .i64 i] w fun e w' => e = .returned (.bool true) ∧ QAt w' g c b n (L ++ [i]) ∧ Kept w w' (fun k => k = c ∨ k = b) ∧ Below w0.heap.size w0 w' := by
  have hc0 := h.cell0
  have hc1 := h.cell1
  have t1 : decide (i < 0) = false := decide_eq_false (by omega)
  have t2 : decide ((n : Int) ≤ i) = false := decide_eq_false (by omega)
  obtain ⟨j, rfl⟩ := Int.eq_ofNat_of_zero_le h0
  have hcb := h.cellb j (by omega)
  rw [decide_eq_false hm] at hcb
  obtain ⟨s, r, hc⟩ := h.chan
  have hroom : (L.map (Value.int .i64)).toArray.size < n := by simpa using h.room_lt j h0 h1 hm
  have hpush : (L.map (Value.int .i64)).toArray.push (.int .i64 (j : Int)) = ((L ++ [(j : Int)]).map (Value.int .i64)).toArray := by simp
  obtain ⟨W1, hW⟩ : ∃ W1, w.setChan c n ((L.map (Value.int .i64)).toArray.push (.int .i64 (j : Int))) false (s + 1) r false = W1 := ⟨_, rfl⟩
  have hq : QAt (W1.setCell ⟨b, j, none⟩ (.bool true)) g c b n (L ++ [(j : Int)]) := by
    rw [← hW, hpush]
    refine h.mod _ _ _ _ _ (fun i hi => ?_) ?_ (fun x hx => ?_)
    · by_cases e : i = j
      · subst e; simp
      · rw [if_neg e]
        have : (i : Int) ≠ (j : Int) := by omega
        simp [this]
    · rw [List.nodup_append]
      exact ⟨h.nodup, by simp, by intro x hx y hy; simp at hy; subst hy; exact fun e => hm (e ▸ hx)⟩
    · rcases List.mem_append.1 hx with hx | hx
      · exact h.rng x hx
      · simp at hx; subst hx; exact ⟨h0, h1⟩
  have hk : Kept w (W1.setCell ⟨b, j, none⟩ (.bool true)) (fun k => k = c ∨ k = b) := by rw [← hW]; exact h.kept _ _ _ _ _
  have hb2 : Below w0.heap.size w0 (W1.setCell ⟨b, j, none⟩ (.bool true)) := by rw [← hW]; exact (belowc hB hcw _ _ _ _ _ _).setCell hbw _
  have e1 : W1.heap[g]? = w.heap[g]? := by rw [← hW]; exact heap_setChan_ne _ _ _ _ _ _ _ h.hgc.symm
  have e2 : W1.heap[b]? = w.heap[b]? := by rw [← hW]; exact heap_setChan_ne _ _ _ _ _ _ _ h.hcb
  have k1 : W1.cell? ⟨g, 1, none⟩ = some (.slice (some ⟨b, 0, none⟩) n n) := by simp [World.cell?, e1, h.box]
  have k2 : W1.cell? ⟨b, j, none⟩ = some (.bool false) := by rw [← hcb]; simp [World.cell?, e2]
  have k3 : W1.frozen? ⟨b, j, none⟩ = false := by rw [← h.frozb j]; simp [World.frozen?, e2]
  have HC := Aside0.mk hc
  have HR := Aside0.mk hroom
  have HW := Aside0.mk hW
  have HQ := Aside0.mk hq
  have HK := Aside0.mk hk
  have HB := Aside0.mk hb2
  clear h hc hroom hpush hW hq hk hb2 e1 e2 hB hm
  go_enter Try.func9, Try.ntmps9
  go_upto_region 5 with fail
  refine wp_sel_send (bl := false) (c := c) (cap := n) (s := s) (r := r) (buf := (L.map (Value.int .i64)).toArray) (tm := false) (v := .int .i64 (j : Int)) (z := .int .i64 0) rfl ?hr HC.out HR.out ?_
  case hr => simp [go_sem, execOp, scase, Act.eval]
  rw [HW.out]
  go_wp2
  go_ret
  exact ⟨rfl, HQ.out, HK.out, HB.out⟩
end Go.Proofs.YtbkbgooncedleaaQ

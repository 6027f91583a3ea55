import Derived.Test.YtbkbgooncedleaaQ1
import Derived.Conc.Token
import Derived.WalkMore
import Derived.Deep.LoopGhost
namespace Go.Proofs.YtbkbgooncedleaaQ
open Go Go.Conc Go.RowKit Go.Proofs.YtbkbgooncedleaaW.PrintWords Go.Proofs.YtbkbgooncedleaaW.PrintLast Go.Proofs.YtbkbgooncedleaaSel
section
variable {w w1 : World} {g c b n : Nat} {L : List Int}
/-- The channel's block is written, then one truth. -/
theorem QAt.far (_h : QAt w g c b n L) (buf : Array Value) (s r : Nat) (j : Nat) (v : Value) (k : Nat) (hc : k ≠ c) (hb : k ≠ b) :
    ((w.setChan c n buf false s r false).setCell ⟨b, j, none⟩ v).heap[k]? = w.heap[k]? := by
  rw [Below.heap_setCell _ _ _ _ hb, heap_setChan_ne _ _ _ _ _ _ _ (Ne.symm hc)]
theorem QAt.mod (h : QAt w g c b n L) (L' : List Int) (s r : Nat) (j : Nat) (v : Value)
    (hw : ∀ i : Nat, i < n → (if i = j then v else .bool (decide ((i : Int) ∈ L))) = .bool (decide ((i : Int) ∈ L'))) (hnd : L'.Nodup) (hr : ∀ x ∈ L', 0 ≤ x ∧ x < (n : Int)) :
    QAt ((w.setChan c n (L'.map (Value.int .i64)).toArray false s r false).setCell ⟨b, j, none⟩ v) g c b n L' := by
  obtain ⟨bs, hb, hsz, hx⟩ := h.waits
  obtain ⟨s0, r0, hc⟩ := h.chan
  refine ⟨(h.far _ _ _ _ _ g h.hgc h.hgb).trans h.box, ⟨s, r, ?_⟩, ⟨bs.setIfInBounds j v, ?_, by simp [hsz], ?_⟩, h.small, hnd, hr⟩
  · rw [Below.heap_setCell _ _ _ _ h.hcb]
    exact heap_setChan_self _ hc _ _ _ _ _ _
  · simp only [World.setCell, Array.getElem?_modify, if_pos]
    rw [heap_setChan_ne _ _ _ _ _ _ _ h.hcb, hb]
    simp
  · intro i hi
    rw [← hw i hi, Array.getElem?_setIfInBounds]
    by_cases e : j = i
    · rw [if_pos e, if_pos (by omega), if_pos e.symm]
    · rw [if_neg e, if_neg (Ne.symm e)]
      exact hx i hi
theorem QAt.kept (h : QAt w g c b n L) (buf : Array Value) (s r : Nat) (j : Nat) (v : Value) : Kept w ((w.setChan c n buf false s r false).setCell ⟨b, j, none⟩ v) (fun k => k = c ∨ k = b) := by
  refine ⟨by simp [World.setCell, World.setChan], fun i hi hn => h.far _ _ _ _ _ i (fun e => hn (.inl e)) (fun e => hn (.inr e))⟩
theorem belowc {w0 w : World} (h : Below w0.heap.size w0 w) {c : Nat} (hc : w0.heap.size ≤ c) (cap : Nat) (buf : Array Value) (cl : Bool) (s r : Nat) (tm : Bool) : Below w0.heap.size w0 (w.setChan c cap buf cl s r tm) := below_setChan h hc _ _ _ _ _ _
end
set_option maxHeartbeats 1000000 in
theorem New_nil (n : Int) (hn : n < 0 ∨ 65536 < n) (w : World) :
    Calls Try.prog 7 #[.int .i64 n] w fun e w' => e = .returned (.pointer none) ∧ w = w' := by
  by_cases h1 : n < 0
  · have t1 : decide (n < 0) = true := decide_eq_true h1
    clear hn
    go_enter Try.func7, Try.ntmps7
    go_wp2
    go_ret
    exact ⟨rfl, rfl⟩
  · have t1 : decide (n < 0) = false := decide_eq_false h1
    have t2 : decide (65536 < n) = true := decide_eq_true (by omega)
    clear hn
    go_enter Try.func7, Try.ntmps7
    go_wp2
    go_ret
    exact ⟨rfl, rfl⟩
set_option maxHeartbeats 1000000 in
theorem Has_nil (i : Int) (w : World) : Calls Try.prog 10 #[.pointer none, .int .i64 i] w fun e w' => e = .returned (.bool false) ∧ w = w' := by
  go_enter Try.func10, Try.ntmps10
  go_wp2
  go_ret
  exact ⟨rfl, rfl⟩
set_option maxHeartbeats 1000000 in
theorem Put_nil (i : Int) (w : World) : Calls Try.prog 9 #[.pointer none, .int .i64 i] w fun e w' => e = .returned (.bool false) ∧ w = w' := by
  go_enter Try.func9, Try.ntmps9
  go_wp2
  go_ret
  exact ⟨rfl, rfl⟩
set_option maxHeartbeats 1000000 in
theorem Len_nil (w : World) : Calls Try.prog 11 #[.pointer none] w fun e w' => e = .returned (.int .i64 0) ∧ w = w' := by
  go_enter Try.func11, Try.ntmps11
  go_wp2
  go_ret
  exact ⟨rfl, rfl⟩
set_option maxHeartbeats 1000000 in
theorem Drain_nil (i : Int) (w : World) : Calls Try.prog 12 #[.pointer none, .int .i64 i] w fun e w' => e = .returned (.slice none 0 0) ∧ w = w' := by
  go_enter Try.func12, Try.ntmps12
  go_wp2
  go_step3
  go_wp2
  rw [Exit.noGoto_ret]
  go_ret
  exact ⟨rfl, rfl⟩
set_option maxHeartbeats 1000000 in
theorem Has_q {g c b n : Nat} {L : List Int} (i : Int) (w : World) (h : QAt w g c b n L) :
    Calls Try.prog 10 #[.pointer (some ⟨g, 0, none⟩), .int .i64 i] w fun e w' => e = .returned (.bool (decide (i ∈ L))) ∧ w = w' := by
  have hc1 := h.cell1
  have HQ := Aside0.mk h
  clear h
  by_cases h0 : 0 ≤ i
  · have t1 : decide (0 ≤ i) = true := decide_eq_true h0
    by_cases h1 : i < (n : Int)
    · have t2 : decide (i < (n : Int)) = true := decide_eq_true h1
      obtain ⟨j, rfl⟩ := Int.eq_ofNat_of_zero_le h0
      have hcb := HQ.out.cellb j (by omega)
      go_enter Try.func10, Try.ntmps10
      go_wp2
      go_ret
      exact ⟨rfl, rfl⟩
    · have t2 : decide (i < (n : Int)) = false := decide_eq_false h1
      have t3 : decide (i ∈ L) = false := decide_eq_false (fun hm => h1 (HQ.out.rng i hm).2)
      rw [t3]
      go_enter Try.func10, Try.ntmps10
      go_wp2
      go_ret
      exact ⟨rfl, rfl⟩
  · have t1 : decide (0 ≤ i) = false := decide_eq_false h0
    have t3 : decide (i ∈ L) = false := decide_eq_false (fun hm => h0 (HQ.out.rng i hm).1)
    rw [t3]
    go_enter Try.func10, Try.ntmps10
    go_wp2
    go_ret
    exact ⟨rfl, rfl⟩
set_option maxHeartbeats 1000000 in
theorem Len_q {g c b n : Nat} {L : List Int} (w : World) (h : QAt w g c b n L) :
    Calls Try.prog 11 #[.pointer (some ⟨g, 0, none⟩)] w fun e w' => e = .returned (.int .i64 (L.length : Int)) ∧ w = w' := by
  have hc0 := h.cell0
  obtain ⟨s, r, hc⟩ := h.chan
  have hlen := run_len_chan (P := Try.prog) (w := w) 42 3 Try.underlying42 hc
  simp only [List.size_toArray, List.length_map] at hlen
  clear h hc
  go_enter Try.func11, Try.ntmps11
  go_wp2
  go_ret
  exact ⟨rfl, rfl⟩
set_option maxHeartbeats 1000000 in
theorem Put_out {g c b n : Nat} {L : List Int} (i : Int) (w : World) (h : QAt w g c b n L) (hi : ¬ (0 ≤ i ∧ i < (n : Int)) ∨ i ∈ L) :
    Calls Try.prog 9 #[.pointer (some ⟨g, 0, none⟩), .int .i64 i] w fun e w' => e = .returned (.bool false) ∧ w = w' := by
  have hc1 := h.cell1
  have HQ := Aside0.mk h
  clear h
  by_cases h0 : i < 0
  · have t1 : decide (i < 0) = true := decide_eq_true h0
    clear hi
    go_enter Try.func9, Try.ntmps9
    go_wp2
    go_ret
    exact ⟨rfl, rfl⟩
  · have t1 : decide (i < 0) = false := decide_eq_false h0
    by_cases h1 : i < (n : Int)
    · have t2 : decide ((n : Int) ≤ i) = false := decide_eq_false (by omega)
      obtain ⟨j, rfl⟩ := Int.eq_ofNat_of_zero_le (Int.not_lt.1 h0)
      have hm : (j : Int) ∈ L := by
        rcases hi with hi | hi
        · omega
        · exact hi
      have hcb := HQ.out.cellb j (by omega)
      rw [decide_eq_true hm] at hcb
      clear hi
      go_enter Try.func9, Try.ntmps9
      go_wp2
      go_ret
      exact ⟨rfl, rfl⟩
    · have t2 : decide ((n : Int) ≤ i) = true := decide_eq_true (by omega)
      clear hi
      go_enter Try.func9, Try.ntmps9
      go_wp2
      go_ret
      exact ⟨rfl, rfl⟩
end Go.Proofs.YtbkbgooncedleaaQ

/- A part of it. -/
import Derived.Test.YtanpghbakbebiaaDoorFmM27
import Derived.Conc.Token
import Derived.WalkMore
import Derived.Deep.LoopGhost
import Derived.Deep.Cut
import Derived.Test.YtanpghbakbebiaaDoorFmWMore
import Derived.Test.YtanpghbakbebiaaDoorFmWLast
namespace Go.Proofs.YtanpghbakbebiaaDoorQ
open Go Go.Conc Go.RowKit Go.Proofs.YtanpghbakbebiaaDoorW.PrintWords Go.Proofs.YtanpghbakbebiaaDoorW.PrintLast Go.Proofs.YtanpghbakbebiaaDoorQuA
section
variable {w w1 : World} {g c b n : Nat} {L : List Int}
theorem QAt.far (_h : QAt w g c b n L) (buf : Array Value) (s r : Nat) (j : Nat) (v : Value) (k : Nat) (hc : k ≠ c) (hb : k ≠ b) :
    ((w.setChan c n buf false s r false).setCell ⟨b, j, none⟩ v).heap[k]? = w.heap[k]? := by
  rw [Below.heap_setCell _ _ _ _ hb, heap_setChan_ne _ _ _ _ _ _ _ (Ne.symm hc)]
theorem QAt.mod (h : QAt w g c b n L) (L' : List Int) (s r : Nat) (j : Nat) (v : Value)
    (hw : ∀ i : Nat, i < n → (if i = j then v else .bool (decide ((i : Int) ∈ L))) = .bool (decide ((i : Int) ∈ L'))) (hnd : L'.Nodup) (hr : ∀ x ∈ L', 0 ≤ x ∧ x < (n : Int)) :
    QAt ((w.setChan c n (L'.map (Value.int .i64)).toArray false s r false).setCell ⟨b, j, none⟩ v) g c b n L' := by
  obtain ⟨bs, hb, hsz, hx⟩ := h.waits
  obtain ⟨s0, r0, hc⟩ := h.chan
  refine ⟨(h.far _ _ _ _ _ g h.hgc h.hgb).trans h.box, ⟨s, r, ?_⟩, ⟨bs.setIfInBounds j v, ?_, by simp [hsz], ?_⟩, h.small, hnd, hr⟩
  · rw [Below.heap_setCell _ _ _ _ h.hcb]
    exact heap_setChan_self _ hc _ _ _ _ _ _
  · simp only [World.setCell, Array.getElem?_modify, if_pos]
    rw [heap_setChan_ne _ _ _ _ _ _ _ h.hcb, hb]
    simp
  · intro i hi
    rw [← hw i hi, Array.getElem?_setIfInBounds]
    by_cases e : j = i
    · rw [if_pos e, if_pos (by omega), if_pos e.symm]
    · rw [if_neg e, if_neg (Ne.symm e)]
      exact hx i hi
theorem QAt.kept (h : QAt w g c b n L) (buf : Array Value) (s r : Nat) (j : Nat) (v : Value) : Kept w ((w.setChan c n buf false s r false).setCell ⟨b, j, none⟩ v) (fun k => k = c ∨ k = b) := by
  refine ⟨by simp [World.setCell, World.setChan], fun i hi hn => h.far _ _ _ _ _ i (fun e => hn (.inl e)) (fun e => hn (.inr e))⟩
theorem belowc {w0 w : World} (h : Below w0.heap.size w0 w) {c : Nat} (hc : w0.heap.size ≤ c) (cap : Nat) (buf : Array Value) (cl : Bool) (s r : Nat) (tm : Bool) : Below w0.heap.size w0 (w.setChan c cap buf cl s r tm) := below_setChan h hc _ _ _ _ _ _
end
set_option maxHeartbeats 1000000 in
theorem Put_out {g c b n : Nat} {L : List Int} (i : Int) (w : World) (h : QAt w g c b n L) (hi : ¬ (0 ≤ i ∧ i < (n : Int)) ∨ i ∈ L) :
    Calls Tryd.prog 29 #[.pointer (some ⟨g, 0, none⟩), .int .i64 i] w fun e w' => e = .returned (.bool false) ∧ w = w' := by
  have hc1 := h.cell1
  have HQ := Aside0.mk h
  clear h
  by_cases h0 : i < 0
  · have t1 : decide (i < 0) = true := decide_eq_true h0
    clear hi
    go_enter Tryd.func29, Tryd.ntmps29
    go_wp2
    go_ret
    exact ⟨rfl, rfl⟩
  · have t1 : decide (i < 0) = false := decide_eq_false h0
    by_cases h1 : i < (n : Int)
    · have t2 : decide ((n : Int) ≤ i) = false := decide_eq_false (by omega)
      obtain ⟨j, rfl⟩ := Int.eq_ofNat_of_zero_le (Int.not_lt.1 h0)
      have hm : (j : Int) ∈ L := by
        rcases hi with hi | hi
        · omega
        · exact hi
      have hcb := HQ.out.cellb j (by omega)
      rw [decide_eq_true hm] at hcb
      clear hi
      go_enter Tryd.func29, Tryd.ntmps29
      go_wp2
      go_ret
      exact ⟨rfl, rfl⟩
    · have t2 : decide ((n : Int) ≤ i) = true := decide_eq_true (by omega)
      clear hi
      go_enter Tryd.func29, Tryd.ntmps29
      go_wp2
      go_ret
      exact ⟨rfl, rfl⟩
end Go.Proofs.YtanpghbakbebiaaDoorQ
namespace Go.Proofs.YtanpghbakbebiaaDoorQ
open Go Go.Conc Go.RowKit Go.Proofs.YtanpghbakbebiaaDoorW.PrintWords Go.Proofs.YtanpghbakbebiaaDoorW.PrintLast Go.Proofs.YtanpghbakbebiaaDoorQuA
set_option maxHeartbeats 1000000 in
theorem Put_in {w0 : World} {g c b n : Nat} {L : List Int} (i : Int) (w : World) (h : QAt w g c b n L) (h0 : 0 ≤ i) (h1 : i < (n : Int)) (hm : i ∉ L) (hB : Below w0.heap.size w0 w) (hcw : w0.heap.size ≤ c) (hbw : w0.heap.size ≤ b) :
    Calls Tryd.prog 29 #[.pointer (some ⟨g, 0, none⟩), .int .i64 i] w fun e w' => e = .returned (.bool true) ∧ QAt w' g c b n (L ++ [i]) ∧ Kept w w' (fun k => k = c ∨ k = b) ∧ Below w0.heap.size w0 w' := by
  have hc0 := h.cell0
  have hc1 := h.cell1
  have t1 : decide (i < 0) = false := decide_eq_false (by omega)
  have t2 : decide ((n : Int) ≤ i) = false := decide_eq_false (by omega)
  obtain ⟨j, rfl⟩ := Int.eq_ofNat_of_zero_le h0
  have hcb := h.cellb j (by omega)
  rw [decide_eq_false hm] at hcb
  obtain ⟨s, r, hc⟩ := h.chan
  have hroom : (L.map (Value.int .i64)).toArray.size < n := by simpa using h.room_lt j h0 h1 hm
  have hpush : (L.map (Value.int .i64)).toArray.push (.int .i64 (j : Int)) = ((L ++ [(j : Int)]).map (Value.int .i64)).toArray := by simp
  obtain ⟨W1, hW⟩ : ∃ W1, w.setChan c n ((L.map (Value.int .i64)).toArray.push (.int .i64 (j : Int))) false (s + 1) r false = W1 := ⟨_, rfl⟩
  have hq : QAt (W1.setCell ⟨b, j, none⟩ (.bool true)) g c b n (L ++ [(j : Int)]) := by
    rw [← hW, hpush]
    refine h.mod _ _ _ _ _ (fun i hi => ?_) ?_ (fun x hx => ?_)
    · by_cases e : i = j
      · subst e; simp
      · rw [if_neg e]
        have : (i : Int) ≠ (j : Int) := by omega
        simp [this]
    · rw [List.nodup_append]
      exact ⟨h.nodup, by simp, by intro x hx y hy; simp at hy; subst hy; exact fun e => hm (e ▸ hx)⟩
    · rcases List.mem_append.1 hx with hx | hx
      · exact h.rng x hx
      · simp at hx; subst hx; exact ⟨h0, h1⟩
  have hk : Kept w (W1.setCell ⟨b, j, none⟩ (.bool true)) (fun k => k = c ∨ k = b) := by rw [← hW]; exact h.kept _ _ _ _ _
  have hb2 : Below w0.heap.size w0 (W1.setCell ⟨b, j, none⟩ (.bool true)) := by rw [← hW]; exact (belowc hB hcw _ _ _ _ _ _).setCell hbw _
  have e1 : W1.heap[g]? = w.heap[g]? := by rw [← hW]; exact heap_setChan_ne _ _ _ _ _ _ _ h.hgc.symm
  have e2 : W1.heap[b]? = w.heap[b]? := by rw [← hW]; exact heap_setChan_ne _ _ _ _ _ _ _ h.hcb
  have k1 : W1.cell? ⟨g, 1, none⟩ = some (.slice (some ⟨b, 0, none⟩) n n) := by simp [World.cell?, e1, h.box]
  have k2 : W1.cell? ⟨b, j, none⟩ = some (.bool false) := by rw [← hcb]; simp [World.cell?, e2]
  have k3 : W1.frozen? ⟨b, j, none⟩ = false := by rw [← h.frozb j]; simp [World.frozen?, e2]
  have HC := Aside0.mk hc
  have HR := Aside0.mk hroom
  have HW := Aside0.mk hW
  have HQ := Aside0.mk hq
  have HK := Aside0.mk hk
  have HB := Aside0.mk hb2
  clear h hc hroom hpush hW hq hk hb2 e1 e2 hB hm
  go_enter Tryd.func29, Tryd.ntmps29
  go_upto_region 5 with fail
  refine wp_sel_send (bl := false) (c := c) (cap := n) (s := s) (r := r) (buf := (L.map (Value.int .i64)).toArray) (tm := false) (v := .int .i64 (j : Int)) (z := .int .i64 0) rfl ?hr HC.out HR.out ?_
  case hr => simp [go_sem, execOp, scase, Act.eval]
  rw [HW.out]
  go_wp2
  go_ret
  exact ⟨rfl, HQ.out, HK.out, HB.out⟩
end Go.Proofs.YtanpghbakbebiaaDoorQ
namespace Go.Proofs.YtanpghbakbebiaaDoorQ
open Go Go.Conc Go.RowKit Go.Proofs.YtanpghbakbebiaaDoorW.PrintWords Go.Proofs.YtanpghbakbebiaaDoorW.PrintLast Go.Proofs.YtanpghbakbebiaaDoorW.PrintMore Go.Proofs.YtanpghbakbebiaaDoorQuA
theorem wp_sel_recv' {P : Program} {id : Nat} {l : List Oper} {Q : Exit → Act → World → Prop} {a : Act} {w W1 : World} {o : Oper} {bl closed : Bool} {c cap s r : Nat} {buf buf' : Array Value} {tm : Bool} {z v : Value} (hg : o.guard = none)
    (hr : (execOp a.eval o).run P w = .ok (.comm #[rcase c z] bl .select) w) (hc : w.heap[c]? = some (.chan cap buf closed s r tm)) (hsome : 0 < buf.size) (hv : buf.getD 0 undef = v) (hb : buf.extract 1 buf.size = buf') (hW : w.setChan c cap buf' closed s (r + 1) tm = W1)
    (h : wpList P (o :: l).toArray Q l (a.put o.dst (.tuple #[goInt 0, .bool true, v])) W1) : (Code.region id (o :: l).toArray false).wp P Q a w := by
  refine wp_sel_recv hg hr hc hsome ?_
  rw [hv, hb, hW]
  exact h
theorem info3 : (Tryd.prog.info? 3).map (fun i => (i.zero, i.size, i.bytes)) = some (some (.int .i64 0), 1, 8) := by kernel_rfl
set_option maxHeartbeats 2000000 in
theorem Drain_q {w0 : World} {g c b n : Nat} {L : List Int} (m : Int) (w : World) (h : QAt w g c b n L) (hB : Below w0.heap.size w0 w) (hcw : w0.heap.size ≤ c) (hbw : w0.heap.size ≤ b) :
    Calls Tryd.prog 44 #[.pointer (some ⟨g, 0, none⟩), .int .i64 m] w fun e w' => ∃ v, e = .returned v ∧ Kd.R (Kd.int .i64) 3 w' w.heap.size (fun _ => True) v (L.take m.toNat) ∧ QAt w' g c b n (L.drop m.toNat) ∧ Kept w w' (fun k => k = c ∨ k = b) ∧ Below w0.heap.size w0 w' := by
  have HQ := Aside0.mk h
  have HB := Aside0.mk hB
  have HL := Aside0.mk h.room
  have HZ := Aside0.mk h.lts
  have HS := Aside0.mk hB.size
  clear h hB
  go_enter Tryd.func44, Tryd.ntmps44
  go_wp2
  go_step3
  go_wp2
  go_step3
  go_wp2
  go_loopg [5, 6] L.length (fun kq v5 v6 w' => ∃ (j : Nat) (A : Option Addr) (cc : Nat), v5 = .slice A j cc ∧ Aside0 (j + kq = L.length) ∧ Aside0 (j = 0 ∨ (j : Int) ≤ m) ∧ Aside0 (Kd.R (Kd.int .i64) 3 w' w.heap.size (fun _ => True) v5 (L.take j)) ∧ Aside0 (QAt w' g c b n (L.drop j)) ∧ Aside0 (Kept w w' (fun k => k = c ∨ k = b)) ∧ Aside0 (Below w0.heap.size w0 w'))
  case atStart => exact ⟨0, none, 0, rfl, ⟨by omega⟩, ⟨.inl rfl⟩, ⟨Kd.R_nil _ _ _ _ _⟩, HQ, ⟨Kept.refl _ _⟩, HB⟩
  case round =>
    obtain ⟨j, A, cc, rfl, HJ, HM, HO, HQ, HK, HB⟩ := hrel
    have hjL : j ≤ L.length := by have := HJ.out; omega
    by_cases hm : (j : Int) < m
    · have t1 : decide ((j : Int) < m) = true := decide_eq_true hm
      have hc0 := HQ.out.cell0
      obtain ⟨s, r, hc⟩ := HQ.out.chan
      by_cases hj : j < L.length
      · have hdrop : L.drop j = L[j] :: L.drop (j + 1) := List.drop_eq_getElem_cons hj
        obtain ⟨x, hx⟩ : ∃ x, L[j] = x := ⟨_, rfl⟩
        rw [hx] at hdrop
        have hxm : x ∈ L.drop j := by rw [hdrop]; simp
        obtain ⟨x0, x1⟩ := HQ.out.rng x hxm
        obtain ⟨i, rfl⟩ := Int.eq_ofNat_of_zero_le x0
        have hin : i < n := by omega
        have hnd := HQ.out.nodup
        rw [hdrop, List.nodup_cons] at hnd
        have hcell := HQ.out.cellb i hin
        rw [decide_eq_true hxm] at hcell
        obtain ⟨W1, hW⟩ : ∃ W1, wr.setChan c n ((L.drop (j + 1)).map (Value.int .i64)).toArray false s (r + 1) false = W1 := ⟨_, rfl⟩
        have hq : QAt (W1.setCell ⟨b, i, none⟩ (.bool false)) g c b n (L.drop (j + 1)) := by
          rw [← hW]
          refine HQ.out.mod _ _ _ _ _ (fun k hk => ?_) hnd.2 (fun y hy => HQ.out.rng y (by rw [hdrop]; exact List.mem_cons_of_mem _ hy))
          by_cases e : k = i
          · subst e; simp [hnd.1]
          · rw [if_neg e, hdrop]
            have : (k : Int) ≠ (i : Int) := by omega
            simp [this]
        have hk : Kept wr (W1.setCell ⟨b, i, none⟩ (.bool false)) (fun k => k = c ∨ k = b) := by rw [← hW]; exact HQ.out.kept _ _ _ _ _
        have hb2 : Below w0.heap.size w0 (W1.setCell ⟨b, i, none⟩ (.bool false)) := by rw [← hW]; exact (belowc HB.out hcw _ _ _ _ _ _).setCell hbw _
        have e1 : W1.heap[g]? = wr.heap[g]? := by rw [← hW]; exact heap_setChan_ne _ _ _ _ _ _ _ HQ.out.hgc.symm
        have e2 : W1.heap[b]? = wr.heap[b]? := by rw [← hW]; exact heap_setChan_ne _ _ _ _ _ _ _ HQ.out.hcb
        have k1 : W1.cell? ⟨g, 1, none⟩ = some (.slice (some ⟨b, 0, none⟩) n n) := by simp [World.cell?, e1, HQ.out.box]
        have k2 : W1.cell? ⟨b, i, none⟩ = some (.bool true) := by rw [← hcell]; simp [World.cell?, e2]
        have k3 : W1.frozen? ⟨b, i, none⟩ = false := by rw [← HQ.out.frozb i]; simp [World.frozen?, e2]
        have lts := HQ.out.lts
        have hsz : w.heap.size ≤ wr.heap.size := HK.out.1
        have hO2 : Kd.R (Kd.int .i64) 3 (W1.setCell ⟨b, i, none⟩ (.bool false)) w.heap.size (fun _ => True) (.slice A j cc) (L.take j) := by
          have h3 := Kd.R_bound HO.out
          refine Kd.R_mono (Kd.R_kept h3 hk ?_) (fun _ _ => trivial)
          rintro k ⟨_, hk1, hk2, q, hq1, cells, hq2⟩ (rfl | rfl)
          · rw [hc] at hq2; cases hq2
          · obtain ⟨bs, hbs, _⟩ := HQ.out.waits
            rw [hbs] at hq2
            cases hq2
            simp [Kd.int, Kd.scalar] at hq1
        have hsz2 : w.heap.size ≤ (W1.setCell ⟨b, i, none⟩ (.bool false)).heap.size := Nat.le_trans hsz hk.1
        have HW := Aside0.mk hW
        have HC := Aside0.mk hc
        have HX := Aside0.mk (show ((L.drop j).map (Value.int .i64)).toArray.getD 0 undef = .int .i64 (i : Int) by rw [hdrop]; rfl)
        have HE := Aside0.mk (show ((L.drop j).map (Value.int .i64)).toArray.extract 1 ((L.drop j).map (Value.int .i64)).toArray.size = ((L.drop (j + 1)).map (Value.int .i64)).toArray by rw [hdrop]; generalize L.drop (j + 1) = t; simp [List.take_of_length_le])
        have HP := Aside0.mk (show 0 < ((L.drop j).map (Value.int .i64)).toArray.size by rw [hdrop]; simp)
        have HT := Aside0.mk (show L.take j ++ [(i : Int)] = L.take (j + 1) by rw [List.take_succ_eq_append_getElem hj, hx])
        have HQ2 := Aside0.mk hq
        have HK2 := Aside0.mk hk
        have HB2 := Aside0.mk hb2
        have HO2 := Aside0.mk hO2
        have HS2 := Aside0.mk hsz2
        clear hdrop hnd hq hk hb2 e1 e2 hO2 hW hc hsz2 lts hsz hxm hx
        go_upto_region 6 with fail
        refine wp_sel_recv' (bl := false) (z := .int .i64 0) rfl ?hr HC.out HP.out HX.out HE.out HW.out ?_
        case hr => simp [go_sem, execOp, rcase, Act.eval]
        have HJ1 : Aside0 (j < L.length) := ⟨hj⟩
        have HM1 : Aside0 ((j : Int) < m) := ⟨hm⟩
        clear hj hm
        go_wp2_with ((with_reducible refine gate_builtin (b := .append) (xs := #[.tmp 27, .tmp 29]) rfl ?_); at_builtin; refine Kd.R_append (Kd.int .i64) (w0 := W1.setCell ⟨b, i, none⟩ (.bool false)) w.heap.size rfl (.tmp 27) (.tmp 29) 23 3 (.int .i64 0) 8 rfl Tryd.underlying23 info3 rfl (by decide) (by omega) (.slice A j cc) (L.take j) (i : Int) [.int .i64 (i : Int)] (fun _ => True) (fun _ => False) rfl (by simp [Act.eval]) rfl (fun _ hk => hk.elim) (fun _ _ => trivial) HO2.out (Below.refl _ _) HS2.out (by have := HJ1.out; have := HL.out; have := HQ.out.small; simp only [List.length_take]; omega) ?_; intro v1 w3 ho hb hg hat; rw [HT.out] at ho; have HO3 := Aside0.mk ho; have HB3 := Aside0.mk hb; clear ho hb hg hat)
        obtain ⟨A2, c2, e2⟩ := Kd.R_slice HO3.out
        have e3 : (L.take (j + 1)).length = j + 1 := by have := HJ1.out; simp; omega
        rw [e3] at e2
        subst e2
        clear e3
        go_roundg (gk - 1)
        case measure => have := HJ.out; have := HJ1.out; omega
        case rel =>
          refine ⟨j + 1, A2, c2, rfl, ⟨?_⟩, ⟨.inr ?_⟩, HO3, ⟨HQ2.out.step (fun k hk _ => HB3.out.block k ?_)⟩, ⟨(HK.out.then_ HK2.out (fun _ h => .inl h)).then_ (S2 := fun k => w.heap.size ≤ k) ⟨HB3.out.size, fun i _ hn => HB3.out.block i (Nat.lt_of_not_le hn)⟩ (fun _ h => .inr h)⟩, ⟨HB2.out.trans (HB3.out.mono HS.out)⟩⟩
          · have := HJ.out; have := HJ1.out; omega
          · have := HM1.out; omega
          · have := HZ.out; rcases hk with rfl | rfl | rfl <;> omega
      · have t2 : L.drop j = [] := List.drop_eq_nil_of_le (by omega)
        rw [t2] at hc
        have HC := Aside0.mk hc
        have hm2 : L.length ≤ m.toNat := by have := HJ.out; omega
        have f1 : L.take m.toNat = L.take j := by rw [List.take_of_length_le hm2, List.take_of_length_le (by have := HJ.out; omega)]
        have f2 : L.drop m.toNat = L.drop j := by rw [t2, List.drop_eq_nil_of_le hm2]
        have HF := Aside0.mk (And.intro f1 f2)
        clear hc t2 f1 f2
        go_upto_region 6 with fail
        refine wp_sel_recv_default (z := .int .i64 0) (cv := .chan (some c)) rfl ?hr (noWay_recv (z := .int .i64 0) HC.out) ?_
        case hr => simp [go_sem, execOp, Act.eval]
        go_wp2
        rw [Exit.noGoto_ret]
        go_ret
        rw [HF.out.1, HF.out.2]
        exact ⟨_, rfl, HO.out, HQ.out, HK.out, HB.out⟩
    · have t1 : decide ((j : Int) < m) = false := decide_eq_false hm
      have f1 : m.toNat = j := by rcases HM.out with h | h <;> omega
      have HF := Aside0.mk f1
      clear f1
      go_wp2
      go_ret
      rw [HF.out]
      exact ⟨_, rfl, HO.out, HQ.out, HK.out, HB.out⟩
end Go.Proofs.YtanpghbakbebiaaDoorQ

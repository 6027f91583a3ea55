/- A part of it. -/
import Derived.Test.YtanpghbakbebiaaDoorFsM26
import Derived.Conc.Token
import Derived.WalkMore
import Derived.Deep.LoopGhost
import Derived.Deep.Cut
import Derived.Test.YtanpghbakbebiaaDoorFsWMore
import Derived.Test.YtanpghbakbebiaaDoorFsWLast
import Derived.Test.YtanpghbakbebiaaDoorFsP0
import Derived.Outline
namespace Go.Proofs.YtanpghbakbebiaaDoorQ
open Go Go.Conc Go.RowKit Go.Proofs.YtanpghbakbebiaaDoorW.PrintWords Go.Proofs.YtanpghbakbebiaaDoorW.PrintLast Go.Proofs.YtanpghbakbebiaaDoorQuA
section
variable {w w1 : World} {g c b n : Nat} {L : List Int}
theorem QAt.far (_h : QAt w g c b n L) (buf : Array Value) (s r : Nat) (j : Nat) (v : Value) (k : Nat) (hc : k ≠ c) (hb : k ≠ b) :
    ((w.setChan c n buf false s r false).setCell ⟨b, j, none⟩ v).heap[k]? = w.heap[k]? := by
  rw [Below.heap_setCell _ _ _ _ hb, heap_setChan_ne _ _ _ _ _ _ _ (Ne.symm hc)]
theorem QAt.mod (h : QAt w g c b n L) (L' : List Int) (s r : Nat) (j : Nat) (v : Value)
    (hw : ∀ i : Nat, i < n → (if i = j then v else .bool (decide ((i : Int) ∈ L))) = .bool (decide ((i : Int) ∈ L'))) (hnd : L'.Nodup) (hr : ∀ x ∈ L', 0 ≤ x ∧ x < (n : Int)) :
    QAt ((w.setChan c n (L'.map (Value.int .i64)).toArray false s r false).setCell ⟨b, j, none⟩ v) g c b n L' := by
  obtain ⟨bs, hb, hsz, hx⟩ := h.waits
  obtain ⟨s0, r0, hc⟩ := h.chan
  refine ⟨(h.far _ _ _ _ _ g h.hgc h.hgb).trans h.box, ⟨s, r, ?_⟩, ⟨bs.setIfInBounds j v, ?_, by simp [hsz], ?_⟩, h.small, hnd, hr⟩
  · rw [Below.heap_setCell _ _ _ _ h.hcb]
    exact heap_setChan_self _ hc _ _ _ _ _ _
  · simp only [World.setCell, Array.getElem?_modify, if_pos]
    rw [heap_setChan_ne _ _ _ _ _ _ _ h.hcb, hb]
    simp
  · intro i hi
    rw [← hw i hi, Array.getElem?_setIfInBounds]
    by_cases e : j = i
    · rw [if_pos e, if_pos (by omega), if_pos e.symm]
    · rw [if_neg e, if_neg (Ne.symm e)]
      exact hx i hi
theorem QAt.kept (h : QAt w g c b n L) (buf : Array Value) (s r : Nat) (j : Nat) (v : Value) : Kept w ((w.setChan c n buf false s r false).setCell ⟨b, j, none⟩ v) (fun k => k = c ∨ k = b) := by
  refine ⟨by simp [World.setCell, World.setChan], fun i hi hn => h.far _ _ _ _ _ i (fun e => hn (.inl e)) (fun e => hn (.inr e))⟩
theorem belowc {w0 w : World} (h : Below w0.heap.size w0 w) {c : Nat} (hc : w0.heap.size ≤ c) (cap : Nat) (buf : Array Value) (cl : Bool) (s r : Nat) (tm : Bool) : Below w0.heap.size w0 (w.setChan c cap buf cl s r tm) := below_setChan h hc _ _ _ _ _ _
end
set_option maxHeartbeats 1000000 in
theorem Put_out {g c b n : Nat} {L : List Int} (i : Int) (w : World) (h : QAt w g c b n L) (hi : ¬ (0 ≤ i ∧ i < (n : Int)) ∨ i ∈ L) :
    Calls Tryd.prog 29 #[.pointer (some ⟨g, 0, none⟩), .int .i64 i] w fun e w' => e = .returned (.bool false) ∧ w = w' := by
  have hc1 := h.cell1
  have HQ := Aside0.mk h
  clear h
  by_cases h0 : i < 0
  · have t1 : decide (i < 0) = true := decide_eq_true h0
    clear hi
    go_enter Tryd.func29, Tryd.ntmps29
    go_wp2
    go_ret
    exact ⟨rfl, rfl⟩
  · have t1 : decide (i < 0) = false := decide_eq_false h0
    by_cases h1 : i < (n : Int)
    · have t2 : decide ((n : Int) ≤ i) = false := decide_eq_false (by omega)
      obtain ⟨j, rfl⟩ := Int.eq_ofNat_of_zero_le (Int.not_lt.1 h0)
      have hm : (j : Int) ∈ L := by
        rcases hi with hi | hi
        · omega
        · exact hi
      have hcb := HQ.out.cellb j (by omega)
      rw [decide_eq_true hm] at hcb
      clear hi
      go_enter Tryd.func29, Tryd.ntmps29
      go_wp2
      go_ret
      exact ⟨rfl, rfl⟩
    · have t2 : decide ((n : Int) ≤ i) = true := decide_eq_true (by omega)
      clear hi
      go_enter Tryd.func29, Tryd.ntmps29
      go_wp2
      go_ret
      exact ⟨rfl, rfl⟩
end Go.Proofs.YtanpghbakbebiaaDoorQ
namespace Go.Proofs.YtanpghbakbebiaaDoorQ
open Go Go.Conc Go.RowKit Go.Proofs.YtanpghbakbebiaaDoorW.PrintWords Go.Proofs.YtanpghbakbebiaaDoorW.PrintLast Go.Proofs.YtanpghbakbebiaaDoorQuA
set_option maxHeartbeats 1000000 in
theorem Put_in {w0 : World} {g c b n : Nat} {L : List Int} (i : Int) (w : World) (h : QAt w g c b n L) (h0 : 0 ≤ i) (h1 : i < (n : Int)) (hm : i ∉ L) (hB : Below w0.heap.size w0 w) (hcw : w0.heap.size ≤ c) (hbw : w0.heap.size ≤ b) :
    Calls Tryd.prog 29 #[.pointer (some ⟨g, 0, none⟩), .int .i64 i] w fun e w' => e = .returned (.bool true) ∧ QAt w' g c b n (L ++ [i]) ∧ Kept w w' (fun k => k = c ∨ k = b) ∧ Below w0.heap.size w0 w' := by
  have hc0 := h.cell0
  have hc1 := h.cell1
  have t1 : decide (i < 0) = false := decide_eq_false (by omega)
  have t2 : decide ((n : Int) ≤ i) = false := decide_eq_false (by omega)
  obtain ⟨j, rfl⟩ := Int.eq_ofNat_of_zero_le h0
  have hcb := h.cellb j (by omega)
  rw [decide_eq_false hm] at hcb
  obtain ⟨s, r, hc⟩ := h.chan
  have hroom : (L.map (Value.int .i64)).toArray.size < n := by simpa using h.room_lt j h0 h1 hm
  have hpush : (L.map (Value.int .i64)).toArray.push (.int .i64 (j : Int)) = ((L ++ [(j : Int)]).map (Value.int .i64)).toArray := by simp
  obtain ⟨W1, hW⟩ : ∃ W1, w.setChan c n ((L.map (Value.int .i64)).toArray.push (.int .i64 (j : Int))) false (s + 1) r false = W1 := ⟨_, rfl⟩
  have hq : QAt (W1.setCell ⟨b, j, none⟩ (.bool true)) g c b n (L ++ [(j : Int)]) := by
    rw [← hW, hpush]
    refine h.mod _ _ _ _ _ (fun i hi => ?_) ?_ (fun x hx => ?_)
    · by_cases e : i = j
      · subst e; simp
      · rw [if_neg e]
        have : (i : Int) ≠ (j : Int) := by omega
        simp [this]
    · rw [List.nodup_append]
      exact ⟨h.nodup, by simp, by intro x hx y hy; simp at hy; subst hy; exact fun e => hm (e ▸ hx)⟩
    · rcases List.mem_append.1 hx with hx | hx
      · exact h.rng x hx
      · simp at hx; subst hx; exact ⟨h0, h1⟩
  have hk : Kept w (W1.setCell ⟨b, j, none⟩ (.bool true)) (fun k => k = c ∨ k = b) := by rw [← hW]; exact h.kept _ _ _ _ _
  have hb2 : Below w0.heap.size w0 (W1.setCell ⟨b, j, none⟩ (.bool true)) := by rw [← hW]; exact (belowc hB hcw _ _ _ _ _ _).setCell hbw _
  have e1 : W1.heap[g]? = w.heap[g]? := by rw [← hW]; exact heap_setChan_ne _ _ _ _ _ _ _ h.hgc.symm
  have e2 : W1.heap[b]? = w.heap[b]? := by rw [← hW]; exact heap_setChan_ne _ _ _ _ _ _ _ h.hcb
  have k1 : W1.cell? ⟨g, 1, none⟩ = some (.slice (some ⟨b, 0, none⟩) n n) := by simp [World.cell?, e1, h.box]
  have k2 : W1.cell? ⟨b, j, none⟩ = some (.bool false) := by rw [← hcb]; simp [World.cell?, e2]
  have k3 : W1.frozen? ⟨b, j, none⟩ = false := by rw [← h.frozb j]; simp [World.frozen?, e2]
  have HC := Aside0.mk hc
  have HR := Aside0.mk hroom
  have HW := Aside0.mk hW
  have HQ := Aside0.mk hq
  have HK := Aside0.mk hk
  have HB := Aside0.mk hb2
  clear h hc hroom hpush hW hq hk hb2 e1 e2 hB hm
  go_enter Tryd.func29, Tryd.ntmps29
  go_upto_region 5 with fail
  refine wp_sel_send (bl := false) (c := c) (cap := n) (s := s) (r := r) (buf := (L.map (Value.int .i64)).toArray) (tm := false) (v := .int .i64 (j : Int)) (z := .int .i64 0) rfl ?hr HC.out HR.out ?_
  case hr => simp [go_sem, execOp, scase, Act.eval]
  rw [HW.out]
  go_wp2
  go_ret
  exact ⟨rfl, HQ.out, HK.out, HB.out⟩
end Go.Proofs.YtanpghbakbebiaaDoorQ
namespace Go.Proofs.YtanpghbakbebiaaDoorQ
open Go Go.Conc Go.RowKit Go.Proofs.YtanpghbakbebiaaDoorW.PrintWords Go.Proofs.YtanpghbakbebiaaDoorW.PrintLast Go.Proofs.YtanpghbakbebiaaDoorW.PrintMore Go.Proofs.YtanpghbakbebiaaDoorQuA
theorem wp_sel_recv' {P : Program} {id : Nat} {l : List Oper} {Q : Exit → Act → World → Prop} {a : Act} {w W1 : World} {o : Oper} {bl closed : Bool} {c cap s r : Nat} {buf buf' : Array Value} {tm : Bool} {z v : Value} (hg : o.guard = none)
    (hr : (execOp a.eval o).run P w = .ok (.comm #[rcase c z] bl .select) w) (hc : w.heap[c]? = some (.chan cap buf closed s r tm)) (hsome : 0 < buf.size) (hv : buf.getD 0 undef = v) (hb : buf.extract 1 buf.size = buf') (hW : w.setChan c cap buf' closed s (r + 1) tm = W1)
    (h : wpList P (o :: l).toArray Q l (a.put o.dst (.tuple #[goInt 0, .bool true, v])) W1) : (Code.region id (o :: l).toArray false).wp P Q a w := by
  refine wp_sel_recv hg hr hc hsome ?_
  rw [hv, hb, hW]
  exact h
theorem info3 : (Tryd.prog.info? 3).map (fun i => (i.zero, i.size, i.bytes)) = some (some (.int .i64 0), 1, 8) := by kernel_rfl
set_option maxHeartbeats 2000000 in
theorem Drain_q {w0 : World} {g c b n : Nat} {L : List Int} (m : Int) (w : World) (h : QAt w g c b n L) (hB : Below w0.heap.size w0 w) (hcw : w0.heap.size ≤ c) (hbw : w0.heap.size ≤ b) :
    Calls Tryd.prog 44 #[.pointer (some ⟨g, 0, none⟩), .int .i64 m] w fun e w' => ∃ v, e = .returned v ∧ Kd.R (Kd.int .i64) 3 w' w.heap.size (fun _ => True) v (L.take m.toNat) ∧ QAt w' g c b n (L.drop m.toNat) ∧ Kept w w' (fun k => k = c ∨ k = b) ∧ Below w0.heap.size w0 w' := by
  have HQ := Aside0.mk h
  have HB := Aside0.mk hB
  have HL := Aside0.mk h.room
  have HZ := Aside0.mk h.lts
  have HS := Aside0.mk hB.size
  clear h hB
  go_enter Tryd.func44, Tryd.ntmps44
  go_wp2
  go_step3
  go_wp2
  go_step3
  go_wp2
  go_loopg [5, 6] L.length (fun kq v5 v6 w' => ∃ (j : Nat) (A : Option Addr) (cc : Nat), v5 = .slice A j cc ∧ Aside0 (j + kq = L.length) ∧ Aside0 (j = 0 ∨ (j : Int) ≤ m) ∧ Aside0 (Kd.R (Kd.int .i64) 3 w' w.heap.size (fun _ => True) v5 (L.take j)) ∧ Aside0 (QAt w' g c b n (L.drop j)) ∧ Aside0 (Kept w w' (fun k => k = c ∨ k = b)) ∧ Aside0 (Below w0.heap.size w0 w'))
  case atStart => exact ⟨0, none, 0, rfl, ⟨by omega⟩, ⟨.inl rfl⟩, ⟨Kd.R_nil _ _ _ _ _⟩, HQ, ⟨Kept.refl _ _⟩, HB⟩
  case round =>
    obtain ⟨j, A, cc, rfl, HJ, HM, HO, HQ, HK, HB⟩ := hrel
    have hjL : j ≤ L.length := by have := HJ.out; omega
    by_cases hm : (j : Int) < m
    · have t1 : decide ((j : Int) < m) = true := decide_eq_true hm
      have hc0 := HQ.out.cell0
      obtain ⟨s, r, hc⟩ := HQ.out.chan
      by_cases hj : j < L.length
      · have hdrop : L.drop j = L[j] :: L.drop (j + 1) := List.drop_eq_getElem_cons hj
        obtain ⟨x, hx⟩ : ∃ x, L[j] = x := ⟨_, rfl⟩
        rw [hx] at hdrop
        have hxm : x ∈ L.drop j := by rw [hdrop]; simp
        obtain ⟨x0, x1⟩ := HQ.out.rng x hxm
        obtain ⟨i, rfl⟩ := Int.eq_ofNat_of_zero_le x0
        have hin : i < n := by omega
        have hnd := HQ.out.nodup
        rw [hdrop, List.nodup_cons] at hnd
        have hcell := HQ.out.cellb i hin
        rw [decide_eq_true hxm] at hcell
        obtain ⟨W1, hW⟩ : ∃ W1, wr.setChan c n ((L.drop (j + 1)).map (Value.int .i64)).toArray false s (r + 1) false = W1 := ⟨_, rfl⟩
        have hq : QAt (W1.setCell ⟨b, i, none⟩ (.bool false)) g c b n (L.drop (j + 1)) := by
          rw [← hW]
          refine HQ.out.mod _ _ _ _ _ (fun k hk => ?_) hnd.2 (fun y hy => HQ.out.rng y (by rw [hdrop]; exact List.mem_cons_of_mem _ hy))
          by_cases e : k = i
          · subst e; simp [hnd.1]
          · rw [if_neg e, hdrop]
            have : (k : Int) ≠ (i : Int) := by omega
            simp [this]
        have hk : Kept wr (W1.setCell ⟨b, i, none⟩ (.bool false)) (fun k => k = c ∨ k = b) := by rw [← hW]; exact HQ.out.kept _ _ _ _ _
        have hb2 : Below w0.heap.size w0 (W1.setCell ⟨b, i, none⟩ (.bool false)) := by rw [← hW]; exact (belowc HB.out hcw _ _ _ _ _ _).setCell hbw _
        have e1 : W1.heap[g]? = wr.heap[g]? := by rw [← hW]; exact heap_setChan_ne _ _ _ _ _ _ _ HQ.out.hgc.symm
        have e2 : W1.heap[b]? = wr.heap[b]? := by rw [← hW]; exact heap_setChan_ne _ _ _ _ _ _ _ HQ.out.hcb
        have k1 : W1.cell? ⟨g, 1, none⟩ = some (.slice (some ⟨b, 0, none⟩) n n) := by simp [World.cell?, e1, HQ.out.box]
        have k2 : W1.cell? ⟨b, i, none⟩ = some (.bool true) := by rw [← hcell]; simp [World.cell?, e2]
        have k3 : W1.frozen? ⟨b, i, none⟩ = false := by rw [← HQ.out.frozb i]; simp [World.frozen?, e2]
        have lts := HQ.out.lts
        have hsz : w.heap.size ≤ wr.heap.size := HK.out.1
        have hO2 : Kd.R (Kd.int .i64) 3 (W1.setCell ⟨b, i, none⟩ (.bool false)) w.heap.size (fun _ => True) (.slice A j cc) (L.take j) := by
          have h3 := Kd.R_bound HO.out
          refine Kd.R_mono (Kd.R_kept h3 hk ?_) (fun _ _ => trivial)
          rintro k ⟨_, hk1, hk2, q, hq1, cells, hq2⟩ (rfl | rfl)
          · rw [hc] at hq2; cases hq2
          · obtain ⟨bs, hbs, _⟩ := HQ.out.waits
            rw [hbs] at hq2
            cases hq2
            simp [Kd.int, Kd.scalar] at hq1
        have hsz2 : w.heap.size ≤ (W1.setCell ⟨b, i, none⟩ (.bool false)).heap.size := Nat.le_trans hsz hk.1
        have HW := Aside0.mk hW
        have HC := Aside0.mk hc
        have HX := Aside0.mk (show ((L.drop j).map (Value.int .i64)).toArray.getD 0 undef = .int .i64 (i : Int) by rw [hdrop]; rfl)
        have HE := Aside0.mk (show ((L.drop j).map (Value.int .i64)).toArray.extract 1 ((L.drop j).map (Value.int .i64)).toArray.size = ((L.drop (j + 1)).map (Value.int .i64)).toArray by rw [hdrop]; generalize L.drop (j + 1) = t; simp [List.take_of_length_le])
        have HP := Aside0.mk (show 0 < ((L.drop j).map (Value.int .i64)).toArray.size by rw [hdrop]; simp)
        have HT := Aside0.mk (show L.take j ++ [(i : Int)] = L.take (j + 1) by rw [List.take_succ_eq_append_getElem hj, hx])
        have HQ2 := Aside0.mk hq
        have HK2 := Aside0.mk hk
        have HB2 := Aside0.mk hb2
        have HO2 := Aside0.mk hO2
        have HS2 := Aside0.mk hsz2
        clear hdrop hnd hq hk hb2 e1 e2 hO2 hW hc hsz2 lts hsz hxm hx
        go_upto_region 6 with fail
        refine wp_sel_recv' (bl := false) (z := .int .i64 0) rfl ?hr HC.out HP.out HX.out HE.out HW.out ?_
        case hr => simp [go_sem, execOp, rcase, Act.eval]
        have HJ1 : Aside0 (j < L.length) := ⟨hj⟩
        have HM1 : Aside0 ((j : Int) < m) := ⟨hm⟩
        clear hj hm
        go_wp2_with ((with_reducible refine gate_builtin (b := .append) (xs := #[.tmp 27, .tmp 29]) rfl ?_); at_builtin; refine Kd.R_append (Kd.int .i64) (w0 := W1.setCell ⟨b, i, none⟩ (.bool false)) w.heap.size rfl (.tmp 27) (.tmp 29) 23 3 (.int .i64 0) 8 rfl Tryd.underlying23 info3 rfl (by decide) (by omega) (.slice A j cc) (L.take j) (i : Int) [.int .i64 (i : Int)] (fun _ => True) (fun _ => False) rfl (by simp [Act.eval]) rfl (fun _ hk => hk.elim) (fun _ _ => trivial) HO2.out (Below.refl _ _) HS2.out (by have := HJ1.out; have := HL.out; have := HQ.out.small; simp only [List.length_take]; omega) ?_; intro v1 w3 ho hb hg hat; rw [HT.out] at ho; have HO3 := Aside0.mk ho; have HB3 := Aside0.mk hb; clear ho hb hg hat)
        obtain ⟨A2, c2, e2⟩ := Kd.R_slice HO3.out
        have e3 : (L.take (j + 1)).length = j + 1 := by have := HJ1.out; simp; omega
        rw [e3] at e2
        subst e2
        clear e3
        go_roundg (gk - 1)
        case measure => have := HJ.out; have := HJ1.out; omega
        case rel =>
          refine ⟨j + 1, A2, c2, rfl, ⟨?_⟩, ⟨.inr ?_⟩, HO3, ⟨HQ2.out.step (fun k hk _ => HB3.out.block k ?_)⟩, ⟨(HK.out.then_ HK2.out (fun _ h => .inl h)).then_ (S2 := fun k => w.heap.size ≤ k) ⟨HB3.out.size, fun i _ hn => HB3.out.block i (Nat.lt_of_not_le hn)⟩ (fun _ h => .inr h)⟩, ⟨HB2.out.trans (HB3.out.mono HS.out)⟩⟩
          · have := HJ.out; have := HJ1.out; omega
          · have := HM1.out; omega
          · have := HZ.out; rcases hk with rfl | rfl | rfl <;> omega
      · have t2 : L.drop j = [] := List.drop_eq_nil_of_le (by omega)
        rw [t2] at hc
        have HC := Aside0.mk hc
        have hm2 : L.length ≤ m.toNat := by have := HJ.out; omega
        have f1 : L.take m.toNat = L.take j := by rw [List.take_of_length_le hm2, List.take_of_length_le (by have := HJ.out; omega)]
        have f2 : L.drop m.toNat = L.drop j := by rw [t2, List.drop_eq_nil_of_le hm2]
        have HF := Aside0.mk (And.intro f1 f2)
        clear hc t2 f1 f2
        go_upto_region 6 with fail
        refine wp_sel_recv_default (z := .int .i64 0) (cv := .chan (some c)) rfl ?hr (noWay_recv (z := .int .i64 0) HC.out) ?_
        case hr => simp [go_sem, execOp, Act.eval]
        go_wp2
        rw [Exit.noGoto_ret]
        go_ret
        rw [HF.out.1, HF.out.2]
        exact ⟨_, rfl, HO.out, HQ.out, HK.out, HB.out⟩
    · have t1 : decide ((j : Int) < m) = false := decide_eq_false hm
      have f1 : m.toNat = j := by rcases HM.out with h | h <;> omega
      have HF := Aside0.mk f1
      clear f1
      go_wp2
      go_ret
      rw [HF.out]
      exact ⟨_, rfl, HO.out, HQ.out, HK.out, HB.out⟩
end Go.Proofs.YtanpghbakbebiaaDoorQ
namespace Go.Proofs.YtanpghbakbebiaaDoorQ
open Go Go.Conc Go.RowKit Go.Proofs.YtanpghbakbebiaaDoorW.PrintWords Go.Proofs.YtanpghbakbebiaaDoorW.PrintLast Go.Proofs.YtanpghbakbebiaaDoorW.PrintMore Go.Proofs.YtanpghbakbebiaaDoorQuA
set_option maxHeartbeats 1000000 in
theorem Take_some {w0 : World} {g c b n : Nat} {x : Int} {L : List Int} (w : World) (h : QAt w g c b n (x :: L)) (hB : Below w0.heap.size w0 w) (hcw : w0.heap.size ≤ c) (hbw : w0.heap.size ≤ b) :
    Calls Tryd.prog 30 #[.pointer (some ⟨g, 0, none⟩)] w fun e w' => e = .returned (.tuple #[.int .i64 x, .bool true]) ∧ QAt w' g c b n L ∧ Kept w w' (fun k => k = c ∨ k = b) ∧ Below w0.heap.size w0 w' := by
  have HD := Aside0.mk (Drain_q 1 w h hB hcw hbw)
  clear h hB hcw hbw
  go_enter Tryd.func30, Tryd.ntmps30
  go_wp2_with (go_at_call 44; refine HD.out.mono ?_; rintro e w' ⟨v, rfl, ho, hq, hk, hb⟩; simp only [show (1 : Int).toNat = 1 from rfl, List.take_succ_cons, List.take_zero, List.drop_succ_cons, List.drop_zero] at ho hq; obtain ⟨g2, c2, e2, gb, gl, cl, hg⟩ := Kd.R_form ho (by simp); subst e2; have hx := (Kd.R_celln 0 ho 0 (by omega) (by simp)).1; replace hx : w'.cell? ⟨g2, 0, none⟩ = some (.int .i64 x) := hx; have HQ := Aside0.mk hq; have HK := Aside0.mk hk; have HB := Aside0.mk hb; clear ho hq hk hb gb gl cl hg HD)
  go_ret2
  exact ⟨rfl, HQ.out, HK.out, HB.out⟩
set_option maxHeartbeats 1000000 in
theorem Take_none {w0 : World} {g c b n : Nat} (w : World) (h : QAt w g c b n []) (hB : Below w0.heap.size w0 w) (hcw : w0.heap.size ≤ c) (hbw : w0.heap.size ≤ b) :
    Calls Tryd.prog 30 #[.pointer (some ⟨g, 0, none⟩)] w fun e w' => e = .returned (.tuple #[.int .i64 0, .bool false]) ∧ QAt w' g c b n [] ∧ Kept w w' (fun k => k = c ∨ k = b) ∧ Below w0.heap.size w0 w' := by
  have HD := Aside0.mk (Drain_q 1 w h hB hcw hbw)
  clear h hB hcw hbw
  go_enter Tryd.func30, Tryd.ntmps30
  go_wp2_with (go_at_call 44; refine HD.out.mono ?_; rintro e w' ⟨v, rfl, ho, hq, hk, hb⟩; simp only [List.take_nil, List.drop_nil] at ho hq; obtain ⟨A2, c2, e2⟩ := Kd.R_slice ho; subst e2; have HQ := Aside0.mk hq; have HK := Aside0.mk hk; have HB := Aside0.mk hb; clear ho hq hk hb HD)
  go_ret2
  exact ⟨rfl, HQ.out, HK.out, HB.out⟩
end Go.Proofs.YtanpghbakbebiaaDoorQ
set_option linter.unusedVariables false
set_option linter.unusedSimpArgs false
namespace Go.Proofs.YtanpghbakbebiaaDoor.P
open Go Go.RowKit Go.Proofs.YtanpghbakbebiaaDoorW.PrintWords Go.Proofs.YtanpghbakbebiaaDoorW.PrintLast Go.Proofs.YtanpghbakbebiaaDoorW.PrintMore
def SetsAt (W : World) (g : Nat) (ok : Nat → Prop) (xs : List (List Int)) : Prop := ∃ vs : Array Value, W.heap[g]? = some (.cells vs 30 (0, 0)) ∧ vs.size = xs.length ∧ ∀ j, j < xs.length → ∃ A c, vs[j]? = some (.slice A (xs.getD j []).length c) ∧ (xs.getD j []).length ≤ c ∧ Kd.F (Kd.int .u64) W ok A (xs.getD j []).length (xs.getD j [])
section
variable {W W1 w : World} {g : Nat} {ok ok' S : Nat → Prop} {xs : List (List Int)}
theorem SetsAt.lt (h : SetsAt W g ok xs) : g < W.heap.size := by
 obtain ⟨vs, h1, _⟩ := h
 exact blk_lt h1
theorem SetsAt.step (h : SetsAt W g ok xs) (hm : ∀ k, (k = g ∨ ok k) → k < W.heap.size → W1.heap[k]? = W.heap[k]?) : SetsAt W1 g ok xs := by
 obtain ⟨vs, h1, h2, h3⟩ := h
 refine ⟨vs, (hm g (.inl rfl) (blk_lt h1)).trans h1, h2, fun j hj => ?_⟩
 obtain ⟨A, c, e, hl, hf⟩ := h3 j hj
 exact ⟨A, c, e, hl, Kd.F_step hf (fun k hk hlt => hm k (.inr hk) hlt)⟩
theorem SetsAt.below (h : SetsAt W g ok xs) (hb : Below W.heap.size W W1) : SetsAt W1 g ok xs := h.step (fun k _ hlt => hb.block k hlt)
theorem SetsAt.kept (h : SetsAt W g ok xs) (hk : Kept W W1 S) (hg : ¬ S g) (hok : ∀ k, ok k → ¬ S k) : SetsAt W1 g ok xs :=
 h.step (fun k ho hlt => hk.2 k hlt (by rcases ho with rfl | ho <;> first | exact hg | exact hok k ho))
theorem SetsAt.far (h : SetsAt W g ok xs) {p : Addr} (hg : g ≠ p.block) (hok : ∀ k, ok k → k ≠ p.block) (u : Value) : SetsAt (W.setCell p u) g ok xs :=
 h.step (fun k ho _ => Below.heap_setCell W p u k (by rcases ho with rfl | ho <;> first | exact hg | exact hok k ho))
theorem SetsAt.widen (h : SetsAt W g ok xs) (hok : ∀ k, ok k → k < W.heap.size → ok' k) : SetsAt W g ok' xs := by
 obtain ⟨vs, h1, h2, h3⟩ := h
 refine ⟨vs, h1, h2, fun j hj => ?_⟩
 obtain ⟨A, c, e, hl, hf⟩ := h3 j hj
 exact ⟨A, c, e, hl, Kd.F_mono (Kd.F_bound hf) (fun k hk => hok k hk.1 hk.2)⟩
theorem SetsAt.get (h : SetsAt W g ok xs) (i : Int) (h0 : 0 ≤ i) (h1 : i < (xs.length : Int)) : ∃ A c, W.cell? ⟨g, i.toNat, none⟩ = some (.slice A (rd_L3 xs i).length c) ∧ W.frozen? ⟨g, i.toNat, none⟩ = false ∧ (rd_L3 xs i).length ≤ c ∧ Kd.F (Kd.int .u64) W ok A (rd_L3 xs i).length (rd_L3 xs i) := by
 obtain ⟨vs, g1, g2, g3⟩ := h
 obtain ⟨A, c, e, hl, hf⟩ := g3 i.toNat (by omega)
 exact ⟨A, c, (blk_cell g1 i.toNat).trans e, blk_frozen g1 i.toNat, hl, hf⟩
theorem SetsAt.set (h : SetsAt W g ok xs) (i : Int) (h0 : 0 ≤ i) (h1 : i < (xs.length : Int)) {A : Option Addr} {c : Nat} (x : List Int) (hl : x.length ≤ c) (hf : Kd.F (Kd.int .u64) W ok A x.length x) (hok : ∀ k, ok k → k ≠ g) : SetsAt (W.setCell ⟨g, i.toNat, none⟩ (.slice A x.length c)) g ok (xs.set i.toNat x) := by
 obtain ⟨vs, g1, g2, g3⟩ := h
 have far : ∀ {A' : Option Addr} {l : List Int}, Kd.F (Kd.int .u64) W ok A' l.length l → Kd.F (Kd.int .u64) (W.setCell ⟨g, i.toNat, none⟩ (.slice A x.length c)) ok A' l.length l := fun hq => Kd.F_far hq (p := ⟨g, i.toNat, none⟩) (fun k hk => hok k hk) _
 refine ⟨vs.setIfInBounds i.toNat (.slice A x.length c), blk_set g1 i.toNat _, by simp [g2], fun j hj => ?_⟩
 rw [List.length_set] at hj
 by_cases e : i.toNat = j
 ·subst e
  refine ⟨A, c, ?_, ?_, ?_⟩
  ·rw [Array.getElem?_setIfInBounds_self_of_lt (by omega)]
   simp [List.getD_eq_getElem?_getD, hj]
  ·simpa [List.getD_eq_getElem?_getD, hj] using hl
  ·have := far hf
   simpa [List.getD_eq_getElem?_getD, hj] using this
 ·obtain ⟨A', c', e', hl', hf'⟩ := g3 j hj
  have q : (xs.set i.toNat x).getD j [] = xs.getD j [] := by simp [List.getD_eq_getElem?_getD, List.getElem?_set_ne e]
  rw [q]
  exact ⟨A', c', by rw [Array.getElem?_setIfInBounds_ne e]; exact e', hl', far hf'⟩
theorem SetsAt.of_made (n : Nat) (ok : Nat → Prop) (h : W.heap[g]? = some (.cells (madeCells #[.slice none 0 0] n) 30 (0, 0))) : SetsAt W g ok (List.replicate n []) := by
 refine ⟨_, h, by simp [size_madeCells], fun j hj => ⟨none, 0, ?_, ?_, ?_⟩⟩
 ·rw [List.length_replicate] at hj
  have : j % 1 = 0 := by omega
  simp [madeCells, hj, this, List.getD_eq_getElem?_getD]
 ·rw [List.length_replicate] at hj
  simp [List.getD_eq_getElem?_getD, hj]
 ·rw [List.length_replicate] at hj
  have e : (List.replicate n ([] : List Int)).getD j [] = [] := by simp [List.getD_eq_getElem?_getD, hj]
  rw [e]
  exact Kd.F_nil _ _ _
theorem SetsAt.N (h : SetsAt W g ok xs) (base : Nat) (hb : base ≤ g) (hg : ok' g) (hok : ∀ k, ok k → ok' k ∧ k ≠ g) (hn : xs.length ≤ 65536) : Kd.N (Kd.slice 72 (Kd.int .u64)) 30 W base ok' (.slice (some ⟨g, 0, none⟩) xs.length xs.length) xs := by
 obtain ⟨vs, g1, g2, g3⟩ := h
 have hv : ∀ j, j < vs.toList.length → ∃ A c, vs.toList[j]? = some (.slice A (xs.getD j []).length c) := by
  intro j hj
  obtain ⟨A, c, e, _, _⟩ := g3 j (by simpa [g2] using hj)
  exact ⟨A, c, by simpa using e⟩
 have h1 : ∀ u ∈ vs.toList, u.oneCell' = true := by
  intro u hu
  obtain ⟨j, hj, rfl⟩ := List.mem_iff_getElem.1 hu
  obtain ⟨A, c, e⟩ := hv j hj
  rw [List.getElem?_eq_getElem hj] at e
  rw [Option.some.inj e]; rfl
 refine ⟨fun k hk => ?_, vs.toList.map (fun u => [u]), by simp [g2], ⟨fun k hk => hk.symm, vs.toList, ⟨?_, .inr ⟨g, xs.length, _, by simp [g2], hb, g1, by simp [g2], by simp only [maxLen]; omega, by simp [g2, Kd.raw, Kd.slice], ?_⟩⟩, ?_⟩, fun j x c hx hc => ?_⟩
 ·have : g = k := by simpa [Value.ownBlock] using hk
  exact this ▸ hg
 ·show _ = _ * 1
  simp [g2]
 ·show List.take (_ * 1) _ = _
  apply List.take_of_length_le
  simp [g2, Kd.slice, Kd.raw]
 ·refine ⟨by simp [Kd.slice, Kd.raw], fun j p hj => ?_⟩
  rw [List.getElem?_map, Option.map_eq_some_iff] at hj
  obtain ⟨u, hu, rfl⟩ := hj
  have hlt := (List.getElem?_eq_some_iff.1 hu).1
  have e1 : List.take 1 (List.drop (j * 1) vs.toList) = [u] := by
   rw [Nat.mul_one, List.drop_eq_getElem_cons hlt]
   have := (List.getElem?_eq_some_iff.1 hu).2
   simp [this]
  show List.take 1 (List.drop (j * 1) vs.toList) = [u] ∧ (List.take 1 (List.drop (j * 1) vs.toList)).length = 1 ∧ _
  refine ⟨e1, by rw [e1]; rfl, fun q hq => ?_⟩
  ·have hq2 : q ∈ List.take 1 (List.drop (j * 1) vs.toList) := hq
   rw [e1] at hq2
   rw [List.mem_singleton.1 hq2]
   exact h1 u (List.mem_of_getElem? hu)
 ·have hj : j < xs.length := (List.getElem?_eq_some_iff.1 hx).1
  obtain ⟨A, c', e, hl, hf⟩ := g3 j hj
  have ex : xs.getD j [] = x := by rw [List.getD_eq_getElem?_getD, hx]; rfl
  rw [ex] at e hl hf
  rw [List.getElem?_map] at hc
  have e2 : vs.toList[j]? = some (.slice A x.length c') := by simpa using e
  rw [e2] at hc
  obtain rfl := Option.some.inj hc
  refine Kd.FK_mono (Kd.FK_slice_mk hl hf) (fun k hk => ⟨(hok k hk).1, ?_⟩)
  simp only [Value.ownBlock]
  intro e3
  exact (hok k hk).2 (Option.some.inj e3)
theorem SetsAt.C (h : SetsAt W g ok xs) (hn : xs.length ≤ 65536) : Kd.C (Kd.slice 72 (Kd.int .u64)) W (some ⟨g, 0, none⟩) xs.length xs := by
 have hq : SetsAt W g (fun k => ok k) xs := h
 by_cases hgk : True
 ·obtain ⟨vs, g1, g2, g3⟩ := h
  refine ⟨rfl, by omega, fun hp => ⟨_, rfl, fun j x hj => ?_⟩⟩
  have hjl : j < xs.length := (List.getElem?_eq_some_iff.1 hj).1
  obtain ⟨A, c, e, hl, hf⟩ := g3 j hjl
  have ex : xs.getD j [] = x := by rw [List.getD_eq_getElem?_getD, hj]; rfl
  rw [ex] at e hl hf
  refine ⟨[.slice A x.length c], rfl, ⟨A, c, rfl, hl, Kd.F_now hf⟩, fun m u hm => ?_⟩
  rcases m with _ | m
  ·simp only [List.getElem?_cons_zero, Option.some.injEq] at hm
   subst hm
   have := (blk_cell g1 j).trans e
   have e2 : (⟨g, 0, none⟩ : Addr).add (j * 1 + 0) = ⟨g, j, none⟩ := by
    unfold Addr.add
    have hj1 : j * 1 + 0 = j := by omega
    rw [hj1]
    by_cases hz : j = 0
    ·rw [if_pos hz]
     skip
     rw [hz]
    ·rw [if_neg hz]
     simp only [Nat.zero_add, Nat.mul_one, Nat.add_zero]
   show W.cell? ((⟨g, 0, none⟩ : Addr).add (j * 1 + 0)) = _
   rw [e2]; exact this
  ·simp at hm
 ·exact absurd trivial hgk
end
end Go.Proofs.YtanpghbakbebiaaDoor.P

/- A part of it. -/
import Derived.Test.YtanpghbakbebiaaDoorChecked
import Derived.Conc.LoneSelectN
import Derived.Conc.LoneCalls
import Derived.Conc.SmallLaws
import Derived.Test.YtanpghbakbebiaaDoorFmWWords
import Derived.Test.YtanpghbakbebiaaDoorFmWKept
import Derived.RegionTactic
namespace Go.Proofs.YtanpghbakbebiaaDoorQuA
open Go Go.Conc Go.RowKit
theorem stepG_comm' {P : Program} {b : Frame} {a : Act} {k : List Item} {cs : List Frame} {w : World} {ops : Array Oper} {i : Nat} {rest : List Nat} {o : Oper} {cases : Array CommCase} {blocking : Bool} {shape : CommShape} {w' : World} (ho : ops[i]? = some o) (hw : Region.wanted o (yielded ops a.tmps) = true)
    (hr : (execOp a.eval o).run P w = .ok (.comm cases blocking shape) w') :
    ∃ es, stepG P true (G (b.at a (.inRegion ops (i :: rest) :: k)) cs) w = .comm (G (b.at a (.inRegion ops (i :: rest) :: k)) cs) cases blocking shape w' es := by
  rw [stepG_oper ho hw]
  simp [stepG.apply, hr, G, Frame.at, GStep.after]
theorem wp_region_comm {P : Program} {id : Nat} {ops : Array Oper} {Q : Exit → Act → World → Prop} {a : Act} {w : World} {o : Oper} {rest : List Nat} {cases : Array CommCase} {blocking : Bool} {shape : CommShape} {w' w'' : World} {v : Value}
    (hl : List.range ops.size = 0 :: rest) (ho : ops[0]? = some o) (hw : Region.wanted o (yielded ops a.tmps) = true)
    (hr : (execOp a.eval o).run P w = .ok (.comm cases blocking shape) w')
    (hs : ∀ fr cs es, stepG P true (G fr cs) w = .comm (G fr cs) cases blocking shape w' es → step P (solo (G fr cs) w) = .next (solo (G (fr.finish v) cs) w''))
    (h : wpOps P ops Q rest (a.put o.dst v) w'') : (Code.region id ops false).wp P Q a w := by
  intro b k cs
  obtain ⟨e, a', w3, hq, harr⟩ := wp_ops rest (a.put o.dst v) w'' h b k cs
  refine ⟨e, a', w3, hq, .of_steps (.one step_region) ?_⟩
  rw [hl]
  obtain ⟨es, hc⟩ := stepG_comm' (P := P) (b := b) (k := k) (cs := cs) (rest := rest) ho hw hr
  have hstep := hs _ cs es hc
  refine .of_steps (.one ?_) harr
  rw [lone_eq_solo, hstep, lone_eq_solo, Frame.finish_at, ho]
  rfl
theorem wp_region_comm_lit {P : Program} {id : Nat} {l : List Oper} {Q : Exit → Act → World → Prop} {a : Act} {w : World} {o : Oper} {cases : Array CommCase} {blocking : Bool} {shape : CommShape} {w' w'' : World} {v : Value} (hg : o.guard = none)
    (hr : (execOp a.eval o).run P w = .ok (.comm cases blocking shape) w')
    (hs : ∀ fr cs es, stepG P true (G fr cs) w = .comm (G fr cs) cases blocking shape w' es → step P (solo (G fr cs) w) = .next (solo (G (fr.finish v) cs) w''))
    (h : wpList P (o :: l).toArray Q l (a.put o.dst v) w'') : (Code.region id (o :: l).toArray false).wp P Q a w := by
  refine wp_region_comm (o := o) (rest := List.range' 1 l.length) (cases := cases) (blocking := blocking) (shape := shape) (w' := w') (w'' := w'') (v := v) ?_ rfl ?_ hr hs ?_
  · simp [List.range_eq_range', List.range'_succ]
  · simp [Region.wanted, hg]
  · rw [wpOps_eq_wpList l 1 (by intro j; simp [Nat.add_comm 1 j])]
    exact h
theorem res_s0 (c : Nat) (v z u : Value) (ok : Bool) : commResult #[scase c v z] .select ((0 : Nat) : Int) u ok = .tuple #[goInt 0, .bool ok] := by
  simp [commResult, scase, List.zipIdx_cons]
theorem res_r0 (c : Nat) (z u : Value) (ok : Bool) : commResult #[rcase c z] .select ((0 : Nat) : Int) u ok = .tuple #[goInt 0, .bool ok, u] := by
  simp [commResult, rcase, List.zipIdx_cons]
theorem res_rd (cv z u : Value) (ok : Bool) : commResult #[{ chan := cv, send := none, zero := z }] .select (-1) u ok = .tuple #[goInt (-1), .bool ok, z] := by
  simp [commResult, List.zipIdx_cons]
theorem only0 {w : World} {x c' : CommCase} {m : Nat} (hm : m ≠ 0) (h : (#[x] : Array CommCase)[m]? = some c') : NoWay w c' := by
  rcases m with _ | m
  · exact absurd rfl hm
  · simp at h
theorem wp_sel_send {P : Program} {id : Nat} {l : List Oper} {Q : Exit → Act → World → Prop} {a : Act} {w : World} {o : Oper} {bl : Bool} {c cap s r : Nat} {buf : Array Value} {tm : Bool} {v z : Value} (hg : o.guard = none)
    (hr : (execOp a.eval o).run P w = .ok (.comm #[scase c v z] bl .select) w) (hc : w.heap[c]? = some (.chan cap buf false s r tm)) (hroom : buf.size < cap)
    (h : wpList P (o :: l).toArray Q l (a.put o.dst (.tuple #[goInt 0, .bool false])) (w.setChan c cap (buf.push v) false (s + 1) r tm)) : (Code.region id (o :: l).toArray false).wp P Q a w := by
  refine wp_region_comm_lit hg hr (fun fr cs es hs => ?_) h
  have := step_lone_sel_send_room hs (k := 0) rfl (fun m c' hm h' => only0 hm h') hc hroom
  rwa [res_s0] at this
theorem wp_sel_recv {P : Program} {id : Nat} {l : List Oper} {Q : Exit → Act → World → Prop} {a : Act} {w : World} {o : Oper} {bl closed : Bool} {c cap s r : Nat} {buf : Array Value} {tm : Bool} {z : Value} (hg : o.guard = none)
    (hr : (execOp a.eval o).run P w = .ok (.comm #[rcase c z] bl .select) w) (hc : w.heap[c]? = some (.chan cap buf closed s r tm)) (hsome : 0 < buf.size)
    (h : wpList P (o :: l).toArray Q l (a.put o.dst (.tuple #[goInt 0, .bool true, buf.getD 0 undef])) (w.setChan c cap (buf.extract 1 buf.size) closed s (r + 1) tm)) : (Code.region id (o :: l).toArray false).wp P Q a w := by
  refine wp_region_comm_lit hg hr (fun fr cs es hs => ?_) h
  have := step_lone_sel_recv_buf hs (k := 0) rfl (fun m c' hm h' => only0 hm h') hc hsome
  rwa [res_r0] at this
theorem wp_sel_recv_default {P : Program} {id : Nat} {l : List Oper} {Q : Exit → Act → World → Prop} {a : Act} {w : World} {o : Oper} {cv : Value} {z : Value} (hg : o.guard = none)
    (hr : (execOp a.eval o).run P w = .ok (.comm #[{ chan := cv, send := none, zero := z }] false .select) w) (hn : NoWay w { chan := cv, send := none, zero := z })
    (h : wpList P (o :: l).toArray Q l (a.put o.dst (.tuple #[goInt (-1), .bool false, z])) w) : (Code.region id (o :: l).toArray false).wp P Q a w := by
  refine wp_region_comm_lit hg hr (fun fr cs es hs => ?_) h
  have := step_lone_sel_default hs (by intro cc hcc; simp at hcc; subst hcc; exact hn)
  rwa [res_rd] at this
end Go.Proofs.YtanpghbakbebiaaDoorQuA
namespace Go.Proofs.YtanpghbakbebiaaDoorQ
open Go Go.Conc Go.RowKit Go.Proofs.YtanpghbakbebiaaDoorW.PrintWords Go.Proofs.YtanpghbakbebiaaDoorW.PrintLast Go.Proofs.YtanpghbakbebiaaDoorQuA
theorem info3b : ∃ i, Tryd.prog.info? 3 = some i ∧ i.bytes = 8 := by
  have h : (Tryd.prog.info? 3).map (·.bytes) = some 8 := by kernel_rfl
  obtain ⟨i, hi, hb⟩ := Option.map_eq_some_iff.1 h
  exact ⟨i, hi, hb⟩
theorem info4b : (Tryd.prog.info? 4).map (fun i => (i.zero, i.size, i.bytes)) = some (some (.bool false), 1, 1) := by kernel_rfl
theorem mkchan (n : Nat) (hn : n ≤ 65536) (w : World) : (Instr.makeChan 77 (.int .i64 (n : Int))).run Tryd.prog w = .ok (.chan (some w.heap.size)) (w.alloc (.chan n #[] false 0 0 false)) := by
  obtain ⟨i, hi, hb⟩ := info3b
  simpa using run_makeChan (P := Tryd.prog) (w := w) Tryd.underlying77 hi .i64 n (by omega) (by rw [hb]; omega)
structure QAt (w : World) (g c b n : Nat) (L : List Int) : Prop where
  box : w.heap[g]? = some (.cells #[.chan (some c), .slice (some ⟨b, 0, none⟩) n n] 79 (0, 0))
  chan : ∃ s r, w.heap[c]? = some (.chan n (L.map (Value.int .i64)).toArray false s r false)
  waits : ∃ bs : Array Value, w.heap[b]? = some (.cells bs 4 (0, 0)) ∧ bs.size = n ∧ ∀ i : Nat, i < n → bs[i]? = some (.bool (decide ((i : Int) ∈ L)))
  small : n ≤ 65536
  nodup : L.Nodup
  rng : ∀ x ∈ L, 0 ≤ x ∧ x < (n : Int)
section
variable {w w1 : World} {g c b n : Nat} {L : List Int}
theorem QAt.hgc (h : QAt w g c b n L) : g ≠ c := by
  rintro rfl
  obtain ⟨s, r, hc⟩ := h.chan
  rw [h.box] at hc
  cases hc
theorem QAt.hgb (h : QAt w g c b n L) : g ≠ b := by
  rintro rfl
  obtain ⟨bs, hc, _⟩ := h.waits
  rw [h.box] at hc
  cases hc
theorem QAt.hcb (h : QAt w g c b n L) : c ≠ b := by
  rintro rfl
  obtain ⟨bs, hc, _⟩ := h.waits
  obtain ⟨s, r, hd⟩ := h.chan
  rw [hd] at hc
  cases hc
theorem QAt.lts (h : QAt w g c b n L) : g < w.heap.size ∧ c < w.heap.size ∧ b < w.heap.size := by
  obtain ⟨bs, hb, _⟩ := h.waits
  obtain ⟨s, r, hc⟩ := h.chan
  exact ⟨blk_lt h.box, blk_lt hc, blk_lt hb⟩
theorem QAt.step (h : QAt w g c b n L) (hm : ∀ k, k = g ∨ k = c ∨ k = b → k < w.heap.size → w1.heap[k]? = w.heap[k]?) : QAt w1 g c b n L := by
  obtain ⟨l1, l2, l3⟩ := h.lts
  obtain ⟨bs, hb, hb2⟩ := h.waits
  obtain ⟨s, r, hc⟩ := h.chan
  exact ⟨(hm g (.inl rfl) l1).trans h.box, ⟨s, r, (hm c (.inr (.inl rfl)) l2).trans hc⟩, ⟨bs, (hm b (.inr (.inr rfl)) l3).trans hb, hb2⟩, h.small, h.nodup, h.rng⟩
theorem QAt.below (h : QAt w g c b n L) (hb : Below w.heap.size w w1) : QAt w1 g c b n L := h.step (fun k _ hk => hb.block k hk)
theorem QAt.cell0 (h : QAt w g c b n L) : w.cell? ⟨g, 0, none⟩ = some (.chan (some c)) := by simp [World.cell?, h.box]
theorem QAt.cell1 (h : QAt w g c b n L) : w.cell? ⟨g, 1, none⟩ = some (.slice (some ⟨b, 0, none⟩) n n) := by simp [World.cell?, h.box]
theorem QAt.cellb (h : QAt w g c b n L) (i : Nat) (hi : i < n) : w.cell? ⟨b, i, none⟩ = some (.bool (decide ((i : Int) ∈ L))) := by
  obtain ⟨bs, hb, _, hx⟩ := h.waits
  simp [World.cell?, hb, hx i hi]
theorem QAt.frozb (h : QAt w g c b n L) (i : Nat) : w.frozen? ⟨b, i, none⟩ = false := by
  obtain ⟨bs, hb, _, hx⟩ := h.waits
  simp [World.frozen?, hb]
theorem nodup_room : ∀ (n : Nat) (L : List Int), L.Nodup → (∀ x ∈ L, 0 ≤ x ∧ x < (n : Int)) → L.length ≤ n := by
  intro n
  induction n with
  | zero =>
    intro L _ h
    cases L with
    | nil => simp
    | cons x L => have := h x (by simp); omega
  | succ n ih =>
    intro L hn h
    by_cases hm : (n : Int) ∈ L
    · have := ih (L.erase (n : Int)) (hn.erase _) (fun x hx => by
        have h1 := h x (List.mem_of_mem_erase hx)
        have h2 : x ≠ (n : Int) := fun e => by subst e; exact absurd hx (hn.not_mem_erase)
        omega)
      rw [List.length_erase_of_mem hm] at this
      omega
    · have := ih L hn (fun x hx => by
        have h1 := h x hx
        have h2 : x ≠ (n : Int) := fun e => hm (e ▸ hx)
        omega)
      omega
theorem QAt.room (h : QAt w g c b n L) : L.length ≤ n := nodup_room n L h.nodup h.rng
theorem QAt.room_lt (h : QAt w g c b n L) (i : Int) (h0 : 0 ≤ i) (hi : i < n) (hm : i ∉ L) : L.length < n := by
  have := nodup_room n (i :: L) (List.nodup_cons.2 ⟨hm, h.nodup⟩) (fun x hx => by
    rcases List.mem_cons.1 hx with rfl | hx
    · exact ⟨h0, hi⟩
    · exact h.rng x hx)
  simp at this
  omega
end
theorem q_made (w : World) (o1 o2 o3 : Obj) : (((w.alloc o1).alloc o2).alloc o3).drew.heap[w.heap.size]? = some o1 ∧ (((w.alloc o1).alloc o2).alloc o3).drew.heap[w.heap.size + 1]? = some o2 ∧ (((w.alloc o1).alloc o2).alloc o3).drew.heap[w.heap.size + 1 + 1]? = some o3 := by
  show (((w.heap.push o1).push o2).push o3)[_]? = _ ∧ (((w.heap.push o1).push o2).push o3)[_]? = _ ∧ (((w.heap.push o1).push o2).push o3)[_]? = _
  refine ⟨?_, ?_, ?_⟩
  · rw [Array.getElem?_push, if_neg (by simp only [Array.size_push]; omega), Array.getElem?_push, if_neg (by simp only [Array.size_push]; omega), Array.getElem?_push, if_pos rfl]
  · rw [Array.getElem?_push, if_neg (by simp only [Array.size_push]; omega), Array.getElem?_push, if_pos (by simp only [Array.size_push])]
  · rw [Array.getElem?_push, if_pos (by simp only [Array.size_push])]
theorem mades (n : Nat) (i : Nat) (hi : i < n) : (madeCells #[.bool false] n)[i]? = some (.bool (decide ((i : Int) ∈ ([] : List Int)))) := by
  have : i % 1 = 0 := by omega
  simp [madeCells, hi, this]
set_option maxHeartbeats 1000000 in
theorem New_q (n : Nat) (hn : n ≤ 65536) (w : World) :
    Calls Tryd.prog 28 #[.int .i64 (n : Int)] w fun e w' => ∃ g c b, e = .returned (.pointer (some ⟨g, 0, none⟩)) ∧ QAt w' g c b n [] ∧ w.heap.size ≤ g ∧ w.heap.size ≤ c ∧ w.heap.size ≤ b ∧ Below w.heap.size w w' := by
  have t1 : decide ((n : Int) < 0) = false := decide_eq_false (by omega)
  have t2 : decide (65536 < (n : Int)) = false := decide_eq_false (by omega)
  have hmc := mkchan n hn
  have hmk := print_make_of (P := Tryd.prog) 49 4 (.bool false) 1 Tryd.underlying49 info4b rfl (by decide) n (by omega)
  have HB := Aside0.mk (Below.refl w.heap.size w)
  go_enter Tryd.func28, Tryd.ntmps28
  go_wp2
  go_region
  all_goals
    go_wp2
    go_ret
  · obtain ⟨e1, e2, e3⟩ := q_made w (.chan n #[] false 0 0 false) (.cells (madeCells #[.bool false] n) 4) (.cells #[.chan (some w.heap.size), .slice (some ⟨w.heap.size + 1, 0, none⟩) n n] 79)
    exact ⟨_, w.heap.size, w.heap.size + 1, rfl, ⟨e3, ⟨0, 0, e1⟩, ⟨_, e2, size_madeCells _ _, mades n⟩, hn, by simp, by simp⟩, by omega, by omega, by omega, below_drew (below_alloc (below_alloc (below_alloc HB.out _) _) _)⟩
  · obtain ⟨e1, e2, e3⟩ := q_made w (.cells (madeCells #[.bool false] n) 4) (.chan n #[] false 0 0 false) (.cells #[.chan (some (w.heap.size + 1)), .slice (some ⟨w.heap.size, 0, none⟩) n n] 79)
    exact ⟨_, w.heap.size + 1, w.heap.size, rfl, ⟨e3, ⟨0, 0, e2⟩, ⟨_, e1, size_madeCells _ _, mades n⟩, hn, by simp, by simp⟩, by omega, by omega, by omega, below_drew (below_alloc (below_alloc (below_alloc HB.out _) _) _)⟩
end Go.Proofs.YtanpghbakbebiaaDoorQ

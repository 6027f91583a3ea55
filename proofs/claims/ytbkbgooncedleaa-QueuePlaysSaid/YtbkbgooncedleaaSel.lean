/- A select (or any communication) as the first operation of a region, in the ordinary walk of one goroutine. -/
import Derived.Test.YtbkbgooncedleaaChecked
import Derived.Conc.LoneSelectN
import Derived.Conc.LoneCalls
import Derived.Conc.SmallLaws
namespace Go.Proofs.YtbkbgooncedleaaSel
open Go Go.Conc Go.RowKit

theorem stepG_comm' {P : Program} {b : Frame} {a : Act} {k : List Item} {cs : List Frame} {w : World} {ops : Array Oper} {i : Nat} {rest : List Nat} {o : Oper} {cases : Array CommCase} {blocking : Bool} {shape : CommShape} {w' : World} (ho : ops[i]? = some o) (hw : Region.wanted o (yielded ops a.tmps) = true)
    (hr : (execOp a.eval o).run P w = .ok (.comm cases blocking shape) w') :
    ∃ es, stepG P true (G (b.at a (.inRegion ops (i :: rest) :: k)) cs) w = .comm (G (b.at a (.inRegion ops (i :: rest) :: k)) cs) cases blocking shape w' es := by
  rw [stepG_oper ho hw]
  simp [stepG.apply, hr, G, Frame.at, GStep.after]

theorem wp_region_comm {P : Program} {id : Nat} {ops : Array Oper} {Q : Exit → Act → World → Prop} {a : Act} {w : World} {o : Oper} {rest : List Nat} {cases : Array CommCase} {blocking : Bool} {shape : CommShape} {w' w'' : World} {v : Value}
    (hl : List.range ops.size = 0 :: rest) (ho : ops[0]? = some o) (hw : Region.wanted o (yielded ops a.tmps) = true)
    (hr : (execOp a.eval o).run P w = .ok (.comm cases blocking shape) w')
    (hs : ∀ fr cs es, stepG P true (G fr cs) w = .comm (G fr cs) cases blocking shape w' es → step P (solo (G fr cs) w) = .next (solo (G (fr.finish v) cs) w''))
    (h : wpOps P ops Q rest (a.put o.dst v) w'') : (Code.region id ops false).wp P Q a w := by
  intro b k cs
  obtain ⟨e, a', w3, hq, harr⟩ := wp_ops rest (a.put o.dst v) w'' h b k cs
  refine ⟨e, a', w3, hq, .of_steps (.one step_region) ?_⟩
  rw [hl]
  obtain ⟨es, hc⟩ := stepG_comm' (P := P) (b := b) (k := k) (cs := cs) (rest := rest) ho hw hr
  have hstep := hs _ cs es hc
  refine .of_steps (.one ?_) harr
  rw [lone_eq_solo, hstep, lone_eq_solo, Frame.finish_at, ho]
  rfl

theorem wp_region_comm_lit {P : Program} {id : Nat} {l : List Oper} {Q : Exit → Act → World → Prop} {a : Act} {w : World} {o : Oper} {cases : Array CommCase} {blocking : Bool} {shape : CommShape} {w' w'' : World} {v : Value} (hg : o.guard = none)
    (hr : (execOp a.eval o).run P w = .ok (.comm cases blocking shape) w')
    (hs : ∀ fr cs es, stepG P true (G fr cs) w = .comm (G fr cs) cases blocking shape w' es → step P (solo (G fr cs) w) = .next (solo (G (fr.finish v) cs) w''))
    (h : wpList P (o :: l).toArray Q l (a.put o.dst v) w'') : (Code.region id (o :: l).toArray false).wp P Q a w := by
  refine wp_region_comm (o := o) (rest := List.range' 1 l.length) (cases := cases) (blocking := blocking) (shape := shape) (w' := w') (w'' := w'') (v := v) ?_ rfl ?_ hr hs ?_
  · simp [List.range_eq_range', List.range'_succ]
  · simp [Region.wanted, hg]
  · rw [wpOps_eq_wpList l 1 (by intro j; simp [Nat.add_comm 1 j])]
    exact h
theorem res_s0 (c : Nat) (v z u : Value) (ok : Bool) : commResult #[scase c v z] .select ((0 : Nat) : Int) u ok = .tuple #[goInt 0, .bool ok] := by
  simp [commResult, scase, List.zipIdx_cons]
theorem res_r0 (c : Nat) (z u : Value) (ok : Bool) : commResult #[rcase c z] .select ((0 : Nat) : Int) u ok = .tuple #[goInt 0, .bool ok, u] := by
  simp [commResult, rcase, List.zipIdx_cons]
theorem res_rd (cv z u : Value) (ok : Bool) : commResult #[{ chan := cv, send := none, zero := z }] .select (-1) u ok = .tuple #[goInt (-1), .bool ok, z] := by
  simp [commResult, List.zipIdx_cons]
theorem only0 {w : World} {x c' : CommCase} {m : Nat} (hm : m ≠ 0) (h : (#[x] : Array CommCase)[m]? = some c') : NoWay w c' := by
  rcases m with _ | m
  · exact absurd rfl hm
  · simp at h
/-- A select of one send with room, and a default. -/
theorem wp_sel_send {P : Program} {id : Nat} {l : List Oper} {Q : Exit → Act → World → Prop} {a : Act} {w : World} {o : Oper} {bl : Bool} {c cap s r : Nat} {buf : Array Value} {tm : Bool} {v z : Value} (hg : o.guard = none)
    (hr : (execOp a.eval o).run P w = .ok (.comm #[scase c v z] bl .select) w) (hc : w.heap[c]? = some (.chan cap buf false s r tm)) (hroom : buf.size < cap)
    (h : wpList P (o :: l).toArray Q l (a.put o.dst (.tuple #[goInt 0, .bool false])) (w.setChan c cap (buf.push v) false (s + 1) r tm)) : (Code.region id (o :: l).toArray false).wp P Q a w := by
  refine wp_region_comm_lit hg hr (fun fr cs es hs => ?_) h
  have := step_lone_sel_send_room hs (k := 0) rfl (fun m c' hm h' => only0 hm h') hc hroom
  rwa [res_s0] at this
/-- A select of one receive whose buffer holds something. -/
theorem wp_sel_recv {P : Program} {id : Nat} {l : List Oper} {Q : Exit → Act → World → Prop} {a : Act} {w : World} {o : Oper} {bl closed : Bool} {c cap s r : Nat} {buf : Array Value} {tm : Bool} {z : Value} (hg : o.guard = none)
    (hr : (execOp a.eval o).run P w = .ok (.comm #[rcase c z] bl .select) w) (hc : w.heap[c]? = some (.chan cap buf closed s r tm)) (hsome : 0 < buf.size)
    (h : wpList P (o :: l).toArray Q l (a.put o.dst (.tuple #[goInt 0, .bool true, buf.getD 0 undef])) (w.setChan c cap (buf.extract 1 buf.size) closed s (r + 1) tm)) : (Code.region id (o :: l).toArray false).wp P Q a w := by
  refine wp_region_comm_lit hg hr (fun fr cs es hs => ?_) h
  have := step_lone_sel_recv_buf hs (k := 0) rfl (fun m c' hm h' => only0 hm h') hc hsome
  rwa [res_r0] at this
/-- A select of one receive with nothing to receive, and a default. -/
theorem wp_sel_recv_default {P : Program} {id : Nat} {l : List Oper} {Q : Exit → Act → World → Prop} {a : Act} {w : World} {o : Oper} {cv : Value} {z : Value} (hg : o.guard = none)
    (hr : (execOp a.eval o).run P w = .ok (.comm #[{ chan := cv, send := none, zero := z }] false .select) w) (hn : NoWay w { chan := cv, send := none, zero := z })
    (h : wpList P (o :: l).toArray Q l (a.put o.dst (.tuple #[goInt (-1), .bool false, z])) w) : (Code.region id (o :: l).toArray false).wp P Q a w := by
  refine wp_region_comm_lit hg hr (fun fr cs es hs => ?_) h
  have := step_lone_sel_default hs (by intro cc hcc; simp at hcc; subst hcc; exact hn)
  rwa [res_rd] at this
end Go.Proofs.YtbkbgooncedleaaSel

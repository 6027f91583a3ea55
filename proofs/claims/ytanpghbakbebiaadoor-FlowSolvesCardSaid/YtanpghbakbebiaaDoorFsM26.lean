/- A part of it. -/
import Derived.Test.YtanpghbakbebiaaDoorFsP0
import Derived.Test.YtanpghbakbebiaaDoorFsP2
import Derived.Test.YtanpghbakbebiaaDoorChecked
import Derived.Conc.LoneSelectN
import Derived.Conc.LoneCalls
import Derived.Conc.SmallLaws
import Derived.Test.YtanpghbakbebiaaDoorFsWWords
import Derived.Test.YtanpghbakbebiaaDoorFsWKept
import Derived.RegionTactic
namespace Go.Proofs.YtanpghbakbebiaaDoor.P
open Go.RowKit Go.Proofs.YtanpghbakbebiaaDoorW.PrintWords Go.Proofs.YtanpghbakbebiaaDoorW.PrintLast Go.Proofs.YtanpghbakbebiaaDoorW.PrintMore
attribute [local go_sem] max2_int min2_int max_two min_two max_three min_three max_four min_four   
set_option linter.unusedVariables false
set_option linter.unusedSimpArgs false
def bits_Right.j0 : Nat → List Int → Int → Bool → Option (Bool)
 | 0, _, _, _ => none
 | k + 1, x0, x1, x18 => if x18 = true then (some false) else ((bits_Full.f k x1).bind fun t129 => ((bits_Less.f k x0 t129).bind fun t132 => ((bits_Set_List.f k t132).bind fun t135 => (some ((t135.length : Int) == 0)))))
def bits_Right.f (k : Nat) (l0 : List Int) (a1 : Int) : Option (Bool) := if a1 < 0 then (bits_Right.j0 k l0 a1 true) else (if a1 > 65536 then (bits_Right.j0 k l0 a1 true) else ((bits_New.f a1).bind fun t126 => (bits_Right.j0 k l0 a1 ((l0.length : Int) != (t126.length : Int)))))
theorem bits_Right.mono_l : ∀ k, (∀ y0 y1 y2, LeO (bits_Right.j0 k y0 y1 y2) (bits_Right.j0 (k + 1) y0 y1 y2))
 | 0 => fun _ _ _ r h => by simp [bits_Right.j0] at h
 | k + 1 => by
  have ih0 := bits_Right.mono_l k
  ·intro y0 y1 y2
   unfold bits_Right.j0
   repeat' first
   | (with_reducible exact ih0 _ _ _)
   | (with_reducible exact bits_Full.mono _ _)
   | (with_reducible exact bits_Less.mono _ _ _)
   | (with_reducible exact bits_Set_List.mono _ _)
   | (with_reducible exact LeO.refl _)
   | (with_reducible exact LeO.none _)
   | (with_reducible refine LeO.ite ?_ ?_)
   | (with_reducible refine LeO.bind ?_ (fun _ => ?_))
   | exact ih0 _ _ _
   | exact bits_Full.mono _ _
   | exact bits_Less.mono _ _ _
   | exact bits_Set_List.mono _ _
   | exact LeO.none _
   | refine LeO.ite ?_ ?_
   | refine LeO.bind ?_ (fun _ => ?_)
theorem bits_Right.mono : ∀ a0 a1 k, LeO (bits_Right.f k a0 a1) (bits_Right.f (k + 1) a0 a1) := by
 intro a0 a1 k
 have ih0 := bits_Right.mono_l k
 unfold bits_Right.f
 repeat' first
   | (with_reducible exact ih0 _ _ _)
   | (with_reducible exact bits_Full.mono _ _)
   | (with_reducible exact bits_Less.mono _ _ _)
   | (with_reducible exact bits_Set_List.mono _ _)
   | (with_reducible exact LeO.refl _)
   | (with_reducible exact LeO.none _)
   | (with_reducible refine LeO.ite ?_ ?_)
   | (with_reducible refine LeO.bind ?_ (fun _ => ?_))
   | exact ih0 _ _ _
   | exact bits_Full.mono _ _
   | exact bits_Less.mono _ _ _
   | exact bits_Set_List.mono _ _
   | exact LeO.none _
   | refine LeO.ite ?_ ?_
   | refine LeO.bind ?_ (fun _ => ?_)
set_option maxHeartbeats 8000000 in
set_option maxRecDepth 100000 in
theorem bits_Right.calls (k : Nat) (A0 : Option Addr) (c0 : Nat) (l0 : List Int) (a1 : Int) (r : Bool) (w : World) (hT : TabW w) (hr0 : Kd.C (Kd.int .u64) w A0 l0.length l0) (hc0 : l0.length ≤ c0) (h : bits_Right.f k l0 a1 = some r) :
  Calls Tryd.prog 34 #[.slice A0 l0.length c0, .int .i64 a1] w fun e w' => e = .returned (.bool r) ∧ Below w.heap.size w w' := by
 have HR0 := Aside0.mk hr0
 have HC0 := Aside0.mk hc0
 clear hr0 hc0
 have HT := Aside0.mk hT
 clear hT
 have HB := Aside0.mk (Below.refl w.heap.size w)
 have H : (if a1 < 0 then (bits_Right.j0 k l0 a1 true) else (if a1 > 65536 then (bits_Right.j0 k l0 a1 true) else ((bits_New.f a1).bind fun t126 => (bits_Right.j0 k l0 a1 ((l0.length : Int) != (t126.length : Int)))))) = some r := h
 clear h
 have HC3 := Aside0.mk H
 clear H
 go_enter Tryd.func34, Tryd.ntmps34
 go_upto_region 1 with (fail)
 go_cut [18] (fun v18 wc => ∃ (kq : Nat) (x18_2 : Bool), v18 = .bool x18_2 ∧ Aside0 (bits_Right.j0 kq l0 a1 x18_2 = some r) ∧ Aside0 (kq ≤ k) ∧ Aside0 (Below w.heap.size w wc))
 case first =>
  have H := HC3.out
  clear HC3
  by_cases c4 : a1 < 0
  ·rw [if_pos c4] at H
   have c4b0 : decide (a1 < 0) = true := decide_eq_true c4
   clear c4
   (first | rw [c4b0] | (simp only [i64_w, i32_w]; rw [c4b0]) | skip)
   have H' := Aside0.mk H
   clear H
   go_wp2
   go_meet
   case rel => exact ⟨_, (true), zQ, H', ⟨by first | omega | exact Nat.le_refl _⟩, ⟨zB⟩⟩
  ·rw [if_neg c4] at H
   have c4b0 : decide (a1 < 0) = false := decide_eq_false c4
   clear c4
   (first | rw [c4b0] | (simp only [i64_w, i32_w]; rw [c4b0]) | skip)
   by_cases c5 : a1 > 65536
   ·rw [if_pos c5] at H
    have c5b0 : decide (65536 < a1) = true := decide_eq_true c5
    clear c5
    have H' := Aside0.mk H
    clear H
    go_wp2
    go_meet
    case rel => exact ⟨_, (true), zQ, H', ⟨by first | omega | exact Nat.le_refl _⟩, ⟨zB⟩⟩
   ·rw [if_neg c5] at H
    have c5b0 : decide (65536 < a1) = false := decide_eq_false c5
    clear c5
    replace H := Option.bind_eq_some_iff.mp H
    obtain ⟨t126, A60, H⟩ := H
    replace H : (bits_Right.j0 k l0 a1 ((l0.length : Int) != (t126.length : Int))) = some r := H
    have A6 := Aside0.mk A60
    clear A60
    have H' := Aside0.mk H
    clear H
    go_wp2_with (first | (go_at_call 22; (with_reducible refine (bits_New.calls a1 t126 _ A6.out).mono ?_); rintro e w7 ⟨v127, rfl, ho0, hb⟩; have n0_ := Aside0.mk (Kd.R_lower ho0 (below_size (zB))); have n1_ := Aside0.mk (below_step (zB) hb); clear HB; have HO128 := n0_; have HB := n1_; clear n0_ n1_; (try clear hb); (try clear hb2); (try clear hk); (try clear hi); (try clear ho0); obtain ⟨Ao8, co8, eo8⟩ := Kd.R_slice HO128.out; subst eo8))
    go_meet
    case rel => exact ⟨_, (((l0.length : Int) != (t126.length : Int))), zQ, H', ⟨by first | omega | exact Nat.le_refl _⟩, ⟨zB⟩⟩
 case rest =>
  clear HC3
  (try clear p2); (try clear c3); (try clear c4); (try clear c4b0); (try clear c5); (try clear c5b0)
  obtain ⟨kq, x18_2, rfl, HA, HJ2, HB⟩ := hcut
  cases kq with
  | zero => exact absurd HA.out (by simp [bits_Right.j0])
  | succ kj2 =>
   have H := HA.out
   clear HA
   simp only [bits_Right.j0] at H
   by_cases c9 : x18_2 = true
   ·subst c9
    have H1 : (some false) = some r := by rw [if_pos rfl] at H; exact H
    clear H
    have H := H1
    clear H1
    obtain rfl := Option.some.inj H
    go_wp2
    go_ret
    exact ⟨zV, zB⟩
   ·replace c9 := Bool.eq_false_iff.mpr c9
    subst c9
    have H1 : ((bits_Full.f kj2 a1).bind fun t129 => ((bits_Less.f kj2 l0 t129).bind fun t132 => ((bits_Set_List.f kj2 t132).bind fun t135 => (some ((t135.length : Int) == 0))))) = some r := by rw [if_neg (show ¬ (false = true) by decide)] at H; exact H
    clear H
    have H := H1
    clear H1
    replace H := Option.bind_eq_some_iff.mp H
    obtain ⟨t129, A100, H⟩ := H
    replace H : ((bits_Less.f kj2 l0 t129).bind fun t132 => ((bits_Set_List.f kj2 t132).bind fun t135 => (some ((t135.length : Int) == 0)))) = some r := H
    have A10 := Aside0.mk A100
    clear A100
    replace H := Option.bind_eq_some_iff.mp H
    obtain ⟨t132, A110, H⟩ := H
    replace H : ((bits_Set_List.f kj2 t132).bind fun t135 => (some ((t135.length : Int) == 0))) = some r := H
    have A11 := Aside0.mk A110
    clear A110
    replace H := Option.bind_eq_some_iff.mp H
    obtain ⟨t135, A120, H⟩ := H
    replace H : (some ((t135.length : Int) == 0)) = some r := H
    have A12 := Aside0.mk A120
    clear A120
    obtain rfl := Option.some.inj H
    go_wp2_with (first | ((with_reducible refine gate_callee (f := 42) rfl ?_); refine goesL_ (some 21) rfl rfl Tryd.func42 (by kernel_rfl) rfl #[.int .i64 a1] rfl zE ?_; (with_reducible refine (bits_Full.calls kj2 a1 t129 _ A10.out).mono ?_); rintro e w13 ⟨v130, rfl, ho0, hb⟩; refine ⟨_, rfl, ?_⟩; have n0_ := Aside0.mk (Kd.R_lower ho0 (below_size (zB))); have n1_ := Aside0.mk (below_step (zB) hb); clear HB; have HO131 := n0_; have HB := n1_; clear n0_ n1_; (try clear hb); (try clear hb2); (try clear hk); (try clear hi); (try clear ho0); obtain ⟨Ao14, co14, eo14⟩ := Kd.R_slice HO131.out; subst eo14) | ((with_reducible refine gate_callee (f := 17) rfl ?_); refine goesL_ (some 22) rfl rfl Tryd.func17 (by kernel_rfl) rfl #[.slice A0 l0.length c0, .slice Ao14 t129.length co14] rfl zE ?_; (with_reducible refine (bits_Less.calls kj2 _ _ l0 _ _ t129 t132 _ ?side1 ?side2 ?side3 ?side4 A11.out).mono ?_); (case side1 => exact zC (Kd.C_below HR0.out HB.out)); (case side2 => exact HC0.out); (case side3 => exact zC (Kd.R_reads' HO131.out).2.2); (case side4 => exact (Kd.R_reads' HO131.out).2.1); rintro e w15 ⟨v133, rfl, ho0, hb⟩; refine ⟨_, rfl, ?_⟩; have n0_ := Aside0.mk (Kd.R_elder' (zR HO131.out) (Kd.R_base ho0) hb); have n1_ := Aside0.mk (Kd.R_lower (Kd.R_new' ho0 (Kd.R_lt (zR HO131.out))) (below_size (zB))); have n2_ := Aside0.mk (below_step (zB) hb); clear HO131; clear HB; have HO131 := n0_; have HO134 := n1_; have HB := n2_; clear n0_ n1_ n2_; (try clear hb); (try clear hb2); (try clear hk); (try clear hi); (try clear ho0); obtain ⟨Ao16, co16, eo16⟩ := Kd.R_slice HO134.out; subst eo16) | ((with_reducible refine gate_callee (f := 24) rfl ?_); refine goesL_ (some 23) rfl rfl Tryd.func24 (by kernel_rfl) rfl #[.slice Ao16 t132.length co16] rfl zE ?_; (with_reducible refine (bits_Set_List.calls kj2 _ _ t132 t135 _ ?side1 ?side2 ?side3 A12.out).mono ?_); (case side1 => first | exact HT.out | exact TabW.below HT.out (zB)); (case side2 => exact zC (Kd.R_reads' HO134.out).2.2); (case side3 => exact (Kd.R_reads' HO134.out).2.1); rintro e w17 ⟨v136, rfl, ho0, hb⟩; refine ⟨_, rfl, ?_⟩; have n0_ := Aside0.mk (Kd.R_below (zR HO131.out) hb); have n1_ := Aside0.mk (Kd.R_below (zR HO134.out) hb); have n2_ := Aside0.mk (Kd.R_lower ho0 (below_size (zB))); have n3_ := Aside0.mk (below_step (zB) hb); clear HO131; clear HO134; clear HB; have HO131 := n0_; have HO134 := n1_; have HO137 := n2_; have HB := n3_; clear n0_ n1_ n2_ n3_; (try clear hb); (try clear hb2); (try clear hk); (try clear hi); (try clear ho0); obtain ⟨Ao18, co18, eo18⟩ := Kd.R_slice HO137.out; subst eo18))
    go_ret
    exact ⟨zV, zB⟩
end Go.Proofs.YtanpghbakbebiaaDoor.P
namespace Go.Proofs.YtanpghbakbebiaaDoorQuA
open Go Go.Conc Go.RowKit
theorem stepG_comm' {P : Program} {b : Frame} {a : Act} {k : List Item} {cs : List Frame} {w : World} {ops : Array Oper} {i : Nat} {rest : List Nat} {o : Oper} {cases : Array CommCase} {blocking : Bool} {shape : CommShape} {w' : World} (ho : ops[i]? = some o) (hw : Region.wanted o (yielded ops a.tmps) = true)
    (hr : (execOp a.eval o).run P w = .ok (.comm cases blocking shape) w') :
    ∃ es, stepG P true (G (b.at a (.inRegion ops (i :: rest) :: k)) cs) w = .comm (G (b.at a (.inRegion ops (i :: rest) :: k)) cs) cases blocking shape w' es := by
  rw [stepG_oper ho hw]
  simp [stepG.apply, hr, G, Frame.at, GStep.after]
theorem wp_region_comm {P : Program} {id : Nat} {ops : Array Oper} {Q : Exit → Act → World → Prop} {a : Act} {w : World} {o : Oper} {rest : List Nat} {cases : Array CommCase} {blocking : Bool} {shape : CommShape} {w' w'' : World} {v : Value}
    (hl : List.range ops.size = 0 :: rest) (ho : ops[0]? = some o) (hw : Region.wanted o (yielded ops a.tmps) = true)
    (hr : (execOp a.eval o).run P w = .ok (.comm cases blocking shape) w')
    (hs : ∀ fr cs es, stepG P true (G fr cs) w = .comm (G fr cs) cases blocking shape w' es → step P (solo (G fr cs) w) = .next (solo (G (fr.finish v) cs) w''))
    (h : wpOps P ops Q rest (a.put o.dst v) w'') : (Code.region id ops false).wp P Q a w := by
  intro b k cs
  obtain ⟨e, a', w3, hq, harr⟩ := wp_ops rest (a.put o.dst v) w'' h b k cs
  refine ⟨e, a', w3, hq, .of_steps (.one step_region) ?_⟩
  rw [hl]
  obtain ⟨es, hc⟩ := stepG_comm' (P := P) (b := b) (k := k) (cs := cs) (rest := rest) ho hw hr
  have hstep := hs _ cs es hc
  refine .of_steps (.one ?_) harr
  rw [lone_eq_solo, hstep, lone_eq_solo, Frame.finish_at, ho]
  rfl
theorem wp_region_comm_lit {P : Program} {id : Nat} {l : List Oper} {Q : Exit → Act → World → Prop} {a : Act} {w : World} {o : Oper} {cases : Array CommCase} {blocking : Bool} {shape : CommShape} {w' w'' : World} {v : Value} (hg : o.guard = none)
    (hr : (execOp a.eval o).run P w = .ok (.comm cases blocking shape) w')
    (hs : ∀ fr cs es, stepG P true (G fr cs) w = .comm (G fr cs) cases blocking shape w' es → step P (solo (G fr cs) w) = .next (solo (G (fr.finish v) cs) w''))
    (h : wpList P (o :: l).toArray Q l (a.put o.dst v) w'') : (Code.region id (o :: l).toArray false).wp P Q a w := by
  refine wp_region_comm (o := o) (rest := List.range' 1 l.length) (cases := cases) (blocking := blocking) (shape := shape) (w' := w') (w'' := w'') (v := v) ?_ rfl ?_ hr hs ?_
  · simp [List.range_eq_range', List.range'_succ]
  · simp [Region.wanted, hg]
  · rw [wpOps_eq_wpList l 1 (by intro j; simp [Nat.add_comm 1 j])]
    exact h
theorem res_s0 (c : Nat) (v z u : Value) (ok : Bool) : commResult #[scase c v z] .select ((0 : Nat) : Int) u ok = .tuple #[goInt 0, .bool ok] := by
  simp [commResult, scase, List.zipIdx_cons]
theorem res_r0 (c : Nat) (z u : Value) (ok : Bool) : commResult #[rcase c z] .select ((0 : Nat) : Int) u ok = .tuple #[goInt 0, .bool ok, u] := by
  simp [commResult, rcase, List.zipIdx_cons]
theorem res_rd (cv z u : Value) (ok : Bool) : commResult #[{ chan := cv, send := none, zero := z }] .select (-1) u ok = .tuple #[goInt (-1), .bool ok, z] := by
  simp [commResult, List.zipIdx_cons]
theorem only0 {w : World} {x c' : CommCase} {m : Nat} (hm : m ≠ 0) (h : (#[x] : Array CommCase)[m]? = some c') : NoWay w c' := by
  rcases m with _ | m
  · exact absurd rfl hm
  · simp at h
theorem wp_sel_send {P : Program} {id : Nat} {l : List Oper} {Q : Exit → Act → World → Prop} {a : Act} {w : World} {o : Oper} {bl : Bool} {c cap s r : Nat} {buf : Array Value} {tm : Bool} {v z : Value} (hg : o.guard = none)
    (hr : (execOp a.eval o).run P w = .ok (.comm #[scase c v z] bl .select) w) (hc : w.heap[c]? = some (.chan cap buf false s r tm)) (hroom : buf.size < cap)
    (h : wpList P (o :: l).toArray Q l (a.put o.dst (.tuple #[goInt 0, .bool false])) (w.setChan c cap (buf.push v) false (s + 1) r tm)) : (Code.region id (o :: l).toArray false).wp P Q a w := by
  refine wp_region_comm_lit hg hr (fun fr cs es hs => ?_) h
  have := step_lone_sel_send_room hs (k := 0) rfl (fun m c' hm h' => only0 hm h') hc hroom
  rwa [res_s0] at this
theorem wp_sel_recv {P : Program} {id : Nat} {l : List Oper} {Q : Exit → Act → World → Prop} {a : Act} {w : World} {o : Oper} {bl closed : Bool} {c cap s r : Nat} {buf : Array Value} {tm : Bool} {z : Value} (hg : o.guard = none)
    (hr : (execOp a.eval o).run P w = .ok (.comm #[rcase c z] bl .select) w) (hc : w.heap[c]? = some (.chan cap buf closed s r tm)) (hsome : 0 < buf.size)
    (h : wpList P (o :: l).toArray Q l (a.put o.dst (.tuple #[goInt 0, .bool true, buf.getD 0 undef])) (w.setChan c cap (buf.extract 1 buf.size) closed s (r + 1) tm)) : (Code.region id (o :: l).toArray false).wp P Q a w := by
  refine wp_region_comm_lit hg hr (fun fr cs es hs => ?_) h
  have := step_lone_sel_recv_buf hs (k := 0) rfl (fun m c' hm h' => only0 hm h') hc hsome
  rwa [res_r0] at this
theorem wp_sel_recv_default {P : Program} {id : Nat} {l : List Oper} {Q : Exit → Act → World → Prop} {a : Act} {w : World} {o : Oper} {cv : Value} {z : Value} (hg : o.guard = none)
    (hr : (execOp a.eval o).run P w = .ok (.comm #[{ chan := cv, send := none, zero := z }] false .select) w) (hn : NoWay w { chan := cv, send := none, zero := z })
    (h : wpList P (o :: l).toArray Q l (a.put o.dst (.tuple #[goInt (-1), .bool false, z])) w) : (Code.region id (o :: l).toArray false).wp P Q a w := by
  refine wp_region_comm_lit hg hr (fun fr cs es hs => ?_) h
  have := step_lone_sel_default hs (by intro cc hcc; simp at hcc; subst hcc; exact hn)
  rwa [res_rd] at this
end Go.Proofs.YtanpghbakbebiaaDoorQuA
namespace Go.Proofs.YtanpghbakbebiaaDoorQ
open Go Go.Conc Go.RowKit Go.Proofs.YtanpghbakbebiaaDoorW.PrintWords Go.Proofs.YtanpghbakbebiaaDoorW.PrintLast Go.Proofs.YtanpghbakbebiaaDoorQuA
theorem info3b : ∃ i, Tryd.prog.info? 3 = some i ∧ i.bytes = 8 := by
  have h : (Tryd.prog.info? 3).map (·.bytes) = some 8 := by kernel_rfl
  obtain ⟨i, hi, hb⟩ := Option.map_eq_some_iff.1 h
  exact ⟨i, hi, hb⟩
theorem info4b : (Tryd.prog.info? 4).map (fun i => (i.zero, i.size, i.bytes)) = some (some (.bool false), 1, 1) := by kernel_rfl
theorem mkchan (n : Nat) (hn : n ≤ 65536) (w : World) : (Instr.makeChan 77 (.int .i64 (n : Int))).run Tryd.prog w = .ok (.chan (some w.heap.size)) (w.alloc (.chan n #[] false 0 0 false)) := by
  obtain ⟨i, hi, hb⟩ := info3b
  simpa using run_makeChan (P := Tryd.prog) (w := w) Tryd.underlying77 hi .i64 n (by omega) (by rw [hb]; omega)
structure QAt (w : World) (g c b n : Nat) (L : List Int) : Prop where
  box : w.heap[g]? = some (.cells #[.chan (some c), .slice (some ⟨b, 0, none⟩) n n] 79 (0, 0))
  chan : ∃ s r, w.heap[c]? = some (.chan n (L.map (Value.int .i64)).toArray false s r false)
  waits : ∃ bs : Array Value, w.heap[b]? = some (.cells bs 4 (0, 0)) ∧ bs.size = n ∧ ∀ i : Nat, i < n → bs[i]? = some (.bool (decide ((i : Int) ∈ L)))
  small : n ≤ 65536
  nodup : L.Nodup
  rng : ∀ x ∈ L, 0 ≤ x ∧ x < (n : Int)
section
variable {w w1 : World} {g c b n : Nat} {L : List Int}
theorem QAt.hgc (h : QAt w g c b n L) : g ≠ c := by
  rintro rfl
  obtain ⟨s, r, hc⟩ := h.chan
  rw [h.box] at hc
  cases hc
theorem QAt.hgb (h : QAt w g c b n L) : g ≠ b := by
  rintro rfl
  obtain ⟨bs, hc, _⟩ := h.waits
  rw [h.box] at hc
  cases hc
theorem QAt.hcb (h : QAt w g c b n L) : c ≠ b := by
  rintro rfl
  obtain ⟨bs, hc, _⟩ := h.waits
  obtain ⟨s, r, hd⟩ := h.chan
  rw [hd] at hc
  cases hc
theorem QAt.lts (h : QAt w g c b n L) : g < w.heap.size ∧ c < w.heap.size ∧ b < w.heap.size := by
  obtain ⟨bs, hb, _⟩ := h.waits
  obtain ⟨s, r, hc⟩ := h.chan
  exact ⟨blk_lt h.box, blk_lt hc, blk_lt hb⟩
theorem QAt.step (h : QAt w g c b n L) (hm : ∀ k, k = g ∨ k = c ∨ k = b → k < w.heap.size → w1.heap[k]? = w.heap[k]?) : QAt w1 g c b n L := by
  obtain ⟨l1, l2, l3⟩ := h.lts
  obtain ⟨bs, hb, hb2⟩ := h.waits
  obtain ⟨s, r, hc⟩ := h.chan
  exact ⟨(hm g (.inl rfl) l1).trans h.box, ⟨s, r, (hm c (.inr (.inl rfl)) l2).trans hc⟩, ⟨bs, (hm b (.inr (.inr rfl)) l3).trans hb, hb2⟩, h.small, h.nodup, h.rng⟩
theorem QAt.below (h : QAt w g c b n L) (hb : Below w.heap.size w w1) : QAt w1 g c b n L := h.step (fun k _ hk => hb.block k hk)
theorem QAt.cell0 (h : QAt w g c b n L) : w.cell? ⟨g, 0, none⟩ = some (.chan (some c)) := by simp [World.cell?, h.box]
theorem QAt.cell1 (h : QAt w g c b n L) : w.cell? ⟨g, 1, none⟩ = some (.slice (some ⟨b, 0, none⟩) n n) := by simp [World.cell?, h.box]
theorem QAt.cellb (h : QAt w g c b n L) (i : Nat) (hi : i < n) : w.cell? ⟨b, i, none⟩ = some (.bool (decide ((i : Int) ∈ L))) := by
  obtain ⟨bs, hb, _, hx⟩ := h.waits
  simp [World.cell?, hb, hx i hi]
theorem QAt.frozb (h : QAt w g c b n L) (i : Nat) : w.frozen? ⟨b, i, none⟩ = false := by
  obtain ⟨bs, hb, _, hx⟩ := h.waits
  simp [World.frozen?, hb]
theorem nodup_room : ∀ (n : Nat) (L : List Int), L.Nodup → (∀ x ∈ L, 0 ≤ x ∧ x < (n : Int)) → L.length ≤ n := by
  intro n
  induction n with
  | zero =>
    intro L _ h
    cases L with
    | nil => simp
    | cons x L => have := h x (by simp); omega
  | succ n ih =>
    intro L hn h
    by_cases hm : (n : Int) ∈ L
    · have := ih (L.erase (n : Int)) (hn.erase _) (fun x hx => by
        have h1 := h x (List.mem_of_mem_erase hx)
        have h2 : x ≠ (n : Int) := fun e => by subst e; exact absurd hx (hn.not_mem_erase)
        omega)
      rw [List.length_erase_of_mem hm] at this
      omega
    · have := ih L hn (fun x hx => by
        have h1 := h x hx
        have h2 : x ≠ (n : Int) := fun e => hm (e ▸ hx)
        omega)
      omega
theorem QAt.room (h : QAt w g c b n L) : L.length ≤ n := nodup_room n L h.nodup h.rng
theorem QAt.room_lt (h : QAt w g c b n L) (i : Int) (h0 : 0 ≤ i) (hi : i < n) (hm : i ∉ L) : L.length < n := by
  have := nodup_room n (i :: L) (List.nodup_cons.2 ⟨hm, h.nodup⟩) (fun x hx => by
    rcases List.mem_cons.1 hx with rfl | hx
    · exact ⟨h0, hi⟩
    · exact h.rng x hx)
  simp at this
  omega
end
theorem q_made (w : World) (o1 o2 o3 : Obj) : (((w.alloc o1).alloc o2).alloc o3).drew.heap[w.heap.size]? = some o1 ∧ (((w.alloc o1).alloc o2).alloc o3).drew.heap[w.heap.size + 1]? = some o2 ∧ (((w.alloc o1).alloc o2).alloc o3).drew.heap[w.heap.size + 1 + 1]? = some o3 := by
  show (((w.heap.push o1).push o2).push o3)[_]? = _ ∧ (((w.heap.push o1).push o2).push o3)[_]? = _ ∧ (((w.heap.push o1).push o2).push o3)[_]? = _
  refine ⟨?_, ?_, ?_⟩
  · rw [Array.getElem?_push, if_neg (by simp only [Array.size_push]; omega), Array.getElem?_push, if_neg (by simp only [Array.size_push]; omega), Array.getElem?_push, if_pos rfl]
  · rw [Array.getElem?_push, if_neg (by simp only [Array.size_push]; omega), Array.getElem?_push, if_pos (by simp only [Array.size_push])]
  · rw [Array.getElem?_push, if_pos (by simp only [Array.size_push])]
theorem mades (n : Nat) (i : Nat) (hi : i < n) : (madeCells #[.bool false] n)[i]? = some (.bool (decide ((i : Int) ∈ ([] : List Int)))) := by
  have : i % 1 = 0 := by omega
  simp [madeCells, hi, this]
set_option maxHeartbeats 1000000 in
theorem New_q (n : Nat) (hn : n ≤ 65536) (w : World) :
    Calls Tryd.prog 28 #[.int .i64 (n : Int)] w fun e w' => ∃ g c b, e = .returned (.pointer (some ⟨g, 0, none⟩)) ∧ QAt w' g c b n [] ∧ w.heap.size ≤ g ∧ w.heap.size ≤ c ∧ w.heap.size ≤ b ∧ Below w.heap.size w w' := by
  have t1 : decide ((n : Int) < 0) = false := decide_eq_false (by omega)
  have t2 : decide (65536 < (n : Int)) = false := decide_eq_false (by omega)
  have hmc := mkchan n hn
  have hmk := print_make_of (P := Tryd.prog) 49 4 (.bool false) 1 Tryd.underlying49 info4b rfl (by decide) n (by omega)
  have HB := Aside0.mk (Below.refl w.heap.size w)
  go_enter Tryd.func28, Tryd.ntmps28
  go_wp2
  go_region
  all_goals
    go_wp2
    go_ret
  · obtain ⟨e1, e2, e3⟩ := q_made w (.chan n #[] false 0 0 false) (.cells (madeCells #[.bool false] n) 4) (.cells #[.chan (some w.heap.size), .slice (some ⟨w.heap.size + 1, 0, none⟩) n n] 79)
    exact ⟨_, w.heap.size, w.heap.size + 1, rfl, ⟨e3, ⟨0, 0, e1⟩, ⟨_, e2, size_madeCells _ _, mades n⟩, hn, by simp, by simp⟩, by omega, by omega, by omega, below_drew (below_alloc (below_alloc (below_alloc HB.out _) _) _)⟩
  · obtain ⟨e1, e2, e3⟩ := q_made w (.cells (madeCells #[.bool false] n) 4) (.chan n #[] false 0 0 false) (.cells #[.chan (some (w.heap.size + 1)), .slice (some ⟨w.heap.size, 0, none⟩) n n] 79)
    exact ⟨_, w.heap.size + 1, w.heap.size, rfl, ⟨e3, ⟨0, 0, e2⟩, ⟨_, e1, size_madeCells _ _, mades n⟩, hn, by simp, by simp⟩, by omega, by omega, by omega, below_drew (below_alloc (below_alloc (below_alloc HB.out _) _) _)⟩
end Go.Proofs.YtanpghbakbebiaaDoorQ

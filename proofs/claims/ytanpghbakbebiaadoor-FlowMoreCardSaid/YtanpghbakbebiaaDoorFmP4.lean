/- A part of it. -/
import Derived.Test.YtanpghbakbebiaaDoorFmZ
import Derived.Test.YtanpghbakbebiaaDoorFmP0
import Derived.Test.YtanpghbakbebiaaDoorFmP3
namespace Go.Proofs.YtanpghbakbebiaaDoor.P
open Go.RowKit Go.Proofs.YtanpghbakbebiaaDoorW.PrintWords Go.Proofs.YtanpghbakbebiaaDoorW.PrintLast Go.Proofs.YtanpghbakbebiaaDoorW.PrintMore
attribute [local go_sem] max2_int min2_int max_two min_two max_three min_three max_four min_four   
set_option linter.unusedVariables false
set_option linter.unusedSimpArgs false
mutual
def flow_Right.j0 : Nat → Int → Bool → List (List Int) → Bool → Bool → Int → List (List Int) → List (List Int) → List Int → Option (Bool)
 | 0, _, _, _, _, _, _, _, _, _ => none
 | k + 1, x3, x34, x139000, x139001, x139002, x139003, x139004, x139005, x139006 => if x34 = true then (some false) else (flow_Right.l0 k x3 x139000 (x139000.length : Int) 0 x139000 x139001 x139002 x139003 x139004 x139005 x139006)
def flow_Right.l0 : Nat → Int → List (List Int) → Int → Int → List (List Int) → Bool → Bool → Int → List (List Int) → List (List Int) → List Int → Option (Bool)
 | 0, _, _, _, _, _, _, _, _, _, _, _ => none
 | k + 1, x3, x36, x37, x38, x139000, x139001, x139002, x139003, x139004, x139005, x139006 => if x38 < x37 then (if 0 ≤ x38 then (if x38 < (x36.length : Int) then (if x38 < (x139004.length : Int) then ((bits_Right.f k (rd_L3 x139004 x38) x139003).bind fun t142 => (if t142 = true then (if x38 < (x139005.length : Int) then ((bits_Right.f k (rd_L3 x139005 x38) x139003).bind fun t144 => (flow_Right.j2 k x3 (rd_L1 x36 x38) x36 x37 x38 (!t144) x139000 x139001 x139002 x139003 x139004 x139005 x139006)) else (none)) else (flow_Right.j2 k x3 (rd_L1 x36 x38) x36 x37 x38 true x139000 x139001 x139002 x139003 x139004 x139005 x139006))) else (none)) else (none)) else (none)) else (some true)
def flow_Right.j2 : Nat → Int → List Int → List (List Int) → Int → Int → Bool → List (List Int) → Bool → Bool → Int → List (List Int) → List (List Int) → List Int → Option (Bool)
 | 0, _, _, _, _, _, _, _, _, _, _, _, _, _ => none
 | k + 1, x3, x5, x36, x37, x38, x62, x139000, x139001, x139002, x139003, x139004, x139005, x139006 => if x62 = true then (some false) else (flow_Right.l1 k x3 x36 x37 x38 x5 (x5.length : Int) 0 x139000 x139001 x139002 x139003 x139004 x139005 x139006)
def flow_Right.l1 : Nat → Int → List (List Int) → Int → Int → List Int → Int → Int → List (List Int) → Bool → Bool → Int → List (List Int) → List (List Int) → List Int → Option (Bool)
 | 0, _, _, _, _, _, _, _, _, _, _, _, _, _, _ => none
 | k + 1, x3, x36, x37, x38, x63, x64, x65, x139000, x139001, x139002, x139003, x139004, x139005, x139006 => if x65 < x64 then (if 0 ≤ x65 then (if x65 < (x63.length : Int) then (if (rd x63 x65) < 0 then (some false) else (if (rd x63 x65) ≥ x3 then (some false) else (flow_Right.l1 k x3 x36 x37 x38 x63 x64 (wrap64 (x65 + 1)) x139000 x139001 x139002 x139003 x139004 x139005 x139006))) else (none)) else (none)) else (flow_Right.l0 k x3 x36 x37 (wrap64 (x38 + 1)) x139000 x139001 x139002 x139003 x139004 x139005 x139006)
end
def flow_Right.f (k : Nat) (l0_0 : List (List Int)) (a0_1 : Bool) (a0_2 : Bool) (a0_3 : Int) (l0_4 : List (List Int)) (l0_5 : List (List Int)) (l0_6 : List Int) : Option (Bool) := if (l0_0.length : Int) > 65536 then (flow_Right.j0 k (l0_0.length : Int) true l0_0 a0_1 a0_2 a0_3 l0_4 l0_5 l0_6) else (if (l0_4.length : Int) = (l0_0.length : Int) then (if (l0_5.length : Int) = (l0_0.length : Int) then ((bits_Right.f k l0_6 a0_3).bind fun t139 => (flow_Right.j0 k (l0_0.length : Int) (!t139) l0_0 a0_1 a0_2 a0_3 l0_4 l0_5 l0_6)) else (flow_Right.j0 k (l0_0.length : Int) true l0_0 a0_1 a0_2 a0_3 l0_4 l0_5 l0_6)) else (flow_Right.j0 k (l0_0.length : Int) true l0_0 a0_1 a0_2 a0_3 l0_4 l0_5 l0_6))
theorem flow_Right.mono_l : ∀ k, (∀ y0 y1 y2 y3 y4 y5 y6 y7 y8, LeO (flow_Right.j0 k y0 y1 y2 y3 y4 y5 y6 y7 y8) (flow_Right.j0 (k + 1) y0 y1 y2 y3 y4 y5 y6 y7 y8)) ∧ (∀ y0 y1 y2 y3 y4 y5 y6 y7 y8 y9 y10, LeO (flow_Right.l0 k y0 y1 y2 y3 y4 y5 y6 y7 y8 y9 y10) (flow_Right.l0 (k + 1) y0 y1 y2 y3 y4 y5 y6 y7 y8 y9 y10)) ∧ (∀ y0 y1 y2 y3 y4 y5 y6 y7 y8 y9 y10 y11 y12, LeO (flow_Right.j2 k y0 y1 y2 y3 y4 y5 y6 y7 y8 y9 y10 y11 y12) (flow_Right.j2 (k + 1) y0 y1 y2 y3 y4 y5 y6 y7 y8 y9 y10 y11 y12)) ∧ (∀ y0 y1 y2 y3 y4 y5 y6 y7 y8 y9 y10 y11 y12 y13, LeO (flow_Right.l1 k y0 y1 y2 y3 y4 y5 y6 y7 y8 y9 y10 y11 y12 y13) (flow_Right.l1 (k + 1) y0 y1 y2 y3 y4 y5 y6 y7 y8 y9 y10 y11 y12 y13))
 | 0 => ⟨fun _ _ _ _ _ _ _ _ _ r h => by simp [flow_Right.j0] at h, fun _ _ _ _ _ _ _ _ _ _ _ r h => by simp [flow_Right.l0] at h, fun _ _ _ _ _ _ _ _ _ _ _ _ _ r h => by simp [flow_Right.j2] at h, fun _ _ _ _ _ _ _ _ _ _ _ _ _ _ r h => by simp [flow_Right.l1] at h⟩
 | k + 1 => by
  obtain ⟨ih0, ih1, ih2, ih3⟩ := flow_Right.mono_l k
  refine ⟨?_, ?_, ?_, ?_⟩
  ·intro y0 y1 y2 y3 y4 y5 y6 y7 y8
   unfold flow_Right.j0
   repeat' first
   | (with_reducible exact ih0 _ _ _ _ _ _ _ _ _)
   | (with_reducible exact ih1 _ _ _ _ _ _ _ _ _ _ _)
   | (with_reducible exact ih2 _ _ _ _ _ _ _ _ _ _ _ _ _)
   | (with_reducible exact ih3 _ _ _ _ _ _ _ _ _ _ _ _ _ _)
   | (with_reducible exact bits_Right.mono _ _ _)
   | (with_reducible exact LeO.refl _)
   | (with_reducible exact LeO.none _)
   | (with_reducible refine LeO.ite ?_ ?_)
   | (with_reducible refine LeO.bind ?_ (fun _ => ?_))
   | exact ih0 _ _ _ _ _ _ _ _ _
   | exact ih1 _ _ _ _ _ _ _ _ _ _ _
   | exact ih2 _ _ _ _ _ _ _ _ _ _ _ _ _
   | exact ih3 _ _ _ _ _ _ _ _ _ _ _ _ _ _
   | exact bits_Right.mono _ _ _
   | exact LeO.none _
   | refine LeO.ite ?_ ?_
   | refine LeO.bind ?_ (fun _ => ?_)
  ·intro y0 y1 y2 y3 y4 y5 y6 y7 y8 y9 y10
   unfold flow_Right.l0
   repeat' first
   | (with_reducible exact ih0 _ _ _ _ _ _ _ _ _)
   | (with_reducible exact ih1 _ _ _ _ _ _ _ _ _ _ _)
   | (with_reducible exact ih2 _ _ _ _ _ _ _ _ _ _ _ _ _)
   | (with_reducible exact ih3 _ _ _ _ _ _ _ _ _ _ _ _ _ _)
   | (with_reducible exact bits_Right.mono _ _ _)
   | (with_reducible exact LeO.refl _)
   | (with_reducible exact LeO.none _)
   | (with_reducible refine LeO.ite ?_ ?_)
   | (with_reducible refine LeO.bind ?_ (fun _ => ?_))
   | exact ih0 _ _ _ _ _ _ _ _ _
   | exact ih1 _ _ _ _ _ _ _ _ _ _ _
   | exact ih2 _ _ _ _ _ _ _ _ _ _ _ _ _
   | exact ih3 _ _ _ _ _ _ _ _ _ _ _ _ _ _
   | exact bits_Right.mono _ _ _
   | exact LeO.none _
   | refine LeO.ite ?_ ?_
   | refine LeO.bind ?_ (fun _ => ?_)
  ·intro y0 y1 y2 y3 y4 y5 y6 y7 y8 y9 y10 y11 y12
   unfold flow_Right.j2
   repeat' first
   | (with_reducible exact ih0 _ _ _ _ _ _ _ _ _)
   | (with_reducible exact ih1 _ _ _ _ _ _ _ _ _ _ _)
   | (with_reducible exact ih2 _ _ _ _ _ _ _ _ _ _ _ _ _)
   | (with_reducible exact ih3 _ _ _ _ _ _ _ _ _ _ _ _ _ _)
   | (with_reducible exact bits_Right.mono _ _ _)
   | (with_reducible exact LeO.refl _)
   | (with_reducible exact LeO.none _)
   | (with_reducible refine LeO.ite ?_ ?_)
   | (with_reducible refine LeO.bind ?_ (fun _ => ?_))
   | exact ih0 _ _ _ _ _ _ _ _ _
   | exact ih1 _ _ _ _ _ _ _ _ _ _ _
   | exact ih2 _ _ _ _ _ _ _ _ _ _ _ _ _
   | exact ih3 _ _ _ _ _ _ _ _ _ _ _ _ _ _
   | exact bits_Right.mono _ _ _
   | exact LeO.none _
   | refine LeO.ite ?_ ?_
   | refine LeO.bind ?_ (fun _ => ?_)
  ·intro y0 y1 y2 y3 y4 y5 y6 y7 y8 y9 y10 y11 y12 y13
   unfold flow_Right.l1
   repeat' first
   | (with_reducible exact ih0 _ _ _ _ _ _ _ _ _)
   | (with_reducible exact ih1 _ _ _ _ _ _ _ _ _ _ _)
   | (with_reducible exact ih2 _ _ _ _ _ _ _ _ _ _ _ _ _)
   | (with_reducible exact ih3 _ _ _ _ _ _ _ _ _ _ _ _ _ _)
   | (with_reducible exact bits_Right.mono _ _ _)
   | (with_reducible exact LeO.refl _)
   | (with_reducible exact LeO.none _)
   | (with_reducible refine LeO.ite ?_ ?_)
   | (with_reducible refine LeO.bind ?_ (fun _ => ?_))
   | exact ih0 _ _ _ _ _ _ _ _ _
   | exact ih1 _ _ _ _ _ _ _ _ _ _ _
   | exact ih2 _ _ _ _ _ _ _ _ _ _ _ _ _
   | exact ih3 _ _ _ _ _ _ _ _ _ _ _ _ _ _
   | exact bits_Right.mono _ _ _
   | exact LeO.none _
   | refine LeO.ite ?_ ?_
   | refine LeO.bind ?_ (fun _ => ?_)
theorem flow_Right.mono : ∀ a0 a1 a2 a3 a4 a5 a6 k, LeO (flow_Right.f k a0 a1 a2 a3 a4 a5 a6) (flow_Right.f (k + 1) a0 a1 a2 a3 a4 a5 a6) := by
 intro a0 a1 a2 a3 a4 a5 a6 k
 obtain ⟨ih0, ih1, ih2, ih3⟩ := flow_Right.mono_l k
 unfold flow_Right.f
 repeat' first
   | (with_reducible exact ih0 _ _ _ _ _ _ _ _ _)
   | (with_reducible exact ih1 _ _ _ _ _ _ _ _ _ _ _)
   | (with_reducible exact ih2 _ _ _ _ _ _ _ _ _ _ _ _ _)
   | (with_reducible exact ih3 _ _ _ _ _ _ _ _ _ _ _ _ _ _)
   | (with_reducible exact bits_Right.mono _ _ _)
   | (with_reducible exact LeO.refl _)
   | (with_reducible exact LeO.none _)
   | (with_reducible refine LeO.ite ?_ ?_)
   | (with_reducible refine LeO.bind ?_ (fun _ => ?_))
   | exact ih0 _ _ _ _ _ _ _ _ _
   | exact ih1 _ _ _ _ _ _ _ _ _ _ _
   | exact ih2 _ _ _ _ _ _ _ _ _ _ _ _ _
   | exact ih3 _ _ _ _ _ _ _ _ _ _ _ _ _ _
   | exact bits_Right.mono _ _ _
   | exact LeO.none _
   | refine LeO.ite ?_ ?_
   | refine LeO.bind ?_ (fun _ => ?_)
def flow_Right.T7 : Bool × List (List Nat × List Nat) := (true, [([], []), ([0], [0]), ([], []), ([1, 2], [1, 2]), ([3], [3]), ([], []), ([5], [5]), ([4, 6], [4, 6]), ([7], [7]), ([8, 7], [8]), ([9], [9]), ([10, 9], [9, 10]), ([9], [9]), ([11, 12, 9], [9, 11, 12]), ([13, 9], [9, 13]), ([9], [9]), ([15, 9], [9, 15]), ([14, 16, 9, 9], [9, 14, 16]), ([17, 9], [9, 17]), ([9, 18], [9, 18])])
def flow_Right.B7 : List Nat := [0, 1, 0, 7, 15, 0, 32, 127, 255, 511, 1023, 2047, 1023, 8191, 16383, 1023, 33791, 131071, 262143, 524287]
theorem flow_Right.tab7 : rtab .any (opsOf Tryd.f11 7) = flow_Right.T7 := by kernel_rfl
theorem flow_Right.bits7 : waitsOk flow_Right.T7.2 flow_Right.B7 = true := by kernel_rfl
set_option maxHeartbeats 8000000 in
set_option maxRecDepth 100000 in
theorem flow_Right.calls (k : Nat) (A0_0 : Option Addr) (c0_0 : Nat) (l0_0 : List (List Int)) (a0_1 : Bool) (a0_2 : Bool) (a0_3 : Int) (A0_4 : Option Addr) (c0_4 : Nat) (l0_4 : List (List Int)) (A0_5 : Option Addr) (c0_5 : Nat) (l0_5 : List (List Int)) (A0_6 : Option Addr) (c0_6 : Nat) (l0_6 : List Int) (r : Bool) (w : World) (hT : TabW w) (hr0_0 : Kd.C (Kd.slice 3 (Kd.int .i64)) w A0_0 l0_0.length l0_0) (hc0_0 : l0_0.length ≤ c0_0) (hr0_4 : Kd.C (Kd.slice 72 (Kd.int .u64)) w A0_4 l0_4.length l0_4) (hc0_4 : l0_4.length ≤ c0_4) (hr0_5 : Kd.C (Kd.slice 72 (Kd.int .u64)) w A0_5 l0_5.length l0_5) (hc0_5 : l0_5.length ≤ c0_5) (hr0_6 : Kd.C (Kd.int .u64) w A0_6 l0_6.length l0_6) (hc0_6 : l0_6.length ≤ c0_6) (h : flow_Right.f k l0_0 a0_1 a0_2 a0_3 l0_4 l0_5 l0_6 = some r) :
  Calls Tryd.prog 11 #[.agg #[.slice A0_0 l0_0.length c0_0, .bool a0_1, .bool a0_2, .int .i64 a0_3, .slice A0_4 l0_4.length c0_4, .slice A0_5 l0_5.length c0_5, .slice A0_6 l0_6.length c0_6]] w fun e w' => e = .returned (.bool r) ∧ Below w.heap.size w w' := by
 have hu32 := Tryd.underlying32
 have HR0_0 := Aside0.mk hr0_0
 have HC0_0 := Aside0.mk hc0_0
 clear hr0_0 hc0_0
 have HR0_4 := Aside0.mk hr0_4
 have HC0_4 := Aside0.mk hc0_4
 clear hr0_4 hc0_4
 have HR0_5 := Aside0.mk hr0_5
 have HC0_5 := Aside0.mk hc0_5
 clear hr0_5 hc0_5
 have HR0_6 := Aside0.mk hr0_6
 have HC0_6 := Aside0.mk hc0_6
 clear hr0_6 hc0_6
 have HT := Aside0.mk hT
 clear hT
 have HB := Aside0.mk (Below.refl w.heap.size w)
 have H : (if (l0_0.length : Int) > 65536 then (flow_Right.j0 k (l0_0.length : Int) true l0_0 a0_1 a0_2 a0_3 l0_4 l0_5 l0_6) else (if (l0_4.length : Int) = (l0_0.length : Int) then (if (l0_5.length : Int) = (l0_0.length : Int) then ((bits_Right.f k l0_6 a0_3).bind fun t139 => (flow_Right.j0 k (l0_0.length : Int) (!t139) l0_0 a0_1 a0_2 a0_3 l0_4 l0_5 l0_6)) else (flow_Right.j0 k (l0_0.length : Int) true l0_0 a0_1 a0_2 a0_3 l0_4 l0_5 l0_6)) else (flow_Right.j0 k (l0_0.length : Int) true l0_0 a0_1 a0_2 a0_3 l0_4 l0_5 l0_6))) = some r := h
 clear h
 have HC2 := Aside0.mk H
 clear H
 go_enter Tryd.func11, Tryd.ntmps11
 go_upto_region 2 with (first | ((with_reducible refine gate_dst (N := 1) rfl ?_); (try (refine gate_guard (by rfl) ?_; dsimp only)); refine box_event ?hg (N := 1) ?hd (cs := #[.slice A0_0 l0_0.length c0_0, .bool a0_1, .bool a0_2, .int .i64 a0_3, .slice A0_4 l0_4.length c0_4, .slice A0_5 l0_5.length c0_5, .slice A0_6 l0_6.length c0_6]) (t := 32) ?hr ?_; (case hd => rfl); (case hg => rfl); (case hr => first | (go_simp; done) | (go_simp; rfl)); intro gb138 hg w3 hbox hb; have n0_ := Aside0.mk (below_step (zB) hb); have n1_ := Aside0.mk (hbox); have n2_ := Aside0.mk (zH hg : w.heap.size ≤ gb138); have n3_ := Aside0.mk (zH hg : w.heap.size ≤ gb138); clear HB; have HB := n0_; have BK138 := n1_; have GW138 := n2_; have GE138 := n3_; clear n0_ n1_ n2_ n3_; clear hb hbox hg; obtain ⟨hcz4_0, hcz4_1, hcz4_2, hcz4_3, hcz4_4, hcz4_5, hcz4_6⟩ := zc7 BK138.out; obtain ⟨hfz4_0, hfz4_1, hfz4_2, hfz4_3, hfz4_4, hfz4_5, hfz4_6⟩ := zf7 BK138.out))
 (try simp only [Act.put, List.setIfInBounds_toArray, List.set_cons_zero, List.set_cons_succ])
 go_cut [34] (fun v34 wc => ∃ (kq : Nat) (x34_1 : Bool), v34 = .bool x34_1 ∧ Aside0 (flow_Right.j0 kq (l0_0.length : Int) x34_1 l0_0 a0_1 a0_2 a0_3 l0_4 l0_5 l0_6 = some r) ∧ Aside0 (kq ≤ k) ∧ Aside0 (wc.heap[gb138]? = some (.cells #[(.slice A0_0 l0_0.length c0_0), .bool a0_1, .bool a0_2, .int .i64 a0_3, (.slice A0_4 l0_4.length c0_4), (.slice A0_5 l0_5.length c0_5), (.slice A0_6 l0_6.length c0_6)] 32 (0, 0))) ∧ Aside0 (Below w.heap.size w wc))
 case first =>
  have H := HC2.out
  clear HC2
  by_cases c5 : (l0_0.length : Int) > 65536
  ·rw [if_pos c5] at H
   have c5b0 : decide (65536 < (l0_0.length : Int)) = true := decide_eq_true c5
   have c5b1 : decide (65536 < l0_0.length) = true := decide_eq_true (by omega)
   clear c5
   (first | rw [c5b0] | (simp only [i64_w, i32_w]; rw [c5b0]) | skip)
   have H' := Aside0.mk H
   clear H
   go_wp2
   go_meet
   case rel => exact ⟨_, (true), zQ, H', ⟨by first | omega | exact Nat.le_refl _⟩, ⟨zK BK138.out⟩, ⟨zG⟩⟩
  ·rw [if_neg c5] at H
   have c5b0 : decide (65536 < (l0_0.length : Int)) = false := decide_eq_false c5
   have c5b1 : decide (65536 < l0_0.length) = false := decide_eq_false (by omega)
   clear c5
   (first | rw [c5b0] | (simp only [i64_w, i32_w]; rw [c5b0]) | skip)
   by_cases c6 : (l0_4.length : Int) = (l0_0.length : Int)
   ·rw [if_pos c6] at H
    have c6b0 : ((l0_4.length : Int) == (l0_0.length : Int)) = true := beq_iff_eq.mpr c6
    have c6b1 : ((l0_4.length : Int) != (l0_0.length : Int)) = false := bne_eq_false_iff_eq.mpr c6
    have c6b2 : (l0_4.length == l0_0.length) = true := by first | simpa using c6 | (simp at c6 ⊢; omega)
    clear c6
    by_cases c7 : (l0_5.length : Int) = (l0_0.length : Int)
    ·rw [if_pos c7] at H
     have c7b0 : ((l0_5.length : Int) == (l0_0.length : Int)) = true := beq_iff_eq.mpr c7
     have c7b1 : ((l0_5.length : Int) != (l0_0.length : Int)) = false := bne_eq_false_iff_eq.mpr c7
     have c7b2 : (l0_5.length == l0_0.length) = true := by first | simpa using c7 | (simp at c7 ⊢; omega)
     clear c7
     replace H := Option.bind_eq_some_iff.mp H
     obtain ⟨t139, A80, H⟩ := H
     replace H : (flow_Right.j0 k (l0_0.length : Int) (!t139) l0_0 a0_1 a0_2 a0_3 l0_4 l0_5 l0_6) = some r := H
     have A8 := Aside0.mk A80
     clear A80
     have H' := Aside0.mk H
     clear H
     obtain ⟨hcz9_0, hcz9_1, hcz9_2, hcz9_3, hcz9_4, hcz9_5, hcz9_6⟩ := zc7 BK138.out
     obtain ⟨hfz9_0, hfz9_1, hfz9_2, hfz9_3, hfz9_4, hfz9_5, hfz9_6⟩ := zf7 BK138.out
     go_wp2_with (first | (go_at_call 34; (with_reducible refine (bits_Right.calls k _ _ l0_6 a0_3 t139 _ ?side1 ?side2 ?side3 A8.out).mono ?_); (case side1 => first | exact HT.out | exact TabW.below HT.out (zG)); (case side2 => exact zC (Kd.C_below HR0_6.out HB.out)); (case side3 => exact HC0_6.out); rintro e w10 ⟨rfl, hb⟩; have n0_ := Aside0.mk (blk_below (g := gb138) (o := .cells #[.slice A0_0 l0_0.length c0_0, .bool a0_1, .bool a0_2, .int .i64 a0_3, .slice A0_4 l0_4.length c0_4, .slice A0_5 l0_5.length c0_5, .slice A0_6 l0_6.length c0_6] 32 (0, 0)) (zK BK138.out) hb); have n1_ := Aside0.mk (below_step (zG) hb); clear BK138; clear HB; have BK138 := n0_; have HB := n1_; clear n0_ n1_; (try clear hb); (try clear hb2); (try clear hk); (try clear hi)))
     go_meet
     case rel => exact ⟨_, (!t139), zQ, H', ⟨by first | omega | exact Nat.le_refl _⟩, ⟨zK BK138.out⟩, ⟨zG⟩⟩
    ·rw [if_neg c7] at H
     have c7b0 : ((l0_5.length : Int) == (l0_0.length : Int)) = false := beq_eq_false_iff_ne.mpr c7
     have c7b1 : ((l0_5.length : Int) != (l0_0.length : Int)) = true := bne_iff_ne.mpr c7
     have c7b2 : (l0_5.length == l0_0.length) = false := by first | simpa using c7 | (simp at c7 ⊢; omega)
     have H' := Aside0.mk H
     clear H
     obtain ⟨hcz11_0, hcz11_1, hcz11_2, hcz11_3, hcz11_4, hcz11_5, hcz11_6⟩ := zc7 BK138.out
     obtain ⟨hfz11_0, hfz11_1, hfz11_2, hfz11_3, hfz11_4, hfz11_5, hfz11_6⟩ := zf7 BK138.out
     go_wp2
     go_meet
     case rel => exact ⟨_, (true), zQ, H', ⟨by first | omega | exact Nat.le_refl _⟩, ⟨zK BK138.out⟩, ⟨zG⟩⟩
   ·rw [if_neg c6] at H
    have c6b0 : ((l0_4.length : Int) == (l0_0.length : Int)) = false := beq_eq_false_iff_ne.mpr c6
    have c6b1 : ((l0_4.length : Int) != (l0_0.length : Int)) = true := bne_iff_ne.mpr c6
    have c6b2 : (l0_4.length == l0_0.length) = false := by first | simpa using c6 | (simp at c6 ⊢; omega)
    have H' := Aside0.mk H
    clear H
    obtain ⟨hcz12_0, hcz12_1, hcz12_2, hcz12_3, hcz12_4, hcz12_5, hcz12_6⟩ := zc7 BK138.out
    obtain ⟨hfz12_0, hfz12_1, hfz12_2, hfz12_3, hfz12_4, hfz12_5, hfz12_6⟩ := zf7 BK138.out
    go_wp2
    go_meet
    case rel => exact ⟨_, (true), zQ, H', ⟨by first | omega | exact Nat.le_refl _⟩, ⟨zK BK138.out⟩, ⟨zG⟩⟩
 case rest =>
  clear HC2
  (try clear c1); (try clear p2); (try clear c5); (try clear c5b0); (try clear c5b1); (try clear c6); (try clear c6b0); (try clear c6b1); (try clear c6b2); (try clear c7); (try clear c7b0); (try clear c7b1); (try clear c7b2); (try clear c11); (try clear hcz11_0 hcz11_1 hcz11_2 hcz11_3 hcz11_4 hcz11_5 hcz11_6); (try clear hcz12_0)
  (try clear hcz12_1 hcz12_2 hcz12_3 hcz12_4 hcz12_5 hcz12_6); (try clear hcz4_0 hcz4_1 hcz4_2 hcz4_3 hcz4_4 hcz4_5 hcz4_6); (try clear hcz9_0 hcz9_1 hcz9_2 hcz9_3 hcz9_4 hcz9_5 hcz9_6)
  (try clear hfz11_0 hfz11_1 hfz11_2 hfz11_3 hfz11_4 hfz11_5 hfz11_6); (try clear hfz12_0 hfz12_1 hfz12_2 hfz12_3 hfz12_4 hfz12_5 hfz12_6); (try clear hfz4_0 hfz4_1 hfz4_2 hfz4_3 hfz4_4 hfz4_5)
  (try clear hfz4_6); (try clear hfz9_0 hfz9_1 hfz9_2 hfz9_3 hfz9_4 hfz9_5 hfz9_6)
  obtain ⟨kq, x34_1, rfl, HA, HJ1, BK138, HB⟩ := hcut
  cases kq with
  | zero => exact absurd HA.out (by simp [flow_Right.j0])
  | succ kj1 =>
   have H := HA.out
   clear HA
   simp only [flow_Right.j0] at H
   by_cases c13 : x34_1 = true
   ·subst c13
    have H1 : (some false) = some r := by rw [if_pos rfl] at H; exact H
    clear H
    have H := H1
    clear H1
    obtain rfl := Option.some.inj H
    go_wp2
    go_ret
    exact ⟨zV, zG⟩
   ·replace c13 := Bool.eq_false_iff.mpr c13
    subst c13
    have H1 : (flow_Right.l0 kj1 (l0_0.length : Int) l0_0 (l0_0.length : Int) 0 l0_0 a0_1 a0_2 a0_3 l0_4 l0_5 l0_6) = some r := by rw [if_neg (show ¬ (false = true) by decide)] at H; exact H
    clear H
    have H := H1
    clear H1
    have H' := Aside0.mk H
    clear H
    obtain ⟨hcz14_0, hcz14_1, hcz14_2, hcz14_3, hcz14_4, hcz14_5, hcz14_6⟩ := zc7 BK138.out
    obtain ⟨hfz14_0, hfz14_1, hfz14_2, hfz14_3, hfz14_4, hfz14_5, hfz14_6⟩ := zf7 BK138.out
    go_wp2
    go_loopg [38] kj1 (fun kq v38 w' => ∃ (x38_2 : Int), v38 = .int .i64 x38_2 ∧ Aside0 (flow_Right.l0 kq (l0_0.length : Int) l0_0 (l0_0.length : Int) x38_2 l0_0 a0_1 a0_2 a0_3 l0_4 l0_5 l0_6 = some r) ∧ Aside0 (kq ≤ kj1) ∧ Aside0 (w'.heap[gb138]? = some (.cells #[(.slice A0_0 l0_0.length c0_0), .bool a0_1, .bool a0_2, .int .i64 a0_3, (.slice A0_4 l0_4.length c0_4), (.slice A0_5 l0_5.length c0_5), (.slice A0_6 l0_6.length c0_6)] 32 (0, 0))) ∧ Aside0 (Below w.heap.size w w'))
    case atStart => exact ⟨(0), zQ, H', ⟨Nat.le_refl _⟩, ⟨zK BK138.out⟩, ⟨zG⟩⟩
    case round =>
     clear H'
     (try clear c1); (try clear p2); (try clear c5); (try clear c5b0); (try clear c5b1); (try clear c6); (try clear c6b0); (try clear c6b1); (try clear c6b2); (try clear c7); (try clear c7b0); (try clear c7b1); (try clear c7b2); (try clear c11); (try clear c13); (try clear hcz11_0 hcz11_1 hcz11_2 hcz11_3 hcz11_4 hcz11_5 hcz11_6)
     (try clear hcz12_0 hcz12_1 hcz12_2 hcz12_3 hcz12_4 hcz12_5 hcz12_6); (try clear hcz14_0 hcz14_1 hcz14_2 hcz14_3 hcz14_4 hcz14_5 hcz14_6); (try clear hcz4_0 hcz4_1 hcz4_2 hcz4_3 hcz4_4 hcz4_5)
     (try clear hcz4_6); (try clear hcz9_0 hcz9_1 hcz9_2 hcz9_3 hcz9_4 hcz9_5 hcz9_6); (try clear hfz11_0 hfz11_1 hfz11_2 hfz11_3 hfz11_4 hfz11_5 hfz11_6); (try clear hfz12_0 hfz12_1 hfz12_2 hfz12_3 hfz12_4)
     (try clear hfz12_5 hfz12_6); (try clear hfz14_0 hfz14_1 hfz14_2 hfz14_3 hfz14_4 hfz14_5 hfz14_6); (try clear hfz4_0 hfz4_1 hfz4_2 hfz4_3 hfz4_4 hfz4_5 hfz4_6); (try clear hfz9_0 hfz9_1 hfz9_2 hfz9_3)
     (try clear hfz9_4 hfz9_5 hfz9_6); (try clear p2)
     obtain ⟨x38_2, rfl, HA, HK2, BK138, HB⟩ := hrel
     cases gk with
     | zero => exact absurd HA.out (by simp [flow_Right.l0])
     | succ k2 =>
      have H := HA.out
      clear HA
      simp only [flow_Right.l0] at H
      by_cases c15 : x38_2 < (l0_0.length : Int)
      ·rw [if_pos c15] at H
       have c15b0 : decide (x38_2 < (l0_0.length : Int)) = true := decide_eq_true c15
       clear c15
       by_cases c16 : 0 ≤ x38_2
       ·rw [if_pos c16] at H
        have c16b0 : decide (0 ≤ x38_2) = true := decide_eq_true c16
        clear c16
        by_cases c17 : x38_2 < (l0_0.length : Int)
        ·rw [if_pos c17] at H
         have c17b0 : decide (x38_2 < (l0_0.length : Int)) = true := decide_eq_true c17
         clear c17
         have HC18 := Aside0.mk H
         clear H
         have p140 : 0 ≤ (x38_2 : Int) := zO
         have q140 : x38_2 < (l0_0.length : Int) := zO
         obtain ⟨ad140, A140_0, c140_0, e140, hx140_0, hl140_0, hi140_0⟩ := at_L1 HR0_0.out x38_2 p140 q140
         cases e140
         replace hx140_0 := pw_cell_below HB.out hx140_0
         have HR140_0 := Aside0.mk hi140_0
         have HC140_0 := Aside0.mk hl140_0
         clear hi140_0 hl140_0
         replace p140 := eq_true p140
         replace q140 := eq_true q140
         go_upto_region 7 with (fail)
         go_cut [62] (fun v62 wc => ∃ (kq : Nat) (x62_17 : Bool), v62 = .bool x62_17 ∧ Aside0 (flow_Right.j2 kq (l0_0.length : Int) (rd_L1 l0_0 x38_2) l0_0 (l0_0.length : Int) x38_2 x62_17 l0_0 a0_1 a0_2 a0_3 l0_4 l0_5 l0_6 = some r) ∧ Aside0 (kq ≤ k2) ∧ Aside0 (wc.heap[gb138]? = some (.cells #[(.slice (some ad140) l0_0.length c0_0), .bool a0_1, .bool a0_2, .int .i64 a0_3, (.slice A0_4 l0_4.length c0_4), (.slice A0_5 l0_5.length c0_5), (.slice A0_6 l0_6.length c0_6)] 32 (0, 0))) ∧ Aside0 (Below w.heap.size w wc))
         case first =>
          have H := HC18.out
          clear HC18
          by_cases c19 : x38_2 < (l0_4.length : Int)
          ·rw [if_pos c19] at H
           have c19b0 : decide (x38_2 < (l0_4.length : Int)) = true := decide_eq_true c19
           clear c19
           (first | rw [c19b0] | (simp only [i64_w, i32_w]; rw [c19b0]) | skip)
           replace H := Option.bind_eq_some_iff.mp H
           obtain ⟨t142, A200, H⟩ := H
           replace H : (if t142 = true then (if x38_2 < (l0_5.length : Int) then ((bits_Right.f k2 (rd_L3 l0_5 x38_2) a0_3).bind fun t144 => (flow_Right.j2 k2 (l0_0.length : Int) (rd_L1 l0_0 x38_2) l0_0 (l0_0.length : Int) x38_2 (!t144) l0_0 a0_1 a0_2 a0_3 l0_4 l0_5 l0_6)) else (none)) else (flow_Right.j2 k2 (l0_0.length : Int) (rd_L1 l0_0 x38_2) l0_0 (l0_0.length : Int) x38_2 true l0_0 a0_1 a0_2 a0_3 l0_4 l0_5 l0_6)) = some r := H
           have A20 := Aside0.mk A200
           clear A200
           by_cases c21 : t142 = true
           ·subst c21
            have H1 : (if x38_2 < (l0_5.length : Int) then ((bits_Right.f k2 (rd_L3 l0_5 x38_2) a0_3).bind fun t144 => (flow_Right.j2 k2 (l0_0.length : Int) (rd_L1 l0_0 x38_2) l0_0 (l0_0.length : Int) x38_2 (!t144) l0_0 a0_1 a0_2 a0_3 l0_4 l0_5 l0_6)) else (none)) = some r := by rw [if_pos rfl] at H; exact H
            clear H
            have H := H1
            clear H1
            by_cases c22 : x38_2 < (l0_5.length : Int)
            ·rw [if_pos c22] at H
             have c22b0 : decide (x38_2 < (l0_5.length : Int)) = true := decide_eq_true c22
             clear c22
             replace H := Option.bind_eq_some_iff.mp H
             obtain ⟨t144, A230, H⟩ := H
             replace H : (flow_Right.j2 k2 (l0_0.length : Int) (rd_L1 l0_0 x38_2) l0_0 (l0_0.length : Int) x38_2 (!t144) l0_0 a0_1 a0_2 a0_3 l0_4 l0_5 l0_6) = some r := H
             have A23 := Aside0.mk A230
             clear A230
             have H' := Aside0.mk H
             clear H
             try go_wp2
             have n0_ := Aside0.mk (blk_drew BK138.out)
             have n1_ := Aside0.mk (below_drew1 HB.out)
             clear BK138
             clear HB
             have BK138 := n0_
             have HB := n1_
             clear n0_ n1_
             have p141 : 0 ≤ (x38_2 : Int) := zO
             have q141 : x38_2 < (l0_4.length : Int) := zO
             obtain ⟨ad141, A141_0, c141_0, e141, hx141_0, hl141_0, hi141_0⟩ := at_L3 HR0_4.out x38_2 p141 q141
             have hw141_0 := hx141_0
             cases e141
             replace hx141_0 := pw_cell_below HB.out hx141_0
             have HR141_0 := Aside0.mk hi141_0
             have HC141_0 := Aside0.mk hl141_0
             clear hi141_0 hl141_0
             replace p141 := eq_true p141
             replace q141 := eq_true q141
             have p143 : 0 ≤ (x38_2 : Int) := zO
             have q143 : x38_2 < (l0_5.length : Int) := zO
             obtain ⟨ad143, A143_0, c143_0, e143, hx143_0, hl143_0, hi143_0⟩ := at_L3 HR0_5.out x38_2 p143 q143
             have hw143_0 := hx143_0
             cases e143
             replace hx143_0 := pw_cell_below HB.out hx143_0
             have HR143_0 := Aside0.mk hi143_0
             have HC143_0 := Aside0.mk hl143_0
             clear hi143_0 hl143_0
             replace p143 := eq_true p143
             replace q143 := eq_true q143
             refine start_ (n := 20) (S := fun w' => w'.cell? ⟨gb138, 0, none⟩ = some (.slice (some ad140) l0_0.length c0_0) ∧ w'.cell? ⟨gb138, 1, none⟩ = some (.bool a0_1) ∧ w'.cell? ⟨gb138, 2, none⟩ = some (.bool a0_2) ∧ w'.cell? ⟨gb138, 3, none⟩ = some (.int .i64 a0_3) ∧ w'.cell? ⟨gb138, 4, none⟩ = some (.slice (some ad141) l0_4.length c0_4) ∧ w'.cell? ⟨gb138, 5, none⟩ = some (.slice (some ad143) l0_5.length c0_5) ∧ w'.cell? ⟨gb138, 6, none⟩ = some (.slice A0_6 l0_6.length c0_6) ∧ w'.cell? (ad141.add (x38_2).toNat) = some (.slice A141_0 (rd_L3 l0_4 x38_2).length c141_0) ∧ w'.cell? (ad143.add (x38_2).toNat) = some (.slice A143_0 (rd_L3 l0_5 x38_2).length c143_0)) (ds := []) #[false, false, false, false, false, false, false, false, false, false, false, false, false, false, false, false, false, false, false, false] (by kernel_rfl) rfl rfl ⟨(blk_cell BK138.out 0).trans rfl, (blk_cell BK138.out 1).trans rfl, (blk_cell BK138.out 2).trans rfl, (blk_cell BK138.out 3).trans rfl, (blk_cell BK138.out 4).trans rfl, (blk_cell BK138.out 5).trans rfl, (blk_cell BK138.out 6).trans rfl, ((HB.out.cell (World.block_lt_of_cell? w _ hw141_0)).trans hw141_0), ((HB.out.cell (World.block_lt_of_cell? w _ hw143_0)).trans hw143_0)⟩ (fun hHeld => ?_); refine with_tabW flow_Right.tab7 flow_Right.bits7 (fun HT_ HW_ => ?_)
             generalize wr.drew = w24 at BK138 HB HR141_0 HR143_0 hx141_0 hx143_0 hHeld ⊢
             refine pure_ (i := 0) (N := some 43) (v := ?_) (a' := ?_) (zb 20 1) rfl rfl (any_of HT_.out (by kernel_rfl)) (fun _ _ _ h => h) (Or.inl ⟨by rfl, ?_⟩) ?_ ?_
             rotate_left
             ·intro w'
              go_simp
              with_reducible rfl
             rotate_left
             ·simp only [Act.put, List.setIfInBounds_toArray, List.set_cons_zero, List.set_cons_succ, i64_w, i32_w]
              rfl
             refine pure_ (i := 2) (N := some 45) (v := ?_) (a' := ?_) (zb 20 5) rfl rfl (any_of HT_.out (by kernel_rfl)) (fun _ _ _ h => h) (Or.inl ⟨by rfl, ?_⟩) ?_ ?_
             rotate_left
             ·intro w'
              go_simp
              with_reducible rfl
             rotate_left
             ·simp only [Act.put, List.setIfInBounds_toArray, List.set_cons_zero, List.set_cons_succ, i64_w, i32_w]
              rfl
             refine pure_ (i := 5) (N := some 48) (v := ?_) (a' := ?_) (zb 20 37) rfl rfl (any_of HT_.out (by kernel_rfl)) (fun _ _ _ h => h) (Or.inl ⟨by rfl, ?_⟩) ?_ ?_
             rotate_left
             ·intro w'
              go_simp
              with_reducible rfl
             rotate_left
             ·simp only [Act.put, List.setIfInBounds_toArray, List.set_cons_zero, List.set_cons_succ, i64_w, i32_w]
              rfl
             refine take_ (i := 1) (N := some 44) (v := ?_) (a' := ?_) (zb 20 39) rfl rfl (take_ofW HT_.out HW_.out (by kernel_rfl)) (fun _ _ _ h => h) (Or.inl ⟨by rfl, ?_⟩) hHeld ?_ ?_
             rotate_left
             ·rintro w' ⟨s0, s1, s2, s3, s4, s5, s6, s7, s8⟩
              go_simp
              with_reducible rfl
             rotate_left
             ·simp only [Act.put, List.setIfInBounds_toArray, List.set_cons_zero, List.set_cons_succ, i64_w, i32_w]
              rfl
             refine pure_ (i := 3) (N := some 46) (v := ?_) (a' := ?_) (zb 20 47) rfl rfl (any_of HT_.out (by kernel_rfl)) (fun _ _ _ h => h) (Or.inl ⟨by rfl, ?_⟩) ?_ ?_
             rotate_left
             ·intro w'
              go_simp
              with_reducible rfl
             rotate_left
             ·simp only [Act.put, List.setIfInBounds_toArray, List.set_cons_zero, List.set_cons_succ, i64_w, i32_w]
              rfl
             refine take_ (i := 4) (N := some 47) (v := ?_) (a' := ?_) (zb 20 63) rfl rfl (take_ofW HT_.out HW_.out (by kernel_rfl)) (fun _ _ _ h => h) (Or.inl ⟨by rfl, ?_⟩) hHeld ?_ ?_
             rotate_left
             ·rintro w' ⟨s0, s1, s2, s3, s4, s5, s6, s7, s8⟩
              go_simp
              with_reducible rfl
             rotate_left
             ·simp only [Act.put, List.setIfInBounds_toArray, List.set_cons_zero, List.set_cons_succ, i64_w, i32_w]
              rfl
             refine take_ (i := 6) (N := some 49) (v := ?_) (a' := ?_) (zb 20 127) rfl rfl (take_ofW HT_.out HW_.out (by kernel_rfl)) (fun _ _ _ h => h) (Or.inl ⟨by rfl, ?_⟩) hHeld ?_ ?_
             rotate_left
             ·rintro w' ⟨s0, s1, s2, s3, s4, s5, s6, s7, s8⟩
              go_simp
              with_reducible rfl
             rotate_left
             ·simp only [Act.put, List.setIfInBounds_toArray, List.set_cons_zero, List.set_cons_succ, i64_w, i32_w]
              rfl
             refine one_ (i := 7) (N := some 50) (zb 20 255) rfl rfl (one_of HT_.out (by kernel_rfl)) (by decide) (fun K hK => ?_)
             refine goes_ Tryd.func34 (by kernel_rfl) rfl #[.slice A141_0 (rd_L3 l0_4 x38_2).length c141_0, .int .i64 a0_3] (by rfl) rfl rfl zE ?_
             with_reducible refine (bits_Right.calls k2 _ _ (rd_L3 l0_4 x38_2) a0_3 true _ ?side1 ?side2 ?side3 A20.out).mono ?_
             (case side1 => first | exact HT.out | exact TabW.below HT.out (zG))
             (case side2 => exact zC (Kd.C_below HR141_0.out HB.out))
             (case side3 => exact HC141_0.out)
             rintro e w25 ⟨rfl, hb⟩
             refine ⟨_, rfl, ?_⟩
             have n0_ := Aside0.mk (blk_below (g := gb138) (o := .cells #[.slice (some ad140) l0_0.length c0_0, .bool a0_1, .bool a0_2, .int .i64 a0_3, .slice (some ad141) l0_4.length c0_4, .slice (some ad143) l0_5.length c0_5, .slice A0_6 l0_6.length c0_6] 32 (0, 0)) (zK BK138.out) hb)
             have n1_ := Aside0.mk (below_step (zG) hb)
             clear BK138
             clear HB
             have BK138 := n0_
             have HB := n1_
             clear n0_ n1_
             (try clear hb)
             (try clear hb2)
             (try clear hk)
             (try clear hi)
             refine hK.out _ _ ⟨(blk_cell BK138.out 0).trans rfl, (blk_cell BK138.out 1).trans rfl, (blk_cell BK138.out 2).trans rfl, (blk_cell BK138.out 3).trans rfl, (blk_cell BK138.out 4).trans rfl, (blk_cell BK138.out 5).trans rfl, (blk_cell BK138.out 6).trans rfl, ((HB.out.cell (World.block_lt_of_cell? w _ hw141_0)).trans hw141_0), ((HB.out.cell (World.block_lt_of_cell? w _ hw143_0)).trans hw143_0)⟩ (fun hHeld => ?_)
             clear hK K
             refine nN (some 50) (h := ?_)
             refine pure_ (i := 8) (N := some 51) (v := ?_) (a' := ?_) (zb 20 511) rfl rfl (any_of HT_.out (by kernel_rfl)) (fun _ _ _ h => h) (Or.inl ⟨by rfl, ?_⟩) ?_ ?_
             rotate_left
             ·intro w'
              go_simp
              with_reducible rfl
             rotate_left
             ·simp only [Act.put, List.setIfInBounds_toArray, List.set_cons_zero, List.set_cons_succ, i64_w, i32_w]
              rfl
             refine pure_ (i := 9) (N := some 52) (v := ?_) (a' := ?_) (zb 20 1023) rfl rfl (any_of HT_.out (by kernel_rfl)) (fun _ _ _ h => h) (Or.inl ⟨by rfl, ?_⟩) ?_ ?_
             rotate_left
             ·intro w'
              go_simp
              with_reducible rfl
             rotate_left
             ·simp only [Act.put, List.setIfInBounds_toArray, List.set_cons_zero, List.set_cons_succ, i64_w, i32_w]
              rfl
             refine pure_ (i := 10) (N := some 53) (v := ?_) (a' := ?_) (zb 20 2047) rfl rfl (any_of HT_.out (by kernel_rfl)) (fun _ _ _ h => h) (Or.inl ⟨by rfl, ?_⟩) ?_ ?_
             rotate_left
             ·intro w'
              go_simp
              with_reducible rfl
             rotate_left
             ·simp only [Act.put, List.setIfInBounds_toArray, List.set_cons_zero, List.set_cons_succ, i64_w, i32_w]
              rfl
             refine pure_ (i := 12) (N := some 55) (v := ?_) (a' := ?_) (zb 20 6143) rfl rfl (any_of HT_.out (by kernel_rfl)) (fun _ _ _ h => h) (Or.inl ⟨by rfl, ?_⟩) ?_ ?_
             rotate_left
             ·intro w'
              go_simp
              with_reducible rfl
             rotate_left
             ·simp only [Act.put, List.setIfInBounds_toArray, List.set_cons_zero, List.set_cons_succ, i64_w, i32_w]
              rfl
             refine pure_ (i := 15) (N := some 58) (v := ?_) (a' := ?_) (zb 20 38911) rfl rfl (any_of HT_.out (by kernel_rfl)) (fun _ _ _ h => h) (Or.inl ⟨by rfl, ?_⟩) ?_ ?_
             rotate_left
             ·intro w'
              go_simp
              with_reducible rfl
             rotate_left
             ·simp only [Act.put, List.setIfInBounds_toArray, List.set_cons_zero, List.set_cons_succ, i64_w, i32_w]
              rfl
             refine take_ (i := 11) (N := some 54) (v := ?_) (a' := ?_) (zb 20 40959) rfl rfl (take_ofW HT_.out HW_.out (by kernel_rfl)) (fun _ _ _ h => h) (Or.inl ⟨by rfl, ?_⟩) hHeld ?_ ?_
             rotate_left
             ·rintro w' ⟨s0, s1, s2, s3, s4, s5, s6, s7, s8⟩
              go_simp
              with_reducible rfl
             rotate_left
             ·simp only [Act.put, List.setIfInBounds_toArray, List.set_cons_zero, List.set_cons_succ, i64_w, i32_w]
              rfl
             refine pure_ (i := 13) (N := some 56) (v := ?_) (a' := ?_) (zb 20 49151) rfl rfl (any_of HT_.out (by kernel_rfl)) (fun _ _ _ h => h) (Or.inl ⟨by rfl, ?_⟩) ?_ ?_
             rotate_left
             ·intro w'
              go_simp
              with_reducible rfl
             rotate_left
             ·simp only [Act.put, List.setIfInBounds_toArray, List.set_cons_zero, List.set_cons_succ, i64_w, i32_w]
              rfl
             refine take_ (i := 14) (N := some 57) (v := ?_) (a' := ?_) (zb 20 65535) rfl rfl (take_ofW HT_.out HW_.out (by kernel_rfl)) (fun _ _ _ h => h) (Or.inl ⟨by rfl, ?_⟩) hHeld ?_ ?_
             rotate_left
             ·rintro w' ⟨s0, s1, s2, s3, s4, s5, s6, s7, s8⟩
              go_simp
              with_reducible rfl
             rotate_left
             ·simp only [Act.put, List.setIfInBounds_toArray, List.set_cons_zero, List.set_cons_succ, i64_w, i32_w]
              rfl
             refine take_ (i := 16) (N := some 59) (v := ?_) (a' := ?_) (zb 20 131071) rfl rfl (take_ofW HT_.out HW_.out (by kernel_rfl)) (fun _ _ _ h => h) (Or.inl ⟨by rfl, ?_⟩) hHeld ?_ ?_
             rotate_left
             ·rintro w' ⟨s0, s1, s2, s3, s4, s5, s6, s7, s8⟩
              go_simp
              with_reducible rfl
             rotate_left
             ·simp only [Act.put, List.setIfInBounds_toArray, List.set_cons_zero, List.set_cons_succ, i64_w, i32_w]
              rfl
             refine one_ (i := 17) (N := some 60) (zb 20 262143) rfl rfl (one_of HT_.out (by kernel_rfl)) (by decide) (fun K hK => ?_)
             refine goes_ Tryd.func34 (by kernel_rfl) rfl #[.slice A143_0 (rd_L3 l0_5 x38_2).length c143_0, .int .i64 a0_3] (by rfl) rfl rfl zE ?_
             with_reducible refine (bits_Right.calls k2 _ _ (rd_L3 l0_5 x38_2) a0_3 t144 _ ?side1 ?side2 ?side3 A23.out).mono ?_
             (case side1 => first | exact HT.out | exact TabW.below HT.out (zG))
             (case side2 => exact zC (Kd.C_below HR143_0.out HB.out))
             (case side3 => exact HC143_0.out)
             rintro e w26 ⟨rfl, hb⟩
             refine ⟨_, rfl, ?_⟩
             have n0_ := Aside0.mk (blk_below (g := gb138) (o := .cells #[.slice (some ad140) l0_0.length c0_0, .bool a0_1, .bool a0_2, .int .i64 a0_3, .slice (some ad141) l0_4.length c0_4, .slice (some ad143) l0_5.length c0_5, .slice A0_6 l0_6.length c0_6] 32 (0, 0)) (zK BK138.out) hb)
             have n1_ := Aside0.mk (below_step (zG) hb)
             clear BK138
             clear HB
             have BK138 := n0_
             have HB := n1_
             clear n0_ n1_
             (try clear hb)
             (try clear hb2)
             (try clear hk)
             (try clear hi)
             refine hK.out _ _ ⟨(blk_cell BK138.out 0).trans rfl, (blk_cell BK138.out 1).trans rfl, (blk_cell BK138.out 2).trans rfl, (blk_cell BK138.out 3).trans rfl, (blk_cell BK138.out 4).trans rfl, (blk_cell BK138.out 5).trans rfl, (blk_cell BK138.out 6).trans rfl, ((HB.out.cell (World.block_lt_of_cell? w _ hw141_0)).trans hw141_0), ((HB.out.cell (World.block_lt_of_cell? w _ hw143_0)).trans hw143_0)⟩ (fun hHeld => ?_)
             clear hK K
             refine nN (some 60) (h := ?_)
             refine pure_ (i := 18) (N := some 61) (v := ?_) (a' := ?_) (zb 20 524287) rfl rfl (any_of HT_.out (by kernel_rfl)) (fun _ _ _ h => h) (Or.inl ⟨by rfl, ?_⟩) ?_ ?_
             rotate_left
             ·intro w'
              go_simp
              with_reducible rfl
             rotate_left
             ·simp only [Act.put, List.setIfInBounds_toArray, List.set_cons_zero, List.set_cons_succ, i64_w, i32_w]
              rfl
             refine pure_ (i := 19) (N := some 62) (v := ?_) (a' := ?_) (zb 20 1048575) rfl rfl (any_of HT_.out (by kernel_rfl)) (fun _ _ _ h => h) (Or.inl ⟨by rfl, ?_⟩) ?_ ?_
             rotate_left
             ·intro w'
              go_simp
              with_reducible rfl
             rotate_left
             ·simp only [Act.put, List.setIfInBounds_toArray, List.set_cons_zero, List.set_cons_succ, i64_w, i32_w]
              rfl
             refine done_ (done_of HT_.out (by kernel_rfl)) ?_
             try go_wp2
             go_meet
             case rel => exact ⟨_, (!t144), zQ, H', ⟨by have := HJ1.out; have := HK2.out; first | omega | exact Nat.le_refl _⟩, ⟨zK BK138.out⟩, ⟨zG⟩⟩
            ·rw [if_neg c22] at H
             exact absurd H (by simp)
           ·replace c21 := Bool.eq_false_iff.mpr c21
            subst c21
            have H1 : (flow_Right.j2 k2 (l0_0.length : Int) (rd_L1 l0_0 x38_2) l0_0 (l0_0.length : Int) x38_2 true l0_0 a0_1 a0_2 a0_3 l0_4 l0_5 l0_6) = some r := by rw [if_neg (show ¬ (false = true) by decide)] at H; exact H
            clear H
            have H := H1
            clear H1
            have H' := Aside0.mk H
            clear H
            try go_wp2
            have n0_ := Aside0.mk (blk_drew BK138.out)
            have n1_ := Aside0.mk (below_drew1 HB.out)
            clear BK138
            clear HB
            have BK138 := n0_
            have HB := n1_
            clear n0_ n1_
            have p141 : 0 ≤ (x38_2 : Int) := zO
            have q141 : x38_2 < (l0_4.length : Int) := zO
            obtain ⟨ad141, A141_0, c141_0, e141, hx141_0, hl141_0, hi141_0⟩ := at_L3 HR0_4.out x38_2 p141 q141
            have hw141_0 := hx141_0
            cases e141
            replace hx141_0 := pw_cell_below HB.out hx141_0
            have HR141_0 := Aside0.mk hi141_0
            have HC141_0 := Aside0.mk hl141_0
            clear hi141_0 hl141_0
            replace p141 := eq_true p141
            replace q141 := eq_true q141
            refine start_ (n := 20) (S := fun w' => w'.cell? ⟨gb138, 0, none⟩ = some (.slice (some ad140) l0_0.length c0_0) ∧ w'.cell? ⟨gb138, 1, none⟩ = some (.bool a0_1) ∧ w'.cell? ⟨gb138, 2, none⟩ = some (.bool a0_2) ∧ w'.cell? ⟨gb138, 3, none⟩ = some (.int .i64 a0_3) ∧ w'.cell? ⟨gb138, 4, none⟩ = some (.slice (some ad141) l0_4.length c0_4) ∧ w'.cell? ⟨gb138, 5, none⟩ = some (.slice A0_5 l0_5.length c0_5) ∧ w'.cell? ⟨gb138, 6, none⟩ = some (.slice A0_6 l0_6.length c0_6) ∧ w'.cell? (ad141.add (x38_2).toNat) = some (.slice A141_0 (rd_L3 l0_4 x38_2).length c141_0)) (ds := []) #[false, false, false, false, false, false, false, false, false, false, false, false, false, false, false, false, false, false, false, false] (by kernel_rfl) rfl rfl ⟨(blk_cell BK138.out 0).trans rfl, (blk_cell BK138.out 1).trans rfl, (blk_cell BK138.out 2).trans rfl, (blk_cell BK138.out 3).trans rfl, (blk_cell BK138.out 4).trans rfl, (blk_cell BK138.out 5).trans rfl, (blk_cell BK138.out 6).trans rfl, ((HB.out.cell (World.block_lt_of_cell? w _ hw141_0)).trans hw141_0)⟩ (fun hHeld => ?_); refine with_tabW flow_Right.tab7 flow_Right.bits7 (fun HT_ HW_ => ?_)
            generalize wr.drew = w27 at BK138 HB HR141_0 hx141_0 hHeld ⊢
            refine pure_ (i := 0) (N := some 43) (v := ?_) (a' := ?_) (zb 20 1) rfl rfl (any_of HT_.out (by kernel_rfl)) (fun _ _ _ h => h) (Or.inl ⟨by rfl, ?_⟩) ?_ ?_
            rotate_left
            ·intro w'
             go_simp
             with_reducible rfl
            rotate_left
            ·simp only [Act.put, List.setIfInBounds_toArray, List.set_cons_zero, List.set_cons_succ, i64_w, i32_w]
             rfl
            refine pure_ (i := 2) (N := some 45) (v := ?_) (a' := ?_) (zb 20 5) rfl rfl (any_of HT_.out (by kernel_rfl)) (fun _ _ _ h => h) (Or.inl ⟨by rfl, ?_⟩) ?_ ?_
            rotate_left
            ·intro w'
             go_simp
             with_reducible rfl
            rotate_left
            ·simp only [Act.put, List.setIfInBounds_toArray, List.set_cons_zero, List.set_cons_succ, i64_w, i32_w]
             rfl
            refine pure_ (i := 5) (N := some 48) (v := ?_) (a' := ?_) (zb 20 37) rfl rfl (any_of HT_.out (by kernel_rfl)) (fun _ _ _ h => h) (Or.inl ⟨by rfl, ?_⟩) ?_ ?_
            rotate_left
            ·intro w'
             go_simp
             with_reducible rfl
            rotate_left
            ·simp only [Act.put, List.setIfInBounds_toArray, List.set_cons_zero, List.set_cons_succ, i64_w, i32_w]
             rfl
            refine take_ (i := 1) (N := some 44) (v := ?_) (a' := ?_) (zb 20 39) rfl rfl (take_ofW HT_.out HW_.out (by kernel_rfl)) (fun _ _ _ h => h) (Or.inl ⟨by rfl, ?_⟩) hHeld ?_ ?_
            rotate_left
            ·rintro w' ⟨s0, s1, s2, s3, s4, s5, s6, s7⟩
             go_simp
             with_reducible rfl
            rotate_left
            ·simp only [Act.put, List.setIfInBounds_toArray, List.set_cons_zero, List.set_cons_succ, i64_w, i32_w]
             rfl
            refine pure_ (i := 3) (N := some 46) (v := ?_) (a' := ?_) (zb 20 47) rfl rfl (any_of HT_.out (by kernel_rfl)) (fun _ _ _ h => h) (Or.inl ⟨by rfl, ?_⟩) ?_ ?_
            rotate_left
            ·intro w'
             go_simp
             with_reducible rfl
            rotate_left
            ·simp only [Act.put, List.setIfInBounds_toArray, List.set_cons_zero, List.set_cons_succ, i64_w, i32_w]
             rfl
            refine take_ (i := 4) (N := some 47) (v := ?_) (a' := ?_) (zb 20 63) rfl rfl (take_ofW HT_.out HW_.out (by kernel_rfl)) (fun _ _ _ h => h) (Or.inl ⟨by rfl, ?_⟩) hHeld ?_ ?_
            rotate_left
            ·rintro w' ⟨s0, s1, s2, s3, s4, s5, s6, s7⟩
             go_simp
             with_reducible rfl
            rotate_left
            ·simp only [Act.put, List.setIfInBounds_toArray, List.set_cons_zero, List.set_cons_succ, i64_w, i32_w]
             rfl
            refine take_ (i := 6) (N := some 49) (v := ?_) (a' := ?_) (zb 20 127) rfl rfl (take_ofW HT_.out HW_.out (by kernel_rfl)) (fun _ _ _ h => h) (Or.inl ⟨by rfl, ?_⟩) hHeld ?_ ?_
            rotate_left
            ·rintro w' ⟨s0, s1, s2, s3, s4, s5, s6, s7⟩
             go_simp
             with_reducible rfl
            rotate_left
            ·simp only [Act.put, List.setIfInBounds_toArray, List.set_cons_zero, List.set_cons_succ, i64_w, i32_w]
             rfl
            refine one_ (i := 7) (N := some 50) (zb 20 255) rfl rfl (one_of HT_.out (by kernel_rfl)) (by decide) (fun K hK => ?_)
            refine goes_ Tryd.func34 (by kernel_rfl) rfl #[.slice A141_0 (rd_L3 l0_4 x38_2).length c141_0, .int .i64 a0_3] (by rfl) rfl rfl zE ?_
            with_reducible refine (bits_Right.calls k2 _ _ (rd_L3 l0_4 x38_2) a0_3 false _ ?side1 ?side2 ?side3 A20.out).mono ?_
            (case side1 => first | exact HT.out | exact TabW.below HT.out (zG))
            (case side2 => exact zC (Kd.C_below HR141_0.out HB.out))
            (case side3 => exact HC141_0.out)
            rintro e w28 ⟨rfl, hb⟩
            refine ⟨_, rfl, ?_⟩
            have n0_ := Aside0.mk (blk_below (g := gb138) (o := .cells #[.slice (some ad140) l0_0.length c0_0, .bool a0_1, .bool a0_2, .int .i64 a0_3, .slice (some ad141) l0_4.length c0_4, .slice A0_5 l0_5.length c0_5, .slice A0_6 l0_6.length c0_6] 32 (0, 0)) (zK BK138.out) hb)
            have n1_ := Aside0.mk (below_step (zG) hb)
            clear BK138
            clear HB
            have BK138 := n0_
            have HB := n1_
            clear n0_ n1_
            (try clear hb)
            (try clear hb2)
            (try clear hk)
            (try clear hi)
            refine hK.out _ _ ⟨(blk_cell BK138.out 0).trans rfl, (blk_cell BK138.out 1).trans rfl, (blk_cell BK138.out 2).trans rfl, (blk_cell BK138.out 3).trans rfl, (blk_cell BK138.out 4).trans rfl, (blk_cell BK138.out 5).trans rfl, (blk_cell BK138.out 6).trans rfl, ((HB.out.cell (World.block_lt_of_cell? w _ hw141_0)).trans hw141_0)⟩ (fun hHeld => ?_)
            clear hK K
            refine nN (some 50) (h := ?_)
            refine pure_ (i := 8) (N := some 51) (v := ?_) (a' := ?_) (zb 20 511) rfl rfl (any_of HT_.out (by kernel_rfl)) (fun _ _ _ h => h) (Or.inl ⟨by rfl, ?_⟩) ?_ ?_
            rotate_left
            ·intro w'
             go_simp
             with_reducible rfl
            rotate_left
            ·simp only [Act.put, List.setIfInBounds_toArray, List.set_cons_zero, List.set_cons_succ, i64_w, i32_w]
             rfl
            refine pure_ (i := 9) (N := some 52) (v := ?_) (a' := ?_) (zb 20 1023) rfl rfl (any_of HT_.out (by kernel_rfl)) (fun _ _ _ h => h) (Or.inl ⟨by rfl, ?_⟩) ?_ ?_
            rotate_left
            ·intro w'
             go_simp
             with_reducible rfl
            rotate_left
            ·simp only [Act.put, List.setIfInBounds_toArray, List.set_cons_zero, List.set_cons_succ, i64_w, i32_w]
             rfl
            refine pure_ (i := 10) (N := some 53) (v := undef) (a' := ?_) (zb 20 2047) rfl rfl (any_of HT_.out (by kernel_rfl)) (fun _ _ _ h => h) (Or.inr ⟨by rfl, rfl⟩) ?_ ?_
            rotate_left
            ·simp only [Act.put, List.setIfInBounds_toArray, List.set_cons_zero, List.set_cons_succ, i64_w, i32_w]
             rfl
            refine pure_ (i := 11) (N := some 54) (v := undef) (a' := ?_) (zb 20 4095) rfl rfl (any_of HT_.out (by kernel_rfl)) (fun _ _ _ h => h) (Or.inr ⟨by rfl, rfl⟩) ?_ ?_
            rotate_left
            ·simp only [Act.put, List.setIfInBounds_toArray, List.set_cons_zero, List.set_cons_succ, i64_w, i32_w]
             rfl
            refine pure_ (i := 12) (N := some 55) (v := undef) (a' := ?_) (zb 20 8191) rfl rfl (any_of HT_.out (by kernel_rfl)) (fun _ _ _ h => h) (Or.inr ⟨by rfl, rfl⟩) ?_ ?_
            rotate_left
            ·simp only [Act.put, List.setIfInBounds_toArray, List.set_cons_zero, List.set_cons_succ, i64_w, i32_w]
             rfl
            refine pure_ (i := 13) (N := some 56) (v := undef) (a' := ?_) (zb 20 16383) rfl rfl (any_of HT_.out (by kernel_rfl)) (fun _ _ _ h => h) (Or.inr ⟨by rfl, rfl⟩) ?_ ?_
            rotate_left
            ·simp only [Act.put, List.setIfInBounds_toArray, List.set_cons_zero, List.set_cons_succ, i64_w, i32_w]
             rfl
            refine pure_ (i := 14) (N := some 57) (v := undef) (a' := ?_) (zb 20 32767) rfl rfl (any_of HT_.out (by kernel_rfl)) (fun _ _ _ h => h) (Or.inr ⟨by rfl, rfl⟩) ?_ ?_
            rotate_left
            ·simp only [Act.put, List.setIfInBounds_toArray, List.set_cons_zero, List.set_cons_succ, i64_w, i32_w]
             rfl
            refine pure_ (i := 15) (N := some 58) (v := undef) (a' := ?_) (zb 20 65535) rfl rfl (any_of HT_.out (by kernel_rfl)) (fun _ _ _ h => h) (Or.inr ⟨by rfl, rfl⟩) ?_ ?_
            rotate_left
            ·simp only [Act.put, List.setIfInBounds_toArray, List.set_cons_zero, List.set_cons_succ, i64_w, i32_w]
             rfl
            refine pure_ (i := 16) (N := some 59) (v := undef) (a' := ?_) (zb 20 131071) rfl rfl (any_of HT_.out (by kernel_rfl)) (fun _ _ _ h => h) (Or.inr ⟨by rfl, rfl⟩) ?_ ?_
            rotate_left
            ·simp only [Act.put, List.setIfInBounds_toArray, List.set_cons_zero, List.set_cons_succ, i64_w, i32_w]
             rfl
            refine pure_ (i := 17) (N := some 60) (v := undef) (a' := ?_) (zb 20 262143) rfl rfl (any_of HT_.out (by kernel_rfl)) (fun _ _ _ h => h) (Or.inr ⟨by rfl, rfl⟩) ?_ ?_
            rotate_left
            ·simp only [Act.put, List.setIfInBounds_toArray, List.set_cons_zero, List.set_cons_succ, i64_w, i32_w]
             rfl
            refine pure_ (i := 18) (N := some 61) (v := undef) (a' := ?_) (zb 20 524287) rfl rfl (any_of HT_.out (by kernel_rfl)) (fun _ _ _ h => h) (Or.inr ⟨by rfl, rfl⟩) ?_ ?_
            rotate_left
            ·simp only [Act.put, List.setIfInBounds_toArray, List.set_cons_zero, List.set_cons_succ, i64_w, i32_w]
             rfl
            refine pure_ (i := 19) (N := some 62) (v := ?_) (a' := ?_) (zb 20 1048575) rfl rfl (any_of HT_.out (by kernel_rfl)) (fun _ _ _ h => h) (Or.inl ⟨by rfl, ?_⟩) ?_ ?_
            rotate_left
            ·intro w'
             go_simp
             with_reducible rfl
            rotate_left
            ·simp only [Act.put, List.setIfInBounds_toArray, List.set_cons_zero, List.set_cons_succ, i64_w, i32_w]
             rfl
            refine done_ (done_of HT_.out (by kernel_rfl)) ?_
            try go_wp2
            go_meet
            case rel => exact ⟨_, (true), zQ, H', ⟨by have := HJ1.out; have := HK2.out; first | omega | exact Nat.le_refl _⟩, ⟨zK BK138.out⟩, ⟨zG⟩⟩
          ·rw [if_neg c19] at H
           exact absurd H (by simp)
         case rest =>
          clear HC18
          (try clear c1); (try clear p1); (try clear q1); (try clear hx1); (try clear c2); (try clear p2); (try clear c3); (try clear c5); (try clear c5b0); (try clear c5b1); (try clear c6); (try clear c6b0); (try clear c6b1); (try clear c6b2); (try clear c7); (try clear c7b0); (try clear c7b1); (try clear c7b2); (try clear c11); (try clear c13); (try clear c14); (try clear p14); (try clear q14); (try clear hx14)
          (try clear c15); (try clear c15b0); (try clear c16); (try clear c16b0); (try clear c17); (try clear c17b0); (try clear c19); (try clear c19b0); (try clear c21); (try clear c22); (try clear c22b0); (try clear hcz11_0 hcz11_1 hcz11_2 hcz11_3 hcz11_4 hcz11_5 hcz11_6); (try clear hcz12_0 hcz12_1 hcz12_2)
          (try clear hcz12_3 hcz12_4 hcz12_5 hcz12_6); (try clear hcz14_0 hcz14_1 hcz14_2 hcz14_3 hcz14_4 hcz14_5 hcz14_6); (try clear hcz4_0 hcz4_1 hcz4_2 hcz4_3 hcz4_4 hcz4_5 hcz4_6); (try clear hcz9_0 hcz9_1)
          (try clear hcz9_2 hcz9_3 hcz9_4 hcz9_5 hcz9_6); (try clear hfz11_0 hfz11_1 hfz11_2 hfz11_3 hfz11_4 hfz11_5 hfz11_6); (try clear hfz12_0 hfz12_1 hfz12_2 hfz12_3 hfz12_4 hfz12_5 hfz12_6)
          (try clear hfz14_0 hfz14_1 hfz14_2 hfz14_3 hfz14_4 hfz14_5 hfz14_6); (try clear hfz4_0 hfz4_1 hfz4_2 hfz4_3 hfz4_4 hfz4_5 hfz4_6); (try clear hfz9_0 hfz9_1 hfz9_2 hfz9_3 hfz9_4 hfz9_5)
          (try clear hfz9_6); (try clear hx140_0); (try clear hx141_0); (try clear hx143_0); (try clear p140); (try clear p141); (try clear p143); (try clear p2); (try clear q140); (try clear q141); (try clear q143)
          obtain ⟨kq, x62_17, rfl, HA, HJ17, BK138, HB⟩ := hcut
          cases kq with
          | zero => exact absurd HA.out (by simp [flow_Right.j2])
          | succ kj17 =>
           have H := HA.out
           clear HA
           simp only [flow_Right.j2] at H
           by_cases c29 : x62_17 = true
           ·subst c29
            have H1 : (some false) = some r := by rw [if_pos rfl] at H; exact H
            clear H
            have H := H1
            clear H1
            obtain rfl := Option.some.inj H
            go_wp2
            go_ret
            exact ⟨zV, zG⟩
           ·replace c29 := Bool.eq_false_iff.mpr c29
            subst c29
            have H1 : (flow_Right.l1 kj17 (l0_0.length : Int) l0_0 (l0_0.length : Int) x38_2 (rd_L1 l0_0 x38_2) ((rd_L1 l0_0 x38_2).length : Int) 0 l0_0 a0_1 a0_2 a0_3 l0_4 l0_5 l0_6) = some r := by rw [if_neg (show ¬ (false = true) by decide)] at H; exact H
            clear H
            have H := H1
            clear H1
            have H' := Aside0.mk H
            clear H
            go_wp2
            go_loopg [65] kj17 (fun kq v65 w' => ∃ (x65_4 : Int), v65 = .int .i64 x65_4 ∧ Aside0 (flow_Right.l1 kq (l0_0.length : Int) l0_0 (l0_0.length : Int) x38_2 (rd_L1 l0_0 x38_2) ((rd_L1 l0_0 x38_2).length : Int) x65_4 l0_0 a0_1 a0_2 a0_3 l0_4 l0_5 l0_6 = some r) ∧ Aside0 (kq ≤ kj17) ∧ Aside0 (w'.heap[gb138]? = some (.cells #[(.slice (some ad140) l0_0.length c0_0), .bool a0_1, .bool a0_2, .int .i64 a0_3, (.slice A0_4 l0_4.length c0_4), (.slice A0_5 l0_5.length c0_5), (.slice A0_6 l0_6.length c0_6)] 32 (0, 0))) ∧ Aside0 (Below w.heap.size w w'))
            case atStart => exact ⟨(0), zQ, H', ⟨Nat.le_refl _⟩, ⟨zK BK138.out⟩, ⟨zG⟩⟩
            case round =>
             clear H'
             (try clear c1); (try clear p1); (try clear q1); (try clear hx1); (try clear c2); (try clear p2); (try clear c3); (try clear c5); (try clear c5b0); (try clear c5b1); (try clear c6); (try clear c6b0); (try clear c6b1); (try clear c6b2); (try clear c7); (try clear c7b0); (try clear c7b1); (try clear c7b2); (try clear c11); (try clear c13); (try clear c14); (try clear p14); (try clear q14)
             (try clear hx14); (try clear c15); (try clear c15b0); (try clear c16); (try clear c16b0); (try clear c17); (try clear c17b0); (try clear c19); (try clear c19b0); (try clear c21); (try clear c22); (try clear c22b0); (try clear c29); (try clear hcz11_0 hcz11_1 hcz11_2 hcz11_3 hcz11_4 hcz11_5 hcz11_6); (try clear hcz12_0)
             (try clear hcz12_1 hcz12_2 hcz12_3 hcz12_4 hcz12_5 hcz12_6); (try clear hcz14_0 hcz14_1 hcz14_2 hcz14_3 hcz14_4 hcz14_5 hcz14_6); (try clear hcz4_0 hcz4_1 hcz4_2 hcz4_3 hcz4_4 hcz4_5)
             (try clear hcz4_6); (try clear hcz9_0 hcz9_1 hcz9_2 hcz9_3 hcz9_4 hcz9_5 hcz9_6); (try clear hfz11_0 hfz11_1 hfz11_2 hfz11_3 hfz11_4 hfz11_5 hfz11_6); (try clear hfz12_0 hfz12_1 hfz12_2 hfz12_3)
             (try clear hfz12_4 hfz12_5 hfz12_6); (try clear hfz14_0 hfz14_1 hfz14_2 hfz14_3 hfz14_4 hfz14_5 hfz14_6); (try clear hfz4_0 hfz4_1 hfz4_2 hfz4_3 hfz4_4 hfz4_5 hfz4_6); (try clear hfz9_0 hfz9_1)
             (try clear hfz9_2 hfz9_3 hfz9_4 hfz9_5 hfz9_6); (try clear hx140_0); (try clear hx141_0); (try clear hx143_0); (try clear p1); (try clear p14); (try clear p140); (try clear p141); (try clear p143); (try clear p2); (try clear q1); (try clear q14); (try clear q140); (try clear q141); (try clear q143)
             obtain ⟨x65_4, rfl, HA, HK4, BK138, HB⟩ := hrel
             cases gk with
             | zero => exact absurd HA.out (by simp [flow_Right.l1])
             | succ k4 =>
              have H := HA.out
              clear HA
              simp only [flow_Right.l1] at H
              by_cases c30 : x65_4 < ((rd_L1 l0_0 x38_2).length : Int)
              ·rw [if_pos c30] at H
               have c30b0 : decide (x65_4 < ((rd_L1 l0_0 x38_2).length : Int)) = true := decide_eq_true c30
               clear c30
               by_cases c31 : 0 ≤ x65_4
               ·rw [if_pos c31] at H
                have c31b0 : decide (0 ≤ x65_4) = true := decide_eq_true c31
                clear c31
                by_cases c32 : x65_4 < ((rd_L1 l0_0 x38_2).length : Int)
                ·rw [if_pos c32] at H
                 have c32b0 : decide (x65_4 < ((rd_L1 l0_0 x38_2).length : Int)) = true := decide_eq_true c32
                 clear c32
                 by_cases c33 : (rd (rd_L1 l0_0 x38_2) x65_4) < 0
                 ·rw [if_pos c33] at H
                  have c33b0 : decide ((rd (rd_L1 l0_0 x38_2) x65_4) < 0) = true := decide_eq_true c33
                  clear c33
                  obtain rfl := Option.some.inj H
                  have p145 : 0 ≤ (x65_4 : Int) := zO
                  have q145 : x65_4 < ((rd_L1 l0_0 x38_2).length : Int) := zO
                  obtain ⟨ad145, e145, hx145_0⟩ := Kd.at_int HR140_0.out x65_4 p145 q145
                  cases e145
                  replace hx145_0 := pw_cell_below HB.out hx145_0
                  replace p145 := eq_true p145
                  replace q145 := eq_true q145
                  go_wp2
                  go_ret
                  exact ⟨zV, zG⟩
                 ·rw [if_neg c33] at H
                  have c33b0 : decide ((rd (rd_L1 l0_0 x38_2) x65_4) < 0) = false := decide_eq_false c33
                  clear c33
                  by_cases c34 : (rd (rd_L1 l0_0 x38_2) x65_4) ≥ (l0_0.length : Int)
                  ·rw [if_pos c34] at H
                   have c34b0 : decide ((l0_0.length : Int) ≤ (rd (rd_L1 l0_0 x38_2) x65_4)) = true := decide_eq_true c34
                   clear c34
                   obtain rfl := Option.some.inj H
                   have p145 : 0 ≤ (x65_4 : Int) := zO
                   have q145 : x65_4 < ((rd_L1 l0_0 x38_2).length : Int) := zO
                   obtain ⟨ad145, e145, hx145_0⟩ := Kd.at_int HR140_0.out x65_4 p145 q145
                   cases e145
                   replace hx145_0 := pw_cell_below HB.out hx145_0
                   replace p145 := eq_true p145
                   replace q145 := eq_true q145
                   go_wp2
                   go_ret
                   exact ⟨zV, zG⟩
                  ·rw [if_neg c34] at H
                   have c34b0 : decide ((l0_0.length : Int) ≤ (rd (rd_L1 l0_0 x38_2) x65_4)) = false := decide_eq_false c34
                   clear c34
                   have H' := Aside0.mk H
                   clear H
                   have p145 : 0 ≤ (x65_4 : Int) := zO
                   have q145 : x65_4 < ((rd_L1 l0_0 x38_2).length : Int) := zO
                   obtain ⟨ad145, e145, hx145_0⟩ := Kd.at_int HR140_0.out x65_4 p145 q145
                   cases e145
                   replace hx145_0 := pw_cell_below HB.out hx145_0
                   replace p145 := eq_true p145
                   replace q145 := eq_true q145
                   go_wp2
                   go_roundg k4
                   case measure => have := HJ1.out; have := HK2.out; have := HJ17.out; have := HK4.out; omega
                   case rel => exact ⟨(wrap64 (x65_4 + 1)), zQ, H', ⟨by have := HJ1.out; have := HK2.out; have := HJ17.out; have := HK4.out; omega⟩, ⟨zK BK138.out⟩, ⟨zG⟩⟩
                ·rw [if_neg c32] at H
                 exact absurd H (by simp)
               ·rw [if_neg c31] at H
                exact absurd H (by simp)
              ·rw [if_neg c30] at H
               have c30b0 : decide (x65_4 < ((rd_L1 l0_0 x38_2).length : Int)) = false := decide_eq_false c30
               clear c30
               have H' := Aside0.mk H
               clear H
               go_wp2
               go_roundg k4
               case measure => have := HJ1.out; have := HK2.out; have := HJ17.out; have := HK4.out; omega
               case rel => exact ⟨(wrap64 (x38_2 + 1)), zQ, H', ⟨by have := HJ1.out; have := HK2.out; have := HJ17.out; have := HK4.out; omega⟩, ⟨zK BK138.out⟩, ⟨zG⟩⟩
        ·rw [if_neg c17] at H
         exact absurd H (by simp)
       ·rw [if_neg c16] at H
        exact absurd H (by simp)
      ·rw [if_neg c15] at H
       have c15b0 : decide (x38_2 < (l0_0.length : Int)) = false := decide_eq_false c15
       clear c15
       obtain rfl := Option.some.inj H
       go_wp2
       go_ret
       exact ⟨zV, zG⟩
end Go.Proofs.YtanpghbakbebiaaDoor.P

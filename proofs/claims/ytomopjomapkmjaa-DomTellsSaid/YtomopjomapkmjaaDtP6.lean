/- A part of it. -/
import Derived.Test.YtomopjomapkmjaaDtP0
import Derived.Test.YtomopjomapkmjaaDtP5
namespace Go.Proofs.Ytomopjomapkmjaa.P
open Go.RowKit Go.Proofs.YtomopjomapkmjaaW.PrintWords Go.Proofs.YtomopjomapkmjaaW.PrintLast Go.Proofs.YtomopjomapkmjaaW.PrintMore
attribute [local go_sem] max2_int min2_int max_two min_two max_three min_three max_four min_four   
set_option linter.unusedVariables false
set_option linter.unusedSimpArgs false
mutual
def dom_Tree.l0 : Nat → List Int → List (List Int) → List Int → List Int → Int → Int → Option (List Int)
 | 0, _, _, _, _, _, _ => none
 | k + 1, x3, x4, x5, x6, x30, x31 => if x31 < x30 then (if 0 ≤ x31 then (if x31 < (x5.length : Int) then (if x31 < (x6.length : Int) then (dom_Tree.l0 k x3 x4 (x5.set (x31 : Int).toNat (-1)) (x6.set (x31 : Int).toNat (-1)) x30 (wrap64 (x31 + 1))) else (none)) else (none)) else (none)) else (dom_Tree.l1 k x3 x4 x5 x6 x3 (x3.length : Int) 0)
def dom_Tree.l1 : Nat → List Int → List (List Int) → List Int → List Int → List Int → Int → Int → Option (List Int)
 | 0, _, _, _, _, _, _, _ => none
 | k + 1, x3, x4, x5, x6, x41, x42, x43 => if x43 < x42 then (if 0 ≤ x43 then (if x43 < (x41.length : Int) then (if 0 ≤ (rd x41 x43) then (if (rd x41 x43) < (x6.length : Int) then (dom_Tree.l1 k x3 x4 x5 (x6.set ((rd x41 x43) : Int).toNat x43) x41 x42 (wrap64 (x43 + 1))) else (none)) else (none)) else (none)) else (none)) else (if 0 ≤ (x5.length : Int) then (if ((x5.length : Int) : Int).toNat ≤ 281474976710656 then (dom_Tree.l2 k x3 x4 x5 x6 (List.replicate ((x5.length : Int) : Int).toNat false)) else (none)) else (none))
def dom_Tree.l2 : Nat → List Int → List (List Int) → List Int → List Int → List Bool → Option (List Int)
 | 0, _, _, _, _, _ => none
 | k + 1, x3, x4, x5, x6, x10 => if (x3.length : Int) > 0 then (if 0 < (x10.length : Int) then (if 1 ≤ (x3.length : Int) then ((some (x3.drop 1 : List Int)).bind fun y170 => (dom_Tree.l3 k x3 x4 x5 x6 (x10.set (0 : Int).toNat true) false y170 (y170.length : Int) 0)) else (none)) else (none)) else (some x5)
def dom_Tree.l3 : Nat → List Int → List (List Int) → List Int → List Int → List Bool → Bool → List Int → Int → Int → Option (List Int)
 | 0, _, _, _, _, _, _, _, _, _ => none
 | k + 1, x3, x4, x5, x6, x10, x11, x62, x63, x64 => if x64 < x63 then (if 0 ≤ x64 then (if x64 < (x62.length : Int) then (if 0 ≤ (rd x62 x64) then (if (rd x62 x64) < (x4.length : Int) then (dom_Tree.l4 k x3 x4 x5 x6 x10 x11 (rd x62 x64) (-1) x62 x63 x64 (rd_L2 x4 (rd x62 x64)) ((rd_L2 x4 (rd x62 x64)).length : Int) 0) else (none)) else (none)) else (none)) else (none)) else (if x11 = true then (dom_Tree.l2 k x3 x4 x5 x6 x10) else (some x5))
def dom_Tree.l4 : Nat → List Int → List (List Int) → List Int → List Int → List Bool → Bool → Int → Int → List Int → Int → Int → List Int → Int → Int → Option (List Int)
 | 0, _, _, _, _, _, _, _, _, _, _, _, _, _, _ => none
 | k + 1, x3, x4, x5, x6, x10, x11, x13, x14, x62, x63, x64, x71, x72, x73 => if x73 < x72 then (if 0 ≤ x73 then (if x73 < (x71.length : Int) then (if 0 ≤ (rd x71 x73) then (if (rd x71 x73) < (x6.length : Int) then (if (rd x6 (rd x71 x73)) < 0 then (dom_Tree.j5 k x3 x4 x5 x6 x10 x11 x13 x14 (rd x71 x73) x62 x63 x64 x71 x72 x73 true) else (if (rd x71 x73) < (x10.length : Int) then (dom_Tree.j5 k x3 x4 x5 x6 x10 x11 x13 x14 (rd x71 x73) x62 x63 x64 x71 x72 x73 (!(rdOf false x10 (rd x71 x73)))) else (none))) else (none)) else (none)) else (none)) else (none)) else (if x11 = true then (if 0 ≤ x13 then (if x13 < (x5.length : Int) then (if x13 < (x10.length : Int) then (dom_Tree.l3 k x3 x4 (x5.set (x13 : Int).toNat x14) x6 (x10.set (x13 : Int).toNat true) true x62 x63 (wrap64 (x64 + 1))) else (none)) else (none)) else (none)) else (if 0 ≤ x13 then (if x13 < (x5.length : Int) then (if x13 < (x10.length : Int) then (dom_Tree.l3 k x3 x4 (x5.set (x13 : Int).toNat x14) x6 (x10.set (x13 : Int).toNat true) (x14 != (rd x5 x13)) x62 x63 (wrap64 (x64 + 1))) else (none)) else (none)) else (none)))
def dom_Tree.j5 : Nat → List Int → List (List Int) → List Int → List Int → List Bool → Bool → Int → Int → Int → List Int → Int → Int → List Int → Int → Int → Bool → Option (List Int)
 | 0, _, _, _, _, _, _, _, _, _, _, _, _, _, _, _, _ => none
 | k + 1, x3, x4, x5, x6, x10, x11, x13, x14, x16, x62, x63, x64, x71, x72, x73, x82 => if x82 = true then (dom_Tree.l4 k x3 x4 x5 x6 x10 x11 x13 x14 x62 x63 x64 x71 x72 (wrap64 (x73 + 1))) else (if x14 < 0 then (dom_Tree.l4 k x3 x4 x5 x6 x10 x11 x13 x16 x62 x63 x64 x71 x72 (wrap64 (x73 + 1))) else ((dom_meet.f k x5 x6 x14 x16).bind fun t184 => (dom_Tree.l4 k x3 x4 x5 x6 x10 x11 x13 t184 x62 x63 x64 x71 x72 (wrap64 (x73 + 1)))))
end
def dom_Tree.f (k : Nat) (a0_0 : ByteArray) (a0_1 : Int) (a0_2 : Int) (l0_3 : List Int) (l0_4 : List (List (S29))) : Option (List Int) := (graph_Order.f k a0_0 a0_1 a0_2 l0_3 l0_4).bind fun t150 => ((graph_Preds.f k a0_0 a0_1 a0_2 l0_3 l0_4).bind fun t153 => (if 0 ≤ (l0_4.length : Int) then (if ((l0_4.length : Int) : Int).toNat ≤ 35184372088832 then ((some (List.replicate ((l0_4.length : Int) : Int).toNat 0 : List Int)).bind fun y156 => (dom_Tree.l0 k t150 t153 y156 (List.replicate ((l0_4.length : Int) : Int).toNat 0) (y156.length : Int) 0)) else (none)) else (none)))
theorem dom_Tree.mono_l : ∀ k, (∀ y0 y1 y2 y3 y4 y5, LeO (dom_Tree.l0 k y0 y1 y2 y3 y4 y5) (dom_Tree.l0 (k + 1) y0 y1 y2 y3 y4 y5)) ∧ (∀ y0 y1 y2 y3 y4 y5 y6, LeO (dom_Tree.l1 k y0 y1 y2 y3 y4 y5 y6) (dom_Tree.l1 (k + 1) y0 y1 y2 y3 y4 y5 y6)) ∧ (∀ y0 y1 y2 y3 y4, LeO (dom_Tree.l2 k y0 y1 y2 y3 y4) (dom_Tree.l2 (k + 1) y0 y1 y2 y3 y4)) ∧ (∀ y0 y1 y2 y3 y4 y5 y6 y7 y8, LeO (dom_Tree.l3 k y0 y1 y2 y3 y4 y5 y6 y7 y8) (dom_Tree.l3 (k + 1) y0 y1 y2 y3 y4 y5 y6 y7 y8)) ∧ (∀ y0 y1 y2 y3 y4 y5 y6 y7 y8 y9 y10 y11 y12 y13, LeO (dom_Tree.l4 k y0 y1 y2 y3 y4 y5 y6 y7 y8 y9 y10 y11 y12 y13) (dom_Tree.l4 (k + 1) y0 y1 y2 y3 y4 y5 y6 y7 y8 y9 y10 y11 y12 y13)) ∧ (∀ y0 y1 y2 y3 y4 y5 y6 y7 y8 y9 y10 y11 y12 y13 y14 y15, LeO (dom_Tree.j5 k y0 y1 y2 y3 y4 y5 y6 y7 y8 y9 y10 y11 y12 y13 y14 y15) (dom_Tree.j5 (k + 1) y0 y1 y2 y3 y4 y5 y6 y7 y8 y9 y10 y11 y12 y13 y14 y15))
 | 0 => ⟨fun _ _ _ _ _ _ r h => by simp [dom_Tree.l0] at h, fun _ _ _ _ _ _ _ r h => by simp [dom_Tree.l1] at h, fun _ _ _ _ _ r h => by simp [dom_Tree.l2] at h, fun _ _ _ _ _ _ _ _ _ r h => by simp [dom_Tree.l3] at h, fun _ _ _ _ _ _ _ _ _ _ _ _ _ _ r h => by simp [dom_Tree.l4] at h, fun _ _ _ _ _ _ _ _ _ _ _ _ _ _ _ _ r h => by simp [dom_Tree.j5] at h⟩
 | k + 1 => by
  obtain ⟨ih0, ih1, ih2, ih3, ih4, ih5⟩ := dom_Tree.mono_l k
  refine ⟨?_, ?_, ?_, ?_, ?_, ?_⟩
  ·intro y0 y1 y2 y3 y4 y5
   unfold dom_Tree.l0
   repeat' first
   | (with_reducible exact ih0 _ _ _ _ _ _)
   | (with_reducible exact ih1 _ _ _ _ _ _ _)
   | (with_reducible exact ih2 _ _ _ _ _)
   | (with_reducible exact ih3 _ _ _ _ _ _ _ _ _)
   | (with_reducible exact ih4 _ _ _ _ _ _ _ _ _ _ _ _ _ _)
   | (with_reducible exact ih5 _ _ _ _ _ _ _ _ _ _ _ _ _ _ _ _)
   | (with_reducible exact dom_meet.mono _ _ _ _ _)
   | (with_reducible exact graph_Order.mono _ _ _ _ _ _)
   | (with_reducible exact graph_Preds.mono _ _ _ _ _ _)
   | (with_reducible exact LeO.refl _)
   | (with_reducible exact LeO.none _)
   | (with_reducible refine LeO.ite ?_ ?_)
   | (with_reducible refine LeO.bind ?_ (fun _ => ?_))
   | exact ih0 _ _ _ _ _ _
   | exact ih1 _ _ _ _ _ _ _
   | exact ih2 _ _ _ _ _
   | exact ih3 _ _ _ _ _ _ _ _ _
   | exact ih4 _ _ _ _ _ _ _ _ _ _ _ _ _ _
   | exact ih5 _ _ _ _ _ _ _ _ _ _ _ _ _ _ _ _
   | exact dom_meet.mono _ _ _ _ _
   | exact graph_Order.mono _ _ _ _ _ _
   | exact graph_Preds.mono _ _ _ _ _ _
   | exact LeO.none _
   | refine LeO.ite ?_ ?_
   | refine LeO.bind ?_ (fun _ => ?_)
  ·intro y0 y1 y2 y3 y4 y5 y6
   unfold dom_Tree.l1
   repeat' first
   | (with_reducible exact ih0 _ _ _ _ _ _)
   | (with_reducible exact ih1 _ _ _ _ _ _ _)
   | (with_reducible exact ih2 _ _ _ _ _)
   | (with_reducible exact ih3 _ _ _ _ _ _ _ _ _)
   | (with_reducible exact ih4 _ _ _ _ _ _ _ _ _ _ _ _ _ _)
   | (with_reducible exact ih5 _ _ _ _ _ _ _ _ _ _ _ _ _ _ _ _)
   | (with_reducible exact dom_meet.mono _ _ _ _ _)
   | (with_reducible exact graph_Order.mono _ _ _ _ _ _)
   | (with_reducible exact graph_Preds.mono _ _ _ _ _ _)
   | (with_reducible exact LeO.refl _)
   | (with_reducible exact LeO.none _)
   | (with_reducible refine LeO.ite ?_ ?_)
   | (with_reducible refine LeO.bind ?_ (fun _ => ?_))
   | exact ih0 _ _ _ _ _ _
   | exact ih1 _ _ _ _ _ _ _
   | exact ih2 _ _ _ _ _
   | exact ih3 _ _ _ _ _ _ _ _ _
   | exact ih4 _ _ _ _ _ _ _ _ _ _ _ _ _ _
   | exact ih5 _ _ _ _ _ _ _ _ _ _ _ _ _ _ _ _
   | exact dom_meet.mono _ _ _ _ _
   | exact graph_Order.mono _ _ _ _ _ _
   | exact graph_Preds.mono _ _ _ _ _ _
   | exact LeO.none _
   | refine LeO.ite ?_ ?_
   | refine LeO.bind ?_ (fun _ => ?_)
  ·intro y0 y1 y2 y3 y4
   unfold dom_Tree.l2
   repeat' first
   | (with_reducible exact ih0 _ _ _ _ _ _)
   | (with_reducible exact ih1 _ _ _ _ _ _ _)
   | (with_reducible exact ih2 _ _ _ _ _)
   | (with_reducible exact ih3 _ _ _ _ _ _ _ _ _)
   | (with_reducible exact ih4 _ _ _ _ _ _ _ _ _ _ _ _ _ _)
   | (with_reducible exact ih5 _ _ _ _ _ _ _ _ _ _ _ _ _ _ _ _)
   | (with_reducible exact dom_meet.mono _ _ _ _ _)
   | (with_reducible exact graph_Order.mono _ _ _ _ _ _)
   | (with_reducible exact graph_Preds.mono _ _ _ _ _ _)
   | (with_reducible exact LeO.refl _)
   | (with_reducible exact LeO.none _)
   | (with_reducible refine LeO.ite ?_ ?_)
   | (with_reducible refine LeO.bind ?_ (fun _ => ?_))
   | exact ih0 _ _ _ _ _ _
   | exact ih1 _ _ _ _ _ _ _
   | exact ih2 _ _ _ _ _
   | exact ih3 _ _ _ _ _ _ _ _ _
   | exact ih4 _ _ _ _ _ _ _ _ _ _ _ _ _ _
   | exact ih5 _ _ _ _ _ _ _ _ _ _ _ _ _ _ _ _
   | exact dom_meet.mono _ _ _ _ _
   | exact graph_Order.mono _ _ _ _ _ _
   | exact graph_Preds.mono _ _ _ _ _ _
   | exact LeO.none _
   | refine LeO.ite ?_ ?_
   | refine LeO.bind ?_ (fun _ => ?_)
  ·intro y0 y1 y2 y3 y4 y5 y6 y7 y8
   unfold dom_Tree.l3
   repeat' first
   | (with_reducible exact ih0 _ _ _ _ _ _)
   | (with_reducible exact ih1 _ _ _ _ _ _ _)
   | (with_reducible exact ih2 _ _ _ _ _)
   | (with_reducible exact ih3 _ _ _ _ _ _ _ _ _)
   | (with_reducible exact ih4 _ _ _ _ _ _ _ _ _ _ _ _ _ _)
   | (with_reducible exact ih5 _ _ _ _ _ _ _ _ _ _ _ _ _ _ _ _)
   | (with_reducible exact dom_meet.mono _ _ _ _ _)
   | (with_reducible exact graph_Order.mono _ _ _ _ _ _)
   | (with_reducible exact graph_Preds.mono _ _ _ _ _ _)
   | (with_reducible exact LeO.refl _)
   | (with_reducible exact LeO.none _)
   | (with_reducible refine LeO.ite ?_ ?_)
   | (with_reducible refine LeO.bind ?_ (fun _ => ?_))
   | exact ih0 _ _ _ _ _ _
   | exact ih1 _ _ _ _ _ _ _
   | exact ih2 _ _ _ _ _
   | exact ih3 _ _ _ _ _ _ _ _ _
   | exact ih4 _ _ _ _ _ _ _ _ _ _ _ _ _ _
   | exact ih5 _ _ _ _ _ _ _ _ _ _ _ _ _ _ _ _
   | exact dom_meet.mono _ _ _ _ _
   | exact graph_Order.mono _ _ _ _ _ _
   | exact graph_Preds.mono _ _ _ _ _ _
   | exact LeO.none _
   | refine LeO.ite ?_ ?_
   | refine LeO.bind ?_ (fun _ => ?_)
  ·intro y0 y1 y2 y3 y4 y5 y6 y7 y8 y9 y10 y11 y12 y13
   unfold dom_Tree.l4
   repeat' first
   | (with_reducible exact ih0 _ _ _ _ _ _)
   | (with_reducible exact ih1 _ _ _ _ _ _ _)
   | (with_reducible exact ih2 _ _ _ _ _)
   | (with_reducible exact ih3 _ _ _ _ _ _ _ _ _)
   | (with_reducible exact ih4 _ _ _ _ _ _ _ _ _ _ _ _ _ _)
   | (with_reducible exact ih5 _ _ _ _ _ _ _ _ _ _ _ _ _ _ _ _)
   | (with_reducible exact dom_meet.mono _ _ _ _ _)
   | (with_reducible exact graph_Order.mono _ _ _ _ _ _)
   | (with_reducible exact graph_Preds.mono _ _ _ _ _ _)
   | (with_reducible exact LeO.refl _)
   | (with_reducible exact LeO.none _)
   | (with_reducible refine LeO.ite ?_ ?_)
   | (with_reducible refine LeO.bind ?_ (fun _ => ?_))
   | exact ih0 _ _ _ _ _ _
   | exact ih1 _ _ _ _ _ _ _
   | exact ih2 _ _ _ _ _
   | exact ih3 _ _ _ _ _ _ _ _ _
   | exact ih4 _ _ _ _ _ _ _ _ _ _ _ _ _ _
   | exact ih5 _ _ _ _ _ _ _ _ _ _ _ _ _ _ _ _
   | exact dom_meet.mono _ _ _ _ _
   | exact graph_Order.mono _ _ _ _ _ _
   | exact graph_Preds.mono _ _ _ _ _ _
   | exact LeO.none _
   | refine LeO.ite ?_ ?_
   | refine LeO.bind ?_ (fun _ => ?_)
  ·intro y0 y1 y2 y3 y4 y5 y6 y7 y8 y9 y10 y11 y12 y13 y14 y15
   unfold dom_Tree.j5
   repeat' first
   | (with_reducible exact ih0 _ _ _ _ _ _)
   | (with_reducible exact ih1 _ _ _ _ _ _ _)
   | (with_reducible exact ih2 _ _ _ _ _)
   | (with_reducible exact ih3 _ _ _ _ _ _ _ _ _)
   | (with_reducible exact ih4 _ _ _ _ _ _ _ _ _ _ _ _ _ _)
   | (with_reducible exact ih5 _ _ _ _ _ _ _ _ _ _ _ _ _ _ _ _)
   | (with_reducible exact dom_meet.mono _ _ _ _ _)
   | (with_reducible exact graph_Order.mono _ _ _ _ _ _)
   | (with_reducible exact graph_Preds.mono _ _ _ _ _ _)
   | (with_reducible exact LeO.refl _)
   | (with_reducible exact LeO.none _)
   | (with_reducible refine LeO.ite ?_ ?_)
   | (with_reducible refine LeO.bind ?_ (fun _ => ?_))
   | exact ih0 _ _ _ _ _ _
   | exact ih1 _ _ _ _ _ _ _
   | exact ih2 _ _ _ _ _
   | exact ih3 _ _ _ _ _ _ _ _ _
   | exact ih4 _ _ _ _ _ _ _ _ _ _ _ _ _ _
   | exact ih5 _ _ _ _ _ _ _ _ _ _ _ _ _ _ _ _
   | exact dom_meet.mono _ _ _ _ _
   | exact graph_Order.mono _ _ _ _ _ _
   | exact graph_Preds.mono _ _ _ _ _ _
   | exact LeO.none _
   | refine LeO.ite ?_ ?_
   | refine LeO.bind ?_ (fun _ => ?_)
theorem dom_Tree.mono : ∀ a0 a1 a2 a3 a4 k, LeO (dom_Tree.f k a0 a1 a2 a3 a4) (dom_Tree.f (k + 1) a0 a1 a2 a3 a4) := by
 intro a0 a1 a2 a3 a4 k
 obtain ⟨ih0, ih1, ih2, ih3, ih4, ih5⟩ := dom_Tree.mono_l k
 unfold dom_Tree.f
 repeat' first
   | (with_reducible exact ih0 _ _ _ _ _ _)
   | (with_reducible exact ih1 _ _ _ _ _ _ _)
   | (with_reducible exact ih2 _ _ _ _ _)
   | (with_reducible exact ih3 _ _ _ _ _ _ _ _ _)
   | (with_reducible exact ih4 _ _ _ _ _ _ _ _ _ _ _ _ _ _)
   | (with_reducible exact ih5 _ _ _ _ _ _ _ _ _ _ _ _ _ _ _ _)
   | (with_reducible exact dom_meet.mono _ _ _ _ _)
   | (with_reducible exact graph_Order.mono _ _ _ _ _ _)
   | (with_reducible exact graph_Preds.mono _ _ _ _ _ _)
   | (with_reducible exact LeO.refl _)
   | (with_reducible exact LeO.none _)
   | (with_reducible refine LeO.ite ?_ ?_)
   | (with_reducible refine LeO.bind ?_ (fun _ => ?_))
   | exact ih0 _ _ _ _ _ _
   | exact ih1 _ _ _ _ _ _ _
   | exact ih2 _ _ _ _ _
   | exact ih3 _ _ _ _ _ _ _ _ _
   | exact ih4 _ _ _ _ _ _ _ _ _ _ _ _ _ _
   | exact ih5 _ _ _ _ _ _ _ _ _ _ _ _ _ _ _ _
   | exact dom_meet.mono _ _ _ _ _
   | exact graph_Order.mono _ _ _ _ _ _
   | exact graph_Preds.mono _ _ _ _ _ _
   | exact LeO.none _
   | refine LeO.ite ?_ ?_
   | refine LeO.bind ?_ (fun _ => ?_)
def dom_Tree.T2 : Bool × List (List Nat × List Nat) := (true, [([], []), ([0], [0]), ([1], [1]), ([2, 2], [2]), ([], []), ([4], [4]), ([5], [5]), ([6, 6], [6]), ([3, 0, 1, 2, 3], [3]), ([7, 8, 0, 1, 2, 3, 4, 5, 6, 7, 8], [7])])
def dom_Tree.B2 : List Nat := [0, 1, 3, 7, 0, 16, 48, 112, 15, 511]
theorem dom_Tree.tab2 : rtab .any (opsOf Try.f19 2) = dom_Tree.T2 := by kernel_rfl
theorem dom_Tree.bits2 : waitsOk dom_Tree.T2.2 dom_Tree.B2 = true := by kernel_rfl
set_option maxHeartbeats 8000000 in
set_option maxRecDepth 100000 in
theorem dom_Tree.calls (k : Nat) (a0_0 : ByteArray) (a0_1 : Int) (a0_2 : Int) (A0_3 : Option Addr) (c0_3 : Nat) (l0_3 : List Int) (A0_4 : Option Addr) (c0_4 : Nat) (l0_4 : List (List (S29))) (r : List Int) (w : World) (hr0_3 : Kd.C (Kd.int .i64) w A0_3 l0_3.length l0_3) (hc0_3 : l0_3.length ≤ c0_3) (hr0_4 : Kd.C (Kd.slice 29 k29) w A0_4 l0_4.length l0_4) (hc0_4 : l0_4.length ≤ c0_4) (h : dom_Tree.f k a0_0 a0_1 a0_2 l0_3 l0_4 = some r) :
  Calls Try.prog 19 #[.agg #[.string a0_0, .int .i64 a0_1, .int .i64 a0_2, .slice A0_3 l0_3.length c0_3, .slice A0_4 l0_4.length c0_4]] w fun e w' => ∃ v0_ : Value, e = .returned (v0_) ∧ Kd.R (Kd.int .i64) 3 w' w.heap.size (fun _ => True) v0_ r ∧ Below w.heap.size w w' := by
 have hu32 := Try.underlying32
 have HR0_3 := Aside0.mk hr0_3
 have HC0_3 := Aside0.mk hc0_3
 clear hr0_3 hc0_3
 have HR0_4 := Aside0.mk hr0_4
 have HC0_4 := Aside0.mk hc0_4
 clear hr0_4 hc0_4
 have HB := Aside0.mk (Below.refl w.heap.size w)
 have H : ((graph_Order.f k a0_0 a0_1 a0_2 l0_3 l0_4).bind fun t150 => ((graph_Preds.f k a0_0 a0_1 a0_2 l0_3 l0_4).bind fun t153 => (if 0 ≤ (l0_4.length : Int) then (if ((l0_4.length : Int) : Int).toNat ≤ 35184372088832 then ((some (List.replicate ((l0_4.length : Int) : Int).toNat 0 : List Int)).bind fun y156 => (dom_Tree.l0 k t150 t153 y156 (List.replicate ((l0_4.length : Int) : Int).toNat 0) (y156.length : Int) 0)) else (none)) else (none)))) = some r := h
 clear h
 replace H := Option.bind_eq_some_iff.mp H
 obtain ⟨t150, A20, H⟩ := H
 replace H : ((graph_Preds.f k a0_0 a0_1 a0_2 l0_3 l0_4).bind fun t153 => (if 0 ≤ (l0_4.length : Int) then (if ((l0_4.length : Int) : Int).toNat ≤ 35184372088832 then ((some (List.replicate ((l0_4.length : Int) : Int).toNat 0 : List Int)).bind fun y156 => (dom_Tree.l0 k t150 t153 y156 (List.replicate ((l0_4.length : Int) : Int).toNat 0) (y156.length : Int) 0)) else (none)) else (none))) = some r := H
 have A2 := Aside0.mk A20
 clear A20
 replace H := Option.bind_eq_some_iff.mp H
 obtain ⟨t153, A30, H⟩ := H
 replace H : (if 0 ≤ (l0_4.length : Int) then (if ((l0_4.length : Int) : Int).toNat ≤ 35184372088832 then ((some (List.replicate ((l0_4.length : Int) : Int).toNat 0 : List Int)).bind fun y156 => (dom_Tree.l0 k t150 t153 y156 (List.replicate ((l0_4.length : Int) : Int).toNat 0) (y156.length : Int) 0)) else (none)) else (none)) = some r := H
 have A3 := Aside0.mk A30
 clear A30
 by_cases c4 : 0 ≤ (l0_4.length : Int)
 ·rw [if_pos c4] at H
  have c4b0 := eq_true c4
  have c4b1 : decide (0 ≤ (l0_4.length : Int)) = true := decide_eq_true c4
  clear c4
  by_cases c5 : ((l0_4.length : Int) : Int).toNat ≤ 35184372088832
  ·rw [if_pos c5] at H
   have c5b0 := eq_true c5
   have c5b1 : decide (((l0_4.length : Int) : Int).toNat ≤ 35184372088832) = true := decide_eq_true c5
   clear c5
   obtain ⟨y156, hy156⟩ : ∃ y_ : List Int, y_ = (List.replicate ((l0_4.length : Int) : Int).toNat 0) := ⟨_, rfl⟩
   replace H : (dom_Tree.l0 k t150 t153 y156 (List.replicate ((l0_4.length : Int) : Int).toNat 0) (y156.length : Int) 0) = some r := by first | (rw [hy156]; with_reducible exact H) | (have H2_ := (Option.bind_some _ _).symm.trans H; rw [hy156]; with_reducible exact H2_) | (have H2_ := (Option.bind_some _ _).symm.trans H; with_reducible exact H2_) | with_reducible exact H | (rw [hy156]; exact H) | exact H
   have Ny156 := Aside0.mk hy156
   clear hy156
   obtain ⟨y159, hy159⟩ : ∃ y_ : List Int, y_ = (List.replicate ((l0_4.length : Int) : Int).toNat 0) := ⟨_, rfl⟩
   replace H : (dom_Tree.l0 k t150 t153 y156 y159 (y156.length : Int) 0) = some r := by first | (rw [hy159]; with_reducible exact H) | (have H2_ := (Option.bind_some _ _).symm.trans H; rw [hy159]; with_reducible exact H2_) | (have H2_ := (Option.bind_some _ _).symm.trans H; with_reducible exact H2_) | with_reducible exact H | (rw [hy159]; exact H) | exact H
   have Ny159 := Aside0.mk hy159
   clear hy159
   have H' := Aside0.mk H
   clear H
   go_enter Try.func19, Try.ntmps19
   refine scope_seq (fun K_ hK_ => ?_)
   try go_wp2_with (first | ((with_reducible refine gate_dst (N := 1) rfl ?_); refine box_event ?hg (N := 1) ?hd (cs := #[.string a0_0, .int .i64 a0_1, .int .i64 a0_2, .slice A0_3 l0_3.length c0_3, .slice A0_4 l0_4.length c0_4]) (t := 32) ?hr ?_; (case hd => rfl); (case hg => rfl); (case hr => first | (go_simp; done) | (go_simp; rfl)); intro gb149 hg w6 hbox hb; have n0_ := Aside0.mk (below_step (zB) hb); have n1_ := Aside0.mk (hbox); have n2_ := Aside0.mk ((by rw [hg]; exact (below_size (zB)) : w.heap.size ≤ gb149)); have n3_ := Aside0.mk ((by rw [hg]; exact (below_size (zB)) : w.heap.size ≤ gb149)); clear HB; have HB := n0_; have BK149 := n1_; have GW149 := n2_; have GE149 := n3_; clear n0_ n1_ n2_ n3_; clear hb hbox hg))
   have n0_ := Aside0.mk (blk_drew BK149.out)
   have n1_ := Aside0.mk (below_drew1 HB.out)
   clear BK149
   clear HB
   have BK149 := n0_
   have HB := n1_
   clear n0_ n1_
   refine start_ (n := 6) (S := fun w' => w'.cell? ⟨gb149, 0, none⟩ = some (.string a0_0) ∧ w'.cell? ⟨gb149, 1, none⟩ = some (.int .i64 a0_1) ∧ w'.cell? ⟨gb149, 2, none⟩ = some (.int .i64 a0_2) ∧ w'.cell? ⟨gb149, 3, none⟩ = some (.slice A0_3 l0_3.length c0_3) ∧ w'.cell? ⟨gb149, 4, none⟩ = some (.slice A0_4 l0_4.length c0_4)) (ds := []) #[false, false, false, false, false, false] (by kernel_rfl) rfl rfl ⟨(blk_cell BK149.out 0).trans rfl, (blk_cell BK149.out 1).trans rfl, (blk_cell BK149.out 2).trans rfl, (blk_cell BK149.out 3).trans rfl, (blk_cell BK149.out 4).trans rfl⟩ (fun hHeld => ?_)
   generalize w6.drew = w7 at BK149 HB hHeld ⊢
   refine take_ (i := 0) (N := some 17) (v := ?_) (a' := ?_) #[true, false, false, false, false, false] rfl rfl (by kernel_rfl) (fun _ _ _ h => h) (Or.inl ⟨by rfl, ?_⟩) hHeld ?_ ?_
   rotate_left
   ·rintro w' ⟨s0, s1, s2, s3, s4⟩
    go_simp
    with_reducible rfl
   rotate_left
   ·simp only [Act.put, List.setIfInBounds_toArray, List.set_cons_zero, List.set_cons_succ, i64_w, i32_w]
    rfl
   refine take_ (i := 2) (N := some 19) (v := ?_) (a' := ?_) #[true, false, true, false, false, false] rfl rfl (by kernel_rfl) (fun _ _ _ h => h) (Or.inl ⟨by rfl, ?_⟩) hHeld ?_ ?_
   rotate_left
   ·rintro w' ⟨s0, s1, s2, s3, s4⟩
    go_simp
    with_reducible rfl
   rotate_left
   ·simp only [Act.put, List.setIfInBounds_toArray, List.set_cons_zero, List.set_cons_succ, i64_w, i32_w]
    rfl
   refine one_ (i := 1) (N := some 18) #[true, true, true, false, false, false] rfl rfl (by kernel_rfl) (by decide) (fun K hK => ?_)
   refine goes_ Try.func51 (by kernel_rfl) rfl #[.agg #[.string a0_0, .int .i64 a0_1, .int .i64 a0_2, .slice A0_3 l0_3.length c0_3, .slice A0_4 l0_4.length c0_4]] (by rfl) rfl rfl zE ?_
   with_reducible refine (graph_Order.calls k a0_0 a0_1 a0_2 _ _ l0_3 _ _ l0_4 t150 _ ?side1 ?side2 ?side3 ?side4 A2.out).mono ?_
   (case side1 => exact zC (Kd.C_below HR0_3.out HB.out))
   (case side2 => exact HC0_3.out)
   (case side3 => exact zC (Kd.C_below HR0_4.out HB.out))
   (case side4 => exact HC0_4.out)
   rintro e w8 ⟨v151, rfl, ho0, hb⟩
   refine ⟨_, rfl, ?_⟩
   have n0_ := Aside0.mk (Kd.R_lower ho0 (below_size (by repeat (first | (with_reducible first | exact HB.out | apply below_alloc | apply pw_below_drewN | apply below_drew1 | refine below_set ?_ GE149.out) | exact HB.out))))
   have n1_ := Aside0.mk (blk_below (g := gb149) (o := .cells #[.string a0_0, .int .i64 a0_1, .int .i64 a0_2, .slice A0_3 l0_3.length c0_3, .slice A0_4 l0_4.length c0_4] 32 (0, 0)) (zK BK149.out) hb)
   have n2_ := Aside0.mk (below_step (by repeat (first | (with_reducible first | exact HB.out | apply below_alloc | apply pw_below_drewN | apply below_drew1 | refine below_set ?_ GE149.out) | exact HB.out)) hb)
   clear BK149
   clear HB
   have HO152 := n0_
   have BK149 := n1_
   have HB := n2_
   clear n0_ n1_ n2_
   (try clear hb)
   (try clear hb2)
   (try clear hk)
   (try clear hi)
   (try clear ho0)
   refine hK.out _ _ ⟨(blk_cell BK149.out 0).trans rfl, (blk_cell BK149.out 1).trans rfl, (blk_cell BK149.out 2).trans rfl, (blk_cell BK149.out 3).trans rfl, (blk_cell BK149.out 4).trans rfl⟩ (fun hHeld => ?_)
   clear hK K
   refine norm_ (a' := ?_) ?_ ?_
   rotate_left
   ·show Act.put _ (some 18) _ = _
    simp only [Act.put, List.setIfInBounds_toArray, List.set_cons_zero, List.set_cons_succ, i64_w, i32_w]
    rfl
   refine one_ (i := 3) (N := some 20) #[true, true, true, true, false, false] rfl rfl (by kernel_rfl) (by decide) (fun K hK => ?_)
   refine goes_ Try.func52 (by kernel_rfl) rfl #[.agg #[.string a0_0, .int .i64 a0_1, .int .i64 a0_2, .slice A0_3 l0_3.length c0_3, .slice A0_4 l0_4.length c0_4]] (by rfl) rfl rfl zE ?_
   with_reducible refine (graph_Preds.calls k a0_0 a0_1 a0_2 _ _ l0_3 _ _ l0_4 t153 _ ?side1 ?side2 ?side3 ?side4 A3.out).mono ?_
   (case side1 => exact zC (Kd.C_below HR0_3.out HB.out))
   (case side2 => exact HC0_3.out)
   (case side3 => exact zC (Kd.C_below HR0_4.out HB.out))
   (case side4 => exact HC0_4.out)
   rintro e w9 ⟨v154, rfl, ho0, hb⟩
   refine ⟨_, rfl, ?_⟩
   have n0_ := Aside0.mk (Kd.R_below (zR HO152.out) hb)
   have n1_ := Aside0.mk (Kd.S_lower (Kd.S_new' ho0 (Kd.R_lt (zR HO152.out))) (below_size (by repeat (first | (with_reducible first | exact HB.out | apply below_alloc | apply pw_below_drewN | apply below_drew1 | refine below_set ?_ GE149.out) | exact HB.out))))
   have n2_ := Aside0.mk (blk_below (g := gb149) (o := .cells #[.string a0_0, .int .i64 a0_1, .int .i64 a0_2, .slice A0_3 l0_3.length c0_3, .slice A0_4 l0_4.length c0_4] 32 (0, 0)) (zK BK149.out) hb)
   have n3_ := Aside0.mk (below_step (by repeat (first | (with_reducible first | exact HB.out | apply below_alloc | apply pw_below_drewN | apply below_drew1 | refine below_set ?_ GE149.out) | exact HB.out)) hb)
   clear HO152
   clear BK149
   clear HB
   have HO152 := n0_
   have HO155 := n1_
   have BK149 := n2_
   have HB := n3_
   clear n0_ n1_ n2_ n3_
   (try clear hb)
   (try clear hb2)
   (try clear hk)
   (try clear hi)
   (try clear ho0)
   refine hK.out _ _ ⟨(blk_cell BK149.out 0).trans rfl, (blk_cell BK149.out 1).trans rfl, (blk_cell BK149.out 2).trans rfl, (blk_cell BK149.out 3).trans rfl, (blk_cell BK149.out 4).trans rfl⟩ (fun hHeld => ?_)
   clear hK K
   refine norm_ (a' := ?_) ?_ ?_
   rotate_left
   ·show Act.put _ (some 20) _ = _
    simp only [Act.put, List.setIfInBounds_toArray, List.set_cons_zero, List.set_cons_succ, i64_w, i32_w]
    rfl
   refine pure_ (i := 4) (N := some 3) (v := ?_) (a' := ?_) #[true, true, true, true, true, false] rfl rfl (by kernel_rfl) (fun _ _ _ h => h) (Or.inl ⟨by rfl, ?_⟩) ?_ ?_
   rotate_left
   ·intro w'
    go_simp
    with_reducible rfl
   rotate_left
   ·simp only [Act.put, List.setIfInBounds_toArray, List.set_cons_zero, List.set_cons_succ, i64_w, i32_w]
    rfl
   refine pure_ (i := 5) (N := some 4) (v := ?_) (a' := ?_) #[true, true, true, true, true, true] rfl rfl (by kernel_rfl) (fun _ _ _ h => h) (Or.inl ⟨by rfl, ?_⟩) ?_ ?_
   rotate_left
   ·intro w'
    go_simp
    with_reducible rfl
   rotate_left
   ·simp only [Act.put, List.setIfInBounds_toArray, List.set_cons_zero, List.set_cons_succ, i64_w, i32_w]
    rfl
   refine done_ (by kernel_rfl) ?_
   try go_wp2
   have n0_ := Aside0.mk (Kd.R_drew HO152.out)
   have n1_ := Aside0.mk (Kd.S_drew HO155.out)
   have n2_ := Aside0.mk (blk_drew BK149.out)
   have n3_ := Aside0.mk (below_drew1 HB.out)
   clear HO152
   clear HO155
   clear BK149
   clear HB
   have HO152 := n0_
   have HO155 := n1_
   have BK149 := n2_
   have HB := n3_
   clear n0_ n1_ n2_ n3_
   refine start_ (n := 10) (S := fun w' => w'.cell? ⟨gb149, 0, none⟩ = some (.string a0_0) ∧ w'.cell? ⟨gb149, 1, none⟩ = some (.int .i64 a0_1) ∧ w'.cell? ⟨gb149, 2, none⟩ = some (.int .i64 a0_2) ∧ w'.cell? ⟨gb149, 3, none⟩ = some (.slice A0_3 l0_3.length c0_3) ∧ w'.cell? ⟨gb149, 4, none⟩ = some (.slice A0_4 l0_4.length c0_4)) (ds := []) #[false, false, false, false, false, false, false, false, false, false] (by kernel_rfl) rfl rfl ⟨(blk_cell BK149.out 0).trans rfl, (blk_cell BK149.out 1).trans rfl, (blk_cell BK149.out 2).trans rfl, (blk_cell BK149.out 3).trans rfl, (blk_cell BK149.out 4).trans rfl⟩ (fun hHeld => ?_); refine with_tabW dom_Tree.tab2 dom_Tree.bits2 (fun HT_ HW_ => ?_)
   generalize w9.drew = w10 at HO152 HO155 BK149 HB hHeld ⊢
   refine pure_ (i := 0) (N := some 21) (v := ?_) (a' := ?_) #[true, false, false, false, false, false, false, false, false, false] rfl rfl (any_of HT_.out (by kernel_rfl)) (fun _ _ _ h => h) (Or.inl ⟨by rfl, ?_⟩) ?_ ?_
   rotate_left
   ·intro w'
    go_simp
    with_reducible rfl
   rotate_left
   ·simp only [Act.put, List.setIfInBounds_toArray, List.set_cons_zero, List.set_cons_succ, i64_w, i32_w]
    rfl
   refine pure_ (i := 4) (N := some 25) (v := ?_) (a' := ?_) #[true, false, false, false, true, false, false, false, false, false] rfl rfl (any_of HT_.out (by kernel_rfl)) (fun _ _ _ h => h) (Or.inl ⟨by rfl, ?_⟩) ?_ ?_
   rotate_left
   ·intro w'
    go_simp
    with_reducible rfl
   rotate_left
   ·simp only [Act.put, List.setIfInBounds_toArray, List.set_cons_zero, List.set_cons_succ, i64_w, i32_w]
    rfl
   refine take_ (i := 1) (N := some 22) (v := ?_) (a' := ?_) #[true, true, false, false, true, false, false, false, false, false] rfl rfl (take_ofW HT_.out HW_.out (by kernel_rfl)) (fun _ _ _ h => h) (Or.inl ⟨by rfl, ?_⟩) hHeld ?_ ?_
   rotate_left
   ·rintro w' ⟨s0, s1, s2, s3, s4⟩
    go_simp
    with_reducible rfl
   rotate_left
   ·simp only [Act.put, List.setIfInBounds_toArray, List.set_cons_zero, List.set_cons_succ, i64_w, i32_w]
    rfl
   refine pure_ (i := 2) (N := some 23) (v := ?_) (a' := ?_) #[true, true, true, false, true, false, false, false, false, false] rfl rfl (any_of HT_.out (by kernel_rfl)) (fun _ _ _ h => h) (Or.inl ⟨by rfl, ?_⟩) ?_ ?_
   rotate_left
   ·intro w'
    go_simp
    with_reducible rfl
   rotate_left
   ·simp only [Act.put, List.setIfInBounds_toArray, List.set_cons_zero, List.set_cons_succ, i64_w, i32_w]
    rfl
   refine take_ (i := 5) (N := some 26) (v := ?_) (a' := ?_) #[true, true, true, false, true, true, false, false, false, false] rfl rfl (take_ofW HT_.out HW_.out (by kernel_rfl)) (fun _ _ _ h => h) (Or.inl ⟨by rfl, ?_⟩) hHeld ?_ ?_
   rotate_left
   ·rintro w' ⟨s0, s1, s2, s3, s4⟩
    go_simp
    with_reducible rfl
   rotate_left
   ·simp only [Act.put, List.setIfInBounds_toArray, List.set_cons_zero, List.set_cons_succ, i64_w, i32_w]
    rfl
   refine pure_ (i := 6) (N := some 27) (v := ?_) (a' := ?_) #[true, true, true, false, true, true, true, false, false, false] rfl rfl (any_of HT_.out (by kernel_rfl)) (fun _ _ _ h => h) (Or.inl ⟨by rfl, ?_⟩) ?_ ?_
   rotate_left
   ·intro w'
    go_simp
    with_reducible rfl
   rotate_left
   ·simp only [Act.put, List.setIfInBounds_toArray, List.set_cons_zero, List.set_cons_succ, i64_w, i32_w]
    rfl
   refine join_ (σ := Value × Value) 1 #[true, true, true, true, true, true, true, true, true, false] (fun s_ => [(24, s_.1), (28, s_.2), (5, s_.1)]) (fun s_ w' => (w'.cell? ⟨gb149, 0, none⟩ = some (.string a0_0) ∧ w'.cell? ⟨gb149, 1, none⟩ = some (.int .i64 a0_1) ∧ w'.cell? ⟨gb149, 2, none⟩ = some (.int .i64 a0_2) ∧ w'.cell? ⟨gb149, 3, none⟩ = some (.slice A0_3 l0_3.length c0_3) ∧ w'.cell? ⟨gb149, 4, none⟩ = some (.slice A0_4 l0_4.length c0_4)) ∧ (Kd.R (Kd.int .i64) 3 w' w.heap.size (fun k_ => some k_ ≠ (s_.1 : Value).ownBlock ∧ some k_ ≠ (s_.2 : Value).ownBlock) v151 t150) ∧ (Kd.S (Kd.slice 3 (Kd.int .i64)) 22 w' w.heap.size (fun k_ => some k_ ≠ (v151 : Value).ownBlock ∧ some k_ ≠ (s_.1 : Value).ownBlock ∧ some k_ ≠ (s_.2 : Value).ownBlock) v154 t153) ∧ (Kd.R (Kd.int .i64) 3 w' w.heap.size (fun k_ => some k_ ≠ (v151 : Value).ownBlock ∧ some k_ ≠ (s_.2 : Value).ownBlock) s_.1 y156) ∧ (Kd.R (Kd.int .i64) 3 w' w.heap.size (fun k_ => some k_ ≠ (v151 : Value).ownBlock ∧ some k_ ≠ (s_.1 : Value).ownBlock) s_.2 y159) ∧ (w'.heap[gb149]? = some (.cells #[.string a0_0, .int .i64 a0_1, .int .i64 a0_2, .slice A0_3 l0_3.length c0_3, .slice A0_4 l0_4.length c0_4] 32 (0, 0))) ∧ (Below w.heap.size w w')) ?_ ?_
   rotate_left
   ·intro hCont
    refine two_ (i := 3) (j := 7) (Ni := some 24) (Nj := some 28) #[true, true, true, true, true, true, true, false, false, false] #[true, true, true, false, true, true, true, true, false, false] rfl rfl rfl rfl (two_of HT_.out (by kernel_rfl)) (by decide) (by decide) (fun K hK => ?_) (fun K hK => ?_)
    ·skip
     refine Kd.R_make_step (Kd.int .i64) _ 3 (by rfl) (N := 24) rfl 22 _ _ rfl (l0_4.length : Int) rfl rfl Try.underlying22 (.int .i64 0) 8 info3 rfl (by decide) (by omega) 0 (ok := fun _ => True) (okp := fun _ => True) rfl (fun _ hk => hk) trivial (zO) (Nat.le_trans (Nat.mul_le_mul_right _ (zO : (l0_4.length : Int).toNat ≤ 35184372088832)) (by omega)) (Below.refl _ _) (Nat.le_refl _) ?_
     intro v157 w11 ho12 hb hg_ hnew_
     clear hg_ hnew_
     (first | rw [← Ny156.out] at ho12 | (simp only [Int.reduceToNat] at ho12; rw [← Ny156.out] at ho12))
     have n0_ := Aside0.mk (Kd.R_elder' (zR HO152.out) (Kd.R_base ho12) hb)
     have n1_ := Aside0.mk (Kd.S_elder' (zS HO155.out) (Kd.R_base ho12) hb)
     have n2_ := Aside0.mk (Kd.R_lower (Kd.R_new' ho12 (Kd.R_lt (zR HO152.out))) (below_size (by repeat (first | (with_reducible first | exact HB.out | apply below_alloc | apply pw_below_drewN | apply below_drew1 | refine below_set ?_ GE149.out) | exact HB.out))))
     have n3_ := Aside0.mk (blk_below (g := gb149) (o := .cells #[.string a0_0, .int .i64 a0_1, .int .i64 a0_2, .slice A0_3 l0_3.length c0_3, .slice A0_4 l0_4.length c0_4] 32 (0, 0)) (zK BK149.out) hb)
     have n4_ := Aside0.mk (below_step (by repeat (first | (with_reducible first | exact HB.out | apply below_alloc | apply pw_below_drewN | apply below_drew1 | refine below_set ?_ GE149.out) | exact HB.out)) hb)
     clear HO152
     clear HO155
     clear BK149
     clear HB
     have HO152 := n0_
     have HO155 := n1_
     have HO158 := n2_
     have BK149 := n3_
     have HB := n4_
     clear n0_ n1_ n2_ n3_ n4_
     clear hb ho12
     refine hK.out _ _ ⟨(blk_cell BK149.out 0).trans rfl, (blk_cell BK149.out 1).trans rfl, (blk_cell BK149.out 2).trans rfl, (blk_cell BK149.out 3).trans rfl, (blk_cell BK149.out 4).trans rfl⟩ (fun hHeld => ?_)
     clear hK K
     refine norm_ (a' := ?_) ?_ ?_
     rotate_left
     ·show Act.put _ (some 24) _ = _
      simp only [Act.put, List.setIfInBounds_toArray, List.set_cons_zero, List.set_cons_succ, i64_w, i32_w]
      rfl
     refine pure_ (i := 8) (N := some 5) (v := ?_) (a' := ?_) #[true, true, true, true, true, true, true, false, true, false] rfl rfl (any_of HT_.out (by kernel_rfl)) (fun _ _ _ h => h) (Or.inl ⟨by rfl, ?_⟩) ?_ ?_
     rotate_left
     ·intro w'
      go_simp
      with_reducible rfl
     rotate_left
     ·simp only [Act.put, List.setIfInBounds_toArray, List.set_cons_zero, List.set_cons_succ, i64_w, i32_w]
      rfl
     refine one_ (i := 7) (N := some 28) #[true, true, true, true, true, true, true, true, true, false] rfl rfl (one_of HT_.out (by kernel_rfl)) (by decide) (fun K hK => ?_)
     refine Kd.R_make_step (Kd.int .i64) _ 3 (by rfl) (N := 28) rfl 22 _ _ rfl (l0_4.length : Int) rfl rfl Try.underlying22 (.int .i64 0) 8 info3 rfl (by decide) (by omega) 0 (ok := fun _ => True) (okp := fun _ => True) rfl (fun _ hk => hk) trivial (zO) (Nat.le_trans (Nat.mul_le_mul_right _ (zO : (l0_4.length : Int).toNat ≤ 35184372088832)) (by omega)) (Below.refl _ _) (Nat.le_refl _) ?_
     intro v160 w13 ho14 hb hg_ hnew_
     clear hg_ hnew_
     (first | rw [← Ny159.out] at ho14 | (simp only [Int.reduceToNat] at ho14; rw [← Ny159.out] at ho14))
     have n0_ := Aside0.mk (Kd.R_elder' (zR HO152.out) (Kd.R_base ho14) hb)
     have n1_ := Aside0.mk (Kd.S_elder' (zS HO155.out) (Kd.R_base ho14) hb)
     have n2_ := Aside0.mk (Kd.R_elder' (zR HO158.out) (Kd.R_base ho14) hb)
     have n3_ := Aside0.mk (Kd.R_lower (Kd.R_new' (Kd.R_new' ho14 (Kd.R_lt (zR HO152.out))) (Kd.R_lt (zR HO158.out))) (below_size (by repeat (first | (with_reducible first | exact HB.out | apply below_alloc | apply pw_below_drewN | apply below_drew1 | refine below_set ?_ GE149.out) | exact HB.out))))
     have n4_ := Aside0.mk (blk_below (g := gb149) (o := .cells #[.string a0_0, .int .i64 a0_1, .int .i64 a0_2, .slice A0_3 l0_3.length c0_3, .slice A0_4 l0_4.length c0_4] 32 (0, 0)) (zK BK149.out) hb)
     have n5_ := Aside0.mk (below_step (by repeat (first | (with_reducible first | exact HB.out | apply below_alloc | apply pw_below_drewN | apply below_drew1 | refine below_set ?_ GE149.out) | exact HB.out)) hb)
     clear HO152
     clear HO155
     clear HO158
     clear BK149
     clear HB
     have HO152 := n0_
     have HO155 := n1_
     have HO158 := n2_
     have HO161 := n3_
     have BK149 := n4_
     have HB := n5_
     clear n0_ n1_ n2_ n3_ n4_ n5_
     clear hb ho14
     refine hK.out _ _ ⟨(blk_cell BK149.out 0).trans rfl, (blk_cell BK149.out 1).trans rfl, (blk_cell BK149.out 2).trans rfl, (blk_cell BK149.out 3).trans rfl, (blk_cell BK149.out 4).trans rfl⟩ (fun hHeld => ?_)
     clear hK K
     refine norm_ (a' := ?_) ?_ ?_
     rotate_left
     ·show Act.put _ (some 28) _ = _
      simp only [Act.put, List.setIfInBounds_toArray, List.set_cons_zero, List.set_cons_succ, i64_w, i32_w]
      rfl
     exact norm_ (by simp only [putAll, Act.put, List.setIfInBounds_toArray, List.set_cons_zero, List.set_cons_succ]) (hCont (v157, v160) _ ⟨hHeld, (by (with_reducible repeat (first | apply Kd.R_alloc | apply Kd.R_drewN | apply Kd.R_drew)); exact Kd.R_mono HO152.out (fun _ hk => ⟨hk.1.2, hk.2⟩)), (by (with_reducible repeat (first | apply Kd.S_alloc | apply Kd.S_drewN | apply Kd.S_drew)); exact Kd.S_mono HO155.out (fun _ hk => ⟨hk.1.1.2, ⟨hk.1.2, hk.2⟩⟩)), (by (with_reducible repeat (first | apply Kd.R_alloc | apply Kd.R_drewN | apply Kd.R_drew)); exact Kd.R_mono HO158.out (fun _ hk => ⟨hk.1.2, hk.2⟩)), (by (with_reducible repeat (first | apply Kd.R_alloc | apply Kd.R_drewN | apply Kd.R_drew)); exact Kd.R_mono HO161.out (fun _ hk => ⟨hk.1.2, hk.2⟩)), (zK BK149.out), (by repeat (first | (with_reducible first | exact HB.out | apply below_alloc | apply pw_below_drewN | apply below_drew1 | refine below_set ?_ GE149.out) | exact HB.out))⟩)
    ·skip
     refine Kd.R_make_step (Kd.int .i64) _ 3 (by rfl) (N := 28) rfl 22 _ _ rfl (l0_4.length : Int) rfl rfl Try.underlying22 (.int .i64 0) 8 info3 rfl (by decide) (by omega) 0 (ok := fun _ => True) (okp := fun _ => True) rfl (fun _ hk => hk) trivial (zO) (Nat.le_trans (Nat.mul_le_mul_right _ (zO : (l0_4.length : Int).toNat ≤ 35184372088832)) (by omega)) (Below.refl _ _) (Nat.le_refl _) ?_
     intro v160 w11 ho12 hb hg_ hnew_
     clear hg_ hnew_
     (first | rw [← Ny159.out] at ho12 | (simp only [Int.reduceToNat] at ho12; rw [← Ny159.out] at ho12))
     have n0_ := Aside0.mk (Kd.R_elder' (zR HO152.out) (Kd.R_base ho12) hb)
     have n1_ := Aside0.mk (Kd.S_elder' (zS HO155.out) (Kd.R_base ho12) hb)
     have n2_ := Aside0.mk (Kd.R_lower (Kd.R_new' ho12 (Kd.R_lt (zR HO152.out))) (below_size (by repeat (first | (with_reducible first | exact HB.out | apply below_alloc | apply pw_below_drewN | apply below_drew1 | refine below_set ?_ GE149.out) | exact HB.out))))
     have n3_ := Aside0.mk (blk_below (g := gb149) (o := .cells #[.string a0_0, .int .i64 a0_1, .int .i64 a0_2, .slice A0_3 l0_3.length c0_3, .slice A0_4 l0_4.length c0_4] 32 (0, 0)) (zK BK149.out) hb)
     have n4_ := Aside0.mk (below_step (by repeat (first | (with_reducible first | exact HB.out | apply below_alloc | apply pw_below_drewN | apply below_drew1 | refine below_set ?_ GE149.out) | exact HB.out)) hb)
     clear HO152
     clear HO155
     clear BK149
     clear HB
     have HO152 := n0_
     have HO155 := n1_
     have HO161 := n2_
     have BK149 := n3_
     have HB := n4_
     clear n0_ n1_ n2_ n3_ n4_
     clear hb ho12
     refine hK.out _ _ ⟨(blk_cell BK149.out 0).trans rfl, (blk_cell BK149.out 1).trans rfl, (blk_cell BK149.out 2).trans rfl, (blk_cell BK149.out 3).trans rfl, (blk_cell BK149.out 4).trans rfl⟩ (fun hHeld => ?_)
     clear hK K
     refine norm_ (a' := ?_) ?_ ?_
     rotate_left
     ·show Act.put _ (some 28) _ = _
      simp only [Act.put, List.setIfInBounds_toArray, List.set_cons_zero, List.set_cons_succ, i64_w, i32_w]
      rfl
     refine one_ (i := 3) (N := some 24) #[true, true, true, true, true, true, true, true, false, false] rfl rfl (one_of HT_.out (by kernel_rfl)) (by decide) (fun K hK => ?_)
     refine Kd.R_make_step (Kd.int .i64) _ 3 (by rfl) (N := 24) rfl 22 _ _ rfl (l0_4.length : Int) rfl rfl Try.underlying22 (.int .i64 0) 8 info3 rfl (by decide) (by omega) 0 (ok := fun _ => True) (okp := fun _ => True) rfl (fun _ hk => hk) trivial (zO) (Nat.le_trans (Nat.mul_le_mul_right _ (zO : (l0_4.length : Int).toNat ≤ 35184372088832)) (by omega)) (Below.refl _ _) (Nat.le_refl _) ?_
     intro v157 w13 ho14 hb hg_ hnew_
     clear hg_ hnew_
     (first | rw [← Ny156.out] at ho14 | (simp only [Int.reduceToNat] at ho14; rw [← Ny156.out] at ho14))
     have n0_ := Aside0.mk (Kd.R_elder' (zR HO152.out) (Kd.R_base ho14) hb)
     have n1_ := Aside0.mk (Kd.S_elder' (zS HO155.out) (Kd.R_base ho14) hb)
     have n2_ := Aside0.mk (Kd.R_elder' (zR HO161.out) (Kd.R_base ho14) hb)
     have n3_ := Aside0.mk (Kd.R_lower (Kd.R_new' (Kd.R_new' ho14 (Kd.R_lt (zR HO152.out))) (Kd.R_lt (zR HO161.out))) (below_size (by repeat (first | (with_reducible first | exact HB.out | apply below_alloc | apply pw_below_drewN | apply below_drew1 | refine below_set ?_ GE149.out) | exact HB.out))))
     have n4_ := Aside0.mk (blk_below (g := gb149) (o := .cells #[.string a0_0, .int .i64 a0_1, .int .i64 a0_2, .slice A0_3 l0_3.length c0_3, .slice A0_4 l0_4.length c0_4] 32 (0, 0)) (zK BK149.out) hb)
     have n5_ := Aside0.mk (below_step (by repeat (first | (with_reducible first | exact HB.out | apply below_alloc | apply pw_below_drewN | apply below_drew1 | refine below_set ?_ GE149.out) | exact HB.out)) hb)
     clear HO152
     clear HO155
     clear HO161
     clear BK149
     clear HB
     have HO152 := n0_
     have HO155 := n1_
     have HO161 := n2_
     have HO158 := n3_
     have BK149 := n4_
     have HB := n5_
     clear n0_ n1_ n2_ n3_ n4_ n5_
     clear hb ho14
     refine hK.out _ _ ⟨(blk_cell BK149.out 0).trans rfl, (blk_cell BK149.out 1).trans rfl, (blk_cell BK149.out 2).trans rfl, (blk_cell BK149.out 3).trans rfl, (blk_cell BK149.out 4).trans rfl⟩ (fun hHeld => ?_)
     clear hK K
     refine norm_ (a' := ?_) ?_ ?_
     rotate_left
     ·show Act.put _ (some 24) _ = _
      simp only [Act.put, List.setIfInBounds_toArray, List.set_cons_zero, List.set_cons_succ, i64_w, i32_w]
      rfl
     refine pure_ (i := 8) (N := some 5) (v := ?_) (a' := ?_) #[true, true, true, true, true, true, true, true, true, false] rfl rfl (any_of HT_.out (by kernel_rfl)) (fun _ _ _ h => h) (Or.inl ⟨by rfl, ?_⟩) ?_ ?_
     rotate_left
     ·intro w'
      go_simp
      with_reducible rfl
     rotate_left
     ·simp only [Act.put, List.setIfInBounds_toArray, List.set_cons_zero, List.set_cons_succ, i64_w, i32_w]
      rfl
     exact norm_ (by simp only [putAll, Act.put, List.setIfInBounds_toArray, List.set_cons_zero, List.set_cons_succ]) (hCont (v157, v160) _ ⟨hHeld, (by (with_reducible repeat (first | apply Kd.R_alloc | apply Kd.R_drewN | apply Kd.R_drew)); exact Kd.R_mono HO152.out (fun _ hk => ⟨hk.2, hk.1.2⟩)), (by (with_reducible repeat (first | apply Kd.S_alloc | apply Kd.S_drewN | apply Kd.S_drew)); exact Kd.S_mono HO155.out (fun _ hk => ⟨hk.1.1.2, ⟨hk.2, hk.1.2⟩⟩)), (by (with_reducible repeat (first | apply Kd.R_alloc | apply Kd.R_drewN | apply Kd.R_drew)); exact Kd.R_mono HO158.out (fun _ hk => ⟨hk.1.2, hk.2⟩)), (by (with_reducible repeat (first | apply Kd.R_alloc | apply Kd.R_drewN | apply Kd.R_drew)); exact Kd.R_mono HO161.out (fun _ hk => ⟨hk.1.2, hk.2⟩)), (zK BK149.out), (by repeat (first | (with_reducible first | exact HB.out | apply below_alloc | apply pw_below_drewN | apply below_drew1 | refine below_set ?_ GE149.out) | exact HB.out))⟩)
   rintro ⟨v157, v160⟩ w15 ⟨hS_, h0_, h1_, h2_, h3_, h4_, h5_⟩
   have n0_ : Aside0 (Kd.R (Kd.int .i64) 3 w15 w.heap.size (fun k_ => some k_ ≠ (v157 : Value).ownBlock ∧ some k_ ≠ (v160 : Value).ownBlock) v151 t150) := ⟨h0_⟩
   have n1_ : Aside0 (Kd.S (Kd.slice 3 (Kd.int .i64)) 22 w15 w.heap.size (fun k_ => some k_ ≠ (v151 : Value).ownBlock ∧ some k_ ≠ (v157 : Value).ownBlock ∧ some k_ ≠ (v160 : Value).ownBlock) v154 t153) := ⟨h1_⟩
   have n2_ : Aside0 (Kd.R (Kd.int .i64) 3 w15 w.heap.size (fun k_ => some k_ ≠ (v151 : Value).ownBlock ∧ some k_ ≠ (v160 : Value).ownBlock) v157 y156) := ⟨h2_⟩
   have n3_ : Aside0 (Kd.R (Kd.int .i64) 3 w15 w.heap.size (fun k_ => some k_ ≠ (v151 : Value).ownBlock ∧ some k_ ≠ (v157 : Value).ownBlock) v160 y159) := ⟨h3_⟩
   have n4_ : Aside0 (w15.heap[gb149]? = some (.cells #[.string a0_0, .int .i64 a0_1, .int .i64 a0_2, .slice A0_3 l0_3.length c0_3, .slice A0_4 l0_4.length c0_4] 32 (0, 0))) := ⟨h4_⟩
   have n5_ : Aside0 (Below w.heap.size w w15) := ⟨h5_⟩
   clear HO152
   clear HO155
   clear BK149
   clear HB
   clear h0_ h1_ h2_ h3_ h4_ h5_
   have HO152 := n0_
   have HO155 := n1_
   have HO158 := n2_
   have HO161 := n3_
   have BK149 := n4_
   have HB := n5_
   clear n0_ n1_ n2_ n3_ n4_ n5_
   have hHeld : w15.cell? ⟨gb149, 0, none⟩ = some (.string a0_0) ∧ w15.cell? ⟨gb149, 1, none⟩ = some (.int .i64 a0_1) ∧ w15.cell? ⟨gb149, 2, none⟩ = some (.int .i64 a0_2) ∧ w15.cell? ⟨gb149, 3, none⟩ = some (.slice A0_3 l0_3.length c0_3) ∧ w15.cell? ⟨gb149, 4, none⟩ = some (.slice A0_4 l0_4.length c0_4) := hS_
   refine norm_ (a' := ?_) ?_ ?_
   rotate_left
   ·simp only [putAll, Act.put, List.setIfInBounds_toArray, List.set_cons_zero, List.set_cons_succ]
    rfl
   refine pure_ (i := 9) (N := some 6) (v := ?_) (a' := ?_) #[true, true, true, true, true, true, true, true, true, true] rfl rfl (any_of HT_.out (by kernel_rfl)) (fun _ _ _ h => h) (Or.inl ⟨by rfl, ?_⟩) ?_ ?_
   rotate_left
   ·intro w'
    go_simp
    with_reducible rfl
   rotate_left
   ·simp only [Act.put, List.setIfInBounds_toArray, List.set_cons_zero, List.set_cons_succ, i64_w, i32_w]
    rfl
   refine done_ (done_of HT_.out (by kernel_rfl)) ?_
   obtain ⟨Ao16, co16, eo16⟩ := Kd.R_slice HO158.out
   subst eo16
   try go_wp2
   go_loopg [31] k (fun kq v31 w' => ∃ (x5_1 : List Int) (x6_1 : List Int) (x31_1 : Int), v31 = .int .i64 x31_1 ∧ Aside0 (dom_Tree.l0 kq t150 t153 x5_1 x6_1 (y156.length : Int) x31_1 = some r) ∧ Aside0 (kq ≤ k) ∧ Aside0 (Kd.R (Kd.int .i64) 3 w' w.heap.size (fun k_ => some k_ ≠ ((.slice Ao16 y156.length co16) : Value).ownBlock ∧ some k_ ≠ (v160 : Value).ownBlock) v151 t150) ∧ Aside0 (Kd.S (Kd.slice 3 (Kd.int .i64)) 22 w' w.heap.size (fun k_ => some k_ ≠ (v151 : Value).ownBlock ∧ some k_ ≠ ((.slice Ao16 y156.length co16) : Value).ownBlock ∧ some k_ ≠ (v160 : Value).ownBlock) v154 t153) ∧ Aside0 (Kd.R (Kd.int .i64) 3 w' w.heap.size (fun k_ => some k_ ≠ (v151 : Value).ownBlock ∧ some k_ ≠ (v160 : Value).ownBlock) (.slice Ao16 y156.length co16) x5_1) ∧ Aside0 (Kd.R (Kd.int .i64) 3 w' w.heap.size (fun k_ => some k_ ≠ (v151 : Value).ownBlock ∧ some k_ ≠ ((.slice Ao16 y156.length co16) : Value).ownBlock) v160 x6_1) ∧ Aside0 (w'.heap[gb149]? = some (.cells #[.string a0_0, .int .i64 a0_1, .int .i64 a0_2, (.slice A0_3 l0_3.length c0_3), (.slice A0_4 l0_4.length c0_4)] 32 (0, 0))) ∧ Aside0 (Below w.heap.size w w'))
   case atStart => exact ⟨(y156), (y159), (0), zQ, H', ⟨Nat.le_refl _⟩, ⟨zR HO152.out⟩, ⟨zS HO155.out⟩, ⟨zR HO158.out⟩, ⟨zR HO161.out⟩, ⟨zK BK149.out⟩, ⟨by repeat (first | (with_reducible first | exact HB.out | apply below_alloc | apply pw_below_drewN | apply below_drew1 | refine below_set ?_ GE149.out) | exact HB.out)⟩⟩
   case round =>
    clear H'
    try clear c1
    try clear p2
    try clear c4
    try clear c4b0
    try clear c4b1
    try clear c5
    try clear c5b0
    try clear c5b1
    obtain ⟨x5_1, x6_1, x31_1, rfl, HA, HK1, HO_3, HO_4, HO_5, HO_6, BK149, HB⟩ := hrel
    have hl5_1 := (Kd.R_reads' HO_5.out).1
    rw [hl5_1] at HO_5
    (try simp only [hl5_1])
    (try simp only [hl5_1] at BK149)
    (try simp only [hl5_1] at HO_3)
    (try simp only [hl5_1] at HO_4)
    (try simp only [hl5_1] at HO_6)
    cases gk with
    | zero => exact absurd HA.out (by simp [dom_Tree.l0])
    | succ k1 =>
     have H := HA.out
     clear HA
     simp only [dom_Tree.l0] at H
     by_cases c17 : x31_1 < (y156.length : Int)
     ·rw [if_pos c17] at H
      have c17b0 : decide (x31_1 < (y156.length : Int)) = true := decide_eq_true c17
      (try (have c17b0h := c17b0; simp only [hl5_1] at c17b0h))
      clear c17
      by_cases c18 : 0 ≤ x31_1
      ·rw [if_pos c18] at H
       have c18b0 : decide (0 ≤ x31_1) = true := decide_eq_true c18
       (try (have c18b0h := c18b0; simp only [hl5_1] at c18b0h))
       clear c18
       by_cases c19 : x31_1 < (x5_1.length : Int)
       ·rw [if_pos c19] at H
        have c19b0 : decide (x31_1 < (x5_1.length : Int)) = true := decide_eq_true c19
        (try (have c19b0h := c19b0; simp only [hl5_1] at c19b0h))
        clear c19
        obtain ⟨y162, hy162⟩ : ∃ y_ : List Int, y_ = (x5_1.set (x31_1 : Int).toNat (-1)) := ⟨_, rfl⟩
        replace H : (if x31_1 < (x6_1.length : Int) then (dom_Tree.l0 k1 t150 t153 y162 (x6_1.set (x31_1 : Int).toNat (-1)) (y156.length : Int) (wrap64 (x31_1 + 1))) else (none)) = some r := by first | (rw [hy162]; with_reducible exact H) | (have H2_ := (Option.bind_some _ _).symm.trans H; rw [hy162]; with_reducible exact H2_) | (have H2_ := (Option.bind_some _ _).symm.trans H; with_reducible exact H2_) | with_reducible exact H | (rw [hy162]; exact H) | exact H
        have Ny162 := Aside0.mk hy162
        clear hy162
        by_cases c21 : x31_1 < (x6_1.length : Int)
        ·rw [if_pos c21] at H
         have c21b0 : decide (x31_1 < (x6_1.length : Int)) = true := decide_eq_true c21
         (try (have c21b0h := c21b0; simp only [hl5_1] at c21b0h))
         clear c21
         obtain ⟨y163, hy163⟩ : ∃ y_ : List Int, y_ = (x6_1.set (x31_1 : Int).toNat (-1)) := ⟨_, rfl⟩
         replace H : (dom_Tree.l0 k1 t150 t153 y162 y163 (y156.length : Int) (wrap64 (x31_1 + 1))) = some r := by first | (rw [hy163]; with_reducible exact H) | (have H2_ := (Option.bind_some _ _).symm.trans H; rw [hy163]; with_reducible exact H2_) | (have H2_ := (Option.bind_some _ _).symm.trans H; with_reducible exact H2_) | with_reducible exact H | (rw [hy163]; exact H) | exact H
         have Ny163 := Aside0.mk hy163
         clear hy163
         have H' := Aside0.mk H
         clear H
         have p20 : 0 ≤ (x31_1 : Int) := zO
         have q20 : (x31_1 : Int) < ((x5_1.length : Int) : Int) := zO
         obtain ⟨go20, co20, eo20, gb20, gl20, cl20, HG20⟩ := Kd.R_form HO_5.out (by omega)
         (first | cases eo20 | (injection eo20 with ea_ en_ ec_; (first | subst ea_ | (injection ea_ with ea_; subst ea_)); subst ec_; clear en_))
         have GB20 := Aside0.mk gb20
         have GG20 := Aside0.mk HG20
         clear gb20 gl20 HG20
         obtain ⟨hx20_0, hf20_0⟩ := Kd.R_celln 0 HO_5.out (x31_1 : Int) p20 q20
         replace p20 := eq_true p20
         replace q20 := eq_true q20
         have HP23 := Kd.R_putg HO_5.out (x31_1 : Int) (-1)
         go_wp2_with (first | ((with_reducible refine gate_store (t := 3) (p := 38) rfl ?_); refine store_event (t := 3) (p := 38) (v := ?vo_w24) (w1 := (wr.setCell ⟨go20, (x31_1 : Int).toNat, none⟩ (.int .i64 (-1)))) ?hg ?ho ?hn ?hr ?_; (case ho => rfl); (case hg => rfl); (case hn => rfl); (case hr => first | (go_simp; done) | (go_simp; rfl)); intro w24 hw; have hg : wr.grownBy w24 (some go20) := (by rw [hw]; exact HP23.2); have hp_ : Kd.R (Kd.int .i64) 3 w24 w.heap.size (fun k_ => some k_ ≠ (v151 : Value).ownBlock ∧ some k_ ≠ (v160 : Value).ownBlock) (.slice (some ⟨go20, 0, none⟩) x5_1.length co16) y162 := (by rw [hw, Ny162.out]; exact HP23.1); clear HP23; have n0_ := Aside0.mk (Kd.R_after (v := (.slice (some ⟨go20, 0, none⟩) x5_1.length co16)) (v1 := (.slice (some ⟨go20, 0, none⟩) x5_1.length co16)) (ok := (fun k_ => some k_ ≠ (v160 : Value).ownBlock)) (by (with_reducible repeat (first | apply Kd.R_alloc | apply Kd.R_drewN | apply Kd.R_drew)); exact Kd.R_mono HO_3.out (fun _ hk => ⟨hk.2, hk.1⟩)) hg (.inl rfl)); have n1_ := Aside0.mk (Kd.S_after (v := (.slice (some ⟨go20, 0, none⟩) x5_1.length co16)) (v1 := (.slice (some ⟨go20, 0, none⟩) x5_1.length co16)) (ok := (fun k_ => some k_ ≠ (v151 : Value).ownBlock ∧ some k_ ≠ (v160 : Value).ownBlock)) (by (with_reducible repeat (first | apply Kd.S_alloc | apply Kd.S_drewN | apply Kd.S_drew)); exact Kd.S_mono HO_4.out (fun _ hk => ⟨⟨hk.1, hk.2.2⟩, hk.2.1⟩)) hg (.inl rfl)); have n2_ := Aside0.mk (hp_); have n3_ := Aside0.mk (Kd.R_after (v := (.slice (some ⟨go20, 0, none⟩) x5_1.length co16)) (v1 := (.slice (some ⟨go20, 0, none⟩) x5_1.length co16)) (ok := (fun k_ => some k_ ≠ (v151 : Value).ownBlock)) (zR HO_6.out) hg (.inl rfl)); have n4_ := Aside0.mk (blk_grown (g := gb149) (o := .cells #[.string a0_0, .int .i64 a0_1, .int .i64 a0_2, .slice A0_3 l0_3.length c0_3, .slice A0_4 l0_4.length c0_4] 32 (0, 0)) (zK BK149.out) hg (Kd.R_ne HO_5.out BK149.out (by decide))); have n5_ := Aside0.mk ((by rw [hw]; exact below_set (HB.out) GB20.out : Below w.heap.size w w24)); clear HO_3; clear HO_4; clear HO_5; clear HO_6; clear BK149; clear HB; have HO_3 := n0_; have HO_4 := n1_; have HO_5 := n2_; have HO_6 := n3_; have BK149 := n4_; have HB := n5_; clear n0_ n1_ n2_ n3_ n4_ n5_; clear hg hw hp_; have p22 : 0 ≤ (x31_1 : Int) := zO; have q22 : (x31_1 : Int) < ((x6_1.length : Int) : Int) := zO; obtain ⟨go22, co22, eo22, gb22, gl22, cl22, HG22⟩ := Kd.R_form HO_6.out (by omega); (first | cases eo22 | (injection eo22 with ea_ en_ ec_; (first | subst ea_ | (injection ea_ with ea_; subst ea_)); subst ec_; clear en_)); have GB22 := Aside0.mk gb22; have GG22 := Aside0.mk HG22; clear gb22 gl22 HG22; obtain ⟨hx22_0, hf22_0⟩ := Kd.R_celln 0 HO_6.out (x31_1 : Int) p22 q22; replace p22 := eq_true p22; replace q22 := eq_true q22; obtain ⟨hy25_, hz25_⟩ := Kd.R_celln 0 HO_6.out (x31_1 : Int) (zO) (zO); have HP25 := Kd.R_putg HO_6.out (x31_1 : Int) (-1)) | ((with_reducible refine gate_store (t := 3) (p := 39) rfl ?_); refine store_event (t := 3) (p := 39) (v := ?vo_w26) (w1 := (w24.setCell ⟨go22, (x31_1 : Int).toNat, none⟩ (.int .i64 (-1)))) ?hg ?ho ?hn ?hr ?_; (case ho => rfl); (case hg => rfl); (case hn => rfl); (case hr => first | (go_simp; done) | (go_simp; rfl)); intro w26 hw; have hg : w24.grownBy w26 (some go22) := (by rw [hw]; exact HP25.2); have hp_ : Kd.R (Kd.int .i64) 3 w26 w.heap.size (fun k_ => some k_ ≠ (v151 : Value).ownBlock ∧ some k_ ≠ (.slice (some ⟨go20, 0, none⟩) x5_1.length co16 : Value).ownBlock) (.slice (some ⟨go22, 0, none⟩) x6_1.length co22) y163 := (by rw [hw, Ny163.out]; exact HP25.1); clear HP25; have n0_ := Aside0.mk (Kd.R_after (v := (.slice (some ⟨go22, 0, none⟩) x6_1.length co22)) (v1 := (.slice (some ⟨go22, 0, none⟩) x6_1.length co22)) (ok := (fun k_ => some k_ ≠ (.slice (some ⟨go20, 0, none⟩) x5_1.length co16 : Value).ownBlock)) (by (with_reducible repeat (first | apply Kd.R_alloc | apply Kd.R_drewN | apply Kd.R_drew)); exact Kd.R_mono HO_3.out (fun _ hk => ⟨hk.2, hk.1⟩)) hg (.inl rfl)); have n1_ := Aside0.mk (Kd.S_after (v := (.slice (some ⟨go22, 0, none⟩) x6_1.length co22)) (v1 := (.slice (some ⟨go22, 0, none⟩) x6_1.length co22)) (ok := (fun k_ => some k_ ≠ (v151 : Value).ownBlock ∧ some k_ ≠ (.slice (some ⟨go20, 0, none⟩) x5_1.length co16 : Value).ownBlock)) (by (with_reducible repeat (first | apply Kd.S_alloc | apply Kd.S_drewN | apply Kd.S_drew)); exact Kd.S_mono HO_4.out (fun _ hk => ⟨⟨hk.1.1, hk.2⟩, hk.1.2⟩)) hg (.inl rfl)); have n2_ := Aside0.mk (Kd.R_after (v := (.slice (some ⟨go22, 0, none⟩) x6_1.length co22)) (v1 := (.slice (some ⟨go22, 0, none⟩) x6_1.length co22)) (ok := (fun k_ => some k_ ≠ (v151 : Value).ownBlock)) (zR HO_5.out) hg (.inl rfl)); have n3_ := Aside0.mk (hp_); have n4_ := Aside0.mk (blk_grown (g := gb149) (o := .cells #[.string a0_0, .int .i64 a0_1, .int .i64 a0_2, .slice A0_3 l0_3.length c0_3, .slice A0_4 l0_4.length c0_4] 32 (0, 0)) (zK BK149.out) hg (Kd.R_ne HO_6.out BK149.out (by decide))); have n5_ := Aside0.mk ((by rw [hw]; exact below_set (HB.out) GB22.out : Below w.heap.size w w26)); clear HO_3; clear HO_4; clear HO_5; clear HO_6; clear BK149; clear HB; have HO_3 := n0_; have HO_4 := n1_; have HO_5 := n2_; have HO_6 := n3_; have BK149 := n4_; have HB := n5_; clear n0_ n1_ n2_ n3_ n4_ n5_; clear hg hw hp_))
         (try simp only [← hl5_1])
         go_roundg k1
         case measure => have := HK1.out; omega
         case rel => exact ⟨(y162), (y163), (wrap64 (x31_1 + 1)), zQ, H', ⟨by have := HK1.out; omega⟩, ⟨by (try simp only [hl5_1]); (with_reducible repeat (first | apply Kd.R_alloc | apply Kd.R_drewN | apply Kd.R_drew)); exact HO_3.out⟩, ⟨by (try simp only [hl5_1]); (with_reducible repeat (first | apply Kd.S_alloc | apply Kd.S_drewN | apply Kd.S_drew)); exact Kd.S_mono HO_4.out (fun _ hk => ⟨hk.1.1, ⟨hk.1.2, hk.2⟩⟩)⟩, ⟨by (try simp only [hl5_1]); (with_reducible repeat (first | apply Kd.R_alloc | apply Kd.R_drewN | apply Kd.R_drew)); exact HO_5.out⟩, ⟨by (try simp only [hl5_1]); (with_reducible repeat (first | apply Kd.R_alloc | apply Kd.R_drewN | apply Kd.R_drew)); exact HO_6.out⟩, ⟨by (try simp only [hl5_1]); (with_reducible repeat (first | refine blk_drewN ?_ _ | refine blk_drew ?_ | refine blk_alloc ?_ _)); exact BK149.out⟩, ⟨by repeat (first | (with_reducible first | exact HB.out | apply below_alloc | apply pw_below_drewN | apply below_drew1 | refine below_set ?_ GE149.out) | exact HB.out)⟩⟩
        ·rw [if_neg c21] at H
         exact absurd H (by simp)
       ·rw [if_neg c19] at H
        exact absurd H (by simp)
      ·rw [if_neg c18] at H
       exact absurd H (by simp)
     ·rw [if_neg c17] at H
      have c17b0 : decide (x31_1 < (y156.length : Int)) = false := decide_eq_false c17
      (try (have c17b0h := c17b0; simp only [hl5_1] at c17b0h))
      clear c17
      have H' := Aside0.mk H
      clear H
      obtain ⟨Ao27, co27, eo27⟩ := Kd.R_slice HO_3.out
      subst eo27
      go_wp2
      go_loopg [43] k1 (fun kq v43 w' => ∃ (x6_2 : List Int) (x43_2 : Int), v43 = .int .i64 x43_2 ∧ Aside0 (dom_Tree.l1 kq t150 t153 x5_1 x6_2 t150 (t150.length : Int) x43_2 = some r) ∧ Aside0 (kq ≤ k1) ∧ Aside0 (Kd.R (Kd.int .i64) 3 w' w.heap.size (fun k_ => some k_ ≠ ((.slice Ao16 x5_1.length co16) : Value).ownBlock ∧ some k_ ≠ (v160 : Value).ownBlock) (.slice Ao27 t150.length co27) t150) ∧ Aside0 (Kd.S (Kd.slice 3 (Kd.int .i64)) 22 w' w.heap.size (fun k_ => some k_ ≠ ((.slice Ao27 t150.length co27) : Value).ownBlock ∧ some k_ ≠ ((.slice Ao16 x5_1.length co16) : Value).ownBlock ∧ some k_ ≠ (v160 : Value).ownBlock ∧ some k_ ≠ ((.slice Ao27 t150.length co27) : Value).ownBlock) v154 t153) ∧ Aside0 (Kd.R (Kd.int .i64) 3 w' w.heap.size (fun k_ => some k_ ≠ ((.slice Ao27 t150.length co27) : Value).ownBlock ∧ some k_ ≠ (v160 : Value).ownBlock ∧ some k_ ≠ ((.slice Ao27 t150.length co27) : Value).ownBlock) (.slice Ao16 x5_1.length co16) x5_1) ∧ Aside0 (Kd.R (Kd.int .i64) 3 w' w.heap.size (fun k_ => some k_ ≠ ((.slice Ao27 t150.length co27) : Value).ownBlock ∧ some k_ ≠ ((.slice Ao16 x5_1.length co16) : Value).ownBlock ∧ some k_ ≠ ((.slice Ao27 t150.length co27) : Value).ownBlock) v160 x6_2) ∧ Aside0 (Kd.R (Kd.int .i64) 3 w' w.heap.size (fun k_ => some k_ ≠ ((.slice Ao16 x5_1.length co16) : Value).ownBlock ∧ some k_ ≠ (v160 : Value).ownBlock) (.slice Ao27 t150.length co27) t150) ∧ Aside0 (w'.heap[gb149]? = some (.cells #[.string a0_0, .int .i64 a0_1, .int .i64 a0_2, (.slice A0_3 l0_3.length c0_3), (.slice A0_4 l0_4.length c0_4)] 32 (0, 0))) ∧ Aside0 (Below w.heap.size w w'))
      case atStart => exact ⟨(x6_1), (0), zQ, H', ⟨Nat.le_refl _⟩, ⟨by (try simp only [hl5_1]); (with_reducible repeat (first | apply Kd.R_alloc | apply Kd.R_drewN | apply Kd.R_drew)); exact HO_3.out⟩, ⟨by (try simp only [hl5_1]); (with_reducible repeat (first | apply Kd.S_alloc | apply Kd.S_drewN | apply Kd.S_drew)); exact Kd.S_mono HO_4.out (fun _ hk => ⟨hk.1, ⟨hk.2.1, ⟨hk.2.2, hk.1⟩⟩⟩)⟩, ⟨by (try simp only [hl5_1]); (with_reducible repeat (first | apply Kd.R_alloc | apply Kd.R_drewN | apply Kd.R_drew)); exact Kd.R_mono HO_5.out (fun _ hk => ⟨hk.1, ⟨hk.2, hk.1⟩⟩)⟩, ⟨by (try simp only [hl5_1]); (with_reducible repeat (first | apply Kd.R_alloc | apply Kd.R_drewN | apply Kd.R_drew)); exact Kd.R_mono HO_6.out (fun _ hk => ⟨hk.1, ⟨hk.2, hk.1⟩⟩)⟩, ⟨by (try simp only [hl5_1]); (with_reducible repeat (first | apply Kd.R_alloc | apply Kd.R_drewN | apply Kd.R_drew)); exact HO_3.out⟩, ⟨by (try simp only [hl5_1]); (with_reducible repeat (first | refine blk_drewN ?_ _ | refine blk_drew ?_ | refine blk_alloc ?_ _)); exact BK149.out⟩, ⟨by repeat (first | (with_reducible first | exact HB.out | apply below_alloc | apply pw_below_drewN | apply below_drew1 | refine below_set ?_ GE149.out) | exact HB.out)⟩⟩
      case round =>
       clear H'
       try clear c1
       try clear c2
       try clear p2
       try clear q2
       try clear hx2
       try clear hf2
       try clear c4
       try clear c4b0
       try clear c4b1
       try clear c5
       try clear c5b0
       try clear c5b1
       try clear p6
       try clear c17
       try clear c17b0
       try clear c18
       try clear c18b0
       try clear c19
       try clear c19b0
       try clear p20
       try clear q20
       try clear hx20
       try clear hf20
       try clear c21
       try clear c21b0
       try clear p22
       try clear q22
       try clear hx22
       try clear hf22
       try clear hx20_0
       try clear hx22_0
       try clear p2
       try clear p20
       try clear p22
       try clear q20
       try clear q22
       obtain ⟨x6_2, x43_2, rfl, HA, HK2, HO_3, HO_4, HO_5, HO_6, HO_41, BK149, HB⟩ := hrel
       cases gk with
       | zero => exact absurd HA.out (by simp [dom_Tree.l1])
       | succ k2 =>
        have H := HA.out
        clear HA
        simp only [dom_Tree.l1] at H
        by_cases c28 : x43_2 < (t150.length : Int)
        ·rw [if_pos c28] at H
         have c28b0 : decide (x43_2 < (t150.length : Int)) = true := decide_eq_true c28
         (try (have c28b0h := c28b0; simp only [hl5_1] at c28b0h))
         clear c28
         by_cases c29 : 0 ≤ x43_2
         ·rw [if_pos c29] at H
          have c29b0 : decide (0 ≤ x43_2) = true := decide_eq_true c29
          (try (have c29b0h := c29b0; simp only [hl5_1] at c29b0h))
          clear c29
          by_cases c30 : x43_2 < (t150.length : Int)
          ·rw [if_pos c30] at H
           have c30b0 : decide (x43_2 < (t150.length : Int)) = true := decide_eq_true c30
           (try (have c30b0h := c30b0; simp only [hl5_1] at c30b0h))
           clear c30
           by_cases c31 : 0 ≤ (rd t150 x43_2)
           ·rw [if_pos c31] at H
            have c31b0 : decide (0 ≤ (rd t150 x43_2)) = true := decide_eq_true c31
            (try (have c31b0h := c31b0; simp only [hl5_1] at c31b0h))
            clear c31
            by_cases c32 : (rd t150 x43_2) < (x6_2.length : Int)
            ·rw [if_pos c32] at H
             have c32b0 : decide ((rd t150 x43_2) < (x6_2.length : Int)) = true := decide_eq_true c32
             (try (have c32b0h := c32b0; simp only [hl5_1] at c32b0h))
             clear c32
             obtain ⟨y165, hy165⟩ : ∃ y_ : List Int, y_ = (x6_2.set ((rd t150 x43_2) : Int).toNat x43_2) := ⟨_, rfl⟩
             replace H : (dom_Tree.l1 k2 t150 t153 x5_1 y165 t150 (t150.length : Int) (wrap64 (x43_2 + 1))) = some r := by first | (rw [hy165]; with_reducible exact H) | (have H2_ := (Option.bind_some _ _).symm.trans H; rw [hy165]; with_reducible exact H2_) | (have H2_ := (Option.bind_some _ _).symm.trans H; with_reducible exact H2_) | with_reducible exact H | (rw [hy165]; exact H) | exact H
             have Ny165 := Aside0.mk hy165
             clear hy165
             have H' := Aside0.mk H
             clear H
             have p164 : 0 ≤ (x43_2 : Int) := zO
             have q164 : x43_2 < (t150.length : Int) := zO
             obtain ⟨ad164, e164, hx164_0⟩ := Kd.at_int (Kd.R_reads' HO_41.out).2.2 x43_2 p164 q164
             cases e164
             replace p164 := eq_true p164
             replace q164 := eq_true q164
             have p33 : 0 ≤ ((rd t150 x43_2) : Int) := zO
             have q33 : ((rd t150 x43_2) : Int) < ((x6_2.length : Int) : Int) := zO
             obtain ⟨go33, co33, eo33, gb33, gl33, cl33, HG33⟩ := Kd.R_form HO_6.out (by omega)
             (first | cases eo33 | (injection eo33 with ea_ en_ ec_; (first | subst ea_ | (injection ea_ with ea_; subst ea_)); subst ec_; clear en_))
             have GB33 := Aside0.mk gb33
             have GG33 := Aside0.mk HG33
             clear gb33 gl33 HG33
             obtain ⟨hx33_0, hf33_0⟩ := Kd.R_celln 0 HO_6.out ((rd t150 x43_2) : Int) p33 q33
             replace p33 := eq_true p33
             replace q33 := eq_true q33
             have HP34 := Kd.R_putg HO_6.out ((rd t150 x43_2) : Int) x43_2
             go_wp2_with (first | ((with_reducible refine gate_store (t := 3) (p := 51) rfl ?_); refine store_event (t := 3) (p := 51) (v := ?vo_w35) (w1 := (wr.setCell ⟨go33, ((rd t150 x43_2) : Int).toNat, none⟩ (.int .i64 x43_2))) ?hg ?ho ?hn ?hr ?_; (case ho => rfl); (case hg => rfl); (case hn => rfl); (case hr => first | (go_simp; done) | (go_simp; rfl)); intro w35 hw; have hg : wr.grownBy w35 (some go33) := (by rw [hw]; exact HP34.2); have hp_ : Kd.R (Kd.int .i64) 3 w35 w.heap.size (fun k_ => some k_ ≠ (.slice (some ad164) t150.length co27 : Value).ownBlock ∧ some k_ ≠ (.slice Ao16 x5_1.length co16 : Value).ownBlock ∧ some k_ ≠ (.slice (some ad164) t150.length co27 : Value).ownBlock) (.slice (some ⟨go33, 0, none⟩) x6_2.length co33) y165 := (by rw [hw, Ny165.out]; exact HP34.1); clear HP34; have n0_ := Aside0.mk (Kd.R_after (v := (.slice (some ⟨go33, 0, none⟩) x6_2.length co33)) (v1 := (.slice (some ⟨go33, 0, none⟩) x6_2.length co33)) (ok := (fun k_ => some k_ ≠ (.slice Ao16 x5_1.length co16 : Value).ownBlock)) (zR HO_3.out) hg (.inl rfl)); have n1_ := Aside0.mk (Kd.S_after (v := (.slice (some ⟨go33, 0, none⟩) x6_2.length co33)) (v1 := (.slice (some ⟨go33, 0, none⟩) x6_2.length co33)) (ok := (fun k_ => some k_ ≠ (.slice (some ad164) t150.length co27 : Value).ownBlock ∧ some k_ ≠ (.slice Ao16 x5_1.length co16 : Value).ownBlock ∧ some k_ ≠ (.slice (some ad164) t150.length co27 : Value).ownBlock)) (by (with_reducible repeat (first | apply Kd.S_alloc | apply Kd.S_drewN | apply Kd.S_drew)); exact Kd.S_mono HO_4.out (fun _ hk => ⟨⟨hk.1, ⟨hk.2.1, hk.2.2.2⟩⟩, hk.2.2.1⟩)) hg (.inl rfl)); have n2_ := Aside0.mk (Kd.R_after (v := (.slice (some ⟨go33, 0, none⟩) x6_2.length co33)) (v1 := (.slice (some ⟨go33, 0, none⟩) x6_2.length co33)) (ok := (fun k_ => some k_ ≠ (.slice (some ad164) t150.length co27 : Value).ownBlock ∧ some k_ ≠ (.slice (some ad164) t150.length co27 : Value).ownBlock)) (by (with_reducible repeat (first | apply Kd.R_alloc | apply Kd.R_drewN | apply Kd.R_drew)); exact Kd.R_mono HO_5.out (fun _ hk => ⟨⟨hk.1, hk.2.2⟩, hk.2.1⟩)) hg (.inl rfl)); have n3_ := Aside0.mk (hp_); have n4_ := Aside0.mk (Kd.R_after (v := (.slice (some ⟨go33, 0, none⟩) x6_2.length co33)) (v1 := (.slice (some ⟨go33, 0, none⟩) x6_2.length co33)) (ok := (fun k_ => some k_ ≠ (.slice Ao16 x5_1.length co16 : Value).ownBlock)) (zR HO_41.out) hg (.inl rfl)); have n5_ := Aside0.mk (blk_grown (g := gb149) (o := .cells #[.string a0_0, .int .i64 a0_1, .int .i64 a0_2, .slice A0_3 l0_3.length c0_3, .slice A0_4 l0_4.length c0_4] 32 (0, 0)) (zK BK149.out) hg (Kd.R_ne HO_6.out BK149.out (by decide))); have n6_ := Aside0.mk ((by rw [hw]; exact below_set (HB.out) GB33.out : Below w.heap.size w w35)); clear HO_3; clear HO_4; clear HO_5; clear HO_6; clear HO_41; clear BK149; clear HB; have HO_3 := n0_; have HO_4 := n1_; have HO_5 := n2_; have HO_6 := n3_; have HO_41 := n4_; have BK149 := n5_; have HB := n6_; clear n0_ n1_ n2_ n3_ n4_ n5_ n6_; clear hg hw hp_))
             go_roundg k2
             case measure => have := HK1.out; have := HK2.out; omega
             case rel => exact ⟨(y165), (wrap64 (x43_2 + 1)), zQ, H', ⟨by have := HK1.out; have := HK2.out; omega⟩, ⟨by (try simp only [hl5_1]); (with_reducible repeat (first | apply Kd.R_alloc | apply Kd.R_drewN | apply Kd.R_drew)); exact HO_3.out⟩, ⟨by (try simp only [hl5_1]); (with_reducible repeat (first | apply Kd.S_alloc | apply Kd.S_drewN | apply Kd.S_drew)); exact Kd.S_mono HO_4.out (fun _ hk => ⟨hk.1.1, ⟨hk.1.2.1, ⟨hk.2, hk.1.2.2⟩⟩⟩)⟩, ⟨by (try simp only [hl5_1]); (with_reducible repeat (first | apply Kd.R_alloc | apply Kd.R_drewN | apply Kd.R_drew)); exact Kd.R_mono HO_5.out (fun _ hk => ⟨hk.1.1, ⟨hk.2, hk.1.2⟩⟩)⟩, ⟨by (try simp only [hl5_1]); (with_reducible repeat (first | apply Kd.R_alloc | apply Kd.R_drewN | apply Kd.R_drew)); exact HO_6.out⟩, ⟨by (try simp only [hl5_1]); (with_reducible repeat (first | apply Kd.R_alloc | apply Kd.R_drewN | apply Kd.R_drew)); exact HO_41.out⟩, ⟨by (try simp only [hl5_1]); (with_reducible repeat (first | refine blk_drewN ?_ _ | refine blk_drew ?_ | refine blk_alloc ?_ _)); exact BK149.out⟩, ⟨by repeat (first | (with_reducible first | exact HB.out | apply below_alloc | apply pw_below_drewN | apply below_drew1 | refine below_set ?_ GE149.out) | exact HB.out)⟩⟩
            ·rw [if_neg c32] at H
             exact absurd H (by simp)
           ·rw [if_neg c31] at H
            exact absurd H (by simp)
          ·rw [if_neg c30] at H
           exact absurd H (by simp)
         ·rw [if_neg c29] at H
          exact absurd H (by simp)
        ·rw [if_neg c28] at H
         have c28b0 : decide (x43_2 < (t150.length : Int)) = false := decide_eq_false c28
         (try (have c28b0h := c28b0; simp only [hl5_1] at c28b0h))
         clear c28
         by_cases c36 : 0 ≤ (x5_1.length : Int)
         ·rw [if_pos c36] at H
          have c36b0 := eq_true c36
          have c36b1 : decide (0 ≤ (x5_1.length : Int)) = true := decide_eq_true c36
          clear c36
          by_cases c37 : ((x5_1.length : Int) : Int).toNat ≤ 281474976710656
          ·rw [if_pos c37] at H
           have c37b0 := eq_true c37
           have c37b1 : decide (((x5_1.length : Int) : Int).toNat ≤ 281474976710656) = true := decide_eq_true c37
           clear c37
           obtain ⟨y166, hy166⟩ : ∃ y_ : List Bool, y_ = (List.replicate ((x5_1.length : Int) : Int).toNat false) := ⟨_, rfl⟩
           replace H : (dom_Tree.l2 k2 t150 t153 x5_1 x6_2 y166) = some r := by first | (rw [hy166]; with_reducible exact H) | (have H2_ := (Option.bind_some _ _).symm.trans H; rw [hy166]; with_reducible exact H2_) | (have H2_ := (Option.bind_some _ _).symm.trans H; with_reducible exact H2_) | with_reducible exact H | (rw [hy166]; exact H) | exact H
           have Ny166 := Aside0.mk hy166
           clear hy166
           have H' := Aside0.mk H
           clear H
           go_wp2_with (first | ((with_reducible refine gate_dst (N := 55) rfl ?_); refine Kd.R_make Kd.bool _ 4 rfl (N := 55) rfl 45 _ _ rfl (x5_1.length : Int) rfl rfl Try.underlying45 (.bool false) 1 info4 rfl (by decide) (by omega) false (ok := fun _ => True) (okp := fun _ => True) rfl (fun _ hk => hk) trivial (zO) (Nat.le_trans (Nat.mul_le_mul_right _ (zO : (x5_1.length : Int).toNat ≤ 281474976710656)) (by omega)) (Below.refl _ _) (Nat.le_refl _) ?_; intro v167 w38 ho39 hb hg_ hnew_; clear hg_ hnew_; (first | rw [← Ny166.out] at ho39 | (simp only [Int.reduceToNat] at ho39; rw [← Ny166.out] at ho39)); have n0_ := Aside0.mk (Kd.R_below (zR HO_3.out) hb); have n1_ := Aside0.mk (Kd.S_below (zS HO_4.out) hb); have n2_ := Aside0.mk (Kd.R_below (zR HO_5.out) hb); have n3_ := Aside0.mk (Kd.R_below (zR HO_6.out) hb); have n4_ := Aside0.mk (Kd.R_below (zR HO_41.out) hb); have n5_ := Aside0.mk (Kd.R_lower ho39 (below_size (by repeat (first | (with_reducible first | exact HB.out | apply below_alloc | apply pw_below_drewN | apply below_drew1 | refine below_set ?_ GE149.out) | exact HB.out)))); have n6_ := Aside0.mk (blk_below (g := gb149) (o := .cells #[.string a0_0, .int .i64 a0_1, .int .i64 a0_2, .slice A0_3 l0_3.length c0_3, .slice A0_4 l0_4.length c0_4] 32 (0, 0)) (zK BK149.out) hb); have n7_ := Aside0.mk (below_step (by repeat (first | (with_reducible first | exact HB.out | apply below_alloc | apply pw_below_drewN | apply below_drew1 | refine below_set ?_ GE149.out) | exact HB.out)) hb); clear HO_3; clear HO_4; clear HO_5; clear HO_6; clear HO_41; clear BK149; clear HB; have HO_3 := n0_; have HO_4 := n1_; have HO_5 := n2_; have HO_6 := n3_; have HO_41 := n4_; have HO168 := n5_; have BK149 := n6_; have HB := n7_; clear n0_ n1_ n2_ n3_ n4_ n5_ n6_ n7_; clear hb ho39))
           go_step3
           go_wp2
           go_loopg [] k2 (fun kq w' => ∃ (x5_3 : List Int) (x10_3 : List Bool), Aside0 (dom_Tree.l2 kq t150 t153 x5_3 x6_2 x10_3 = some r) ∧ Aside0 (kq ≤ k2) ∧ Aside0 (Kd.R (Kd.int .i64) 3 w' w.heap.size (fun k_ => some k_ ≠ ((.slice Ao16 x5_1.length co16) : Value).ownBlock ∧ some k_ ≠ (v160 : Value).ownBlock) (.slice Ao27 t150.length co27) t150) ∧ Aside0 (Kd.S (Kd.slice 3 (Kd.int .i64)) 22 w' w.heap.size (fun k_ => some k_ ≠ ((.slice Ao27 t150.length co27) : Value).ownBlock ∧ some k_ ≠ ((.slice Ao16 x5_1.length co16) : Value).ownBlock ∧ some k_ ≠ (v160 : Value).ownBlock) v154 t153) ∧ Aside0 (Kd.R (Kd.int .i64) 3 w' w.heap.size (fun k_ => some k_ ≠ ((.slice Ao27 t150.length co27) : Value).ownBlock ∧ some k_ ≠ (v160 : Value).ownBlock) (.slice Ao16 x5_1.length co16) x5_3) ∧ Aside0 (Kd.R (Kd.int .i64) 3 w' w.heap.size (fun k_ => some k_ ≠ ((.slice Ao27 t150.length co27) : Value).ownBlock ∧ some k_ ≠ ((.slice Ao16 x5_1.length co16) : Value).ownBlock) v160 x6_2) ∧ Aside0 (Kd.R Kd.bool 4 w' w.heap.size (fun _ => True) v167 x10_3) ∧ Aside0 (w'.heap[gb149]? = some (.cells #[.string a0_0, .int .i64 a0_1, .int .i64 a0_2, (.slice A0_3 l0_3.length c0_3), (.slice A0_4 l0_4.length c0_4)] 32 (0, 0))) ∧ Aside0 (Below w.heap.size w w'))
           case atStart => exact ⟨(x5_1), (y166), H', ⟨Nat.le_refl _⟩, ⟨by (try simp only [hl5_1]); (with_reducible repeat (first | apply Kd.R_alloc | apply Kd.R_drewN | apply Kd.R_drew)); exact HO_3.out⟩, ⟨by (try simp only [hl5_1]); (with_reducible repeat (first | apply Kd.S_alloc | apply Kd.S_drewN | apply Kd.S_drew)); exact Kd.S_mono HO_4.out (fun _ hk => ⟨hk.1, ⟨hk.2.1, hk.2.2.1⟩⟩)⟩, ⟨by (try simp only [hl5_1]); (with_reducible repeat (first | apply Kd.R_alloc | apply Kd.R_drewN | apply Kd.R_drew)); exact Kd.R_mono HO_5.out (fun _ hk => ⟨hk.1, hk.2.1⟩)⟩, ⟨by (try simp only [hl5_1]); (with_reducible repeat (first | apply Kd.R_alloc | apply Kd.R_drewN | apply Kd.R_drew)); exact Kd.R_mono HO_6.out (fun _ hk => ⟨hk.1, hk.2.1⟩)⟩, ⟨by (try simp only [hl5_1]); (with_reducible repeat (first | apply Kd.R_alloc | apply Kd.R_drewN | apply Kd.R_drew)); exact HO168.out⟩, ⟨by (try simp only [hl5_1]); (with_reducible repeat (first | refine blk_drewN ?_ _ | refine blk_drew ?_ | refine blk_alloc ?_ _)); exact BK149.out⟩, ⟨by repeat (first | (with_reducible first | exact HB.out | apply below_alloc | apply pw_below_drewN | apply below_drew1 | refine below_set ?_ GE149.out) | exact HB.out)⟩⟩
           case round =>
            clear H'
            try clear c1
            try clear p1
            try clear q1
            try clear hx1
            try clear c2
            try clear p2
            try clear q2
            try clear hx2
            try clear hf2
            try clear c3
            try clear p3
            try clear q3
            try clear hx3
            try clear hf3
            try clear c4
            try clear c4b0
            try clear c4b1
            try clear c5
            try clear c5b0
            try clear c5b1
            try clear p6
            try clear p16
            try clear q16
            try clear hx16
            try clear c17
            try clear c17b0
            try clear c18
            try clear c18b0
            try clear c19
            try clear c19b0
            try clear p20
            try clear q20
            try clear hx20
            try clear hf20
            try clear c21
            try clear c21b0
            try clear p22
            try clear q22
            try clear hx22
            try clear hf22
            try clear c28
            try clear c28b0
            try clear c29
            try clear c29b0
            try clear c30
            try clear c30b0
            try clear c31
            try clear c31b0
            try clear c32
            try clear c32b0
            try clear p33
            try clear q33
            try clear hx33
            try clear hf33
            try clear c36
            try clear c36b0
            try clear c36b1
            try clear c37
            try clear c37b0
            try clear c37b1
            try clear hx164_0
            try clear hx20_0
            try clear hx22_0
            try clear hx33_0
            try clear p164
            try clear p2
            try clear p20
            try clear p22
            try clear p33
            try clear p6
            try clear q164
            try clear q2
            try clear q20
            try clear q22
            try clear q33
            obtain ⟨x5_3, x10_3, HA, HK3, HO_3, HO_4, HO_5, HO_6, HO_10, BK149, HB⟩ := hrel
            have hl5_3 := (Kd.R_reads' HO_5.out).1
            rw [hl5_3] at HO_5
            (try simp only [hl5_3])
            (try simp only [hl5_3] at BK149)
            (try simp only [hl5_3] at HO_3)
            (try simp only [hl5_3] at HO_4)
            (try simp only [hl5_3] at HO_6)
            (try simp only [hl5_3] at HO_10)
            cases gk with
            | zero => exact absurd HA.out (by simp [dom_Tree.l2])
            | succ k3 =>
             have H := HA.out
             clear HA
             simp only [dom_Tree.l2] at H
             by_cases c40 : (t150.length : Int) > 0
             ·rw [if_pos c40] at H
              have c40b0 : decide (0 < (t150.length : Int)) = true := decide_eq_true c40
              (try (have c40b0h := c40b0; simp only [hl5_1] at c40b0h))
              (try (have c40b0h := c40b0; simp only [hl5_3] at c40b0h))
              have c40b1 : decide (0 < t150.length) = true := decide_eq_true (by omega)
              (try (have c40b1h := c40b1; simp only [hl5_1] at c40b1h))
              (try (have c40b1h := c40b1; simp only [hl5_3] at c40b1h))
              clear c40
              by_cases c41 : 0 < (x10_3.length : Int)
              ·rw [if_pos c41] at H
               have c41b0 : decide (0 < (x10_3.length : Int)) = true := decide_eq_true c41
               (try (have c41b0h := c41b0; simp only [hl5_1] at c41b0h))
               (try (have c41b0h := c41b0; simp only [hl5_3] at c41b0h))
               have c41b1 : decide (0 < x10_3.length) = true := decide_eq_true (by omega)
               (try (have c41b1h := c41b1; simp only [hl5_1] at c41b1h))
               (try (have c41b1h := c41b1; simp only [hl5_3] at c41b1h))
               clear c41
               obtain ⟨y169, hy169⟩ : ∃ y_ : List Bool, y_ = (x10_3.set (0 : Int).toNat true) := ⟨_, rfl⟩
               replace H : (if 1 ≤ (t150.length : Int) then ((some (t150.drop 1 : List Int)).bind fun y170 => (dom_Tree.l3 k3 t150 t153 x5_3 x6_2 y169 false y170 (y170.length : Int) 0)) else (none)) = some r := by first | (rw [hy169]; with_reducible exact H) | (have H2_ := (Option.bind_some _ _).symm.trans H; rw [hy169]; with_reducible exact H2_) | (have H2_ := (Option.bind_some _ _).symm.trans H; with_reducible exact H2_) | with_reducible exact H | (rw [hy169]; exact H) | exact H
               have Ny169 := Aside0.mk hy169
               clear hy169
               by_cases c43 : 1 ≤ (t150.length : Int)
               ·rw [if_pos c43] at H
                have c43b0 := eq_true c43
                have c43b1 : decide (1 ≤ (t150.length : Int)) = true := decide_eq_true c43
                clear c43
                obtain ⟨y170, hy170⟩ : ∃ y_ : List Int, y_ = (t150.drop 1) := ⟨_, rfl⟩
                replace H : (dom_Tree.l3 k3 t150 t153 x5_3 x6_2 y169 false y170 (y170.length : Int) 0) = some r := by first | (rw [hy170]; with_reducible exact H) | (have H2_ := (Option.bind_some _ _).symm.trans H; rw [hy170]; with_reducible exact H2_) | (have H2_ := (Option.bind_some _ _).symm.trans H; with_reducible exact H2_) | with_reducible exact H | (rw [hy170]; exact H) | exact H
                have Ny170 := Aside0.mk hy170
                clear hy170
                have H' := Aside0.mk H
                clear H
                have p42 : 0 ≤ (0 : Int) := (by omega)
                have q42 : (0 : Int) < ((x10_3.length : Int) : Int) := zO
                have qi42 : (0 < x10_3.length) = True := eq_true (by omega)
                obtain ⟨go42, co42, eo42, gb42, gl42, cl42, HG42⟩ := Kd.R_form HO_10.out (by omega)
                (first | cases eo42 | (injection eo42 with ea_ en_ ec_; (first | subst ea_ | (injection ea_ with ea_; subst ea_)); subst ec_; clear en_))
                have GB42 := Aside0.mk gb42
                have GG42 := Aside0.mk HG42
                clear gb42 gl42 HG42
                obtain ⟨hx42_0, hf42_0⟩ := Kd.R_celln false HO_10.out (0 : Int) p42 q42
                (try rw [show ((0 : Int)).toNat = 0 from rfl] at hx42_0)
                (try simp only [Nat.reduceMul, Nat.zero_mul, Nat.zero_add, Nat.reduceAdd] at hx42_0)
                (try rw [show ((0 : Int)).toNat = 0 from rfl] at hf42_0)
                (try simp only [Nat.reduceMul, Nat.zero_mul, Nat.zero_add, Nat.reduceAdd] at hf42_0)
                replace p42 := eq_true p42
                replace q42 := eq_true q42
                have HP44 := Kd.R_putg HO_10.out (0 : Int) true
                go_wp2_with (first | ((with_reducible refine gate_store (t := 4) (p := 60) rfl ?_); refine store_event (t := 4) (p := 60) (v := ?vo_w45) (w1 := (wr.setCell ⟨go42, (0 : Int).toNat, none⟩ (.bool true))) ?hg ?ho ?hn ?hr ?_; (case ho => rfl); (case hg => rfl); (case hn => rfl); (case hr => first | (go_simp; done) | (go_simp; rfl)); intro w45 hw; have hg : wr.grownBy w45 (some go42) := (by rw [hw]; exact HP44.2); have hp_ : Kd.R Kd.bool 4 w45 w.heap.size (fun _ => True) (.slice (some ⟨go42, 0, none⟩) x10_3.length co42) y169 := (by rw [hw, Ny169.out]; exact HP44.1); clear HP44; have n0_ := Aside0.mk (Kd.R_over' (v := (.slice (some ⟨go42, 0, none⟩) x10_3.length co42)) (zR HO_3.out) (Kd.R_typed HO_10.out) (by decide) hg); have n1_ := Aside0.mk (Kd.S_over' (v := (.slice (some ⟨go42, 0, none⟩) x10_3.length co42)) (zS HO_4.out) (Kd.R_typed HO_10.out) (by decide) hg); have n2_ := Aside0.mk (Kd.R_over' (v := (.slice (some ⟨go42, 0, none⟩) x10_3.length co42)) (zR HO_5.out) (Kd.R_typed HO_10.out) (by decide) hg); have n3_ := Aside0.mk (Kd.R_over' (v := (.slice (some ⟨go42, 0, none⟩) x10_3.length co42)) (zR HO_6.out) (Kd.R_typed HO_10.out) (by decide) hg); have n4_ := Aside0.mk (hp_); have n5_ := Aside0.mk (blk_grown (g := gb149) (o := .cells #[.string a0_0, .int .i64 a0_1, .int .i64 a0_2, .slice A0_3 l0_3.length c0_3, .slice A0_4 l0_4.length c0_4] 32 (0, 0)) (zK BK149.out) hg (Kd.R_ne HO_10.out BK149.out (by decide))); have n6_ := Aside0.mk ((by rw [hw]; exact below_set (HB.out) GB42.out : Below w.heap.size w w45)); clear HO_3; clear HO_4; clear HO_5; clear HO_6; clear HO_10; clear BK149; clear HB; have HO_3 := n0_; have HO_4 := n1_; have HO_5 := n2_; have HO_6 := n3_; have HO_10 := n4_; have BK149 := n5_; have HB := n6_; clear n0_ n1_ n2_ n3_ n4_ n5_ n6_; clear hg hw hp_; have q46 : (1 : Int) ≤ ((t150.length : Int) : Int) := zO; obtain ⟨i046, hi046, _, hsz46, _⟩ := info_parts info3; have hroom46 : t150.length ≤ co27 := (Kd.R_reads' HO_3.out).2.1; have hC46 : Kd.C (Kd.int .i64) _ Ao27 t150.length t150 := (Kd.R_reads' HO_3.out).2.2; have hcut46 := cut_from (P := Try.prog) 22 3 .i64 Try.underlying22 hi046 1 hsz46 Ao27 t150.length co27 1 (by omega) q46; have hr46 := Kd.C_drop (m := (1 : Int).toNat) (c := co27) hC46 (by omega) hroom46; obtain ⟨A46, hA46⟩ : ∃ A1, A1 = (if co27 = (1 : Int).toNat then Ao27 else (Ao27 : Option Addr).map (·.add ((1 : Int).toNat * 1))) := ⟨_, rfl⟩; obtain ⟨c46, hc46⟩ : ∃ c1, c1 = co27 - (1 : Int).toNat := ⟨_, rfl⟩; have hy46 : y170.length = t150.length - (1 : Int).toNat := (by rw [Ny170.out, List.length_drop] <;> omega); rw [show (t150).drop (1 : Int).toNat = y170 from Ny170.out.symm] at hr46; replace hr46 : Kd.C (Kd.int .i64) _ A46 y170.length y170 := (by rw [hA46]; exact hr46); rw [← hy46, ← hA46, ← hc46] at hcut46; have HR173 := Aside0.mk hr46; have HC173 := Aside0.mk (show y170.length ≤ c46 from by rw [hy46, hc46]; exact Nat.sub_le_sub_right hroom46 _); clear hr46 hC46 hroom46 hi046 hsz46 hc46; have KY46 := Aside0.mk hy46; have KA46 := Aside0.mk hA46; clear hy46 hA46; have KL46 := Aside0.mk (show 1 ≤ t150.length from by omega); replace q46 := eq_true q46))
                go_loopg [11, 64] k3 (fun kq v11 v64 w' => ∃ (x5_4 : List Int) (x10_4 : List Bool) (x11_4 : Bool) (x64_4 : Int), v11 = .bool x11_4 ∧ v64 = .int .i64 x64_4 ∧ Aside0 (dom_Tree.l3 kq t150 t153 x5_4 x6_2 x10_4 x11_4 y170 (y170.length : Int) x64_4 = some r) ∧ Aside0 (kq ≤ k3) ∧ Aside0 (Kd.R (Kd.int .i64) 3 w' w.heap.size (fun k_ => some k_ ≠ ((.slice Ao16 x5_3.length co16) : Value).ownBlock ∧ some k_ ≠ (v160 : Value).ownBlock) (.slice Ao27 t150.length co27) t150) ∧ Aside0 (Kd.S (Kd.slice 3 (Kd.int .i64)) 22 w' w.heap.size (fun k_ => some k_ ≠ ((.slice Ao27 t150.length co27) : Value).ownBlock ∧ some k_ ≠ ((.slice Ao16 x5_3.length co16) : Value).ownBlock ∧ some k_ ≠ (v160 : Value).ownBlock) v154 t153) ∧ Aside0 (Kd.R (Kd.int .i64) 3 w' w.heap.size (fun k_ => some k_ ≠ ((.slice Ao27 t150.length co27) : Value).ownBlock ∧ some k_ ≠ (v160 : Value).ownBlock) (.slice Ao16 x5_3.length co16) x5_4) ∧ Aside0 (Kd.R (Kd.int .i64) 3 w' w.heap.size (fun k_ => some k_ ≠ ((.slice Ao27 t150.length co27) : Value).ownBlock ∧ some k_ ≠ ((.slice Ao16 x5_3.length co16) : Value).ownBlock) v160 x6_2) ∧ Aside0 (Kd.R Kd.bool 4 w' w.heap.size (fun _ => True) (.slice (some ⟨go42, 0, none⟩) x10_3.length co42) x10_4) ∧ Aside0 (w'.heap[gb149]? = some (.cells #[.string a0_0, .int .i64 a0_1, .int .i64 a0_2, (.slice A0_3 l0_3.length c0_3), (.slice A0_4 l0_4.length c0_4)] 32 (0, 0))) ∧ Aside0 (Kd.C (Kd.int .i64) w' A46 y170.length y170) ∧ Aside0 (Below w.heap.size w w'))
                case atStart => exact ⟨(x5_3), (y169), (false), (0), zQ, zQ, H', ⟨Nat.le_refl _⟩, ⟨by (try simp only [hl5_1]); (try simp only [hl5_3]); (with_reducible repeat (first | apply Kd.R_alloc | apply Kd.R_drewN | apply Kd.R_drew)); exact HO_3.out⟩, ⟨by (try simp only [hl5_1]); (try simp only [hl5_3]); (with_reducible repeat (first | apply Kd.S_alloc | apply Kd.S_drewN | apply Kd.S_drew)); exact HO_4.out⟩, ⟨by (try simp only [hl5_1]); (try simp only [hl5_3]); (with_reducible repeat (first | apply Kd.R_alloc | apply Kd.R_drewN | apply Kd.R_drew)); exact HO_5.out⟩, ⟨by (try simp only [hl5_1]); (try simp only [hl5_3]); (with_reducible repeat (first | apply Kd.R_alloc | apply Kd.R_drewN | apply Kd.R_drew)); exact HO_6.out⟩, ⟨by (try simp only [hl5_1]); (try simp only [hl5_3]); (with_reducible repeat (first | apply Kd.R_alloc | apply Kd.R_drewN | apply Kd.R_drew)); exact HO_10.out⟩, ⟨by (try simp only [hl5_1]); (try simp only [hl5_3]); (with_reducible repeat (first | refine blk_drewN ?_ _ | refine blk_drew ?_ | refine blk_alloc ?_ _)); exact BK149.out⟩, ⟨by repeat (first | (with_reducible exact HR173.out) | (with_reducible refine Kd.C_alloc ?_ _) | (with_reducible refine Kd.C_drewN ?_ _) | (with_reducible refine Kd.C_drew ?_) | exact HR173.out)⟩, ⟨by repeat (first | (with_reducible first | exact HB.out | apply below_alloc | apply pw_below_drewN | apply below_drew1 | refine below_set ?_ GE149.out) | exact HB.out)⟩⟩
                case round =>
                 clear H'
                 try clear c1
                 try clear p1
                 try clear q1
                 try clear hx1
                 try clear c2
                 try clear p2
                 try clear q2
                 try clear hx2
                 try clear hf2
                 try clear c3
                 try clear p3
                 try clear q3
                 try clear hx3
                 try clear hf3
                 try clear c4
                 try clear c4b0
                 try clear c4b1
                 try clear p4
                 try clear q4
                 try clear hx4
                 try clear qi4
                 try clear hf4
                 try clear c5
                 try clear c5b0
                 try clear c5b1
                 try clear p6
                 try clear p16
                 try clear q16
                 try clear hx16
                 try clear c17
                 try clear c17b0
                 try clear c18
                 try clear c18b0
                 try clear c19
                 try clear c19b0
                 try clear p20
                 try clear q20
                 try clear hx20
                 try clear hf20
                 try clear c21
                 try clear c21b0
                 try clear p22
                 try clear q22
                 try clear hx22
                 try clear hf22
                 try clear c28
                 try clear c28b0
                 try clear c29
                 try clear c29b0
                 try clear c30
                 try clear c30b0
                 try clear c31
                 try clear c31b0
                 try clear c32
                 try clear c32b0
                 try clear p33
                 try clear q33
                 try clear hx33
                 try clear hf33
                 try clear c36
                 try clear c36b0
                 try clear c36b1
                 try clear c37
                 try clear c37b0
                 try clear c37b1
                 try clear c40
                 try clear c40b0
                 try clear c40b1
                 try clear c41
                 try clear c41b0
                 try clear c41b1
                 try clear p42
                 try clear q42
                 try clear hx42
                 try clear qi42
                 try clear hf42
                 try clear c43
                 try clear c43b0
                 try clear c43b1
                 try clear c46
                 try clear q46
                 try clear hx164_0
                 try clear hx20_0
                 try clear hx22_0
                 try clear hx33_0
                 try clear hx42_0
                 try clear p1
                 try clear p16
                 try clear p164
                 try clear p2
                 try clear p20
                 try clear p22
                 try clear p3
                 try clear p33
                 try clear p42
                 try clear p6
                 try clear q1
                 try clear q16
                 try clear q164
                 try clear q2
                 try clear q20
                 try clear q22
                 try clear q3
                 try clear q33
                 try clear q42
                 try clear q46
                 obtain ⟨x5_4, x10_4, x11_4, x64_4, rfl, rfl, HA, HK4, HO_3, HO_4, HO_5, HO_6, HO_10, BK149, HR173, HB⟩ := hrel
                 have hl5_4 := (Kd.R_reads' HO_5.out).1
                 rw [hl5_4] at HO_5
                 (try simp only [hl5_4])
                 (try simp only [hl5_4] at BK149)
                 (try simp only [hl5_4] at HO_3)
                 (try simp only [hl5_4] at HO_4)
                 (try simp only [hl5_4] at HO_6)
                 (try simp only [hl5_4] at HO_10)
                 have hl10_4 := (Kd.R_reads' HO_10.out).1
                 rw [hl10_4] at HO_10
                 (try simp only [hl10_4])
                 (try simp only [hl10_4] at BK149)
                 (try simp only [hl10_4] at HO_3)
                 (try simp only [hl10_4] at HO_4)
                 (try simp only [hl10_4] at HO_5)
                 (try simp only [hl10_4] at HO_6)
                 cases gk with
                 | zero => exact absurd HA.out (by simp [dom_Tree.l3])
                 | succ k4 =>
                  have H := HA.out
                  clear HA
                  simp only [dom_Tree.l3] at H
                  by_cases c47 : x64_4 < (y170.length : Int)
                  ·rw [if_pos c47] at H
                   have c47b0 : decide (x64_4 < (y170.length : Int)) = true := decide_eq_true c47
                   (try (have c47b0h := c47b0; simp only [hl5_1] at c47b0h))
                   (try (have c47b0h := c47b0; simp only [hl5_3] at c47b0h))
                   (try (have c47b0h := c47b0; simp only [hl5_4] at c47b0h))
                   (try (have c47b0h := c47b0; simp only [hl10_4] at c47b0h))
                   clear c47
                   by_cases c48 : 0 ≤ x64_4
                   ·rw [if_pos c48] at H
                    have c48b0 : decide (0 ≤ x64_4) = true := decide_eq_true c48
                    (try (have c48b0h := c48b0; simp only [hl5_1] at c48b0h))
                    (try (have c48b0h := c48b0; simp only [hl5_3] at c48b0h))
                    (try (have c48b0h := c48b0; simp only [hl5_4] at c48b0h))
                    (try (have c48b0h := c48b0; simp only [hl10_4] at c48b0h))
                    clear c48
                    by_cases c49 : x64_4 < (y170.length : Int)
                    ·rw [if_pos c49] at H
                     have c49b0 : decide (x64_4 < (y170.length : Int)) = true := decide_eq_true c49
                     (try (have c49b0h := c49b0; simp only [hl5_1] at c49b0h))
                     (try (have c49b0h := c49b0; simp only [hl5_3] at c49b0h))
                     (try (have c49b0h := c49b0; simp only [hl5_4] at c49b0h))
                     (try (have c49b0h := c49b0; simp only [hl10_4] at c49b0h))
                     clear c49
                     by_cases c50 : 0 ≤ (rd y170 x64_4)
                     ·rw [if_pos c50] at H
                      have c50b0 : decide (0 ≤ (rd y170 x64_4)) = true := decide_eq_true c50
                      (try (have c50b0h := c50b0; simp only [hl5_1] at c50b0h))
                      (try (have c50b0h := c50b0; simp only [hl5_3] at c50b0h))
                      (try (have c50b0h := c50b0; simp only [hl5_4] at c50b0h))
                      (try (have c50b0h := c50b0; simp only [hl10_4] at c50b0h))
                      clear c50
                      by_cases c51 : (rd y170 x64_4) < (t153.length : Int)
                      ·rw [if_pos c51] at H
                       have c51b0 : decide ((rd y170 x64_4) < (t153.length : Int)) = true := decide_eq_true c51
                       (try (have c51b0h := c51b0; simp only [hl5_1] at c51b0h))
                       (try (have c51b0h := c51b0; simp only [hl5_3] at c51b0h))
                       (try (have c51b0h := c51b0; simp only [hl5_4] at c51b0h))
                       (try (have c51b0h := c51b0; simp only [hl10_4] at c51b0h))
                       clear c51
                       have H' := Aside0.mk H
                       clear H
                       have p174 : 0 ≤ (x64_4 : Int) := zO
                       have q174 : x64_4 < (y170.length : Int) := zO
                       obtain ⟨ad174, e174, hx174_0⟩ := Kd.at_int HR173.out x64_4 p174 q174
                       cases e174
                       (try (replace hx174_0 := (HB.out.cell (World.block_lt_of_cell? w _ hx174_0)).trans hx174_0))
                       replace p174 := eq_true p174
                       replace q174 := eq_true q174
                       obtain ⟨Ao52, co52, eo52⟩ := Kd.S_slice HO_4.out
                       subst eo52
                       have p175 : 0 ≤ ((rd y170 x64_4) : Int) := zO
                       have q175 : (rd y170 x64_4) < (t153.length : Int) := zO
                       obtain ⟨ad175, A175_0, c175_0, e175, hx175_0, hl175_0, hi175_0⟩ := at_L2 (Kd.S_reads' HO_4.out).2.2 (rd y170 x64_4) p175 q175
                       cases e175
                       obtain ⟨ce175, hce175, hMe175, hcc175⟩ := Kd.S_get HO_4.out [] (rd y170 x64_4) p175 (by first | exact q175 | exact zO | (have e_ := (Kd.S_reads' HO_4.out).1; omega))
                       obtain ⟨ve175_0, rfl, ge175_0⟩ := hMe175
                       have hv175_0 := hcc175 0 _ rfl
                       rw [Nat.add_zero, show ((Kd.slice 3 (Kd.int .i64))).sz = 1 from rfl, Nat.mul_one] at hv175_0
                       replace hv175_0 := Option.some.inj (hv175_0.symm.trans hx175_0)
                       rw [hv175_0] at ge175_0
                       have HL175_0 := Aside0.mk (show Kd.R (Kd.int .i64) 3 _ _ _ _ (rd_L2 t153 (rd y170 x64_4)) from ge175_0)
                       clear hv175_0 ge175_0
                       clear hcc175 hce175
                       have HR175_0 := Aside0.mk hi175_0
                       have HC175_0 := Aside0.mk hl175_0
                       clear hi175_0 hl175_0
                       replace p175 := eq_true p175
                       replace q175 := eq_true q175
                       go_wp2
                       go_loopg [14, 73] k4 (fun kq v14 v73 w' => ∃ (x14_5 : Int) (x73_5 : Int), v14 = .int .i64 x14_5 ∧ v73 = .int .i64 x73_5 ∧ Aside0 (dom_Tree.l4 kq t150 t153 x5_4 x6_2 x10_4 x11_4 (rd y170 x64_4) x14_5 y170 (y170.length : Int) x64_4 (rd_L2 t153 (rd y170 x64_4)) ((rd_L2 t153 (rd y170 x64_4)).length : Int) x73_5 = some r) ∧ Aside0 (kq ≤ k4) ∧ Aside0 (Kd.R (Kd.int .i64) 3 w' w.heap.size (fun k_ => some k_ ≠ ((.slice Ao16 x5_4.length co16) : Value).ownBlock ∧ some k_ ≠ (v160 : Value).ownBlock) (.slice Ao27 t150.length co27) t150) ∧ Aside0 (Kd.S (Kd.slice 3 (Kd.int .i64)) 22 w' w.heap.size (fun k_ => some k_ ≠ ((.slice Ao27 t150.length co27) : Value).ownBlock ∧ some k_ ≠ ((.slice Ao16 x5_4.length co16) : Value).ownBlock ∧ some k_ ≠ (v160 : Value).ownBlock) (.slice (some ad175) t153.length co52) t153) ∧ Aside0 (Kd.R (Kd.int .i64) 3 w' w.heap.size (fun k_ => some k_ ≠ ((.slice Ao27 t150.length co27) : Value).ownBlock ∧ some k_ ≠ (v160 : Value).ownBlock) (.slice Ao16 x5_4.length co16) x5_4) ∧ Aside0 (Kd.R (Kd.int .i64) 3 w' w.heap.size (fun k_ => some k_ ≠ ((.slice Ao27 t150.length co27) : Value).ownBlock ∧ some k_ ≠ ((.slice Ao16 x5_4.length co16) : Value).ownBlock) v160 x6_2) ∧ Aside0 (Kd.R Kd.bool 4 w' w.heap.size (fun _ => True) (.slice (some ⟨go42, 0, none⟩) x10_4.length co42) x10_4) ∧ Aside0 (w'.heap[gb149]? = some (.cells #[.string a0_0, .int .i64 a0_1, .int .i64 a0_2, (.slice A0_3 l0_3.length c0_3), (.slice A0_4 l0_4.length c0_4)] 32 (0, 0))) ∧ Aside0 (Kd.C (Kd.int .i64) w' (some ad174) y170.length y170) ∧ Aside0 (Kd.C (Kd.int .i64) w' A175_0 (rd_L2 t153 (rd y170 x64_4)).length (rd_L2 t153 (rd y170 x64_4))) ∧ Aside0 (Below w.heap.size w w'))
                       case atStart => exact ⟨((-1)), (0), zQ, zQ, H', ⟨Nat.le_refl _⟩, ⟨by (try simp only [hl5_1]); (try simp only [hl5_3]); (try simp only [hl5_4]); (try simp only [hl10_4]); (with_reducible repeat (first | apply Kd.R_alloc | apply Kd.R_drewN | apply Kd.R_drew)); exact HO_3.out⟩, ⟨by (try simp only [hl5_1]); (try simp only [hl5_3]); (try simp only [hl5_4]); (try simp only [hl10_4]); (with_reducible repeat (first | apply Kd.S_alloc | apply Kd.S_drewN | apply Kd.S_drew)); exact HO_4.out⟩, ⟨by (try simp only [hl5_1]); (try simp only [hl5_3]); (try simp only [hl5_4]); (try simp only [hl10_4]); (with_reducible repeat (first | apply Kd.R_alloc | apply Kd.R_drewN | apply Kd.R_drew)); exact HO_5.out⟩, ⟨by (try simp only [hl5_1]); (try simp only [hl5_3]); (try simp only [hl5_4]); (try simp only [hl10_4]); (with_reducible repeat (first | apply Kd.R_alloc | apply Kd.R_drewN | apply Kd.R_drew)); exact HO_6.out⟩, ⟨by (try simp only [hl5_1]); (try simp only [hl5_3]); (try simp only [hl5_4]); (try simp only [hl10_4]); (with_reducible repeat (first | apply Kd.R_alloc | apply Kd.R_drewN | apply Kd.R_drew)); exact HO_10.out⟩, ⟨by (try simp only [hl5_1]); (try simp only [hl5_3]); (try simp only [hl5_4]); (try simp only [hl10_4]); (with_reducible repeat (first | refine blk_drewN ?_ _ | refine blk_drew ?_ | refine blk_alloc ?_ _)); exact BK149.out⟩, ⟨by repeat (first | (with_reducible exact HR173.out) | (with_reducible refine Kd.C_alloc ?_ _) | (with_reducible refine Kd.C_drewN ?_ _) | (with_reducible refine Kd.C_drew ?_) | exact HR173.out)⟩, ⟨by repeat (first | (with_reducible exact HR175_0.out) | (with_reducible refine Kd.C_alloc ?_ _) | (with_reducible refine Kd.C_drewN ?_ _) | (with_reducible refine Kd.C_drew ?_) | exact HR175_0.out)⟩, ⟨by repeat (first | (with_reducible first | exact HB.out | apply below_alloc | apply pw_below_drewN | apply below_drew1 | refine below_set ?_ GE149.out) | exact HB.out)⟩⟩
                       case round =>
                        clear H'
                        try clear c1
                        try clear p1
                        try clear q1
                        try clear hx1
                        try clear c2
                        try clear p2
                        try clear q2
                        try clear hx2
                        try clear hf2
                        try clear c3
                        try clear p3
                        try clear q3
                        try clear hx3
                        try clear hf3
                        try clear c4
                        try clear c4b0
                        try clear c4b1
                        try clear p4
                        try clear q4
                        try clear hx4
                        try clear qi4
                        try clear hf4
                        try clear c5
                        try clear c5b0
                        try clear c5b1
                        try clear p6
                        try clear p16
                        try clear q16
                        try clear hx16
                        try clear c17
                        try clear c17b0
                        try clear p17
                        try clear q17
                        try clear hx17
                        try clear c18
                        try clear c18b0
                        try clear c19
                        try clear c19b0
                        try clear p20
                        try clear q20
                        try clear hx20
                        try clear hf20
                        try clear c21
                        try clear c21b0
                        try clear p22
                        try clear q22
                        try clear hx22
                        try clear hf22
                        try clear c28
                        try clear c28b0
                        try clear c29
                        try clear c29b0
                        try clear c30
                        try clear c30b0
                        try clear c31
                        try clear c31b0
                        try clear c32
                        try clear c32b0
                        try clear p33
                        try clear q33
                        try clear hx33
                        try clear hf33
                        try clear c36
                        try clear c36b0
                        try clear c36b1
                        try clear c37
                        try clear c37b0
                        try clear c37b1
                        try clear c40
                        try clear c40b0
                        try clear c40b1
                        try clear c41
                        try clear c41b0
                        try clear c41b1
                        try clear p42
                        try clear q42
                        try clear hx42
                        try clear qi42
                        try clear hf42
                        try clear c43
                        try clear c43b0
                        try clear c43b1
                        try clear c46
                        try clear q46
                        try clear c47
                        try clear c47b0
                        try clear c48
                        try clear c48b0
                        try clear c49
                        try clear c49b0
                        try clear c50
                        try clear c50b0
                        try clear c51
                        try clear c51b0
                        try clear hx164_0
                        try clear hx174_0
                        try clear hx175_0
                        try clear hx20_0
                        try clear hx22_0
                        try clear hx33_0
                        try clear hx42_0
                        try clear p1
                        try clear p16
                        try clear p164
                        try clear p174
                        try clear p175
                        try clear p2
                        try clear p20
                        try clear p22
                        try clear p3
                        try clear p33
                        try clear p4
                        try clear p42
                        try clear p6
                        try clear q1
                        try clear q16
                        try clear q164
                        try clear q174
                        try clear q175
                        try clear q2
                        try clear q20
                        try clear q22
                        try clear q3
                        try clear q33
                        try clear q4
                        try clear q42
                        try clear q46
                        obtain ⟨x14_5, x73_5, rfl, rfl, HA, HK5, HO_3, HO_4, HO_5, HO_6, HO_10, BK149, HR173, HR175_0, HB⟩ := hrel
                        cases gk with
                        | zero => exact absurd HA.out (by simp [dom_Tree.l4])
                        | succ k5 =>
                         have H := HA.out
                         clear HA
                         simp only [dom_Tree.l4] at H
                         by_cases c53 : x73_5 < ((rd_L2 t153 (rd y170 x64_4)).length : Int)
                         ·rw [if_pos c53] at H
                          have c53b0 : decide (x73_5 < ((rd_L2 t153 (rd y170 x64_4)).length : Int)) = true := decide_eq_true c53
                          (try (have c53b0h := c53b0; simp only [hl5_1] at c53b0h))
                          (try (have c53b0h := c53b0; simp only [hl5_3] at c53b0h))
                          (try (have c53b0h := c53b0; simp only [hl5_4] at c53b0h))
                          (try (have c53b0h := c53b0; simp only [hl10_4] at c53b0h))
                          clear c53
                          by_cases c54 : 0 ≤ x73_5
                          ·rw [if_pos c54] at H
                           have c54b0 : decide (0 ≤ x73_5) = true := decide_eq_true c54
                           (try (have c54b0h := c54b0; simp only [hl5_1] at c54b0h))
                           (try (have c54b0h := c54b0; simp only [hl5_3] at c54b0h))
                           (try (have c54b0h := c54b0; simp only [hl5_4] at c54b0h))
                           (try (have c54b0h := c54b0; simp only [hl10_4] at c54b0h))
                           clear c54
                           by_cases c55 : x73_5 < ((rd_L2 t153 (rd y170 x64_4)).length : Int)
                           ·rw [if_pos c55] at H
                            have c55b0 : decide (x73_5 < ((rd_L2 t153 (rd y170 x64_4)).length : Int)) = true := decide_eq_true c55
                            (try (have c55b0h := c55b0; simp only [hl5_1] at c55b0h))
                            (try (have c55b0h := c55b0; simp only [hl5_3] at c55b0h))
                            (try (have c55b0h := c55b0; simp only [hl5_4] at c55b0h))
                            (try (have c55b0h := c55b0; simp only [hl10_4] at c55b0h))
                            clear c55
                            have HC56 := Aside0.mk H
                            clear H
                            have p181 : 0 ≤ (x73_5 : Int) := zO
                            have q181 : x73_5 < ((rd_L2 t153 (rd y170 x64_4)).length : Int) := zO
                            obtain ⟨ad181, e181, hx181_0⟩ := Kd.at_int HR175_0.out x73_5 p181 q181
                            cases e181
                            (try (replace hx181_0 := (HB.out.cell (World.block_lt_of_cell? w _ hx181_0)).trans hx181_0))
                            replace p181 := eq_true p181
                            replace q181 := eq_true q181
                            go_upto_region 25 with (fail)
                            go_cut [82] (fun v82 wc => ∃ (kq : Nat) (x82_55 : Bool), v82 = .bool x82_55 ∧ Aside0 (dom_Tree.j5 kq t150 t153 x5_4 x6_2 x10_4 x11_4 (rd y170 x64_4) x14_5 (rd (rd_L2 t153 (rd y170 x64_4)) x73_5) y170 (y170.length : Int) x64_4 (rd_L2 t153 (rd y170 x64_4)) ((rd_L2 t153 (rd y170 x64_4)).length : Int) x73_5 x82_55 = some r) ∧ Aside0 (kq ≤ k5) ∧ Aside0 (Kd.R (Kd.int .i64) 3 wc w.heap.size (fun k_ => some k_ ≠ ((.slice Ao16 x5_4.length co16) : Value).ownBlock ∧ some k_ ≠ (v160 : Value).ownBlock) (.slice Ao27 t150.length co27) t150) ∧ Aside0 (Kd.S (Kd.slice 3 (Kd.int .i64)) 22 wc w.heap.size (fun k_ => some k_ ≠ ((.slice Ao27 t150.length co27) : Value).ownBlock ∧ some k_ ≠ ((.slice Ao16 x5_4.length co16) : Value).ownBlock ∧ some k_ ≠ (v160 : Value).ownBlock) (.slice (some ad175) t153.length co52) t153) ∧ Aside0 (Kd.R (Kd.int .i64) 3 wc w.heap.size (fun k_ => some k_ ≠ ((.slice Ao27 t150.length co27) : Value).ownBlock ∧ some k_ ≠ (v160 : Value).ownBlock) (.slice Ao16 x5_4.length co16) x5_4) ∧ Aside0 (Kd.R (Kd.int .i64) 3 wc w.heap.size (fun k_ => some k_ ≠ ((.slice Ao27 t150.length co27) : Value).ownBlock ∧ some k_ ≠ ((.slice Ao16 x5_4.length co16) : Value).ownBlock) v160 x6_2) ∧ Aside0 (Kd.R Kd.bool 4 wc w.heap.size (fun _ => True) (.slice (some ⟨go42, 0, none⟩) x10_4.length co42) x10_4) ∧ Aside0 (wc.heap[gb149]? = some (.cells #[.string a0_0, .int .i64 a0_1, .int .i64 a0_2, (.slice A0_3 l0_3.length c0_3), (.slice A0_4 l0_4.length c0_4)] 32 (0, 0))) ∧ Aside0 (Kd.C (Kd.int .i64) wc (some ad174) y170.length y170) ∧ Aside0 (Kd.C (Kd.int .i64) wc (some ad181) (rd_L2 t153 (rd y170 x64_4)).length (rd_L2 t153 (rd y170 x64_4))) ∧ Aside0 (Below w.heap.size w wc))
                            case first =>
                             have H := HC56.out
                             clear HC56
                             by_cases c57 : 0 ≤ (rd (rd_L2 t153 (rd y170 x64_4)) x73_5)
                             ·rw [if_pos c57] at H
                              have c57b0 : decide (0 ≤ (rd (rd_L2 t153 (rd y170 x64_4)) x73_5)) = true := decide_eq_true c57
                              (try (have c57b0h := c57b0; simp only [hl5_1] at c57b0h))
                              (try (have c57b0h := c57b0; simp only [hl5_3] at c57b0h))
                              (try (have c57b0h := c57b0; simp only [hl5_4] at c57b0h))
                              (try (have c57b0h := c57b0; simp only [hl10_4] at c57b0h))
                              clear c57
                              (first | rw [c57b0] | (simp only [i64_w, i32_w]; rw [c57b0]) | skip)
                              by_cases c58 : (rd (rd_L2 t153 (rd y170 x64_4)) x73_5) < (x6_2.length : Int)
                              ·rw [if_pos c58] at H
                               have c58b0 : decide ((rd (rd_L2 t153 (rd y170 x64_4)) x73_5) < (x6_2.length : Int)) = true := decide_eq_true c58
                               (try (have c58b0h := c58b0; simp only [hl5_1] at c58b0h))
                               (try (have c58b0h := c58b0; simp only [hl5_3] at c58b0h))
                               (try (have c58b0h := c58b0; simp only [hl5_4] at c58b0h))
                               (try (have c58b0h := c58b0; simp only [hl10_4] at c58b0h))
                               clear c58
                               by_cases c59 : (rd x6_2 (rd (rd_L2 t153 (rd y170 x64_4)) x73_5)) < 0
                               ·rw [if_pos c59] at H
                                have c59b0 : decide ((rd x6_2 (rd (rd_L2 t153 (rd y170 x64_4)) x73_5)) < 0) = true := decide_eq_true c59
                                (try (have c59b0h := c59b0; simp only [hl5_1] at c59b0h))
                                (try (have c59b0h := c59b0; simp only [hl5_3] at c59b0h))
                                (try (have c59b0h := c59b0; simp only [hl5_4] at c59b0h))
                                (try (have c59b0h := c59b0; simp only [hl10_4] at c59b0h))
                                clear c59
                                have H' := Aside0.mk H
                                clear H
                                obtain ⟨Ao60, co60, eo60⟩ := Kd.R_slice HO_6.out
                                subst eo60
                                have p182 : 0 ≤ ((rd (rd_L2 t153 (rd y170 x64_4)) x73_5) : Int) := zO
                                have q182 : (rd (rd_L2 t153 (rd y170 x64_4)) x73_5) < (x6_2.length : Int) := zO
                                obtain ⟨ad182, e182, hx182_0⟩ := Kd.at_int (Kd.R_reads' HO_6.out).2.2 (rd (rd_L2 t153 (rd y170 x64_4)) x73_5) p182 q182
                                cases e182
                                replace p182 := eq_true p182
                                replace q182 := eq_true q182
                                go_wp2
                                go_meet
                                case rel => exact ⟨_, (true), zQ, H', ⟨by have := HK1.out; have := HK2.out; have := HK3.out; have := HK4.out; have := HK5.out; first | omega | exact Nat.le_refl _⟩, ⟨by (try simp only [hl5_1]); (try simp only [hl5_3]); (try simp only [hl5_4]); (try simp only [hl10_4]); (with_reducible repeat (first | apply Kd.R_alloc | apply Kd.R_drewN | apply Kd.R_drew)); exact HO_3.out⟩, ⟨by (try simp only [hl5_1]); (try simp only [hl5_3]); (try simp only [hl5_4]); (try simp only [hl10_4]); (with_reducible repeat (first | apply Kd.S_alloc | apply Kd.S_drewN | apply Kd.S_drew)); exact HO_4.out⟩, ⟨by (try simp only [hl5_1]); (try simp only [hl5_3]); (try simp only [hl5_4]); (try simp only [hl10_4]); (with_reducible repeat (first | apply Kd.R_alloc | apply Kd.R_drewN | apply Kd.R_drew)); exact HO_5.out⟩, ⟨by (try simp only [hl5_1]); (try simp only [hl5_3]); (try simp only [hl5_4]); (try simp only [hl10_4]); (with_reducible repeat (first | apply Kd.R_alloc | apply Kd.R_drewN | apply Kd.R_drew)); exact HO_6.out⟩, ⟨by (try simp only [hl5_1]); (try simp only [hl5_3]); (try simp only [hl5_4]); (try simp only [hl10_4]); (with_reducible repeat (first | apply Kd.R_alloc | apply Kd.R_drewN | apply Kd.R_drew)); exact HO_10.out⟩, ⟨by (try simp only [hl5_1]); (try simp only [hl5_3]); (try simp only [hl5_4]); (try simp only [hl10_4]); (with_reducible repeat (first | refine blk_drewN ?_ _ | refine blk_drew ?_ | refine blk_alloc ?_ _)); exact BK149.out⟩, ⟨by repeat (first | (with_reducible exact HR173.out) | (with_reducible refine Kd.C_alloc ?_ _) | (with_reducible refine Kd.C_drewN ?_ _) | (with_reducible refine Kd.C_drew ?_) | exact HR173.out)⟩, ⟨by repeat (first | (with_reducible exact HR175_0.out) | (with_reducible refine Kd.C_alloc ?_ _) | (with_reducible refine Kd.C_drewN ?_ _) | (with_reducible refine Kd.C_drew ?_) | exact HR175_0.out)⟩, ⟨by repeat (first | (with_reducible first | exact HB.out | apply below_alloc | apply pw_below_drewN | apply below_drew1 | refine below_set ?_ GE149.out) | exact HB.out)⟩⟩
                               ·rw [if_neg c59] at H
                                have c59b0 : decide ((rd x6_2 (rd (rd_L2 t153 (rd y170 x64_4)) x73_5)) < 0) = false := decide_eq_false c59
                                (try (have c59b0h := c59b0; simp only [hl5_1] at c59b0h))
                                (try (have c59b0h := c59b0; simp only [hl5_3] at c59b0h))
                                (try (have c59b0h := c59b0; simp only [hl5_4] at c59b0h))
                                (try (have c59b0h := c59b0; simp only [hl10_4] at c59b0h))
                                clear c59
                                by_cases c61 : (rd (rd_L2 t153 (rd y170 x64_4)) x73_5) < (x10_4.length : Int)
                                ·rw [if_pos c61] at H
                                 have c61b0 : decide ((rd (rd_L2 t153 (rd y170 x64_4)) x73_5) < (x10_4.length : Int)) = true := decide_eq_true c61
                                 (try (have c61b0h := c61b0; simp only [hl5_1] at c61b0h))
                                 (try (have c61b0h := c61b0; simp only [hl5_3] at c61b0h))
                                 (try (have c61b0h := c61b0; simp only [hl5_4] at c61b0h))
                                 (try (have c61b0h := c61b0; simp only [hl10_4] at c61b0h))
                                 clear c61
                                 have H' := Aside0.mk H
                                 clear H
                                 obtain ⟨Ao62, co62, eo62⟩ := Kd.R_slice HO_6.out
                                 subst eo62
                                 have p182 : 0 ≤ ((rd (rd_L2 t153 (rd y170 x64_4)) x73_5) : Int) := zO
                                 have q182 : (rd (rd_L2 t153 (rd y170 x64_4)) x73_5) < (x6_2.length : Int) := zO
                                 obtain ⟨ad182, e182, hx182_0⟩ := Kd.at_int (Kd.R_reads' HO_6.out).2.2 (rd (rd_L2 t153 (rd y170 x64_4)) x73_5) p182 q182
                                 cases e182
                                 replace p182 := eq_true p182
                                 replace q182 := eq_true q182
                                 have p183 : 0 ≤ ((rd (rd_L2 t153 (rd y170 x64_4)) x73_5) : Int) := zO
                                 have q183 : (rd (rd_L2 t153 (rd y170 x64_4)) x73_5) < (x10_4.length : Int) := zO
                                 obtain ⟨ad183, e183, hx183_0⟩ := Kd.at_bool (Kd.R_reads' HO_10.out).2.2 (rd (rd_L2 t153 (rd y170 x64_4)) x73_5) p183 q183
                                 obtain rfl : (⟨go42, 0, none⟩ : Addr) = ad183 := (by injection e183)
                                 (first | simp only [add_plain] at hx183_0 | simp only [add_at] at hx183_0 | simp only [Addr.add, Nat.zero_add] at hx183_0 | skip)
                                 replace p183 := eq_true p183
                                 replace q183 := eq_true q183
                                 go_wp2
                                 go_meet
                                 case rel => exact ⟨_, (!(rdOf false x10_4 (rd (rd_L2 t153 (rd y170 x64_4)) x73_5))), zQ, H', ⟨by have := HK1.out; have := HK2.out; have := HK3.out; have := HK4.out; have := HK5.out; first | omega | exact Nat.le_refl _⟩, ⟨by (try simp only [hl5_1]); (try simp only [hl5_3]); (try simp only [hl5_4]); (try simp only [hl10_4]); (with_reducible repeat (first | apply Kd.R_alloc | apply Kd.R_drewN | apply Kd.R_drew)); exact HO_3.out⟩, ⟨by (try simp only [hl5_1]); (try simp only [hl5_3]); (try simp only [hl5_4]); (try simp only [hl10_4]); (with_reducible repeat (first | apply Kd.S_alloc | apply Kd.S_drewN | apply Kd.S_drew)); exact HO_4.out⟩, ⟨by (try simp only [hl5_1]); (try simp only [hl5_3]); (try simp only [hl5_4]); (try simp only [hl10_4]); (with_reducible repeat (first | apply Kd.R_alloc | apply Kd.R_drewN | apply Kd.R_drew)); exact HO_5.out⟩, ⟨by (try simp only [hl5_1]); (try simp only [hl5_3]); (try simp only [hl5_4]); (try simp only [hl10_4]); (with_reducible repeat (first | apply Kd.R_alloc | apply Kd.R_drewN | apply Kd.R_drew)); exact HO_6.out⟩, ⟨by (try simp only [hl5_1]); (try simp only [hl5_3]); (try simp only [hl5_4]); (try simp only [hl10_4]); (with_reducible repeat (first | apply Kd.R_alloc | apply Kd.R_drewN | apply Kd.R_drew)); exact HO_10.out⟩, ⟨by (try simp only [hl5_1]); (try simp only [hl5_3]); (try simp only [hl5_4]); (try simp only [hl10_4]); (with_reducible repeat (first | refine blk_drewN ?_ _ | refine blk_drew ?_ | refine blk_alloc ?_ _)); exact BK149.out⟩, ⟨by repeat (first | (with_reducible exact HR173.out) | (with_reducible refine Kd.C_alloc ?_ _) | (with_reducible refine Kd.C_drewN ?_ _) | (with_reducible refine Kd.C_drew ?_) | exact HR173.out)⟩, ⟨by repeat (first | (with_reducible exact HR175_0.out) | (with_reducible refine Kd.C_alloc ?_ _) | (with_reducible refine Kd.C_drewN ?_ _) | (with_reducible refine Kd.C_drew ?_) | exact HR175_0.out)⟩, ⟨by repeat (first | (with_reducible first | exact HB.out | apply below_alloc | apply pw_below_drewN | apply below_drew1 | refine below_set ?_ GE149.out) | exact HB.out)⟩⟩
                                ·rw [if_neg c61] at H
                                 exact absurd H (by simp)
                              ·rw [if_neg c58] at H
                               exact absurd H (by simp)
                             ·rw [if_neg c57] at H
                              exact absurd H (by simp)
                            case rest =>
                             clear HC56
                             try clear c1
                             try clear p1
                             try clear q1
                             try clear hx1
                             try clear c2
                             try clear p2
                             try clear q2
                             try clear hx2
                             try clear hf2
                             try clear c3
                             try clear p3
                             try clear q3
                             try clear hx3
                             try clear hf3
                             try clear c4
                             try clear c4b0
                             try clear c4b1
                             try clear p4
                             try clear q4
                             try clear hx4
                             try clear qi4
                             try clear hf4
                             try clear c5
                             try clear c5b0
                             try clear c5b1
                             try clear c6
                             try clear p6
                             try clear p16
                             try clear q16
                             try clear hx16
                             try clear c17
                             try clear c17b0
                             try clear p17
                             try clear q17
                             try clear hx17
                             try clear c18
                             try clear c18b0
                             try clear p18
                             try clear q18
                             try clear hx18
                             try clear c19
                             try clear c19b0
                             try clear p20
                             try clear q20
                             try clear hx20
                             try clear hf20
                             try clear c21
                             try clear c21b0
                             try clear p22
                             try clear q22
                             try clear hx22
                             try clear hf22
                             try clear c28
                             try clear c28b0
                             try clear c29
                             try clear c29b0
                             try clear c30
                             try clear c30b0
                             try clear c31
                             try clear c31b0
                             try clear c32
                             try clear c32b0
                             try clear p33
                             try clear q33
                             try clear hx33
                             try clear hf33
                             try clear c36
                             try clear c36b0
                             try clear c36b1
                             try clear c37
                             try clear c37b0
                             try clear c37b1
                             try clear c40
                             try clear c40b0
                             try clear c40b1
                             try clear c41
                             try clear c41b0
                             try clear c41b1
                             try clear p42
                             try clear q42
                             try clear hx42
                             try clear qi42
                             try clear hf42
                             try clear c43
                             try clear c43b0
                             try clear c43b1
                             try clear c46
                             try clear q46
                             try clear c47
                             try clear c47b0
                             try clear c48
                             try clear c48b0
                             try clear c49
                             try clear c49b0
                             try clear c50
                             try clear c50b0
                             try clear c51
                             try clear c51b0
                             try clear c53
                             try clear c53b0
                             try clear c54
                             try clear c54b0
                             try clear c55
                             try clear c55b0
                             try clear c57
                             try clear c57b0
                             try clear c58
                             try clear c58b0
                             try clear c59
                             try clear c59b0
                             try clear c61
                             try clear c61b0
                             try clear hx164_0
                             try clear hx174_0
                             try clear hx175_0
                             try clear hx181_0
                             try clear hx182_0
                             try clear hx183_0
                             try clear hx20_0
                             try clear hx22_0
                             try clear hx33_0
                             try clear hx42_0
                             try clear p1
                             try clear p16
                             try clear p164
                             try clear p17
                             try clear p174
                             try clear p175
                             try clear p181
                             try clear p182
                             try clear p183
                             try clear p2
                             try clear p20
                             try clear p22
                             try clear p3
                             try clear p33
                             try clear p4
                             try clear p42
                             try clear p6
                             try clear q1
                             try clear q16
                             try clear q164
                             try clear q17
                             try clear q174
                             try clear q175
                             try clear q181
                             try clear q182
                             try clear q183
                             try clear q2
                             try clear q20
                             try clear q22
                             try clear q3
                             try clear q33
                             try clear q4
                             try clear q42
                             try clear q46
                             obtain ⟨kq, x82_55, rfl, HA, HJ55, HO_3, HO_4, HO_5, HO_6, HO_10, BK149, HR173, HR175_0, HB⟩ := hcut
                             cases kq with
                             | zero => exact absurd HA.out (by simp [dom_Tree.j5])
                             | succ kj55 =>
                              have H := HA.out
                              clear HA
                              simp only [dom_Tree.j5] at H
                              by_cases c63 : x82_55 = true
                              ·subst c63
                               have H1 : (dom_Tree.l4 kj55 t150 t153 x5_4 x6_2 x10_4 x11_4 (rd y170 x64_4) x14_5 y170 (y170.length : Int) x64_4 (rd_L2 t153 (rd y170 x64_4)) ((rd_L2 t153 (rd y170 x64_4)).length : Int) (wrap64 (x73_5 + 1))) = some r := by rw [if_pos rfl] at H; exact H
                               clear H
                               have H := H1
                               clear H1
                               have H' := Aside0.mk H
                               clear H
                               go_wp2
                               go_roundg kj55
                               case measure => have := HK1.out; have := HK2.out; have := HK3.out; have := HK4.out; have := HK5.out; have := HJ55.out; omega
                               case rel => exact ⟨(x14_5), (wrap64 (x73_5 + 1)), zQ, zQ, H', ⟨by have := HK1.out; have := HK2.out; have := HK3.out; have := HK4.out; have := HK5.out; have := HJ55.out; omega⟩, ⟨by (try simp only [hl5_1]); (try simp only [hl5_3]); (try simp only [hl5_4]); (try simp only [hl10_4]); (with_reducible repeat (first | apply Kd.R_alloc | apply Kd.R_drewN | apply Kd.R_drew)); exact HO_3.out⟩, ⟨by (try simp only [hl5_1]); (try simp only [hl5_3]); (try simp only [hl5_4]); (try simp only [hl10_4]); (with_reducible repeat (first | apply Kd.S_alloc | apply Kd.S_drewN | apply Kd.S_drew)); exact HO_4.out⟩, ⟨by (try simp only [hl5_1]); (try simp only [hl5_3]); (try simp only [hl5_4]); (try simp only [hl10_4]); (with_reducible repeat (first | apply Kd.R_alloc | apply Kd.R_drewN | apply Kd.R_drew)); exact HO_5.out⟩, ⟨by (try simp only [hl5_1]); (try simp only [hl5_3]); (try simp only [hl5_4]); (try simp only [hl10_4]); (with_reducible repeat (first | apply Kd.R_alloc | apply Kd.R_drewN | apply Kd.R_drew)); exact HO_6.out⟩, ⟨by (try simp only [hl5_1]); (try simp only [hl5_3]); (try simp only [hl5_4]); (try simp only [hl10_4]); (with_reducible repeat (first | apply Kd.R_alloc | apply Kd.R_drewN | apply Kd.R_drew)); exact HO_10.out⟩, ⟨by (try simp only [hl5_1]); (try simp only [hl5_3]); (try simp only [hl5_4]); (try simp only [hl10_4]); (with_reducible repeat (first | refine blk_drewN ?_ _ | refine blk_drew ?_ | refine blk_alloc ?_ _)); exact BK149.out⟩, ⟨by repeat (first | (with_reducible exact HR173.out) | (with_reducible refine Kd.C_alloc ?_ _) | (with_reducible refine Kd.C_drewN ?_ _) | (with_reducible refine Kd.C_drew ?_) | exact HR173.out)⟩, ⟨by repeat (first | (with_reducible exact HR175_0.out) | (with_reducible refine Kd.C_alloc ?_ _) | (with_reducible refine Kd.C_drewN ?_ _) | (with_reducible refine Kd.C_drew ?_) | exact HR175_0.out)⟩, ⟨by repeat (first | (with_reducible first | exact HB.out | apply below_alloc | apply pw_below_drewN | apply below_drew1 | refine below_set ?_ GE149.out) | exact HB.out)⟩⟩
                              ·replace c63 := Bool.eq_false_iff.mpr c63
                               subst c63
                               have H1 : (if x14_5 < 0 then (dom_Tree.l4 kj55 t150 t153 x5_4 x6_2 x10_4 x11_4 (rd y170 x64_4) (rd (rd_L2 t153 (rd y170 x64_4)) x73_5) y170 (y170.length : Int) x64_4 (rd_L2 t153 (rd y170 x64_4)) ((rd_L2 t153 (rd y170 x64_4)).length : Int) (wrap64 (x73_5 + 1))) else ((dom_meet.f kj55 x5_4 x6_2 x14_5 (rd (rd_L2 t153 (rd y170 x64_4)) x73_5)).bind fun t184 => (dom_Tree.l4 kj55 t150 t153 x5_4 x6_2 x10_4 x11_4 (rd y170 x64_4) t184 y170 (y170.length : Int) x64_4 (rd_L2 t153 (rd y170 x64_4)) ((rd_L2 t153 (rd y170 x64_4)).length : Int) (wrap64 (x73_5 + 1))))) = some r := by rw [if_neg (show ¬ (false = true) by decide)] at H; exact H
                               clear H
                               have H := H1
                               clear H1
                               by_cases c64 : x14_5 < 0
                               ·rw [if_pos c64] at H
                                have c64b0 : decide (x14_5 < 0) = true := decide_eq_true c64
                                (try (have c64b0h := c64b0; simp only [hl5_1] at c64b0h))
                                (try (have c64b0h := c64b0; simp only [hl5_3] at c64b0h))
                                (try (have c64b0h := c64b0; simp only [hl5_4] at c64b0h))
                                (try (have c64b0h := c64b0; simp only [hl10_4] at c64b0h))
                                clear c64
                                have H' := Aside0.mk H
                                clear H
                                go_wp2
                                go_roundg kj55
                                case measure => have := HK1.out; have := HK2.out; have := HK3.out; have := HK4.out; have := HK5.out; have := HJ55.out; omega
                                case rel => exact ⟨((rd (rd_L2 t153 (rd y170 x64_4)) x73_5)), (wrap64 (x73_5 + 1)), zQ, zQ, H', ⟨by have := HK1.out; have := HK2.out; have := HK3.out; have := HK4.out; have := HK5.out; have := HJ55.out; omega⟩, ⟨by (try simp only [hl5_1]); (try simp only [hl5_3]); (try simp only [hl5_4]); (try simp only [hl10_4]); (with_reducible repeat (first | apply Kd.R_alloc | apply Kd.R_drewN | apply Kd.R_drew)); exact HO_3.out⟩, ⟨by (try simp only [hl5_1]); (try simp only [hl5_3]); (try simp only [hl5_4]); (try simp only [hl10_4]); (with_reducible repeat (first | apply Kd.S_alloc | apply Kd.S_drewN | apply Kd.S_drew)); exact HO_4.out⟩, ⟨by (try simp only [hl5_1]); (try simp only [hl5_3]); (try simp only [hl5_4]); (try simp only [hl10_4]); (with_reducible repeat (first | apply Kd.R_alloc | apply Kd.R_drewN | apply Kd.R_drew)); exact HO_5.out⟩, ⟨by (try simp only [hl5_1]); (try simp only [hl5_3]); (try simp only [hl5_4]); (try simp only [hl10_4]); (with_reducible repeat (first | apply Kd.R_alloc | apply Kd.R_drewN | apply Kd.R_drew)); exact HO_6.out⟩, ⟨by (try simp only [hl5_1]); (try simp only [hl5_3]); (try simp only [hl5_4]); (try simp only [hl10_4]); (with_reducible repeat (first | apply Kd.R_alloc | apply Kd.R_drewN | apply Kd.R_drew)); exact HO_10.out⟩, ⟨by (try simp only [hl5_1]); (try simp only [hl5_3]); (try simp only [hl5_4]); (try simp only [hl10_4]); (with_reducible repeat (first | refine blk_drewN ?_ _ | refine blk_drew ?_ | refine blk_alloc ?_ _)); exact BK149.out⟩, ⟨by repeat (first | (with_reducible exact HR173.out) | (with_reducible refine Kd.C_alloc ?_ _) | (with_reducible refine Kd.C_drewN ?_ _) | (with_reducible refine Kd.C_drew ?_) | exact HR173.out)⟩, ⟨by repeat (first | (with_reducible exact HR175_0.out) | (with_reducible refine Kd.C_alloc ?_ _) | (with_reducible refine Kd.C_drewN ?_ _) | (with_reducible refine Kd.C_drew ?_) | exact HR175_0.out)⟩, ⟨by repeat (first | (with_reducible first | exact HB.out | apply below_alloc | apply pw_below_drewN | apply below_drew1 | refine below_set ?_ GE149.out) | exact HB.out)⟩⟩
                               ·rw [if_neg c64] at H
                                have c64b0 : decide (x14_5 < 0) = false := decide_eq_false c64
                                (try (have c64b0h := c64b0; simp only [hl5_1] at c64b0h))
                                (try (have c64b0h := c64b0; simp only [hl5_3] at c64b0h))
                                (try (have c64b0h := c64b0; simp only [hl5_4] at c64b0h))
                                (try (have c64b0h := c64b0; simp only [hl10_4] at c64b0h))
                                clear c64
                                replace H := Option.bind_eq_some_iff.mp H
                                obtain ⟨t184, A650, H⟩ := H
                                replace H : (dom_Tree.l4 kj55 t150 t153 x5_4 x6_2 x10_4 x11_4 (rd y170 x64_4) t184 y170 (y170.length : Int) x64_4 (rd_L2 t153 (rd y170 x64_4)) ((rd_L2 t153 (rd y170 x64_4)).length : Int) (wrap64 (x73_5 + 1))) = some r := H
                                have A65 := Aside0.mk A650
                                clear A650
                                have H' := Aside0.mk H
                                clear H
                                obtain ⟨Ao66, co66, eo66⟩ := Kd.R_slice HO_6.out
                                subst eo66
                                go_wp2_with (first | ((with_reducible refine gate_callee (f := 53) rfl ?_); refine goesL_ (some 81) rfl rfl Try.func53 (by kernel_rfl) rfl #[.slice Ao16 x5_4.length co16, .slice Ao66 x6_2.length co66, .int .i64 x14_5, .int .i64 (rd (rd_L2 t153 (rd y170 x64_4)) x73_5)] rfl zE ?_; (with_reducible refine (dom_meet.calls kj55 _ _ x5_4 _ _ x6_2 x14_5 (rd (rd_L2 t153 (rd y170 x64_4)) x73_5) t184 _ ?side1 ?side2 ?side3 ?side4 A65.out).mono ?_); (case side1 => exact zC (Kd.R_reads' HO_5.out).2.2); (case side2 => exact (Kd.R_reads' HO_5.out).2.1); (case side3 => exact zC (Kd.R_reads' HO_6.out).2.2); (case side4 => exact (Kd.R_reads' HO_6.out).2.1); rintro e w' ⟨rfl, ⟨nd, rfl⟩⟩; refine ⟨_, rfl, ?_⟩))
                                go_roundg kj55
                                case measure => have := HK1.out; have := HK2.out; have := HK3.out; have := HK4.out; have := HK5.out; have := HJ55.out; omega
                                case rel => exact ⟨(t184), (wrap64 (x73_5 + 1)), zQ, zQ, H', ⟨by have := HK1.out; have := HK2.out; have := HK3.out; have := HK4.out; have := HK5.out; have := HJ55.out; omega⟩, ⟨by (try simp only [hl5_1]); (try simp only [hl5_3]); (try simp only [hl5_4]); (try simp only [hl10_4]); (with_reducible repeat (first | apply Kd.R_alloc | apply Kd.R_drewN | apply Kd.R_drew)); exact HO_3.out⟩, ⟨by (try simp only [hl5_1]); (try simp only [hl5_3]); (try simp only [hl5_4]); (try simp only [hl10_4]); (with_reducible repeat (first | apply Kd.S_alloc | apply Kd.S_drewN | apply Kd.S_drew)); exact HO_4.out⟩, ⟨by (try simp only [hl5_1]); (try simp only [hl5_3]); (try simp only [hl5_4]); (try simp only [hl10_4]); (with_reducible repeat (first | apply Kd.R_alloc | apply Kd.R_drewN | apply Kd.R_drew)); exact HO_5.out⟩, ⟨by (try simp only [hl5_1]); (try simp only [hl5_3]); (try simp only [hl5_4]); (try simp only [hl10_4]); (with_reducible repeat (first | apply Kd.R_alloc | apply Kd.R_drewN | apply Kd.R_drew)); exact HO_6.out⟩, ⟨by (try simp only [hl5_1]); (try simp only [hl5_3]); (try simp only [hl5_4]); (try simp only [hl10_4]); (with_reducible repeat (first | apply Kd.R_alloc | apply Kd.R_drewN | apply Kd.R_drew)); exact HO_10.out⟩, ⟨by (try simp only [hl5_1]); (try simp only [hl5_3]); (try simp only [hl5_4]); (try simp only [hl10_4]); (with_reducible repeat (first | refine blk_drewN ?_ _ | refine blk_drew ?_ | refine blk_alloc ?_ _)); exact BK149.out⟩, ⟨by repeat (first | (with_reducible exact HR173.out) | (with_reducible refine Kd.C_alloc ?_ _) | (with_reducible refine Kd.C_drewN ?_ _) | (with_reducible refine Kd.C_drew ?_) | exact HR173.out)⟩, ⟨by repeat (first | (with_reducible exact HR175_0.out) | (with_reducible refine Kd.C_alloc ?_ _) | (with_reducible refine Kd.C_drewN ?_ _) | (with_reducible refine Kd.C_drew ?_) | exact HR175_0.out)⟩, ⟨by repeat (first | (with_reducible first | exact HB.out | apply below_alloc | apply pw_below_drewN | apply below_drew1 | refine below_set ?_ GE149.out) | exact HB.out)⟩⟩
                           ·rw [if_neg c55] at H
                            exact absurd H (by simp)
                          ·rw [if_neg c54] at H
                           exact absurd H (by simp)
                         ·rw [if_neg c53] at H
                          have c53b0 : decide (x73_5 < ((rd_L2 t153 (rd y170 x64_4)).length : Int)) = false := decide_eq_false c53
                          (try (have c53b0h := c53b0; simp only [hl5_1] at c53b0h))
                          (try (have c53b0h := c53b0; simp only [hl5_3] at c53b0h))
                          (try (have c53b0h := c53b0; simp only [hl5_4] at c53b0h))
                          (try (have c53b0h := c53b0; simp only [hl10_4] at c53b0h))
                          clear c53
                          by_cases c67 : x11_4 = true
                          ·subst c67
                           have H1 : (if 0 ≤ (rd y170 x64_4) then (if (rd y170 x64_4) < (x5_4.length : Int) then (if (rd y170 x64_4) < (x10_4.length : Int) then (dom_Tree.l3 k5 t150 t153 (x5_4.set ((rd y170 x64_4) : Int).toNat x14_5) x6_2 (x10_4.set ((rd y170 x64_4) : Int).toNat true) true y170 (y170.length : Int) (wrap64 (x64_4 + 1))) else (none)) else (none)) else (none)) = some r := by rw [if_pos rfl] at H; exact H
                           clear H
                           have H := H1
                           clear H1
                           by_cases c68 : 0 ≤ (rd y170 x64_4)
                           ·rw [if_pos c68] at H
                            have c68b0 : decide (0 ≤ (rd y170 x64_4)) = true := decide_eq_true c68
                            (try (have c68b0h := c68b0; simp only [hl5_1] at c68b0h))
                            (try (have c68b0h := c68b0; simp only [hl5_3] at c68b0h))
                            (try (have c68b0h := c68b0; simp only [hl5_4] at c68b0h))
                            (try (have c68b0h := c68b0; simp only [hl10_4] at c68b0h))
                            clear c68
                            by_cases c69 : (rd y170 x64_4) < (x5_4.length : Int)
                            ·rw [if_pos c69] at H
                             have c69b0 : decide ((rd y170 x64_4) < (x5_4.length : Int)) = true := decide_eq_true c69
                             (try (have c69b0h := c69b0; simp only [hl5_1] at c69b0h))
                             (try (have c69b0h := c69b0; simp only [hl5_3] at c69b0h))
                             (try (have c69b0h := c69b0; simp only [hl5_4] at c69b0h))
                             (try (have c69b0h := c69b0; simp only [hl10_4] at c69b0h))
                             clear c69
                             obtain ⟨y176, hy176⟩ : ∃ y_ : List Int, y_ = (x5_4.set ((rd y170 x64_4) : Int).toNat x14_5) := ⟨_, rfl⟩
                             replace H : (if (rd y170 x64_4) < (x10_4.length : Int) then (dom_Tree.l3 k5 t150 t153 y176 x6_2 (x10_4.set ((rd y170 x64_4) : Int).toNat true) true y170 (y170.length : Int) (wrap64 (x64_4 + 1))) else (none)) = some r := by first | (rw [hy176]; with_reducible exact H) | (have H2_ := (Option.bind_some _ _).symm.trans H; rw [hy176]; with_reducible exact H2_) | (have H2_ := (Option.bind_some _ _).symm.trans H; with_reducible exact H2_) | with_reducible exact H | (rw [hy176]; exact H) | exact H
                             have Ny176 := Aside0.mk hy176
                             clear hy176
                             by_cases c71 : (rd y170 x64_4) < (x10_4.length : Int)
                             ·rw [if_pos c71] at H
                              have c71b0 : decide ((rd y170 x64_4) < (x10_4.length : Int)) = true := decide_eq_true c71
                              (try (have c71b0h := c71b0; simp only [hl5_1] at c71b0h))
                              (try (have c71b0h := c71b0; simp only [hl5_3] at c71b0h))
                              (try (have c71b0h := c71b0; simp only [hl5_4] at c71b0h))
                              (try (have c71b0h := c71b0; simp only [hl10_4] at c71b0h))
                              clear c71
                              obtain ⟨y177, hy177⟩ : ∃ y_ : List Bool, y_ = (x10_4.set ((rd y170 x64_4) : Int).toNat true) := ⟨_, rfl⟩
                              replace H : (dom_Tree.l3 k5 t150 t153 y176 x6_2 y177 true y170 (y170.length : Int) (wrap64 (x64_4 + 1))) = some r := by first | (rw [hy177]; with_reducible exact H) | (have H2_ := (Option.bind_some _ _).symm.trans H; rw [hy177]; with_reducible exact H2_) | (have H2_ := (Option.bind_some _ _).symm.trans H; with_reducible exact H2_) | with_reducible exact H | (rw [hy177]; exact H) | exact H
                              have Ny177 := Aside0.mk hy177
                              clear hy177
                              have H' := Aside0.mk H
                              clear H
                              have p70 : 0 ≤ ((rd y170 x64_4) : Int) := zO
                              have q70 : ((rd y170 x64_4) : Int) < ((x5_4.length : Int) : Int) := zO
                              obtain ⟨go70, co70, eo70, gb70, gl70, cl70, HG70⟩ := Kd.R_form HO_5.out (by omega)
                              (first | cases eo70 | (injection eo70 with ea_ en_ ec_; (first | subst ea_ | (injection ea_ with ea_; subst ea_)); subst ec_; clear en_))
                              have GB70 := Aside0.mk gb70
                              have GG70 := Aside0.mk HG70
                              clear gb70 gl70 HG70
                              obtain ⟨hx70_0, hf70_0⟩ := Kd.R_celln 0 HO_5.out ((rd y170 x64_4) : Int) p70 q70
                              replace p70 := eq_true p70
                              replace q70 := eq_true q70
                              have HP73 := Kd.R_putg HO_5.out ((rd y170 x64_4) : Int) x14_5
                              go_wp2_with (first | ((with_reducible refine gate_store (t := 3) (p := 114) rfl ?_); refine store_event (t := 3) (p := 114) (v := ?vo_w74) (w1 := (wr.setCell ⟨go70, ((rd y170 x64_4) : Int).toNat, none⟩ (.int .i64 x14_5))) ?hg ?ho ?hn ?hr ?_; (case ho => rfl); (case hg => rfl); (case hn => rfl); (case hr => first | (go_simp; done) | (go_simp; rfl)); intro w74 hw; have hg : wr.grownBy w74 (some go70) := (by rw [hw]; exact HP73.2); have hp_ : Kd.R (Kd.int .i64) 3 w74 w.heap.size (fun k_ => some k_ ≠ (.slice Ao27 t150.length co27 : Value).ownBlock ∧ some k_ ≠ (v160 : Value).ownBlock) (.slice (some ⟨go70, 0, none⟩) x5_4.length co16) y176 := (by rw [hw, Ny176.out]; exact HP73.1); clear HP73; have n0_ := Aside0.mk (Kd.R_after (v := (.slice (some ⟨go70, 0, none⟩) x5_4.length co16)) (v1 := (.slice (some ⟨go70, 0, none⟩) x5_4.length co16)) (ok := (fun k_ => some k_ ≠ (v160 : Value).ownBlock)) (by (with_reducible repeat (first | apply Kd.R_alloc | apply Kd.R_drewN | apply Kd.R_drew)); exact Kd.R_mono HO_3.out (fun _ hk => ⟨hk.2, hk.1⟩)) hg (.inl rfl)); have n1_ := Aside0.mk (Kd.S_after (v := (.slice (some ⟨go70, 0, none⟩) x5_4.length co16)) (v1 := (.slice (some ⟨go70, 0, none⟩) x5_4.length co16)) (ok := (fun k_ => some k_ ≠ (.slice Ao27 t150.length co27 : Value).ownBlock ∧ some k_ ≠ (v160 : Value).ownBlock)) (by (with_reducible repeat (first | apply Kd.S_alloc | apply Kd.S_drewN | apply Kd.S_drew)); exact Kd.S_mono HO_4.out (fun _ hk => ⟨⟨hk.1, hk.2.2⟩, hk.2.1⟩)) hg (.inl rfl)); have n2_ := Aside0.mk (hp_); have n3_ := Aside0.mk (Kd.R_after (v := (.slice (some ⟨go70, 0, none⟩) x5_4.length co16)) (v1 := (.slice (some ⟨go70, 0, none⟩) x5_4.length co16)) (ok := (fun k_ => some k_ ≠ (.slice Ao27 t150.length co27 : Value).ownBlock)) (zR HO_6.out) hg (.inl rfl)); have n4_ := Aside0.mk (Kd.R_over' (v := (.slice (some ⟨go70, 0, none⟩) x5_4.length co16)) (zR HO_10.out) (Kd.R_typed HO_5.out) (by decide) hg); have n5_ := Aside0.mk (blk_grown (g := gb149) (o := .cells #[.string a0_0, .int .i64 a0_1, .int .i64 a0_2, .slice A0_3 l0_3.length c0_3, .slice A0_4 l0_4.length c0_4] 32 (0, 0)) (zK BK149.out) hg (Kd.R_ne HO_5.out BK149.out (by decide))); have n6_ := Aside0.mk ((by rw [hw]; exact below_set (HB.out) GB70.out : Below w.heap.size w w74)); have n7_ := Aside0.mk ((show Kd.C (Kd.int .i64) w74 (some ad174) y170.length y170 from by rw [Ny170.out, KA46.out]; exact Kd.C_drop (m := 1) (c := co27) ((Kd.R_reads' (Kd.R_after (v := (.slice (some ⟨go70, 0, none⟩) x5_4.length co16)) (v1 := (.slice (some ⟨go70, 0, none⟩) x5_4.length co16)) (ok := (fun k_ => some k_ ≠ (v160 : Value).ownBlock)) (by (with_reducible repeat (first | apply Kd.R_alloc | apply Kd.R_drewN | apply Kd.R_drew)); exact Kd.R_mono HO_3.out (fun _ hk => ⟨hk.2, hk.1⟩)) hg (.inl rfl))).2.2) KL46.out ((Kd.R_reads' (Kd.R_after (v := (.slice (some ⟨go70, 0, none⟩) x5_4.length co16)) (v1 := (.slice (some ⟨go70, 0, none⟩) x5_4.length co16)) (ok := (fun k_ => some k_ ≠ (v160 : Value).ownBlock)) (by (with_reducible repeat (first | apply Kd.R_alloc | apply Kd.R_drewN | apply Kd.R_drew)); exact Kd.R_mono HO_3.out (fun _ hk => ⟨hk.2, hk.1⟩)) hg (.inl rfl))).2.1))); clear HO_3; clear HO_4; clear HO_5; clear HO_6; clear HO_10; clear BK149; clear HB; clear HR173; have HO_3 := n0_; have HO_4 := n1_; have HO_5 := n2_; have HO_6 := n3_; have HO_10 := n4_; have BK149 := n5_; have HB := n6_; have HR173 := n7_; clear n0_ n1_ n2_ n3_ n4_ n5_ n6_ n7_; clear hg hw hp_; have p72 : 0 ≤ ((rd y170 x64_4) : Int) := zO; have q72 : ((rd y170 x64_4) : Int) < ((x10_4.length : Int) : Int) := zO; obtain ⟨hx72_0, hf72_0⟩ := Kd.R_celln false HO_10.out ((rd y170 x64_4) : Int) p72 q72; replace p72 := eq_true p72; replace q72 := eq_true q72; obtain ⟨hy75_, hz75_⟩ := Kd.R_celln false HO_10.out ((rd y170 x64_4) : Int) (zO) (zO); have HP75 := Kd.R_putg HO_10.out ((rd y170 x64_4) : Int) true) | ((with_reducible refine gate_store (t := 4) (p := 115) rfl ?_); refine store_event (t := 4) (p := 115) (v := ?vo_w76) (w1 := (w74.setCell ⟨go42, ((rd y170 x64_4) : Int).toNat, none⟩ (.bool true))) ?hg ?ho ?hn ?hr ?_; (case ho => rfl); (case hg => rfl); (case hn => rfl); (case hr => first | (go_simp; done) | (go_simp; rfl)); intro w76 hw; have hg : w74.grownBy w76 (some go42) := (by rw [hw]; exact HP75.2); have hp_ : Kd.R Kd.bool 4 w76 w.heap.size (fun _ => True) (.slice (some ⟨go42, 0, none⟩) x10_4.length co42) y177 := (by rw [hw, Ny177.out]; exact HP75.1); clear HP75; have n0_ := Aside0.mk (Kd.R_over' (v := (.slice (some ⟨go42, 0, none⟩) x10_4.length co42)) (zR HO_3.out) (Kd.R_typed HO_10.out) (by decide) hg); have n1_ := Aside0.mk (Kd.S_over' (v := (.slice (some ⟨go42, 0, none⟩) x10_4.length co42)) (zS HO_4.out) (Kd.R_typed HO_10.out) (by decide) hg); have n2_ := Aside0.mk (Kd.R_over' (v := (.slice (some ⟨go42, 0, none⟩) x10_4.length co42)) (zR HO_5.out) (Kd.R_typed HO_10.out) (by decide) hg); have n3_ := Aside0.mk (Kd.R_over' (v := (.slice (some ⟨go42, 0, none⟩) x10_4.length co42)) (zR HO_6.out) (Kd.R_typed HO_10.out) (by decide) hg); have n4_ := Aside0.mk (hp_); have n5_ := Aside0.mk (blk_grown (g := gb149) (o := .cells #[.string a0_0, .int .i64 a0_1, .int .i64 a0_2, .slice A0_3 l0_3.length c0_3, .slice A0_4 l0_4.length c0_4] 32 (0, 0)) (zK BK149.out) hg (Kd.R_ne HO_10.out BK149.out (by decide))); have n6_ := Aside0.mk ((by rw [hw]; exact below_set (HB.out) GB42.out : Below w.heap.size w w76)); have n7_ := Aside0.mk ((show Kd.C (Kd.int .i64) w76 (some ad174) y170.length y170 from by rw [Ny170.out, KA46.out]; exact Kd.C_drop (m := 1) (c := co27) ((Kd.R_reads' (Kd.R_over' (v := (.slice (some ⟨go42, 0, none⟩) x10_4.length co42)) (zR HO_3.out) (Kd.R_typed HO_10.out) (by decide) hg)).2.2) KL46.out ((Kd.R_reads' (Kd.R_over' (v := (.slice (some ⟨go42, 0, none⟩) x10_4.length co42)) (zR HO_3.out) (Kd.R_typed HO_10.out) (by decide) hg)).2.1))); clear HO_3; clear HO_4; clear HO_5; clear HO_6; clear HO_10; clear BK149; clear HB; clear HR173; have HO_3 := n0_; have HO_4 := n1_; have HO_5 := n2_; have HO_6 := n3_; have HO_10 := n4_; have BK149 := n5_; have HB := n6_; have HR173 := n7_; clear n0_ n1_ n2_ n3_ n4_ n5_ n6_ n7_; clear hg hw hp_))
                              (try simp only [← hl5_4, ← hl10_4])
                              go_roundg k5
                              case measure => have := HK1.out; have := HK2.out; have := HK3.out; have := HK4.out; have := HK5.out; omega
                              case rel => exact ⟨(y176), (y177), (true), (wrap64 (x64_4 + 1)), zQ, zQ, H', ⟨by have := HK1.out; have := HK2.out; have := HK3.out; have := HK4.out; have := HK5.out; omega⟩, ⟨by (try simp only [hl5_1]); (try simp only [hl5_3]); (try simp only [hl5_4]); (try simp only [hl10_4]); (with_reducible repeat (first | apply Kd.R_alloc | apply Kd.R_drewN | apply Kd.R_drew)); exact Kd.R_mono HO_3.out (fun _ hk => ⟨hk.2, hk.1⟩)⟩, ⟨by (try simp only [hl5_1]); (try simp only [hl5_3]); (try simp only [hl5_4]); (try simp only [hl10_4]); (with_reducible repeat (first | apply Kd.S_alloc | apply Kd.S_drewN | apply Kd.S_drew)); exact Kd.S_mono HO_4.out (fun _ hk => ⟨hk.1.1, ⟨hk.2, hk.1.2⟩⟩)⟩, ⟨by (try simp only [hl5_1]); (try simp only [hl5_3]); (try simp only [hl5_4]); (try simp only [hl10_4]); (with_reducible repeat (first | apply Kd.R_alloc | apply Kd.R_drewN | apply Kd.R_drew)); exact HO_5.out⟩, ⟨by (try simp only [hl5_1]); (try simp only [hl5_3]); (try simp only [hl5_4]); (try simp only [hl10_4]); (with_reducible repeat (first | apply Kd.R_alloc | apply Kd.R_drewN | apply Kd.R_drew)); exact HO_6.out⟩, ⟨by (try simp only [hl5_1]); (try simp only [hl5_3]); (try simp only [hl5_4]); (try simp only [hl10_4]); (with_reducible repeat (first | apply Kd.R_alloc | apply Kd.R_drewN | apply Kd.R_drew)); exact HO_10.out⟩, ⟨by (try simp only [hl5_1]); (try simp only [hl5_3]); (try simp only [hl5_4]); (try simp only [hl10_4]); (with_reducible repeat (first | refine blk_drewN ?_ _ | refine blk_drew ?_ | refine blk_alloc ?_ _)); exact BK149.out⟩, ⟨by repeat (first | (with_reducible exact HR173.out) | (with_reducible refine Kd.C_alloc ?_ _) | (with_reducible refine Kd.C_drewN ?_ _) | (with_reducible refine Kd.C_drew ?_) | exact HR173.out)⟩, ⟨by repeat (first | (with_reducible first | exact HB.out | apply below_alloc | apply pw_below_drewN | apply below_drew1 | refine below_set ?_ GE149.out) | exact HB.out)⟩⟩
                             ·rw [if_neg c71] at H
                              exact absurd H (by simp)
                            ·rw [if_neg c69] at H
                             exact absurd H (by simp)
                           ·rw [if_neg c68] at H
                            exact absurd H (by simp)
                          ·replace c67 := Bool.eq_false_iff.mpr c67
                           subst c67
                           have H1 : (if 0 ≤ (rd y170 x64_4) then (if (rd y170 x64_4) < (x5_4.length : Int) then (if (rd y170 x64_4) < (x10_4.length : Int) then (dom_Tree.l3 k5 t150 t153 (x5_4.set ((rd y170 x64_4) : Int).toNat x14_5) x6_2 (x10_4.set ((rd y170 x64_4) : Int).toNat true) (x14_5 != (rd x5_4 (rd y170 x64_4))) y170 (y170.length : Int) (wrap64 (x64_4 + 1))) else (none)) else (none)) else (none)) = some r := by rw [if_neg (show ¬ (false = true) by decide)] at H; exact H
                           clear H
                           have H := H1
                           clear H1
                           by_cases c77 : 0 ≤ (rd y170 x64_4)
                           ·rw [if_pos c77] at H
                            have c77b0 : decide (0 ≤ (rd y170 x64_4)) = true := decide_eq_true c77
                            (try (have c77b0h := c77b0; simp only [hl5_1] at c77b0h))
                            (try (have c77b0h := c77b0; simp only [hl5_3] at c77b0h))
                            (try (have c77b0h := c77b0; simp only [hl5_4] at c77b0h))
                            (try (have c77b0h := c77b0; simp only [hl10_4] at c77b0h))
                            clear c77
                            by_cases c78 : (rd y170 x64_4) < (x5_4.length : Int)
                            ·rw [if_pos c78] at H
                             have c78b0 : decide ((rd y170 x64_4) < (x5_4.length : Int)) = true := decide_eq_true c78
                             (try (have c78b0h := c78b0; simp only [hl5_1] at c78b0h))
                             (try (have c78b0h := c78b0; simp only [hl5_3] at c78b0h))
                             (try (have c78b0h := c78b0; simp only [hl5_4] at c78b0h))
                             (try (have c78b0h := c78b0; simp only [hl10_4] at c78b0h))
                             clear c78
                             obtain ⟨y179, hy179⟩ : ∃ y_ : List Int, y_ = (x5_4.set ((rd y170 x64_4) : Int).toNat x14_5) := ⟨_, rfl⟩
                             replace H : (if (rd y170 x64_4) < (x10_4.length : Int) then (dom_Tree.l3 k5 t150 t153 y179 x6_2 (x10_4.set ((rd y170 x64_4) : Int).toNat true) (x14_5 != (rd x5_4 (rd y170 x64_4))) y170 (y170.length : Int) (wrap64 (x64_4 + 1))) else (none)) = some r := by first | (rw [hy179]; with_reducible exact H) | (have H2_ := (Option.bind_some _ _).symm.trans H; rw [hy179]; with_reducible exact H2_) | (have H2_ := (Option.bind_some _ _).symm.trans H; with_reducible exact H2_) | with_reducible exact H | (rw [hy179]; exact H) | exact H
                             have Ny179 := Aside0.mk hy179
                             clear hy179
                             by_cases c80 : (rd y170 x64_4) < (x10_4.length : Int)
                             ·rw [if_pos c80] at H
                              have c80b0 : decide ((rd y170 x64_4) < (x10_4.length : Int)) = true := decide_eq_true c80
                              (try (have c80b0h := c80b0; simp only [hl5_1] at c80b0h))
                              (try (have c80b0h := c80b0; simp only [hl5_3] at c80b0h))
                              (try (have c80b0h := c80b0; simp only [hl5_4] at c80b0h))
                              (try (have c80b0h := c80b0; simp only [hl10_4] at c80b0h))
                              clear c80
                              obtain ⟨y180, hy180⟩ : ∃ y_ : List Bool, y_ = (x10_4.set ((rd y170 x64_4) : Int).toNat true) := ⟨_, rfl⟩
                              replace H : (dom_Tree.l3 k5 t150 t153 y179 x6_2 y180 (x14_5 != (rd x5_4 (rd y170 x64_4))) y170 (y170.length : Int) (wrap64 (x64_4 + 1))) = some r := by first | (rw [hy180]; with_reducible exact H) | (have H2_ := (Option.bind_some _ _).symm.trans H; rw [hy180]; with_reducible exact H2_) | (have H2_ := (Option.bind_some _ _).symm.trans H; with_reducible exact H2_) | with_reducible exact H | (rw [hy180]; exact H) | exact H
                              have Ny180 := Aside0.mk hy180
                              clear hy180
                              have H' := Aside0.mk H
                              clear H
                              have p178 : 0 ≤ ((rd y170 x64_4) : Int) := zO
                              have q178 : (rd y170 x64_4) < (x5_4.length : Int) := zO
                              obtain ⟨ad178, e178, hx178_0⟩ := Kd.at_int (Kd.R_reads' HO_5.out).2.2 (rd y170 x64_4) p178 q178
                              cases e178
                              replace p178 := eq_true p178
                              replace q178 := eq_true q178
                              have p79 : 0 ≤ ((rd y170 x64_4) : Int) := zO
                              have q79 : ((rd y170 x64_4) : Int) < ((x5_4.length : Int) : Int) := zO
                              obtain ⟨go79, co79, eo79, gb79, gl79, cl79, HG79⟩ := Kd.R_form HO_5.out (by omega)
                              (first | cases eo79 | (injection eo79 with ea_ en_ ec_; (first | subst ea_ | (injection ea_ with ea_; subst ea_)); subst ec_; clear en_))
                              have GB79 := Aside0.mk gb79
                              have GG79 := Aside0.mk HG79
                              clear gb79 gl79 HG79
                              (first | simp only [add_plain] at hx178_0 | skip)
                              obtain ⟨hx79_0, hf79_0⟩ := Kd.R_celln 0 HO_5.out ((rd y170 x64_4) : Int) p79 q79
                              replace p79 := eq_true p79
                              replace q79 := eq_true q79
                              have HP82 := Kd.R_putg HO_5.out ((rd y170 x64_4) : Int) x14_5
                              go_wp2_with (first | ((with_reducible refine gate_store (t := 3) (p := 114) rfl ?_); refine store_event (t := 3) (p := 114) (v := ?vo_w83) (w1 := (wr.setCell ⟨go79, ((rd y170 x64_4) : Int).toNat, none⟩ (.int .i64 x14_5))) ?hg ?ho ?hn ?hr ?_; (case ho => rfl); (case hg => rfl); (case hn => rfl); (case hr => first | (go_simp; done) | (go_simp; rfl)); intro w83 hw; have hg : wr.grownBy w83 (some go79) := (by rw [hw]; exact HP82.2); have hp_ : Kd.R (Kd.int .i64) 3 w83 w.heap.size (fun k_ => some k_ ≠ (.slice Ao27 t150.length co27 : Value).ownBlock ∧ some k_ ≠ (v160 : Value).ownBlock) (.slice (some ⟨go79, 0, none⟩) x5_4.length co16) y179 := (by rw [hw, Ny179.out]; exact HP82.1); clear HP82; have n0_ := Aside0.mk (Kd.R_after (v := (.slice (some ⟨go79, 0, none⟩) x5_4.length co16)) (v1 := (.slice (some ⟨go79, 0, none⟩) x5_4.length co16)) (ok := (fun k_ => some k_ ≠ (v160 : Value).ownBlock)) (by (with_reducible repeat (first | apply Kd.R_alloc | apply Kd.R_drewN | apply Kd.R_drew)); exact Kd.R_mono HO_3.out (fun _ hk => ⟨hk.2, hk.1⟩)) hg (.inl rfl)); have n1_ := Aside0.mk (Kd.S_after (v := (.slice (some ⟨go79, 0, none⟩) x5_4.length co16)) (v1 := (.slice (some ⟨go79, 0, none⟩) x5_4.length co16)) (ok := (fun k_ => some k_ ≠ (.slice Ao27 t150.length co27 : Value).ownBlock ∧ some k_ ≠ (v160 : Value).ownBlock)) (by (with_reducible repeat (first | apply Kd.S_alloc | apply Kd.S_drewN | apply Kd.S_drew)); exact Kd.S_mono HO_4.out (fun _ hk => ⟨⟨hk.1, hk.2.2⟩, hk.2.1⟩)) hg (.inl rfl)); have n2_ := Aside0.mk (hp_); have n3_ := Aside0.mk (Kd.R_after (v := (.slice (some ⟨go79, 0, none⟩) x5_4.length co16)) (v1 := (.slice (some ⟨go79, 0, none⟩) x5_4.length co16)) (ok := (fun k_ => some k_ ≠ (.slice Ao27 t150.length co27 : Value).ownBlock)) (zR HO_6.out) hg (.inl rfl)); have n4_ := Aside0.mk (Kd.R_over' (v := (.slice (some ⟨go79, 0, none⟩) x5_4.length co16)) (zR HO_10.out) (Kd.R_typed HO_5.out) (by decide) hg); have n5_ := Aside0.mk (blk_grown (g := gb149) (o := .cells #[.string a0_0, .int .i64 a0_1, .int .i64 a0_2, .slice A0_3 l0_3.length c0_3, .slice A0_4 l0_4.length c0_4] 32 (0, 0)) (zK BK149.out) hg (Kd.R_ne HO_5.out BK149.out (by decide))); have n6_ := Aside0.mk ((by rw [hw]; exact below_set (HB.out) GB79.out : Below w.heap.size w w83)); have n7_ := Aside0.mk ((show Kd.C (Kd.int .i64) w83 (some ad174) y170.length y170 from by rw [Ny170.out, KA46.out]; exact Kd.C_drop (m := 1) (c := co27) ((Kd.R_reads' (Kd.R_after (v := (.slice (some ⟨go79, 0, none⟩) x5_4.length co16)) (v1 := (.slice (some ⟨go79, 0, none⟩) x5_4.length co16)) (ok := (fun k_ => some k_ ≠ (v160 : Value).ownBlock)) (by (with_reducible repeat (first | apply Kd.R_alloc | apply Kd.R_drewN | apply Kd.R_drew)); exact Kd.R_mono HO_3.out (fun _ hk => ⟨hk.2, hk.1⟩)) hg (.inl rfl))).2.2) KL46.out ((Kd.R_reads' (Kd.R_after (v := (.slice (some ⟨go79, 0, none⟩) x5_4.length co16)) (v1 := (.slice (some ⟨go79, 0, none⟩) x5_4.length co16)) (ok := (fun k_ => some k_ ≠ (v160 : Value).ownBlock)) (by (with_reducible repeat (first | apply Kd.R_alloc | apply Kd.R_drewN | apply Kd.R_drew)); exact Kd.R_mono HO_3.out (fun _ hk => ⟨hk.2, hk.1⟩)) hg (.inl rfl))).2.1))); clear HO_3; clear HO_4; clear HO_5; clear HO_6; clear HO_10; clear BK149; clear HB; clear HR173; have HO_3 := n0_; have HO_4 := n1_; have HO_5 := n2_; have HO_6 := n3_; have HO_10 := n4_; have BK149 := n5_; have HB := n6_; have HR173 := n7_; clear n0_ n1_ n2_ n3_ n4_ n5_ n6_ n7_; clear hg hw hp_; have p81 : 0 ≤ ((rd y170 x64_4) : Int) := zO; have q81 : ((rd y170 x64_4) : Int) < ((x10_4.length : Int) : Int) := zO; obtain ⟨hx81_0, hf81_0⟩ := Kd.R_celln false HO_10.out ((rd y170 x64_4) : Int) p81 q81; replace p81 := eq_true p81; replace q81 := eq_true q81; obtain ⟨hy84_, hz84_⟩ := Kd.R_celln false HO_10.out ((rd y170 x64_4) : Int) (zO) (zO); have HP84 := Kd.R_putg HO_10.out ((rd y170 x64_4) : Int) true) | ((with_reducible refine gate_store (t := 4) (p := 115) rfl ?_); refine store_event (t := 4) (p := 115) (v := ?vo_w85) (w1 := (w83.setCell ⟨go42, ((rd y170 x64_4) : Int).toNat, none⟩ (.bool true))) ?hg ?ho ?hn ?hr ?_; (case ho => rfl); (case hg => rfl); (case hn => rfl); (case hr => first | (go_simp; done) | (go_simp; rfl)); intro w85 hw; have hg : w83.grownBy w85 (some go42) := (by rw [hw]; exact HP84.2); have hp_ : Kd.R Kd.bool 4 w85 w.heap.size (fun _ => True) (.slice (some ⟨go42, 0, none⟩) x10_4.length co42) y180 := (by rw [hw, Ny180.out]; exact HP84.1); clear HP84; have n0_ := Aside0.mk (Kd.R_over' (v := (.slice (some ⟨go42, 0, none⟩) x10_4.length co42)) (zR HO_3.out) (Kd.R_typed HO_10.out) (by decide) hg); have n1_ := Aside0.mk (Kd.S_over' (v := (.slice (some ⟨go42, 0, none⟩) x10_4.length co42)) (zS HO_4.out) (Kd.R_typed HO_10.out) (by decide) hg); have n2_ := Aside0.mk (Kd.R_over' (v := (.slice (some ⟨go42, 0, none⟩) x10_4.length co42)) (zR HO_5.out) (Kd.R_typed HO_10.out) (by decide) hg); have n3_ := Aside0.mk (Kd.R_over' (v := (.slice (some ⟨go42, 0, none⟩) x10_4.length co42)) (zR HO_6.out) (Kd.R_typed HO_10.out) (by decide) hg); have n4_ := Aside0.mk (hp_); have n5_ := Aside0.mk (blk_grown (g := gb149) (o := .cells #[.string a0_0, .int .i64 a0_1, .int .i64 a0_2, .slice A0_3 l0_3.length c0_3, .slice A0_4 l0_4.length c0_4] 32 (0, 0)) (zK BK149.out) hg (Kd.R_ne HO_10.out BK149.out (by decide))); have n6_ := Aside0.mk ((by rw [hw]; exact below_set (HB.out) GB42.out : Below w.heap.size w w85)); have n7_ := Aside0.mk ((show Kd.C (Kd.int .i64) w85 (some ad174) y170.length y170 from by rw [Ny170.out, KA46.out]; exact Kd.C_drop (m := 1) (c := co27) ((Kd.R_reads' (Kd.R_over' (v := (.slice (some ⟨go42, 0, none⟩) x10_4.length co42)) (zR HO_3.out) (Kd.R_typed HO_10.out) (by decide) hg)).2.2) KL46.out ((Kd.R_reads' (Kd.R_over' (v := (.slice (some ⟨go42, 0, none⟩) x10_4.length co42)) (zR HO_3.out) (Kd.R_typed HO_10.out) (by decide) hg)).2.1))); clear HO_3; clear HO_4; clear HO_5; clear HO_6; clear HO_10; clear BK149; clear HB; clear HR173; have HO_3 := n0_; have HO_4 := n1_; have HO_5 := n2_; have HO_6 := n3_; have HO_10 := n4_; have BK149 := n5_; have HB := n6_; have HR173 := n7_; clear n0_ n1_ n2_ n3_ n4_ n5_ n6_ n7_; clear hg hw hp_))
                              (try simp only [← hl5_4, ← hl10_4])
                              go_roundg k5
                              case measure => have := HK1.out; have := HK2.out; have := HK3.out; have := HK4.out; have := HK5.out; omega
                              case rel => exact ⟨(y179), (y180), ((x14_5 != (rd x5_4 (rd y170 x64_4)))), (wrap64 (x64_4 + 1)), zQ, zQ, H', ⟨by have := HK1.out; have := HK2.out; have := HK3.out; have := HK4.out; have := HK5.out; omega⟩, ⟨by (try simp only [hl5_1]); (try simp only [hl5_3]); (try simp only [hl5_4]); (try simp only [hl10_4]); (with_reducible repeat (first | apply Kd.R_alloc | apply Kd.R_drewN | apply Kd.R_drew)); exact Kd.R_mono HO_3.out (fun _ hk => ⟨hk.2, hk.1⟩)⟩, ⟨by (try simp only [hl5_1]); (try simp only [hl5_3]); (try simp only [hl5_4]); (try simp only [hl10_4]); (with_reducible repeat (first | apply Kd.S_alloc | apply Kd.S_drewN | apply Kd.S_drew)); exact Kd.S_mono HO_4.out (fun _ hk => ⟨hk.1.1, ⟨hk.2, hk.1.2⟩⟩)⟩, ⟨by (try simp only [hl5_1]); (try simp only [hl5_3]); (try simp only [hl5_4]); (try simp only [hl10_4]); (with_reducible repeat (first | apply Kd.R_alloc | apply Kd.R_drewN | apply Kd.R_drew)); exact HO_5.out⟩, ⟨by (try simp only [hl5_1]); (try simp only [hl5_3]); (try simp only [hl5_4]); (try simp only [hl10_4]); (with_reducible repeat (first | apply Kd.R_alloc | apply Kd.R_drewN | apply Kd.R_drew)); exact HO_6.out⟩, ⟨by (try simp only [hl5_1]); (try simp only [hl5_3]); (try simp only [hl5_4]); (try simp only [hl10_4]); (with_reducible repeat (first | apply Kd.R_alloc | apply Kd.R_drewN | apply Kd.R_drew)); exact HO_10.out⟩, ⟨by (try simp only [hl5_1]); (try simp only [hl5_3]); (try simp only [hl5_4]); (try simp only [hl10_4]); (with_reducible repeat (first | refine blk_drewN ?_ _ | refine blk_drew ?_ | refine blk_alloc ?_ _)); exact BK149.out⟩, ⟨by repeat (first | (with_reducible exact HR173.out) | (with_reducible refine Kd.C_alloc ?_ _) | (with_reducible refine Kd.C_drewN ?_ _) | (with_reducible refine Kd.C_drew ?_) | exact HR173.out)⟩, ⟨by repeat (first | (with_reducible first | exact HB.out | apply below_alloc | apply pw_below_drewN | apply below_drew1 | refine below_set ?_ GE149.out) | exact HB.out)⟩⟩
                             ·rw [if_neg c80] at H
                              exact absurd H (by simp)
                            ·rw [if_neg c78] at H
                             exact absurd H (by simp)
                           ·rw [if_neg c77] at H
                            exact absurd H (by simp)
                      ·rw [if_neg c51] at H
                       exact absurd H (by simp)
                     ·rw [if_neg c50] at H
                      exact absurd H (by simp)
                    ·rw [if_neg c49] at H
                     exact absurd H (by simp)
                   ·rw [if_neg c48] at H
                    exact absurd H (by simp)
                  ·rw [if_neg c47] at H
                   have c47b0 : decide (x64_4 < (y170.length : Int)) = false := decide_eq_false c47
                   (try (have c47b0h := c47b0; simp only [hl5_1] at c47b0h))
                   (try (have c47b0h := c47b0; simp only [hl5_3] at c47b0h))
                   (try (have c47b0h := c47b0; simp only [hl5_4] at c47b0h))
                   (try (have c47b0h := c47b0; simp only [hl10_4] at c47b0h))
                   clear c47
                   by_cases c86 : x11_4 = true
                   ·subst c86
                    have H1 : (dom_Tree.l2 k4 t150 t153 x5_4 x6_2 x10_4) = some r := by rw [if_pos rfl] at H; exact H
                    clear H
                    have H := H1
                    clear H1
                    have H' := Aside0.mk H
                    clear H
                    go_wp2
                    (try simp only [← hl5_3, ← hl5_4, ← hl10_4])
                    go_roundg k4
                    case measure => have := HK1.out; have := HK2.out; have := HK3.out; have := HK4.out; omega
                    case rel => exact ⟨(x5_4), (x10_4), H', ⟨by have := HK1.out; have := HK2.out; have := HK3.out; have := HK4.out; omega⟩, ⟨by (try simp only [hl5_1]); (try simp only [hl5_3]); (try simp only [hl5_4]); (try simp only [hl10_4]); (with_reducible repeat (first | apply Kd.R_alloc | apply Kd.R_drewN | apply Kd.R_drew)); exact HO_3.out⟩, ⟨by (try simp only [hl5_1]); (try simp only [hl5_3]); (try simp only [hl5_4]); (try simp only [hl10_4]); (with_reducible repeat (first | apply Kd.S_alloc | apply Kd.S_drewN | apply Kd.S_drew)); exact HO_4.out⟩, ⟨by (try simp only [hl5_1]); (try simp only [hl5_3]); (try simp only [hl5_4]); (try simp only [hl10_4]); (with_reducible repeat (first | apply Kd.R_alloc | apply Kd.R_drewN | apply Kd.R_drew)); exact HO_5.out⟩, ⟨by (try simp only [hl5_1]); (try simp only [hl5_3]); (try simp only [hl5_4]); (try simp only [hl10_4]); (with_reducible repeat (first | apply Kd.R_alloc | apply Kd.R_drewN | apply Kd.R_drew)); exact HO_6.out⟩, ⟨by (try simp only [hl5_1]); (try simp only [hl5_3]); (try simp only [hl5_4]); (try simp only [hl10_4]); (with_reducible repeat (first | apply Kd.R_alloc | apply Kd.R_drewN | apply Kd.R_drew)); exact HO_10.out⟩, ⟨by (try simp only [hl5_1]); (try simp only [hl5_3]); (try simp only [hl5_4]); (try simp only [hl10_4]); (with_reducible repeat (first | refine blk_drewN ?_ _ | refine blk_drew ?_ | refine blk_alloc ?_ _)); exact BK149.out⟩, ⟨by repeat (first | (with_reducible first | exact HB.out | apply below_alloc | apply pw_below_drewN | apply below_drew1 | refine below_set ?_ GE149.out) | exact HB.out)⟩⟩
                   ·replace c86 := Bool.eq_false_iff.mpr c86
                    subst c86
                    have H1 : (some x5_4) = some r := by rw [if_neg (show ¬ (false = true) by decide)] at H; exact H
                    clear H
                    have H := H1
                    clear H1
                    obtain rfl := Option.some.inj H
                    go_wp2
                    go_ret
                    exact ⟨_, zV, by (with_reducible repeat (first | apply Kd.R_alloc | apply Kd.R_drewN | apply Kd.R_drew)); exact Kd.R_mono HO_5.out (fun _ hk => trivial), by repeat (first | (with_reducible first | exact HB.out | apply below_alloc | apply pw_below_drewN | apply below_drew1 | refine below_set ?_ GE149.out) | exact HB.out)⟩
               ·rw [if_neg c43] at H
                exact absurd H (by simp)
              ·rw [if_neg c41] at H
               exact absurd H (by simp)
             ·rw [if_neg c40] at H
              have c40b0 : decide (0 < (t150.length : Int)) = false := decide_eq_false c40
              (try (have c40b0h := c40b0; simp only [hl5_1] at c40b0h))
              (try (have c40b0h := c40b0; simp only [hl5_3] at c40b0h))
              have c40b1 : decide (0 < t150.length) = false := decide_eq_false (by omega)
              (try (have c40b1h := c40b1; simp only [hl5_1] at c40b1h))
              (try (have c40b1h := c40b1; simp only [hl5_3] at c40b1h))
              clear c40
              obtain rfl := Option.some.inj H
              go_wp2
              go_ret
              exact ⟨_, zV, by (with_reducible repeat (first | apply Kd.R_alloc | apply Kd.R_drewN | apply Kd.R_drew)); exact Kd.R_mono HO_5.out (fun _ hk => trivial), by repeat (first | (with_reducible first | exact HB.out | apply below_alloc | apply pw_below_drewN | apply below_drew1 | refine below_set ?_ GE149.out) | exact HB.out)⟩
          ·rw [if_neg c37] at H
           exact absurd H (by simp)
         ·rw [if_neg c36] at H
          exact absurd H (by simp)
  ·rw [if_neg c5] at H
   exact absurd H (by simp)
 ·rw [if_neg c4] at H
  exact absurd H (by simp)
end Go.Proofs.Ytomopjomapkmjaa.P

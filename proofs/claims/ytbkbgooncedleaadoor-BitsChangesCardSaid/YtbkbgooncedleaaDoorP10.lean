-- by xprint.py, a program of this place over the kit's print: Lean checks it
import Derived.Test.YtbkbgooncedleaaDoorP0
import Derived.Test.YtbkbgooncedleaaDoorP1
import Derived.Test.YtbkbgooncedleaaDoorP2
import Derived.Test.YtbkbgooncedleaaDoorP3
import Derived.Test.YtbkbgooncedleaaDoorP4
import Derived.Test.YtbkbgooncedleaaDoorP7
import Derived.Test.YtbkbgooncedleaaDoorP9
namespace Go.Proofs.YtbkbgooncedleaaDoor.P
open Go.RowKit Go.Proofs.YtbkbgooncedleaaDoorW.PrintWords Go.Proofs.YtbkbgooncedleaaDoorW.PrintLast Go.Proofs.YtbkbgooncedleaaDoorW.PrintMore
attribute [local go_sem] max2_int min2_int max_two min_two max_three min_three max_four min_four   -- for this text's walks alone
set_option linter.unusedVariables false
set_option linter.unusedSimpArgs false

/-! ### balustradelaw02_BitsChanges: function 5 -/
mutual
def balustradelaw02_BitsChanges.j0 : Nat → List Int → List Int → Bool → Option (Bool)
  | 0, _, _, _ => none
  | k + 1, x0, x1, x19 => if x19 = true then ((balustradelaw02_works.f k).bind fun t378 => (some t378)) else ((balustradelaw02_copied.f x0).bind fun t379 => ((balustraderef02_List.f k x0).bind fun t382 => (balustradelaw02_BitsChanges.l0 k x0 x1 t379 t382 0)))
def balustradelaw02_BitsChanges.l0 : Nat → List Int → List Int → List Int → List Int → Int → Option (Bool)
  | 0, _, _, _, _, _ => none
  | k + 1, x0, x1, x5, x6, x7 => if x7 < (x1.length : Int) then (if 0 ≤ x7 then (if (rd x1 x7) ≥ 0 then (balustradelaw02_BitsChanges.j2 k x0 x1 x5 x6 x7 (rd x1 x7) ((Int.tmod (rd x1 x7) 2) == 0) (decide ((rd x1 x7) < (wrap64 (64 * (x0.length : Int)))))) else (balustradelaw02_BitsChanges.j2 k x0 x1 x5 x6 x7 (rd x1 x7) ((Int.tmod (rd x1 x7) 2) == 0) false)) else (none)) else ((balustraderef02_Words.f k (x0.length : Int) x6).bind fun t385 => ((balustradelaw02_words.f k x5 t385).bind fun t388 => (if t388 = true then ((balustradelaw02_works.f k).bind fun t389 => (some t389)) else (some false))))
def balustradelaw02_BitsChanges.j2 : Nat → List Int → List Int → List Int → List Int → Int → Int → Bool → Bool → Option (Bool)
  | 0, _, _, _, _, _, _, _, _ => none
  | k + 1, x0, x1, x5, x6, x7, x8, x9, x10 => (balustradebase_HasInt.f k x6 x8).bind fun t391 => ((bits_Set_Has.f x5 x8).bind fun t392 => (if (t392 != t391) = true then (some false) else (if x9 = true then ((bits_Set_Drop.f x5 x8).bind fun bt393 => (if (bt393.1 != t391) = true then (some false) else ((balustraderef02_Out.f k x6 (([x8] : List Int))).bind fun t398 => (balustradelaw02_BitsChanges.j4 k x0 x1 bt393.2 t398 x7)))) else ((bits_Set_Put.f x5 x8).bind fun bt401 => (if x10 = true then (balustradelaw02_BitsChanges.j3 k x0 x1 bt401.2 x6 x7 x8 x10 (bt401.1 != (!t391))) else (balustradelaw02_BitsChanges.j3 k x0 x1 bt401.2 x6 x7 x8 x10 (bt401.1 != false)))))))
def balustradelaw02_BitsChanges.j4 : Nat → List Int → List Int → List Int → List Int → Int → Option (Bool)
  | 0, _, _, _, _, _ => none
  | k + 1, x0, x1, x5, x6, x7 => (bits_Set_List.f k x5).bind fun t412 => ((balustradebase_SameInts.f k t412 x6).bind fun t415 => (if t415 = true then ((bits_Set_Count.f k x5).bind fun t416 => (if t416 = (x6.length : Int) then (balustradelaw02_BitsChanges.l0 k x0 x1 x5 x6 (wrap64 (x7 + 1))) else (some false))) else (some false)))
def balustradelaw02_BitsChanges.j3 : Nat → List Int → List Int → List Int → List Int → Int → Int → Bool → Bool → Option (Bool)
  | 0, _, _, _, _, _, _, _, _ => none
  | k + 1, x0, x1, x5, x6, x7, x8, x10, x73 => if x73 = true then (some false) else (if x10 = true then ((balustradebase_Ints.f x6).bind fun t403 => (if t403.length < 17592186044416 then ((balustradebase_Sorted.f k (t403 ++ [x8])).bind fun t409 => (balustradelaw02_BitsChanges.j4 k x0 x1 x5 t409 x7)) else (none))) else (balustradelaw02_BitsChanges.j4 k x0 x1 x5 x6 x7))
end
def balustradelaw02_BitsChanges.f (k : Nat) (l0 : List Int) (l1 : List Int) : Option (Bool) := if (l0.length : Int) > 6 then (balustradelaw02_BitsChanges.j0 k l0 l1 true) else (balustradelaw02_BitsChanges.j0 k l0 l1 (decide ((l1.length : Int) > 20)))
theorem balustradelaw02_BitsChanges.mono_l : ∀ k, (∀ y0 y1 y2, LeO (balustradelaw02_BitsChanges.j0 k y0 y1 y2) (balustradelaw02_BitsChanges.j0 (k + 1) y0 y1 y2)) ∧ (∀ y0 y1 y2 y3 y4, LeO (balustradelaw02_BitsChanges.l0 k y0 y1 y2 y3 y4) (balustradelaw02_BitsChanges.l0 (k + 1) y0 y1 y2 y3 y4)) ∧ (∀ y0 y1 y2 y3 y4 y5 y6 y7, LeO (balustradelaw02_BitsChanges.j2 k y0 y1 y2 y3 y4 y5 y6 y7) (balustradelaw02_BitsChanges.j2 (k + 1) y0 y1 y2 y3 y4 y5 y6 y7)) ∧ (∀ y0 y1 y2 y3 y4, LeO (balustradelaw02_BitsChanges.j4 k y0 y1 y2 y3 y4) (balustradelaw02_BitsChanges.j4 (k + 1) y0 y1 y2 y3 y4)) ∧ (∀ y0 y1 y2 y3 y4 y5 y6 y7, LeO (balustradelaw02_BitsChanges.j3 k y0 y1 y2 y3 y4 y5 y6 y7) (balustradelaw02_BitsChanges.j3 (k + 1) y0 y1 y2 y3 y4 y5 y6 y7))
  | 0 => ⟨fun _ _ _ r h => by simp [balustradelaw02_BitsChanges.j0] at h, fun _ _ _ _ _ r h => by simp [balustradelaw02_BitsChanges.l0] at h, fun _ _ _ _ _ _ _ _ r h => by simp [balustradelaw02_BitsChanges.j2] at h, fun _ _ _ _ _ r h => by simp [balustradelaw02_BitsChanges.j4] at h, fun _ _ _ _ _ _ _ _ r h => by simp [balustradelaw02_BitsChanges.j3] at h⟩
  | k + 1 => by
    obtain ⟨ih0, ih1, ih2, ih3, ih4⟩ := balustradelaw02_BitsChanges.mono_l k
    refine ⟨?_, ?_, ?_, ?_, ?_⟩
    · intro y0 y1 y2
      unfold balustradelaw02_BitsChanges.j0
      repeat' first
      | (with_reducible exact ih0 _ _ _)
      | (with_reducible exact ih1 _ _ _ _ _)
      | (with_reducible exact ih2 _ _ _ _ _ _ _ _)
      | (with_reducible exact ih3 _ _ _ _ _)
      | (with_reducible exact ih4 _ _ _ _ _ _ _ _)
      | (with_reducible exact balustradebase_HasInt.mono _ _ _)
      | (with_reducible exact balustradebase_SameInts.mono _ _ _)
      | (with_reducible exact balustradebase_Sorted.mono _ _)
      | (with_reducible exact balustradelaw02_words.mono _ _ _)
      | (with_reducible exact balustradelaw02_works.mono _)
      | (with_reducible exact balustraderef02_List.mono _ _)
      | (with_reducible exact balustraderef02_Out.mono _ _ _)
      | (with_reducible exact balustraderef02_Words.mono _ _ _)
      | (with_reducible exact bits_Set_Count.mono _ _)
      | (with_reducible exact bits_Set_List.mono _ _)
      | (with_reducible exact LeO.refl _)
      | (with_reducible exact LeO.none _)
      | (with_reducible refine LeO.ite ?_ ?_)
      | (with_reducible refine LeO.bind ?_ (fun _ => ?_))
      | exact ih0 _ _ _
      | exact ih1 _ _ _ _ _
      | exact ih2 _ _ _ _ _ _ _ _
      | exact ih3 _ _ _ _ _
      | exact ih4 _ _ _ _ _ _ _ _
      | exact balustradebase_HasInt.mono _ _ _
      | exact balustradebase_SameInts.mono _ _ _
      | exact balustradebase_Sorted.mono _ _
      | exact balustradelaw02_words.mono _ _ _
      | exact balustradelaw02_works.mono _
      | exact balustraderef02_List.mono _ _
      | exact balustraderef02_Out.mono _ _ _
      | exact balustraderef02_Words.mono _ _ _
      | exact bits_Set_Count.mono _ _
      | exact bits_Set_List.mono _ _
      | exact LeO.none _
      | refine LeO.ite ?_ ?_
      | refine LeO.bind ?_ (fun _ => ?_)
    · intro y0 y1 y2 y3 y4
      unfold balustradelaw02_BitsChanges.l0
      repeat' first
      | (with_reducible exact ih0 _ _ _)
      | (with_reducible exact ih1 _ _ _ _ _)
      | (with_reducible exact ih2 _ _ _ _ _ _ _ _)
      | (with_reducible exact ih3 _ _ _ _ _)
      | (with_reducible exact ih4 _ _ _ _ _ _ _ _)
      | (with_reducible exact balustradebase_HasInt.mono _ _ _)
      | (with_reducible exact balustradebase_SameInts.mono _ _ _)
      | (with_reducible exact balustradebase_Sorted.mono _ _)
      | (with_reducible exact balustradelaw02_words.mono _ _ _)
      | (with_reducible exact balustradelaw02_works.mono _)
      | (with_reducible exact balustraderef02_List.mono _ _)
      | (with_reducible exact balustraderef02_Out.mono _ _ _)
      | (with_reducible exact balustraderef02_Words.mono _ _ _)
      | (with_reducible exact bits_Set_Count.mono _ _)
      | (with_reducible exact bits_Set_List.mono _ _)
      | (with_reducible exact LeO.refl _)
      | (with_reducible exact LeO.none _)
      | (with_reducible refine LeO.ite ?_ ?_)
      | (with_reducible refine LeO.bind ?_ (fun _ => ?_))
      | exact ih0 _ _ _
      | exact ih1 _ _ _ _ _
      | exact ih2 _ _ _ _ _ _ _ _
      | exact ih3 _ _ _ _ _
      | exact ih4 _ _ _ _ _ _ _ _
      | exact balustradebase_HasInt.mono _ _ _
      | exact balustradebase_SameInts.mono _ _ _
      | exact balustradebase_Sorted.mono _ _
      | exact balustradelaw02_words.mono _ _ _
      | exact balustradelaw02_works.mono _
      | exact balustraderef02_List.mono _ _
      | exact balustraderef02_Out.mono _ _ _
      | exact balustraderef02_Words.mono _ _ _
      | exact bits_Set_Count.mono _ _
      | exact bits_Set_List.mono _ _
      | exact LeO.none _
      | refine LeO.ite ?_ ?_
      | refine LeO.bind ?_ (fun _ => ?_)
    · intro y0 y1 y2 y3 y4 y5 y6 y7
      unfold balustradelaw02_BitsChanges.j2
      repeat' first
      | (with_reducible exact ih0 _ _ _)
      | (with_reducible exact ih1 _ _ _ _ _)
      | (with_reducible exact ih2 _ _ _ _ _ _ _ _)
      | (with_reducible exact ih3 _ _ _ _ _)
      | (with_reducible exact ih4 _ _ _ _ _ _ _ _)
      | (with_reducible exact balustradebase_HasInt.mono _ _ _)
      | (with_reducible exact balustradebase_SameInts.mono _ _ _)
      | (with_reducible exact balustradebase_Sorted.mono _ _)
      | (with_reducible exact balustradelaw02_words.mono _ _ _)
      | (with_reducible exact balustradelaw02_works.mono _)
      | (with_reducible exact balustraderef02_List.mono _ _)
      | (with_reducible exact balustraderef02_Out.mono _ _ _)
      | (with_reducible exact balustraderef02_Words.mono _ _ _)
      | (with_reducible exact bits_Set_Count.mono _ _)
      | (with_reducible exact bits_Set_List.mono _ _)
      | (with_reducible exact LeO.refl _)
      | (with_reducible exact LeO.none _)
      | (with_reducible refine LeO.ite ?_ ?_)
      | (with_reducible refine LeO.bind ?_ (fun _ => ?_))
      | exact ih0 _ _ _
      | exact ih1 _ _ _ _ _
      | exact ih2 _ _ _ _ _ _ _ _
      | exact ih3 _ _ _ _ _
      | exact ih4 _ _ _ _ _ _ _ _
      | exact balustradebase_HasInt.mono _ _ _
      | exact balustradebase_SameInts.mono _ _ _
      | exact balustradebase_Sorted.mono _ _
      | exact balustradelaw02_words.mono _ _ _
      | exact balustradelaw02_works.mono _
      | exact balustraderef02_List.mono _ _
      | exact balustraderef02_Out.mono _ _ _
      | exact balustraderef02_Words.mono _ _ _
      | exact bits_Set_Count.mono _ _
      | exact bits_Set_List.mono _ _
      | exact LeO.none _
      | refine LeO.ite ?_ ?_
      | refine LeO.bind ?_ (fun _ => ?_)
    · intro y0 y1 y2 y3 y4
      unfold balustradelaw02_BitsChanges.j4
      repeat' first
      | (with_reducible exact ih0 _ _ _)
      | (with_reducible exact ih1 _ _ _ _ _)
      | (with_reducible exact ih2 _ _ _ _ _ _ _ _)
      | (with_reducible exact ih3 _ _ _ _ _)
      | (with_reducible exact ih4 _ _ _ _ _ _ _ _)
      | (with_reducible exact balustradebase_HasInt.mono _ _ _)
      | (with_reducible exact balustradebase_SameInts.mono _ _ _)
      | (with_reducible exact balustradebase_Sorted.mono _ _)
      | (with_reducible exact balustradelaw02_words.mono _ _ _)
      | (with_reducible exact balustradelaw02_works.mono _)
      | (with_reducible exact balustraderef02_List.mono _ _)
      | (with_reducible exact balustraderef02_Out.mono _ _ _)
      | (with_reducible exact balustraderef02_Words.mono _ _ _)
      | (with_reducible exact bits_Set_Count.mono _ _)
      | (with_reducible exact bits_Set_List.mono _ _)
      | (with_reducible exact LeO.refl _)
      | (with_reducible exact LeO.none _)
      | (with_reducible refine LeO.ite ?_ ?_)
      | (with_reducible refine LeO.bind ?_ (fun _ => ?_))
      | exact ih0 _ _ _
      | exact ih1 _ _ _ _ _
      | exact ih2 _ _ _ _ _ _ _ _
      | exact ih3 _ _ _ _ _
      | exact ih4 _ _ _ _ _ _ _ _
      | exact balustradebase_HasInt.mono _ _ _
      | exact balustradebase_SameInts.mono _ _ _
      | exact balustradebase_Sorted.mono _ _
      | exact balustradelaw02_words.mono _ _ _
      | exact balustradelaw02_works.mono _
      | exact balustraderef02_List.mono _ _
      | exact balustraderef02_Out.mono _ _ _
      | exact balustraderef02_Words.mono _ _ _
      | exact bits_Set_Count.mono _ _
      | exact bits_Set_List.mono _ _
      | exact LeO.none _
      | refine LeO.ite ?_ ?_
      | refine LeO.bind ?_ (fun _ => ?_)
    · intro y0 y1 y2 y3 y4 y5 y6 y7
      unfold balustradelaw02_BitsChanges.j3
      repeat' first
      | (with_reducible exact ih0 _ _ _)
      | (with_reducible exact ih1 _ _ _ _ _)
      | (with_reducible exact ih2 _ _ _ _ _ _ _ _)
      | (with_reducible exact ih3 _ _ _ _ _)
      | (with_reducible exact ih4 _ _ _ _ _ _ _ _)
      | (with_reducible exact balustradebase_HasInt.mono _ _ _)
      | (with_reducible exact balustradebase_SameInts.mono _ _ _)
      | (with_reducible exact balustradebase_Sorted.mono _ _)
      | (with_reducible exact balustradelaw02_words.mono _ _ _)
      | (with_reducible exact balustradelaw02_works.mono _)
      | (with_reducible exact balustraderef02_List.mono _ _)
      | (with_reducible exact balustraderef02_Out.mono _ _ _)
      | (with_reducible exact balustraderef02_Words.mono _ _ _)
      | (with_reducible exact bits_Set_Count.mono _ _)
      | (with_reducible exact bits_Set_List.mono _ _)
      | (with_reducible exact LeO.refl _)
      | (with_reducible exact LeO.none _)
      | (with_reducible refine LeO.ite ?_ ?_)
      | (with_reducible refine LeO.bind ?_ (fun _ => ?_))
      | exact ih0 _ _ _
      | exact ih1 _ _ _ _ _
      | exact ih2 _ _ _ _ _ _ _ _
      | exact ih3 _ _ _ _ _
      | exact ih4 _ _ _ _ _ _ _ _
      | exact balustradebase_HasInt.mono _ _ _
      | exact balustradebase_SameInts.mono _ _ _
      | exact balustradebase_Sorted.mono _ _
      | exact balustradelaw02_words.mono _ _ _
      | exact balustradelaw02_works.mono _
      | exact balustraderef02_List.mono _ _
      | exact balustraderef02_Out.mono _ _ _
      | exact balustraderef02_Words.mono _ _ _
      | exact bits_Set_Count.mono _ _
      | exact bits_Set_List.mono _ _
      | exact LeO.none _
      | refine LeO.ite ?_ ?_
      | refine LeO.bind ?_ (fun _ => ?_)
theorem balustradelaw02_BitsChanges.mono : ∀ a0 a1 k, LeO (balustradelaw02_BitsChanges.f k a0 a1) (balustradelaw02_BitsChanges.f (k + 1) a0 a1) := by
  intro a0 a1 k
  obtain ⟨ih0, ih1, ih2, ih3, ih4⟩ := balustradelaw02_BitsChanges.mono_l k
  unfold balustradelaw02_BitsChanges.f
  repeat' first
      | (with_reducible exact ih0 _ _ _)
      | (with_reducible exact ih1 _ _ _ _ _)
      | (with_reducible exact ih2 _ _ _ _ _ _ _ _)
      | (with_reducible exact ih3 _ _ _ _ _)
      | (with_reducible exact ih4 _ _ _ _ _ _ _ _)
      | (with_reducible exact balustradebase_HasInt.mono _ _ _)
      | (with_reducible exact balustradebase_SameInts.mono _ _ _)
      | (with_reducible exact balustradebase_Sorted.mono _ _)
      | (with_reducible exact balustradelaw02_words.mono _ _ _)
      | (with_reducible exact balustradelaw02_works.mono _)
      | (with_reducible exact balustraderef02_List.mono _ _)
      | (with_reducible exact balustraderef02_Out.mono _ _ _)
      | (with_reducible exact balustraderef02_Words.mono _ _ _)
      | (with_reducible exact bits_Set_Count.mono _ _)
      | (with_reducible exact bits_Set_List.mono _ _)
      | (with_reducible exact LeO.refl _)
      | (with_reducible exact LeO.none _)
      | (with_reducible refine LeO.ite ?_ ?_)
      | (with_reducible refine LeO.bind ?_ (fun _ => ?_))
      | exact ih0 _ _ _
      | exact ih1 _ _ _ _ _
      | exact ih2 _ _ _ _ _ _ _ _
      | exact ih3 _ _ _ _ _
      | exact ih4 _ _ _ _ _ _ _ _
      | exact balustradebase_HasInt.mono _ _ _
      | exact balustradebase_SameInts.mono _ _ _
      | exact balustradebase_Sorted.mono _ _
      | exact balustradelaw02_words.mono _ _ _
      | exact balustradelaw02_works.mono _
      | exact balustraderef02_List.mono _ _
      | exact balustraderef02_Out.mono _ _ _
      | exact balustraderef02_Words.mono _ _ _
      | exact bits_Set_Count.mono _ _
      | exact bits_Set_List.mono _ _
      | exact LeO.none _
      | refine LeO.ite ?_ ?_
      | refine LeO.bind ?_ (fun _ => ?_)
set_option maxHeartbeats 8000000 in
set_option maxRecDepth 100000 in
theorem balustradelaw02_BitsChanges.calls (k : Nat) (A0 : Option Addr) (c0 : Nat) (l0 : List Int) (A1 : Option Addr) (c1 : Nat) (l1 : List Int) (r : Bool) (w : World) (hT : TabW w) (hr0 : Kd.C (Kd.int .u64) w A0 l0.length l0) (hc0 : l0.length ≤ c0) (hr1 : Kd.C (Kd.int .i64) w A1 l1.length l1) (hc1 : l1.length ≤ c1) (h : balustradelaw02_BitsChanges.f k l0 l1 = some r) :
    Calls Tryd.prog 5 #[.slice A0 l0.length c0, .slice A1 l1.length c1] w fun e w' => e = .returned (.bool r) ∧ Below w.heap.size w w' := by
  have HR0 := Aside0.mk hr0
  have HC0 := Aside0.mk hc0
  clear hr0 hc0
  have HR1 := Aside0.mk hr1
  have HC1 := Aside0.mk hc1
  clear hr1 hc1
  have HT := Aside0.mk hT
  clear hT
  have HB := Aside0.mk (Below.refl w.heap.size w)
  have H : (if (l0.length : Int) > 6 then (balustradelaw02_BitsChanges.j0 k l0 l1 true) else (balustradelaw02_BitsChanges.j0 k l0 l1 (decide ((l1.length : Int) > 20)))) = some r := h
  clear h
  have HC3 := Aside0.mk H
  clear H
  go_enter Tryd.func5, Tryd.ntmps5
  go_upto_region 1 with (fail)
  go_cut [19] (fun v19 wc => ∃ (kq : Nat) (x19_2 : Bool), v19 = .bool x19_2 ∧ Aside0 (balustradelaw02_BitsChanges.j0 kq l0 l1 x19_2 = some r) ∧ Aside0 (kq ≤ k) ∧ Aside0 (Below w.heap.size w wc))
  case first =>
    have H := HC3.out
    clear HC3
    by_cases c4 : (l0.length : Int) > 6
    · rw [if_pos c4] at H
      have c4b0 : decide (6 < (l0.length : Int)) = true := decide_eq_true c4
      have c4b1 : decide (6 < l0.length) = true := decide_eq_true (by omega)
      clear c4
      (first | rw [c4b0] | (simp only [i64_w, i32_w]; rw [c4b0]) | skip)
      have H' := Aside0.mk H
      clear H
      go_wp2
      go_meet
      case rel => exact ⟨_, (true), (by first | rfl | (simp; done) | (simp [*]; done)), H', ⟨by first | omega | exact Nat.le_refl _⟩, ⟨zB⟩⟩
    · rw [if_neg c4] at H
      have c4b0 : decide (6 < (l0.length : Int)) = false := decide_eq_false c4
      have c4b1 : decide (6 < l0.length) = false := decide_eq_false (by omega)
      clear c4
      (first | rw [c4b0] | (simp only [i64_w, i32_w]; rw [c4b0]) | skip)
      have H' := Aside0.mk H
      clear H
      go_wp2
      go_meet
      case rel => exact ⟨_, (decide ((l1.length : Int) > 20)), (by first | rfl | (simp; done) | (simp [*]; done)), H', ⟨by first | omega | exact Nat.le_refl _⟩, ⟨zB⟩⟩
  case rest =>
    clear HC3
    try clear c1
    try clear p2
    try clear c4
    try clear c4b0
    try clear c4b1
    obtain ⟨kq, x19_2, rfl, HA, HJ2, HB⟩ := hcut
    cases kq with
    | zero => exact absurd HA.out (by simp [balustradelaw02_BitsChanges.j0])
    | succ kj2 =>
      have H := HA.out
      clear HA
      simp only [balustradelaw02_BitsChanges.j0] at H
      by_cases c5 : x19_2 = true
      · subst c5
        have H1 : ((balustradelaw02_works.f kj2).bind fun t378 => (some t378)) = some r := by rw [if_pos rfl] at H; exact H
        clear H
        have H := H1
        clear H1
        replace H := Option.bind_eq_some_iff.mp H
        obtain ⟨t378, A60, H⟩ := H
        replace H : (some t378) = some r := H
        have A6 := Aside0.mk A60
        clear A60
        obtain rfl := Option.some.inj H
        go_wp2_with (first | ((with_reducible refine gate_callee (f := 7) rfl ?_); refine goesL_ (some 20) rfl rfl Tryd.func7 (by kernel_rfl) rfl #[] rfl zE ?_; (with_reducible refine (balustradelaw02_works.calls kj2  t378 _ ?side1 A6.out).mono ?_); (case side1 => first | exact HT.out | exact TabW.below HT.out (zB)); rintro e w7 ⟨rfl, hb⟩; refine ⟨_, rfl, ?_⟩; have n0_ := Aside0.mk (below_step (zB) hb); clear HB; have HB := n0_; clear n0_; (try clear hb); (try clear hb2); (try clear hk); (try clear hi)))
        go_ret
        exact ⟨by first | rfl | (simp [errW_none, errW_some] <;> rfl) | (simp [*, errW_none, errW_some] <;> rfl), zB⟩
      · replace c5 := Bool.eq_false_iff.mpr c5
        subst c5
        have H1 : ((balustradelaw02_copied.f l0).bind fun t379 => ((balustraderef02_List.f kj2 l0).bind fun t382 => (balustradelaw02_BitsChanges.l0 kj2 l0 l1 t379 t382 0))) = some r := by rw [if_neg (show ¬ (false = true) by decide)] at H; exact H
        clear H
        have H := H1
        clear H1
        replace H := Option.bind_eq_some_iff.mp H
        obtain ⟨t379, A80, H⟩ := H
        replace H : ((balustraderef02_List.f kj2 l0).bind fun t382 => (balustradelaw02_BitsChanges.l0 kj2 l0 l1 t379 t382 0)) = some r := H
        have A8 := Aside0.mk A80
        clear A80
        replace H := Option.bind_eq_some_iff.mp H
        obtain ⟨t382, A90, H⟩ := H
        replace H : (balustradelaw02_BitsChanges.l0 kj2 l0 l1 t379 t382 0) = some r := H
        have A9 := Aside0.mk A90
        clear A90
        have H' := Aside0.mk H
        clear H
        go_wp2_with (first | ((with_reducible refine gate_callee (f := 13) rfl ?_); refine goesL_ (some 22) rfl rfl Tryd.func13 (by kernel_rfl) rfl #[.slice A0 l0.length c0] rfl zE ?_; (with_reducible refine (balustradelaw02_copied.calls _ _ l0 t379 _ ?side1 ?side2 A8.out).mono ?_); (case side1 => exact zC (Kd.C_below HR0.out HB.out)); (case side2 => exact HC0.out); rintro e w10 ⟨v380, rfl, ho0, hb⟩; refine ⟨_, rfl, ?_⟩; have n0_ := Aside0.mk (Kd.R_lower ho0 (below_size (zB))); have n1_ := Aside0.mk (below_step (zB) hb); clear HB; have HO381 := n0_; have HB := n1_; clear n0_ n1_; (try clear hb); (try clear hb2); (try clear hk); (try clear hi); (try clear ho0)) | ((with_reducible refine gate_callee (f := 16) rfl ?_); refine goesL_ (some 24) rfl rfl Tryd.func16 (by kernel_rfl) rfl #[.slice A0 l0.length c0] rfl zE ?_; (with_reducible refine (balustraderef02_List.calls kj2 _ _ l0 t382 _ ?side1 ?side2 A9.out).mono ?_); (case side1 => exact zC (Kd.C_below HR0.out HB.out)); (case side2 => exact HC0.out); rintro e w11 ⟨v383, rfl, ho0, hb⟩; refine ⟨_, rfl, ?_⟩; have n0_ := Aside0.mk (Kd.R_below (zR HO381.out) hb); have n1_ := Aside0.mk (Kd.R_lower ho0 (below_size (zB))); have n2_ := Aside0.mk (below_step (zB) hb); clear HO381; clear HB; have HO381 := n0_; have HO384 := n1_; have HB := n2_; clear n0_ n1_ n2_; (try clear hb); (try clear hb2); (try clear hk); (try clear hi); (try clear ho0)))
        go_loopg [6, 7] kj2 (fun kq v6 v7 w' => ∃ (x5_2 : List Int) (x6_2 : List Int) (x7_2 : Int), v7 = .int .i64 x7_2 ∧ Aside0 (balustradelaw02_BitsChanges.l0 kq l0 l1 x5_2 x6_2 x7_2 = some r) ∧ Aside0 (kq ≤ kj2) ∧ Aside0 (Kd.R (Kd.int .u64) 48 w' w.heap.size (fun _ => True) v380 x5_2) ∧ Aside0 (Kd.R (Kd.int .i64) 3 w' w.heap.size (fun _ => True) v6 x6_2) ∧ Aside0 (Below w.heap.size w w'))
        case atStart => exact ⟨(t379), (t382), (0), (by first | rfl | (simp; done) | (simp [*]; done)), H', ⟨Nat.le_refl _⟩, ⟨zR HO381.out⟩, ⟨zR HO384.out⟩, ⟨zB⟩⟩
        case round =>
          clear H'
          try clear c1
          try clear p2
          try clear c4
          try clear c4b0
          try clear c4b1
          try clear c5
          try clear c7
          try clear p2
          obtain ⟨x5_2, x6_2, x7_2, rfl, HA, HK2, HO_5, HO_6, HB⟩ := hrel
          cases gk with
          | zero => exact absurd HA.out (by simp [balustradelaw02_BitsChanges.l0])
          | succ k2 =>
            have H := HA.out
            clear HA
            simp only [balustradelaw02_BitsChanges.l0] at H
            by_cases c12 : x7_2 < (l1.length : Int)
            · rw [if_pos c12] at H
              have c12b0 : decide (x7_2 < (l1.length : Int)) = true := decide_eq_true c12
              clear c12
              by_cases c13 : 0 ≤ x7_2
              · rw [if_pos c13] at H
                have c13b0 : decide (0 ≤ x7_2) = true := decide_eq_true c13
                clear c13
                have HC14 := Aside0.mk H
                clear H
                have p390 : 0 ≤ (x7_2 : Int) := of_decide_eq_true (by first | (with_reducible assumption) | assumption)
                have q390 : x7_2 < (l1.length : Int) := of_decide_eq_true (by first | (with_reducible assumption) | assumption)
                obtain ⟨ad390, e390, hx390_0⟩ := Kd.at_int HR1.out x7_2 p390 q390
                cases e390
                replace hx390_0 := (HB.out.cell (World.block_lt_of_cell? w _ hx390_0)).trans hx390_0
                replace p390 := eq_true p390
                replace q390 := eq_true q390
                go_upto_region 10 with (fail)
                go_cut [10] (fun v10 wc => ∃ (kq : Nat) (x10_13 : Bool), v10 = .bool x10_13 ∧ Aside0 (balustradelaw02_BitsChanges.j2 kq l0 l1 x5_2 x6_2 x7_2 (rd l1 x7_2) ((Int.tmod (rd l1 x7_2) 2) == 0) x10_13 = some r) ∧ Aside0 (kq ≤ k2) ∧ Aside0 (Kd.R (Kd.int .u64) 48 wc w.heap.size (fun _ => True) v380 x5_2) ∧ Aside0 (Kd.R (Kd.int .i64) 3 wc w.heap.size (fun _ => True) u6 x6_2) ∧ Aside0 (Below w.heap.size w wc))
                case first =>
                  have H := HC14.out
                  clear HC14
                  by_cases c15 : (rd l1 x7_2) ≥ 0
                  · rw [if_pos c15] at H
                    have c15b0 : decide (0 ≤ (rd l1 x7_2)) = true := decide_eq_true c15
                    clear c15
                    (first | rw [c15b0] | (simp only [i64_w, i32_w]; rw [c15b0]) | skip)
                    have H' := Aside0.mk H
                    clear H
                    go_wp2
                    go_meet
                    case rel => exact ⟨_, (decide ((rd l1 x7_2) < (wrap64 (64 * (l0.length : Int))))), (by first | rfl | (simp; done) | (simp [*]; done)), H', ⟨by have := HJ2.out; have := HK2.out; first | omega | exact Nat.le_refl _⟩, ⟨zR HO_5.out⟩, ⟨zR HO_6.out⟩, ⟨zB⟩⟩
                  · rw [if_neg c15] at H
                    have c15b0 : decide (0 ≤ (rd l1 x7_2)) = false := decide_eq_false c15
                    clear c15
                    (first | rw [c15b0] | (simp only [i64_w, i32_w]; rw [c15b0]) | skip)
                    have H' := Aside0.mk H
                    clear H
                    go_wp2
                    go_meet
                    case rel => exact ⟨_, (false), (by first | rfl | (simp; done) | (simp [*]; done)), H', ⟨by have := HJ2.out; have := HK2.out; first | omega | exact Nat.le_refl _⟩, ⟨zR HO_5.out⟩, ⟨zR HO_6.out⟩, ⟨zB⟩⟩
                case rest =>
                  clear HC14
                  try clear c1
                  try clear p2
                  try clear p3
                  try clear q3
                  try clear hx3
                  try clear c4
                  try clear c4b0
                  try clear c4b1
                  try clear c5
                  try clear p6
                  try clear c7
                  try clear c12
                  try clear c12b0
                  try clear c13
                  try clear c13b0
                  try clear c15
                  try clear c15b0
                  try clear hx390_0
                  try clear p2
                  try clear p390
                  try clear q390
                  obtain ⟨kq, x10_13, rfl, HA, HJ13, HO_5, HO_6, HB⟩ := hcut
                  cases kq with
                  | zero => exact absurd HA.out (by simp [balustradelaw02_BitsChanges.j2])
                  | succ kj13 =>
                    have H := HA.out
                    clear HA
                    simp only [balustradelaw02_BitsChanges.j2] at H
                    replace H := Option.bind_eq_some_iff.mp H
                    obtain ⟨t391, A160, H⟩ := H
                    replace H : ((bits_Set_Has.f x5_2 (rd l1 x7_2)).bind fun t392 => (if (t392 != t391) = true then (some false) else (if ((Int.tmod (rd l1 x7_2) 2) == 0) = true then ((bits_Set_Drop.f x5_2 (rd l1 x7_2)).bind fun bt393 => (if (bt393.1 != t391) = true then (some false) else ((balustraderef02_Out.f kj13 x6_2 (([(rd l1 x7_2)] : List Int))).bind fun t398 => (balustradelaw02_BitsChanges.j4 kj13 l0 l1 bt393.2 t398 x7_2)))) else ((bits_Set_Put.f x5_2 (rd l1 x7_2)).bind fun bt401 => (if x10_13 = true then (balustradelaw02_BitsChanges.j3 kj13 l0 l1 bt401.2 x6_2 x7_2 (rd l1 x7_2) x10_13 (bt401.1 != (!t391))) else (balustradelaw02_BitsChanges.j3 kj13 l0 l1 bt401.2 x6_2 x7_2 (rd l1 x7_2) x10_13 (bt401.1 != false))))))) = some r := H
                    have A16 := Aside0.mk A160
                    clear A160
                    replace H := Option.bind_eq_some_iff.mp H
                    obtain ⟨t392, A170, H⟩ := H
                    replace H : (if (t392 != t391) = true then (some false) else (if ((Int.tmod (rd l1 x7_2) 2) == 0) = true then ((bits_Set_Drop.f x5_2 (rd l1 x7_2)).bind fun bt393 => (if (bt393.1 != t391) = true then (some false) else ((balustraderef02_Out.f kj13 x6_2 (([(rd l1 x7_2)] : List Int))).bind fun t398 => (balustradelaw02_BitsChanges.j4 kj13 l0 l1 bt393.2 t398 x7_2)))) else ((bits_Set_Put.f x5_2 (rd l1 x7_2)).bind fun bt401 => (if x10_13 = true then (balustradelaw02_BitsChanges.j3 kj13 l0 l1 bt401.2 x6_2 x7_2 (rd l1 x7_2) x10_13 (bt401.1 != (!t391))) else (balustradelaw02_BitsChanges.j3 kj13 l0 l1 bt401.2 x6_2 x7_2 (rd l1 x7_2) x10_13 (bt401.1 != false)))))) = some r := H
                    have A17 := Aside0.mk A170
                    clear A170
                    by_cases c18 : (t392 != t391) = true
                    · rw [if_pos c18] at H
                      have c18b0 : (t392 != t391) = true := c18
                      (try (have c18b1 : decide (t392 = t391) = false := by simpa using c18))
                      (try (have c18b2 : (t392 == t391) = false := by simpa using c18))
                      (try (have c18b3 : ¬ (t392 = t391) := by simpa using c18))
                      clear c18
                      obtain rfl := Option.some.inj H
                      obtain ⟨Ao19, co19, eo19⟩ := Kd.R_slice HO_6.out
                      subst eo19
                      go_wp2_with (first | ((with_reducible refine gate_callee (f := 28) rfl ?_); refine goesL_ (some 49) rfl rfl Tryd.func28 (by kernel_rfl) rfl #[.slice Ao19 x6_2.length co19, .int .i64 (rd l1 x7_2)] rfl zE ?_; (with_reducible refine (balustradebase_HasInt.calls kj13 _ _ x6_2 (rd l1 x7_2) t391 _ ?side1 ?side2 A16.out).mono ?_); (case side1 => exact zC (Kd.R_reads' HO_6.out).2.2); (case side2 => exact (Kd.R_reads' HO_6.out).2.1); rintro e w' ⟨rfl, ⟨nd, rfl⟩⟩; refine ⟨_, rfl, ?_⟩; obtain ⟨Ao20, co20, eo20⟩ := Kd.R_slice HO_5.out; subst eo20) | ((with_reducible refine gate_callee (f := 29) rfl ?_); refine goesL_ (some 52) rfl rfl Tryd.func29 (by kernel_rfl) rfl #[.slice Ao20 x5_2.length co20, .int .i64 (rd l1 x7_2)] rfl zE ?_; (with_reducible refine (bits_Set_Has.calls _ _ x5_2 (rd l1 x7_2) t392 _ ?side1 ?side2 A17.out).mono ?_); (case side1 => exact zC (Kd.R_reads' HO_5.out).2.2); (case side2 => exact (Kd.R_reads' HO_5.out).2.1); rintro e w' ⟨rfl, ⟨nd, rfl⟩⟩; refine ⟨_, rfl, ?_⟩))
                      go_ret
                      exact ⟨by first | rfl | (simp [errW_none, errW_some] <;> rfl) | (simp [*, errW_none, errW_some] <;> rfl), zB⟩
                    · rw [if_neg c18] at H
                      have c18b0 : (t392 != t391) = false := by simpa using c18
                      (try (have c18b1 : decide (t392 = t391) = true := by simpa using c18))
                      (try (have c18b2 : (t392 == t391) = true := by simpa using c18))
                      clear c18
                      have HC21 := Aside0.mk H
                      clear H
                      obtain ⟨Ao22, co22, eo22⟩ := Kd.R_slice HO_6.out
                      subst eo22
                      go_upto_if 55 with (first | ((with_reducible refine gate_callee (f := 28) rfl ?_); refine goesL_ (some 49) rfl rfl Tryd.func28 (by kernel_rfl) rfl #[.slice Ao22 x6_2.length co22, .int .i64 (rd l1 x7_2)] rfl zE ?_; (with_reducible refine (balustradebase_HasInt.calls kj13 _ _ x6_2 (rd l1 x7_2) t391 _ ?side1 ?side2 A16.out).mono ?_); (case side1 => exact zC (Kd.R_reads' HO_6.out).2.2); (case side2 => exact (Kd.R_reads' HO_6.out).2.1); rintro e w' ⟨rfl, ⟨nd, rfl⟩⟩; refine ⟨_, rfl, ?_⟩; obtain ⟨Ao23, co23, eo23⟩ := Kd.R_slice HO_5.out; subst eo23) | ((with_reducible refine gate_callee (f := 29) rfl ?_); refine goesL_ (some 52) rfl rfl Tryd.func29 (by kernel_rfl) rfl #[.slice Ao23 x5_2.length co23, .int .i64 (rd l1 x7_2)] rfl zE ?_; (with_reducible refine (bits_Set_Has.calls _ _ x5_2 (rd l1 x7_2) t392 _ ?side1 ?side2 A17.out).mono ?_); (case side1 => exact zC (Kd.R_reads' HO_5.out).2.2); (case side2 => exact (Kd.R_reads' HO_5.out).2.1); rintro e w' ⟨rfl, ⟨nd, rfl⟩⟩; refine ⟨_, rfl, ?_⟩))
                      (try simp only [Act.put, List.setIfInBounds_toArray, List.set_cons_zero, List.set_cons_succ])
                      generalize hbq : ((Int.tmod (rd l1 x7_2) 2) == 0) = bq at *
                      clear hbq
                      go_cut [6] (fun v6 wc => ∃ (kq : Nat) (x5_20 : List Int) (x6_20 : List Int), Aside0 (balustradelaw02_BitsChanges.j4 kq l0 l1 x5_20 x6_20 x7_2 = some r) ∧ Aside0 (kq ≤ kj13) ∧ Aside0 (Kd.R (Kd.int .u64) 48 wc w.heap.size (fun _ => True) (.slice Ao23 x5_2.length co23) x5_20) ∧ Aside0 (Kd.R (Kd.int .i64) 3 wc w.heap.size (fun _ => True) v6 x6_20) ∧ Aside0 (Below w.heap.size w wc))
                      case first =>
                        have H := HC21.out
                        clear HC21
                        by_cases c24 : bq = true
                        · rw [if_pos c24] at H
                          have c24b0 : bq = true := c24
                          clear c24
                          subst c24b0
                          (first | rw [c24b0] | (simp only [i64_w, i32_w]; rw [c24b0]) | skip)
                          replace H := Option.bind_eq_some_iff.mp H
                          obtain ⟨⟨t393, t394⟩, A250, H⟩ := H
                          replace H : (if (t393 != t391) = true then (some false) else ((balustraderef02_Out.f kj13 x6_2 (([(rd l1 x7_2)] : List Int))).bind fun t398 => (balustradelaw02_BitsChanges.j4 kj13 l0 l1 t394 t398 x7_2))) = some r := H
                          have A25 := Aside0.mk A250
                          clear A250
                          by_cases c26 : (t393 != t391) = true
                          · rw [if_pos c26] at H
                            have c26b0 : (t393 != t391) = true := c26
                            (try (have c26b1 : decide (t393 = t391) = false := by simpa using c26))
                            (try (have c26b2 : (t393 == t391) = false := by simpa using c26))
                            (try (have c26b3 : ¬ (t393 = t391) := by simpa using c26))
                            clear c26
                            obtain rfl := Option.some.inj H
                            go_wp2_with (first | ((with_reducible refine gate_callee (f := 30) rfl ?_); refine goesL_ (some 58) rfl rfl Tryd.func30 (by kernel_rfl) rfl #[.slice Ao23 x5_2.length co23, .int .i64 (rd l1 x7_2)] rfl zE ?_; (with_reducible refine (bits_Set_Drop.calls (fun k_ => some k_ = (.slice Ao23 x5_2.length co23 : Value).ownBlock) (.slice Ao23 x5_2.length co23) x5_2 (rd l1 x7_2) t393 t394 w _ ?side1 ?side2 A25.out).mono ?_); (case side1 => repeat (first | (with_reducible first | exact HB.out | apply below_alloc | apply pw_below_drewN | apply below_drew1) | exact HB.out)); (case side2 => exact Kd.R_tight rfl HO_5.out); rintro e w27 ⟨rfl, hy0, hb, hkp⟩; refine ⟨_, rfl, ?_⟩; have n0_ := Aside0.mk (Kd.R_reok rfl hy0 (fun k_ e_ => HO_5.out.1 k_ e_)); have n1_ := Aside0.mk (Kd.R_mono (ok' := fun k_ => True) (Kd.R_keptB ((Kd.R_apart' HO_6.out (Kd.R_typed HO_5.out) (by decide))) hkp (fun k_ hk_ hs_ => (hk_.2) hs_)) (fun k_ hk_ => trivial)); have n2_ := Aside0.mk (hb); clear HO_5; clear HO_6; clear HB; have HO_5 := n0_; have HO_6 := n1_; have HB := n2_; clear n0_ n1_ n2_; (try clear hb); (try clear hkp); (try clear hy0)))
                            go_ret
                            exact ⟨by first | rfl | (simp [errW_none, errW_some] <;> rfl) | (simp [*, errW_none, errW_some] <;> rfl), zB⟩
                          · rw [if_neg c26] at H
                            have c26b0 : (t393 != t391) = false := by simpa using c26
                            (try (have c26b1 : decide (t393 = t391) = true := by simpa using c26))
                            (try (have c26b2 : (t393 == t391) = true := by simpa using c26))
                            clear c26
                            obtain ⟨y395, hy395⟩ : ∃ y_ : List Int, y_ = (([(rd l1 x7_2)] : List Int)) := ⟨_, rfl⟩
                            replace H : ((balustraderef02_Out.f kj13 x6_2 y395).bind fun t398 => (balustradelaw02_BitsChanges.j4 kj13 l0 l1 t394 t398 x7_2)) = some r := by first | (rw [hy395]; with_reducible exact H) | (have H2_ := (Option.bind_some _ _).symm.trans H; rw [hy395]; with_reducible exact H2_) | (have H2_ := (Option.bind_some _ _).symm.trans H; with_reducible exact H2_) | with_reducible exact H | (rw [hy395]; exact H) | exact H
                            have Ny395 := Aside0.mk hy395
                            clear hy395
                            replace H := Option.bind_eq_some_iff.mp H
                            obtain ⟨t398, A280, H⟩ := H
                            replace H : (balustradelaw02_BitsChanges.j4 kj13 l0 l1 t394 t398 x7_2) = some r := H
                            have A28 := Aside0.mk A280
                            clear A280
                            have H' := Aside0.mk H
                            clear H
                            go_wp2_with (first | ((with_reducible refine gate_callee (f := 30) rfl ?_); refine goesL_ (some 58) rfl rfl Tryd.func30 (by kernel_rfl) rfl #[.slice Ao23 x5_2.length co23, .int .i64 (rd l1 x7_2)] rfl zE ?_; (with_reducible refine (bits_Set_Drop.calls (fun k_ => some k_ = (.slice Ao23 x5_2.length co23 : Value).ownBlock) (.slice Ao23 x5_2.length co23) x5_2 (rd l1 x7_2) t393 t394 w _ ?side1 ?side2 A25.out).mono ?_); (case side1 => repeat (first | (with_reducible first | exact HB.out | apply below_alloc | apply pw_below_drewN | apply below_drew1) | exact HB.out)); (case side2 => exact Kd.R_tight rfl HO_5.out); rintro e w29 ⟨rfl, hy0, hb, hkp⟩; refine ⟨_, rfl, ?_⟩; have n0_ := Aside0.mk (Kd.R_reok rfl hy0 (fun k_ e_ => HO_5.out.1 k_ e_)); have n1_ := Aside0.mk (Kd.R_mono (ok' := fun k_ => True) (Kd.R_keptB ((Kd.R_apart' HO_6.out (Kd.R_typed HO_5.out) (by decide))) hkp (fun k_ hk_ hs_ => (hk_.2) hs_)) (fun k_ hk_ => trivial)); have n2_ := Aside0.mk (hb); clear HO_5; clear HO_6; clear HB; have HO_5 := n0_; have HO_6 := n1_; have HB := n2_; clear n0_ n1_ n2_; (try clear hb); (try clear hkp); (try clear hy0)) | ((with_reducible refine gate_dst (N := 63) rfl ?_); (try (refine gate_guard (by rfl) ?_; dsimp only)); refine Kd.R_lit (Kd.int .i64) _ 3 ?hg (N := 63) ?hd (xs := ([(rd l1 x7_2)] : List Int)) (inner := [.int .i64 (rd l1 x7_2)]) (ok := fun _ => True) (okp := fun _ => True) ?hr ?hp (fun _ hk => hk) trivial (Below.refl _ _) (Nat.le_refl _) (by simp) ?_; (case hd => rfl); (case hg => rfl); (case hr => first | (go_simp; done) | (go_simp; rfl)); (case hp => exact (Reps.one (show Kd.M (Kd.int .i64) _ _ _ (rd l1 x7_2) [.int .i64 (rd l1 x7_2)] from rfl) (Reps.none _ _))); intro v396 w30 ho31 hb hg_ hnew_; clear hg_ hnew_; (first | rw [← Ny395.out] at ho31 | (simp only [Int.reduceToNat] at ho31; rw [← Ny395.out] at ho31)); have n0_ := Aside0.mk (Kd.R_below (zR HO_5.out) hb); have n1_ := Aside0.mk (Kd.R_elder' (zR HO_6.out) (Kd.R_base ho31) hb); have n2_ := Aside0.mk (Kd.R_lower (Kd.R_new' ho31 (Kd.R_lt (zR HO_6.out))) (below_size (zB))); have n3_ := Aside0.mk (below_step (zB) hb); clear HO_5; clear HO_6; clear HB; have HO_5 := n0_; have HO_6 := n1_; have HO397 := n2_; have HB := n3_; clear n0_ n1_ n2_ n3_; clear hb ho31; obtain ⟨Ao32, co32, eo32⟩ := Kd.R_slice HO397.out; subst eo32) | ((with_reducible refine gate_callee (f := 15) rfl ?_); refine goesL_ (some 64) rfl rfl Tryd.func15 (by kernel_rfl) rfl #[.slice Ao22 x6_2.length co22, .slice Ao32 y395.length co32] rfl zE ?_; (with_reducible refine (balustraderef02_Out.calls kj13 _ _ x6_2 _ _ y395 t398 _ ?side1 ?side2 ?side3 ?side4 A28.out).mono ?_); (case side1 => exact zC (Kd.R_reads' HO_6.out).2.2); (case side2 => exact (Kd.R_reads' HO_6.out).2.1); (case side3 => exact zC (Kd.R_reads' HO397.out).2.2); (case side4 => exact (Kd.R_reads' HO397.out).2.1); rintro e w33 ⟨v399, rfl, ho0, hb⟩; refine ⟨_, rfl, ?_⟩; have n0_ := Aside0.mk (Kd.R_below (zR HO_5.out) hb); have n1_ := Aside0.mk (Kd.R_elder' (zR HO_6.out) (Kd.R_base ho0) hb); have n2_ := Aside0.mk (Kd.R_elder' (zR HO397.out) (Kd.R_base ho0) hb); have n3_ := Aside0.mk (Kd.R_lower (Kd.R_new' (Kd.R_new' ho0 (Kd.R_lt (zR HO_6.out))) (Kd.R_lt (zR HO397.out))) (below_size (zB))); have n4_ := Aside0.mk (below_step (zB) hb); clear HO_5; clear HO_6; clear HO397; clear HB; have HO_5 := n0_; have HO_6 := n1_; have HO397 := n2_; have HO400 := n3_; have HB := n4_; clear n0_ n1_ n2_ n3_ n4_; (try clear hb); (try clear hb2); (try clear hk); (try clear hi); (try clear ho0)))
                            go_meet
                            case rel => exact ⟨_, (t394), (t398), H', ⟨by have := HJ2.out; have := HK2.out; have := HJ13.out; first | omega | exact Nat.le_refl _⟩, ⟨zR HO_5.out⟩, ⟨by (with_reducible repeat (first | apply Kd.R_alloc | apply Kd.R_drewN | apply Kd.R_drew)); exact Kd.R_mono HO400.out (fun _ hk => trivial)⟩, ⟨zB⟩⟩
                        · rw [if_neg c24] at H
                          have c24b0 : bq = false := by simpa using c24
                          clear c24
                          subst c24b0
                          (first | rw [c24b0] | (simp only [i64_w, i32_w]; rw [c24b0]) | skip)
                          have HC34 := Aside0.mk H
                          clear H
                          go_upto_region 18 with (fail)
                          go_cut [73] (fun v73 wc => ∃ (kq : Nat) (x5_33 : List Int) (x73_33 : Bool), v73 = .bool x73_33 ∧ Aside0 (balustradelaw02_BitsChanges.j3 kq l0 l1 x5_33 x6_2 x7_2 (rd l1 x7_2) x10_13 x73_33 = some r) ∧ Aside0 (kq ≤ kj13) ∧ Aside0 (Kd.R (Kd.int .u64) 48 wc w.heap.size (fun _ => True) (.slice Ao23 x5_2.length co23) x5_33) ∧ Aside0 (Kd.R (Kd.int .i64) 3 wc w.heap.size (fun _ => True) (.slice Ao22 x6_2.length co22) x6_2) ∧ Aside0 (Below w.heap.size w wc))
                          case first =>
                            have H := HC34.out
                            clear HC34
                            replace H := Option.bind_eq_some_iff.mp H
                            obtain ⟨⟨t401, t402⟩, A350, H⟩ := H
                            replace H : (if x10_13 = true then (balustradelaw02_BitsChanges.j3 kj13 l0 l1 t402 x6_2 x7_2 (rd l1 x7_2) x10_13 (t401 != (!t391))) else (balustradelaw02_BitsChanges.j3 kj13 l0 l1 t402 x6_2 x7_2 (rd l1 x7_2) x10_13 (t401 != false))) = some r := H
                            have A35 := Aside0.mk A350
                            clear A350
                            by_cases c36 : x10_13 = true
                            · subst c36
                              have H1 : (balustradelaw02_BitsChanges.j3 kj13 l0 l1 t402 x6_2 x7_2 (rd l1 x7_2) true (t401 != (!t391))) = some r := by rw [if_pos rfl] at H; exact H
                              clear H
                              have H := H1
                              clear H1
                              have H' := Aside0.mk H
                              clear H
                              go_wp2_with (first | ((with_reducible refine gate_callee (f := 31) rfl ?_); refine goesL_ (some 67) rfl rfl Tryd.func31 (by kernel_rfl) rfl #[.slice Ao23 x5_2.length co23, .int .i64 (rd l1 x7_2)] rfl zE ?_; (with_reducible refine (bits_Set_Put.calls (fun k_ => some k_ = (.slice Ao23 x5_2.length co23 : Value).ownBlock) (.slice Ao23 x5_2.length co23) x5_2 (rd l1 x7_2) t401 t402 w _ ?side1 ?side2 A35.out).mono ?_); (case side1 => repeat (first | (with_reducible first | exact HB.out | apply below_alloc | apply pw_below_drewN | apply below_drew1) | exact HB.out)); (case side2 => exact Kd.R_tight rfl HO_5.out); rintro e w37 ⟨rfl, hy0, hb, hkp⟩; refine ⟨_, rfl, ?_⟩; have n0_ := Aside0.mk (Kd.R_reok rfl hy0 (fun k_ e_ => HO_5.out.1 k_ e_)); have n1_ := Aside0.mk (Kd.R_mono (ok' := fun k_ => True) (Kd.R_keptB ((Kd.R_apart' HO_6.out (Kd.R_typed HO_5.out) (by decide))) hkp (fun k_ hk_ hs_ => (hk_.2) hs_)) (fun k_ hk_ => trivial)); have n2_ := Aside0.mk (hb); clear HO_5; clear HO_6; clear HB; have HO_5 := n0_; have HO_6 := n1_; have HB := n2_; clear n0_ n1_ n2_; (try clear hb); (try clear hkp); (try clear hy0)))
                              go_meet
                              case rel => exact ⟨_, (t402), ((t401 != (!t391))), (by first | rfl | (simp; done) | (simp [*]; done)), H', ⟨by have := HJ2.out; have := HK2.out; have := HJ13.out; first | omega | exact Nat.le_refl _⟩, ⟨zR HO_5.out⟩, ⟨zR HO_6.out⟩, ⟨zB⟩⟩
                            · replace c36 := Bool.eq_false_iff.mpr c36
                              subst c36
                              have H1 : (balustradelaw02_BitsChanges.j3 kj13 l0 l1 t402 x6_2 x7_2 (rd l1 x7_2) false (t401 != false)) = some r := by rw [if_neg (show ¬ (false = true) by decide)] at H; exact H
                              clear H
                              have H := H1
                              clear H1
                              have H' := Aside0.mk H
                              clear H
                              go_wp2_with (first | ((with_reducible refine gate_callee (f := 31) rfl ?_); refine goesL_ (some 67) rfl rfl Tryd.func31 (by kernel_rfl) rfl #[.slice Ao23 x5_2.length co23, .int .i64 (rd l1 x7_2)] rfl zE ?_; (with_reducible refine (bits_Set_Put.calls (fun k_ => some k_ = (.slice Ao23 x5_2.length co23 : Value).ownBlock) (.slice Ao23 x5_2.length co23) x5_2 (rd l1 x7_2) t401 t402 w _ ?side1 ?side2 A35.out).mono ?_); (case side1 => repeat (first | (with_reducible first | exact HB.out | apply below_alloc | apply pw_below_drewN | apply below_drew1) | exact HB.out)); (case side2 => exact Kd.R_tight rfl HO_5.out); rintro e w38 ⟨rfl, hy0, hb, hkp⟩; refine ⟨_, rfl, ?_⟩; have n0_ := Aside0.mk (Kd.R_reok rfl hy0 (fun k_ e_ => HO_5.out.1 k_ e_)); have n1_ := Aside0.mk (Kd.R_mono (ok' := fun k_ => True) (Kd.R_keptB ((Kd.R_apart' HO_6.out (Kd.R_typed HO_5.out) (by decide))) hkp (fun k_ hk_ hs_ => (hk_.2) hs_)) (fun k_ hk_ => trivial)); have n2_ := Aside0.mk (hb); clear HO_5; clear HO_6; clear HB; have HO_5 := n0_; have HO_6 := n1_; have HB := n2_; clear n0_ n1_ n2_; (try clear hb); (try clear hkp); (try clear hy0)))
                              go_meet
                              case rel => exact ⟨_, (t402), ((t401 != false)), (by first | rfl | (simp; done) | (simp [*]; done)), H', ⟨by have := HJ2.out; have := HK2.out; have := HJ13.out; first | omega | exact Nat.le_refl _⟩, ⟨zR HO_5.out⟩, ⟨zR HO_6.out⟩, ⟨zB⟩⟩
                          case rest =>
                            clear HC34
                            try clear c1
                            try clear c2
                            try clear p2
                            try clear c3
                            try clear p3
                            try clear q3
                            try clear hx3
                            try clear c4
                            try clear c4b0
                            try clear c4b1
                            try clear c5
                            try clear p6
                            try clear c7
                            try clear c12
                            try clear c12b0
                            try clear c13
                            try clear c13b0
                            try clear c15
                            try clear c15b0
                            try clear c16
                            try clear c18
                            try clear c18b0
                            try clear c18b1
                            try clear c18b2
                            try clear c24
                            try clear c24b0
                            try clear c24b1
                            try clear c24b2
                            try clear c26
                            try clear c26b0
                            try clear c26b1
                            try clear c26b2
                            try clear c28
                            try clear c29
                            try clear c30
                            try clear c31
                            try clear c36
                            try clear hx390_0
                            try clear p2
                            try clear p3
                            try clear p390
                            try clear p6
                            try clear q3
                            try clear q390
                            obtain ⟨kq, x5_33, x73_33, rfl, HA, HJ33, HO_5, HO_6, HB⟩ := hcut
                            have hl5_33 := (Kd.R_reads' HO_5.out).1
                            rw [hl5_33] at HO_5
                            (try simp only [hl5_33])
                            (try simp only [hl5_33] at HO_6)
                            cases kq with
                            | zero => exact absurd HA.out (by simp [balustradelaw02_BitsChanges.j3])
                            | succ kj33 =>
                              have H := HA.out
                              clear HA
                              simp only [balustradelaw02_BitsChanges.j3] at H
                              by_cases c39 : x73_33 = true
                              · subst c39
                                have H1 : (some false) = some r := by rw [if_pos rfl] at H; exact H
                                clear H
                                have H := H1
                                clear H1
                                obtain rfl := Option.some.inj H
                                go_wp2
                                go_ret
                                exact ⟨by first | rfl | (simp [errW_none, errW_some] <;> rfl) | (simp [*, errW_none, errW_some] <;> rfl), zB⟩
                              · replace c39 := Bool.eq_false_iff.mpr c39
                                subst c39
                                have H1 : (if x10_13 = true then ((balustradebase_Ints.f x6_2).bind fun t403 => (if t403.length < 17592186044416 then ((balustradebase_Sorted.f kj33 (t403 ++ [(rd l1 x7_2)])).bind fun t409 => (balustradelaw02_BitsChanges.j4 kj33 l0 l1 x5_33 t409 x7_2)) else (none))) else (balustradelaw02_BitsChanges.j4 kj33 l0 l1 x5_33 x6_2 x7_2)) = some r := by rw [if_neg (show ¬ (false = true) by decide)] at H; exact H
                                clear H
                                have H := H1
                                clear H1
                                by_cases c40 : x10_13 = true
                                · subst c40
                                  have H1 : ((balustradebase_Ints.f x6_2).bind fun t403 => (if t403.length < 17592186044416 then ((balustradebase_Sorted.f kj33 (t403 ++ [(rd l1 x7_2)])).bind fun t409 => (balustradelaw02_BitsChanges.j4 kj33 l0 l1 x5_33 t409 x7_2)) else (none))) = some r := by rw [if_pos rfl] at H; exact H
                                  clear H
                                  have H := H1
                                  clear H1
                                  replace H := Option.bind_eq_some_iff.mp H
                                  obtain ⟨t403, A410, H⟩ := H
                                  replace H : (if t403.length < 17592186044416 then ((balustradebase_Sorted.f kj33 (t403 ++ [(rd l1 x7_2)])).bind fun t409 => (balustradelaw02_BitsChanges.j4 kj33 l0 l1 x5_33 t409 x7_2)) else (none)) = some r := H
                                  have A41 := Aside0.mk A410
                                  clear A410
                                  by_cases c42 : t403.length < 17592186044416
                                  · rw [if_pos c42] at H
                                    have LMc42 := Aside0.mk c42
                                    clear c42
                                    obtain ⟨y406, hy406⟩ : ∃ y_ : List Int, y_ = (t403 ++ [(rd l1 x7_2)]) := ⟨_, rfl⟩
                                    replace H : ((balustradebase_Sorted.f kj33 y406).bind fun t409 => (balustradelaw02_BitsChanges.j4 kj33 l0 l1 x5_33 t409 x7_2)) = some r := by first | (rw [hy406]; with_reducible exact H) | (have H2_ := (Option.bind_some _ _).symm.trans H; rw [hy406]; with_reducible exact H2_) | (have H2_ := (Option.bind_some _ _).symm.trans H; with_reducible exact H2_) | with_reducible exact H | (rw [hy406]; exact H) | exact H
                                    have Ny406 := Aside0.mk hy406
                                    clear hy406
                                    replace H := Option.bind_eq_some_iff.mp H
                                    obtain ⟨t409, A430, H⟩ := H
                                    replace H : (balustradelaw02_BitsChanges.j4 kj33 l0 l1 x5_33 t409 x7_2) = some r := H
                                    have A43 := Aside0.mk A430
                                    clear A430
                                    have H' := Aside0.mk H
                                    clear H
                                    go_wp2_with (first | ((with_reducible refine gate_callee (f := 21) rfl ?_); refine goesL_ (some 76) rfl rfl Tryd.func21 (by kernel_rfl) rfl #[.slice Ao22 x6_2.length co22] rfl zE ?_; (with_reducible refine (balustradebase_Ints.calls _ _ x6_2 t403 _ ?side1 ?side2 A41.out).mono ?_); (case side1 => exact zC (Kd.R_reads' HO_6.out).2.2); (case side2 => exact (Kd.R_reads' HO_6.out).2.1); rintro e w44 ⟨v404, rfl, ho0, hb⟩; refine ⟨_, rfl, ?_⟩; have n0_ := Aside0.mk (Kd.R_below (zR HO_5.out) hb); have n1_ := Aside0.mk (Kd.R_elder' (zR HO_6.out) (Kd.R_base ho0) hb); have n2_ := Aside0.mk (Kd.R_lower (Kd.R_new' ho0 (Kd.R_lt (zR HO_6.out))) (below_size (zB))); have n3_ := Aside0.mk (below_step (zB) hb); clear HO_5; clear HO_6; clear HB; have HO_5 := n0_; have HO_6 := n1_; have HO405 := n2_; have HB := n3_; clear n0_ n1_ n2_ n3_; (try clear hb); (try clear hb2); (try clear hk); (try clear hi); (try clear ho0)) | ((with_reducible refine gate_builtin (b := .append) (xs := #[.tmp 76, .tmp 78]) rfl ?_); (try (refine gate_guard (by rfl) ?_; dsimp only)); at_builtin; refine Kd.R_append (Kd.int .i64) (w0 := w) w.heap.size rfl (.tmp 76) (.tmp 78) 22 3 (.int .i64 0) 8 rfl Tryd.underlying22 info3 rfl (by decide) (by omega) v404 t403 (rd l1 x7_2) [.int .i64 (rd l1 x7_2)] (fun k_ => some k_ ≠ (.slice Ao22 x6_2.length co22 : Value).ownBlock) (fun _ => False) rfl rfl ?aP (fun _ hk => hk.elim) ?aF ?aO ?aB ?aS ?aL ?_; (case aP => exact rfl); (case aB => exact (zB)); (case aF => exact (fun k_ hk => Kd.fresh' (Kd.R_lt (zR HO_6.out)) k_ hk)); (case aO => exact (by (with_reducible repeat (first | apply Kd.R_alloc | apply Kd.R_drewN | apply Kd.R_drew)); exact Kd.R_mono HO405.out (fun _ hk => hk.2))); (case aS => exact (below_size (zB))); (case aL => have := LMc42.out; omega); intro v407 w45 ho hb hg hat; rw [← Ny406.out] at ho; have n0_ := Aside0.mk (Kd.R_over' (zR HO_5.out) (Kd.R_typed (zR HO405.out)) (by decide) hg); have n1_ := Aside0.mk (Kd.R_after (ok := (fun _ => True)) (zR HO_6.out) hg hat); have n2_ := Aside0.mk (hb); have n3_ := Aside0.mk (ho); clear HO_5; clear HO_6; clear HB; clear HO405; have HO_5 := n0_; have HO_6 := n1_; have HB := n2_; have HO408 := n3_; clear n0_ n1_ n2_ n3_; clear ho hb hg hat; obtain ⟨Ao46, co46, eo46⟩ := Kd.R_slice HO408.out; subst eo46) | ((with_reducible refine gate_callee (f := 20) rfl ?_); refine goesL_ (some 80) rfl rfl Tryd.func20 (by kernel_rfl) rfl #[.slice Ao46 y406.length co46] rfl zE ?_; (with_reducible refine (balustradebase_Sorted.calls kj33 _ _ y406 t409 _ ?side1 ?side2 A43.out).mono ?_); (case side1 => exact zC (Kd.R_reads' HO408.out).2.2); (case side2 => exact (Kd.R_reads' HO408.out).2.1); rintro e w47 ⟨v410, rfl, ho0, hb⟩; refine ⟨_, rfl, ?_⟩; have n0_ := Aside0.mk (Kd.R_below (zR HO_5.out) hb); have n1_ := Aside0.mk (Kd.R_elder' (zR HO_6.out) (Kd.R_base ho0) hb); have n2_ := Aside0.mk (Kd.R_elder' (zR HO408.out) (Kd.R_base ho0) hb); have n3_ := Aside0.mk (Kd.R_lower (Kd.R_new' (Kd.R_new' ho0 (Kd.R_lt (zR HO_6.out))) (Kd.R_lt (zR HO408.out))) (below_size (zB))); have n4_ := Aside0.mk (below_step (zB) hb); clear HO_5; clear HO_6; clear HO408; clear HB; have HO_5 := n0_; have HO_6 := n1_; have HO408 := n2_; have HO411 := n3_; have HB := n4_; clear n0_ n1_ n2_ n3_ n4_; (try clear hb); (try clear hb2); (try clear hk); (try clear hi); (try clear ho0)))
                                    (try simp only [← hl5_33])
                                    go_meet
                                    case rel => exact ⟨_, (x5_33), (t409), H', ⟨by have := HJ2.out; have := HK2.out; have := HJ13.out; have := HJ33.out; first | omega | exact Nat.le_refl _⟩, ⟨by (try simp only [hl5_33]); (with_reducible repeat (first | apply Kd.R_alloc | apply Kd.R_drewN | apply Kd.R_drew)); exact HO_5.out⟩, ⟨by (try simp only [hl5_33]); (with_reducible repeat (first | apply Kd.R_alloc | apply Kd.R_drewN | apply Kd.R_drew)); exact Kd.R_mono HO411.out (fun _ hk => trivial)⟩, ⟨zB⟩⟩
                                  · rw [if_neg c42] at H
                                    exact absurd H (by simp)
                                · replace c40 := Bool.eq_false_iff.mpr c40
                                  subst c40
                                  have H1 : (balustradelaw02_BitsChanges.j4 kj33 l0 l1 x5_33 x6_2 x7_2) = some r := by rw [if_neg (show ¬ (false = true) by decide)] at H; exact H
                                  clear H
                                  have H := H1
                                  clear H1
                                  have H' := Aside0.mk H
                                  clear H
                                  go_wp2
                                  (try simp only [← hl5_33])
                                  go_meet
                                  case rel => exact ⟨_, (x5_33), (x6_2), H', ⟨by have := HJ2.out; have := HK2.out; have := HJ13.out; have := HJ33.out; first | omega | exact Nat.le_refl _⟩, ⟨by (try simp only [hl5_33]); (with_reducible repeat (first | apply Kd.R_alloc | apply Kd.R_drewN | apply Kd.R_drew)); exact HO_5.out⟩, ⟨by (try simp only [hl5_33]); (with_reducible repeat (first | apply Kd.R_alloc | apply Kd.R_drewN | apply Kd.R_drew)); exact HO_6.out⟩, ⟨zB⟩⟩
                      case rest =>
                        clear HC21
                        try clear c1
                        try clear c2
                        try clear p2
                        try clear c3
                        try clear p3
                        try clear q3
                        try clear hx3
                        try clear c4
                        try clear c4b0
                        try clear c4b1
                        try clear c5
                        try clear p6
                        try clear c7
                        try clear c12
                        try clear c12b0
                        try clear c13
                        try clear c13b0
                        try clear c15
                        try clear c15b0
                        try clear c16
                        try clear c18
                        try clear c18b0
                        try clear c18b1
                        try clear c18b2
                        try clear c20
                        try clear c21
                        try clear c24
                        try clear c24b0
                        try clear c24b1
                        try clear c24b2
                        try clear c26
                        try clear c26b0
                        try clear c26b1
                        try clear c26b2
                        try clear c28
                        try clear c29
                        try clear c30
                        try clear c31
                        try clear c36
                        try clear c39
                        try clear p39
                        try clear q39
                        try clear hx39
                        try clear c40
                        try clear c42
                        try clear hx390_0
                        try clear p2
                        try clear p3
                        try clear p390
                        try clear p6
                        try clear q3
                        try clear q390
                        obtain ⟨kq, x5_20, x6_20, HA, HJ20, HO_5, HO_6, HB⟩ := hcut
                        have hl5_20 := (Kd.R_reads' HO_5.out).1
                        rw [hl5_20] at HO_5
                        (try simp only [hl5_20])
                        (try simp only [hl5_20] at HO_6)
                        cases kq with
                        | zero => exact absurd HA.out (by simp [balustradelaw02_BitsChanges.j4])
                        | succ kj20 =>
                          have H := HA.out
                          clear HA
                          simp only [balustradelaw02_BitsChanges.j4] at H
                          replace H := Option.bind_eq_some_iff.mp H
                          obtain ⟨t412, A480, H⟩ := H
                          replace H : ((balustradebase_SameInts.f kj20 t412 x6_20).bind fun t415 => (if t415 = true then ((bits_Set_Count.f kj20 x5_20).bind fun t416 => (if t416 = (x6_20.length : Int) then (balustradelaw02_BitsChanges.l0 kj20 l0 l1 x5_20 x6_20 (wrap64 (x7_2 + 1))) else (some false))) else (some false))) = some r := H
                          have A48 := Aside0.mk A480
                          clear A480
                          replace H := Option.bind_eq_some_iff.mp H
                          obtain ⟨t415, A490, H⟩ := H
                          replace H : (if t415 = true then ((bits_Set_Count.f kj20 x5_20).bind fun t416 => (if t416 = (x6_20.length : Int) then (balustradelaw02_BitsChanges.l0 kj20 l0 l1 x5_20 x6_20 (wrap64 (x7_2 + 1))) else (some false))) else (some false)) = some r := H
                          have A49 := Aside0.mk A490
                          clear A490
                          by_cases c50 : t415 = true
                          · subst c50
                            have H1 : ((bits_Set_Count.f kj20 x5_20).bind fun t416 => (if t416 = (x6_20.length : Int) then (balustradelaw02_BitsChanges.l0 kj20 l0 l1 x5_20 x6_20 (wrap64 (x7_2 + 1))) else (some false))) = some r := by rw [if_pos rfl] at H; exact H
                            clear H
                            have H := H1
                            clear H1
                            replace H := Option.bind_eq_some_iff.mp H
                            obtain ⟨t416, A510, H⟩ := H
                            replace H : (if t416 = (x6_20.length : Int) then (balustradelaw02_BitsChanges.l0 kj20 l0 l1 x5_20 x6_20 (wrap64 (x7_2 + 1))) else (some false)) = some r := H
                            have A51 := Aside0.mk A510
                            clear A510
                            by_cases c52 : t416 = (x6_20.length : Int)
                            · rw [if_pos c52] at H
                              have c52b0 : (t416 == (x6_20.length : Int)) = true := beq_iff_eq.mpr c52
                              (try (have c52b0h := c52b0; simp only [hl5_20] at c52b0h))
                              have c52b1 : (t416 != (x6_20.length : Int)) = false := bne_eq_false_iff_eq.mpr c52
                              (try (have c52b1h := c52b1; simp only [hl5_20] at c52b1h))
                              clear c52
                              have H' := Aside0.mk H
                              clear H
                              go_wp2_with (first | ((with_reducible refine gate_callee (f := 32) rfl ?_); refine goesL_ (some 82) rfl rfl Tryd.func32 (by kernel_rfl) rfl #[.slice Ao23 x5_20.length co23] rfl zE ?_; (with_reducible refine (bits_Set_List.calls kj20 _ _ x5_20 t412 _ ?side1 ?side2 ?side3 A48.out).mono ?_); (case side1 => first | exact HT.out | exact TabW.below HT.out (zB)); (case side2 => exact zC (Kd.R_reads' HO_5.out).2.2); (case side3 => exact (Kd.R_reads' HO_5.out).2.1); rintro e w53 ⟨v413, rfl, ho0, hb⟩; refine ⟨_, rfl, ?_⟩; have n0_ := Aside0.mk (Kd.R_below (zR HO_5.out) hb); have n1_ := Aside0.mk (Kd.R_elder' (zR HO_6.out) (Kd.R_base ho0) hb); have n2_ := Aside0.mk (Kd.R_lower (Kd.R_new' ho0 (Kd.R_lt (zR HO_6.out))) (below_size (zB))); have n3_ := Aside0.mk (below_step (zB) hb); clear HO_5; clear HO_6; clear HB; have HO_5 := n0_; have HO_6 := n1_; have HO414 := n2_; have HB := n3_; clear n0_ n1_ n2_ n3_; (try clear hb); (try clear hb2); (try clear hk); (try clear hi); (try clear ho0); obtain ⟨Ao54, co54, eo54⟩ := Kd.R_slice HO414.out; subst eo54; obtain ⟨Ao55, co55, eo55⟩ := Kd.R_slice HO_6.out; subst eo55) | ((with_reducible refine gate_callee (f := 27) rfl ?_); refine goesL_ (some 84) rfl rfl Tryd.func27 (by kernel_rfl) rfl #[.slice Ao54 t412.length co54, .slice Ao55 x6_20.length co55] rfl zE ?_; (with_reducible refine (balustradebase_SameInts.calls kj20 _ _ t412 _ _ x6_20 true _ ?side1 ?side2 ?side3 ?side4 A49.out).mono ?_); (case side1 => exact zC (Kd.R_reads' HO414.out).2.2); (case side2 => exact (Kd.R_reads' HO414.out).2.1); (case side3 => exact zC (Kd.R_reads' HO_6.out).2.2); (case side4 => exact (Kd.R_reads' HO_6.out).2.1); rintro e w' ⟨rfl, ⟨nd, rfl⟩⟩; refine ⟨_, rfl, ?_⟩) | (go_at_call 33; (with_reducible refine (bits_Set_Count.calls kj20 _ _ x5_20 t416 _ ?side1 ?side2 A51.out).mono ?_); (case side1 => exact zC (Kd.R_reads' HO_5.out).2.2); (case side2 => exact (Kd.R_reads' HO_5.out).2.1); rintro e w' ⟨rfl, ⟨nd, rfl⟩⟩))
                              (try simp only [← hl5_20])
                              go_roundg kj20
                              case measure => have := HJ2.out; have := HK2.out; have := HJ13.out; have := HJ20.out; omega
                              case rel => exact ⟨(x5_20), (x6_20), (wrap64 (x7_2 + 1)), (by first | rfl | (simp; done) | (simp [*]; done)), H', ⟨by have := HJ2.out; have := HK2.out; have := HJ13.out; have := HJ20.out; omega⟩, ⟨by (try simp only [hl5_20]); (with_reducible repeat (first | apply Kd.R_alloc | apply Kd.R_drewN | apply Kd.R_drew)); exact HO_5.out⟩, ⟨by (try simp only [hl5_20]); (with_reducible repeat (first | apply Kd.R_alloc | apply Kd.R_drewN | apply Kd.R_drew)); exact Kd.R_mono HO_6.out (fun _ hk => trivial)⟩, ⟨zB⟩⟩
                            · rw [if_neg c52] at H
                              have c52b0 : (t416 == (x6_20.length : Int)) = false := beq_eq_false_iff_ne.mpr c52
                              (try (have c52b0h := c52b0; simp only [hl5_20] at c52b0h))
                              have c52b1 : (t416 != (x6_20.length : Int)) = true := bne_iff_ne.mpr c52
                              (try (have c52b1h := c52b1; simp only [hl5_20] at c52b1h))
                              obtain rfl := Option.some.inj H
                              go_wp2_with (first | ((with_reducible refine gate_callee (f := 32) rfl ?_); refine goesL_ (some 82) rfl rfl Tryd.func32 (by kernel_rfl) rfl #[.slice Ao23 x5_20.length co23] rfl zE ?_; (with_reducible refine (bits_Set_List.calls kj20 _ _ x5_20 t412 _ ?side1 ?side2 ?side3 A48.out).mono ?_); (case side1 => first | exact HT.out | exact TabW.below HT.out (zB)); (case side2 => exact zC (Kd.R_reads' HO_5.out).2.2); (case side3 => exact (Kd.R_reads' HO_5.out).2.1); rintro e w56 ⟨v413, rfl, ho0, hb⟩; refine ⟨_, rfl, ?_⟩; have n0_ := Aside0.mk (Kd.R_below (zR HO_5.out) hb); have n1_ := Aside0.mk (Kd.R_elder' (zR HO_6.out) (Kd.R_base ho0) hb); have n2_ := Aside0.mk (Kd.R_lower (Kd.R_new' ho0 (Kd.R_lt (zR HO_6.out))) (below_size (zB))); have n3_ := Aside0.mk (below_step (zB) hb); clear HO_5; clear HO_6; clear HB; have HO_5 := n0_; have HO_6 := n1_; have HO414 := n2_; have HB := n3_; clear n0_ n1_ n2_ n3_; (try clear hb); (try clear hb2); (try clear hk); (try clear hi); (try clear ho0); obtain ⟨Ao57, co57, eo57⟩ := Kd.R_slice HO414.out; subst eo57; obtain ⟨Ao58, co58, eo58⟩ := Kd.R_slice HO_6.out; subst eo58) | ((with_reducible refine gate_callee (f := 27) rfl ?_); refine goesL_ (some 84) rfl rfl Tryd.func27 (by kernel_rfl) rfl #[.slice Ao57 t412.length co57, .slice Ao58 x6_20.length co58] rfl zE ?_; (with_reducible refine (balustradebase_SameInts.calls kj20 _ _ t412 _ _ x6_20 true _ ?side1 ?side2 ?side3 ?side4 A49.out).mono ?_); (case side1 => exact zC (Kd.R_reads' HO414.out).2.2); (case side2 => exact (Kd.R_reads' HO414.out).2.1); (case side3 => exact zC (Kd.R_reads' HO_6.out).2.2); (case side4 => exact (Kd.R_reads' HO_6.out).2.1); rintro e w' ⟨rfl, ⟨nd, rfl⟩⟩; refine ⟨_, rfl, ?_⟩) | (go_at_call 33; (with_reducible refine (bits_Set_Count.calls kj20 _ _ x5_20 t416 _ ?side1 ?side2 A51.out).mono ?_); (case side1 => exact zC (Kd.R_reads' HO_5.out).2.2); (case side2 => exact (Kd.R_reads' HO_5.out).2.1); rintro e w' ⟨rfl, ⟨nd, rfl⟩⟩))
                              go_ret
                              exact ⟨by first | rfl | (simp [errW_none, errW_some] <;> rfl) | (simp [*, errW_none, errW_some] <;> rfl), zB⟩
                          · replace c50 := Bool.eq_false_iff.mpr c50
                            subst c50
                            have H1 : (some false) = some r := by rw [if_neg (show ¬ (false = true) by decide)] at H; exact H
                            clear H
                            have H := H1
                            clear H1
                            obtain rfl := Option.some.inj H
                            go_wp2_with (first | ((with_reducible refine gate_callee (f := 32) rfl ?_); refine goesL_ (some 82) rfl rfl Tryd.func32 (by kernel_rfl) rfl #[.slice Ao23 x5_20.length co23] rfl zE ?_; (with_reducible refine (bits_Set_List.calls kj20 _ _ x5_20 t412 _ ?side1 ?side2 ?side3 A48.out).mono ?_); (case side1 => first | exact HT.out | exact TabW.below HT.out (zB)); (case side2 => exact zC (Kd.R_reads' HO_5.out).2.2); (case side3 => exact (Kd.R_reads' HO_5.out).2.1); rintro e w59 ⟨v413, rfl, ho0, hb⟩; refine ⟨_, rfl, ?_⟩; have n0_ := Aside0.mk (Kd.R_below (zR HO_5.out) hb); have n1_ := Aside0.mk (Kd.R_elder' (zR HO_6.out) (Kd.R_base ho0) hb); have n2_ := Aside0.mk (Kd.R_lower (Kd.R_new' ho0 (Kd.R_lt (zR HO_6.out))) (below_size (zB))); have n3_ := Aside0.mk (below_step (zB) hb); clear HO_5; clear HO_6; clear HB; have HO_5 := n0_; have HO_6 := n1_; have HO414 := n2_; have HB := n3_; clear n0_ n1_ n2_ n3_; (try clear hb); (try clear hb2); (try clear hk); (try clear hi); (try clear ho0); obtain ⟨Ao60, co60, eo60⟩ := Kd.R_slice HO414.out; subst eo60; obtain ⟨Ao61, co61, eo61⟩ := Kd.R_slice HO_6.out; subst eo61) | ((with_reducible refine gate_callee (f := 27) rfl ?_); refine goesL_ (some 84) rfl rfl Tryd.func27 (by kernel_rfl) rfl #[.slice Ao60 t412.length co60, .slice Ao61 x6_20.length co61] rfl zE ?_; (with_reducible refine (balustradebase_SameInts.calls kj20 _ _ t412 _ _ x6_20 false _ ?side1 ?side2 ?side3 ?side4 A49.out).mono ?_); (case side1 => exact zC (Kd.R_reads' HO414.out).2.2); (case side2 => exact (Kd.R_reads' HO414.out).2.1); (case side3 => exact zC (Kd.R_reads' HO_6.out).2.2); (case side4 => exact (Kd.R_reads' HO_6.out).2.1); rintro e w' ⟨rfl, ⟨nd, rfl⟩⟩; refine ⟨_, rfl, ?_⟩))
                            go_ret
                            exact ⟨by first | rfl | (simp [errW_none, errW_some] <;> rfl) | (simp [*, errW_none, errW_some] <;> rfl), zB⟩
              · rw [if_neg c13] at H
                exact absurd H (by simp)
            · rw [if_neg c12] at H
              have c12b0 : decide (x7_2 < (l1.length : Int)) = false := decide_eq_false c12
              clear c12
              replace H := Option.bind_eq_some_iff.mp H
              obtain ⟨t385, A620, H⟩ := H
              replace H : ((balustradelaw02_words.f k2 x5_2 t385).bind fun t388 => (if t388 = true then ((balustradelaw02_works.f k2).bind fun t389 => (some t389)) else (some false))) = some r := H
              have A62 := Aside0.mk A620
              clear A620
              replace H := Option.bind_eq_some_iff.mp H
              obtain ⟨t388, A630, H⟩ := H
              replace H : (if t388 = true then ((balustradelaw02_works.f k2).bind fun t389 => (some t389)) else (some false)) = some r := H
              have A63 := Aside0.mk A630
              clear A630
              by_cases c64 : t388 = true
              · subst c64
                have H1 : ((balustradelaw02_works.f k2).bind fun t389 => (some t389)) = some r := by rw [if_pos rfl] at H; exact H
                clear H
                have H := H1
                clear H1
                replace H := Option.bind_eq_some_iff.mp H
                obtain ⟨t389, A650, H⟩ := H
                replace H : (some t389) = some r := H
                have A65 := Aside0.mk A650
                clear A650
                obtain rfl := Option.some.inj H
                obtain ⟨Ao66, co66, eo66⟩ := Kd.R_slice HO_6.out
                subst eo66
                go_wp2_with (first | ((with_reducible refine gate_callee (f := 18) rfl ?_); refine goesL_ (some 97) rfl rfl Tryd.func18 (by kernel_rfl) rfl #[.int .i64 (l0.length : Int), .slice Ao66 x6_2.length co66] rfl zE ?_; (with_reducible refine (balustraderef02_Words.calls k2 (l0.length : Int) _ _ x6_2 t385 _ ?side1 ?side2 A62.out).mono ?_); (case side1 => exact zC (Kd.R_reads' HO_6.out).2.2); (case side2 => exact (Kd.R_reads' HO_6.out).2.1); rintro e w67 ⟨v386, rfl, ho0, hb⟩; refine ⟨_, rfl, ?_⟩; have n0_ := Aside0.mk (Kd.R_elder' (zR HO_5.out) (Kd.R_base ho0) hb); have n1_ := Aside0.mk (Kd.R_below (zR HO_6.out) hb); have n2_ := Aside0.mk (Kd.R_lower (Kd.R_new' ho0 (Kd.R_lt (zR HO_5.out))) (below_size (zB))); have n3_ := Aside0.mk (below_step (zB) hb); clear HO_5; clear HO_6; clear HB; have HO_5 := n0_; have HO_6 := n1_; have HO387 := n2_; have HB := n3_; clear n0_ n1_ n2_ n3_; (try clear hb); (try clear hb2); (try clear hk); (try clear hi); (try clear ho0); obtain ⟨Ao68, co68, eo68⟩ := Kd.R_slice HO_5.out; subst eo68; obtain ⟨Ao69, co69, eo69⟩ := Kd.R_slice HO387.out; subst eo69) | ((with_reducible refine gate_callee (f := 17) rfl ?_); refine goesL_ (some 98) rfl rfl Tryd.func17 (by kernel_rfl) rfl #[.slice Ao68 x5_2.length co68, .slice Ao69 t385.length co69] rfl zE ?_; (with_reducible refine (balustradelaw02_words.calls k2 _ _ x5_2 _ _ t385 true _ ?side1 ?side2 ?side3 ?side4 A63.out).mono ?_); (case side1 => exact zC (Kd.R_reads' HO_5.out).2.2); (case side2 => exact (Kd.R_reads' HO_5.out).2.1); (case side3 => exact zC (Kd.R_reads' HO387.out).2.2); (case side4 => exact (Kd.R_reads' HO387.out).2.1); rintro e w' ⟨rfl, ⟨nd, rfl⟩⟩; refine ⟨_, rfl, ?_⟩) | (go_at_call 7; (with_reducible refine (balustradelaw02_works.calls k2  t389 _ ?side1 A65.out).mono ?_); (case side1 => first | exact HT.out | exact TabW.below HT.out (zB)); rintro e w70 ⟨rfl, hb⟩; have n0_ := Aside0.mk (Kd.R_below (zR HO_5.out) hb); have n1_ := Aside0.mk (Kd.R_below (zR HO_6.out) hb); have n2_ := Aside0.mk (Kd.R_below (zR HO387.out) hb); have n3_ := Aside0.mk (below_step (zB) hb); clear HO_5; clear HO_6; clear HO387; clear HB; have HO_5 := n0_; have HO_6 := n1_; have HO387 := n2_; have HB := n3_; clear n0_ n1_ n2_ n3_; (try clear hb); (try clear hb2); (try clear hk); (try clear hi)))
                go_ret
                exact ⟨by first | rfl | (simp [errW_none, errW_some] <;> rfl) | (simp [*, errW_none, errW_some] <;> rfl), zB⟩
              · replace c64 := Bool.eq_false_iff.mpr c64
                subst c64
                have H1 : (some false) = some r := by rw [if_neg (show ¬ (false = true) by decide)] at H; exact H
                clear H
                have H := H1
                clear H1
                obtain rfl := Option.some.inj H
                obtain ⟨Ao71, co71, eo71⟩ := Kd.R_slice HO_6.out
                subst eo71
                go_wp2_with (first | ((with_reducible refine gate_callee (f := 18) rfl ?_); refine goesL_ (some 97) rfl rfl Tryd.func18 (by kernel_rfl) rfl #[.int .i64 (l0.length : Int), .slice Ao71 x6_2.length co71] rfl zE ?_; (with_reducible refine (balustraderef02_Words.calls k2 (l0.length : Int) _ _ x6_2 t385 _ ?side1 ?side2 A62.out).mono ?_); (case side1 => exact zC (Kd.R_reads' HO_6.out).2.2); (case side2 => exact (Kd.R_reads' HO_6.out).2.1); rintro e w72 ⟨v386, rfl, ho0, hb⟩; refine ⟨_, rfl, ?_⟩; have n0_ := Aside0.mk (Kd.R_elder' (zR HO_5.out) (Kd.R_base ho0) hb); have n1_ := Aside0.mk (Kd.R_below (zR HO_6.out) hb); have n2_ := Aside0.mk (Kd.R_lower (Kd.R_new' ho0 (Kd.R_lt (zR HO_5.out))) (below_size (zB))); have n3_ := Aside0.mk (below_step (zB) hb); clear HO_5; clear HO_6; clear HB; have HO_5 := n0_; have HO_6 := n1_; have HO387 := n2_; have HB := n3_; clear n0_ n1_ n2_ n3_; (try clear hb); (try clear hb2); (try clear hk); (try clear hi); (try clear ho0); obtain ⟨Ao73, co73, eo73⟩ := Kd.R_slice HO_5.out; subst eo73; obtain ⟨Ao74, co74, eo74⟩ := Kd.R_slice HO387.out; subst eo74) | ((with_reducible refine gate_callee (f := 17) rfl ?_); refine goesL_ (some 98) rfl rfl Tryd.func17 (by kernel_rfl) rfl #[.slice Ao73 x5_2.length co73, .slice Ao74 t385.length co74] rfl zE ?_; (with_reducible refine (balustradelaw02_words.calls k2 _ _ x5_2 _ _ t385 false _ ?side1 ?side2 ?side3 ?side4 A63.out).mono ?_); (case side1 => exact zC (Kd.R_reads' HO_5.out).2.2); (case side2 => exact (Kd.R_reads' HO_5.out).2.1); (case side3 => exact zC (Kd.R_reads' HO387.out).2.2); (case side4 => exact (Kd.R_reads' HO387.out).2.1); rintro e w' ⟨rfl, ⟨nd, rfl⟩⟩; refine ⟨_, rfl, ?_⟩))
                go_ret
                exact ⟨by first | rfl | (simp [errW_none, errW_some] <;> rfl) | (simp [*, errW_none, errW_some] <;> rfl), zB⟩

/-- THE ONE PURE STATEMENT of balustradelaw02_BitsChanges: yours. -/
def balustradelaw02_BitsChanges.Pure : Prop := ∀ (l0 : List Int) (l1 : List Int), l0.length ≤ maxLen → l0.length * 8 ≤ 140737488351232 → (∀ x ∈ l0, (Lit.int .u64 x).wf = true) → l1.length ≤ maxLen → l1.length * 8 ≤ 140737488351232 → (∀ x ∈ l1, (Lit.int .i64 x).wf = true) → ∃ k, balustradelaw02_BitsChanges.f k l0 l1 = some true
theorem balustradelaw02_BitsChanges.walk (P : balustradelaw02_BitsChanges.Pure) (a0 : Option Addr) (len0 cap0 : Nat) (z0 : List Int) (a1 : Option Addr) (len1 cap1 : Nat) (z1 : List Int) (w : World) (hT : TabW w) (w0 : (a0 = none ∧ len0 = 0 ∧ cap0 = 0 ∧ z0 = []) ∨ ∃ x, a0 = some x ∧ len0 ≤ cap0 ∧ cap0 ≤ maxLen ∧ z0.length = cap0 ∧ (∀ i, i < z0.length → w.cell? (x.add i) = some (.int .u64 (z0.getD i 0))) ∧ ∀ n ∈ z0, (Lit.int .u64 n).wf = true) (y0 : len0 * 8 ≤ 140737488351232) (w1 : (a1 = none ∧ len1 = 0 ∧ cap1 = 0 ∧ z1 = []) ∨ ∃ x, a1 = some x ∧ len1 ≤ cap1 ∧ cap1 ≤ maxLen ∧ z1.length = cap1 ∧ (∀ i, i < z1.length → w.cell? (x.add i) = some (.int .i64 (z1.getD i 0))) ∧ ∀ n ∈ z1, (Lit.int .i64 n).wf = true) (y1 : len1 * 8 ≤ 140737488351232) :
    Calls Tryd.prog 5 #[.slice a0 len0 cap0, .slice a1 len1 cap1] w fun e w' => e = .returned (.bool true) ∧ Below w.heap.size w w' := by
  obtain ⟨l0, rfl, hr0, hm0, hw0, hc0⟩ := ReadsInt.ofRowC w0
  obtain ⟨l1, rfl, hr1, hm1, hw1, hc1⟩ := ReadsInt.ofRowC w1
  obtain ⟨k, h⟩ := P l0 l1 hm0 y0 hw0 hm1 y1 hw1
  refine (balustradelaw02_BitsChanges.calls k _ _ l0 _ _ l1 true w hT (Kd.C_of_reads (d := (0 : Int)) (h1 := fun _ => rfl) hr0) hc0 (Kd.C_of_reads (d := (0 : Int)) (h1 := fun _ => rfl) hr1) hc1 h).mono ?_
  rintro e w' ⟨rfl, hd⟩
  exact ⟨rfl, hd⟩

end Go.Proofs.YtbkbgooncedleaaDoor.P

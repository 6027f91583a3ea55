-- by xprint.py, a program of this place over the kit's print: Lean checks it
import Derived.Test.YtbkbgooncedleaaDoorP0
import Derived.Test.YtbkbgooncedleaaDoorP1
import Derived.Test.YtbkbgooncedleaaDoorP2
import Derived.Test.YtbkbgooncedleaaDoorP3
import Derived.Test.YtbkbgooncedleaaDoorP4
import Derived.Test.YtbkbgooncedleaaDoorP5
namespace Go.Proofs.YtbkbgooncedleaaDoor.P
open Go.RowKit Go.Proofs.YtbkbgooncedleaaDoorW.PrintWords Go.Proofs.YtbkbgooncedleaaDoorW.PrintLast Go.Proofs.YtbkbgooncedleaaDoorW.PrintMore
attribute [local go_sem] max2_int min2_int max_two min_two max_three min_three max_four min_four   -- for this text's walks alone
set_option linter.unusedVariables false
set_option linter.unusedSimpArgs false

/-! ### balustradelaw02_BitsMakes: function 3 -/
mutual
def balustradelaw02_BitsMakes.j0 : Nat → Int → List Int → List Int → Bool → Option (Bool)
  | 0, _, _, _, _ => none
  | k + 1, x0, x1, x2, x26 => if x26 = true then ((balustradelaw02_works.f k).bind fun t236 => (some t236)) else ((balustraderef02_May.f x0).bind fun t237 => (if t237 = true then ((balustraderef02_Many.f x0).bind fun t251 => (balustradelaw02_BitsMakes.l0 k x0 x1 x2 t251 (([] : List Int)) 0)) else (if x0 < 0 then ((bits_New_nil.f x0).bind fun _ => ((bits_Full_nil.f x0).bind fun _ => ((bits_Of_nil.f x0 x1).bind fun _ => ((balustradelaw02_copied.f x2).bind fun t238 => ((bits_Right.f k t238 x0).bind fun t241 => (if t241 = true then (some false) else ((balustradelaw02_works.f k).bind fun t242 => (some t242)))))))) else (if x0 > 65536 then ((bits_New_nil.f x0).bind fun _ => ((bits_Full_nil.f x0).bind fun _ => ((bits_Of_nil.f x0 x1).bind fun _ => ((balustradelaw02_copied.f x2).bind fun t243 => ((bits_Right.f k t243 x0).bind fun t246 => (if t246 = true then (some false) else ((balustradelaw02_works.f k).bind fun t247 => (some t247)))))))) else ((bits_New.f x0).bind fun t248 => (none))))))
def balustradelaw02_BitsMakes.l0 : Nat → Int → List Int → List Int → Int → List Int → Int → Option (Bool)
  | 0, _, _, _, _, _, _ => none
  | k + 1, x0, x1, x2, x7, x8, x9 => if x9 < x0 then (if x8.length < 17592186044416 then (balustradelaw02_BitsMakes.l0 k x0 x1 x2 x7 (x8 ++ [x9]) (wrap64 (x9 + 1))) else (none)) else (if (x2.length : Int) = x7 then ((balustraderef02_List.f k x2).bind fun t258 => ((balustraderef02_Out.f k t258 x8).bind fun t261 => (balustradelaw02_BitsMakes.j2 k x0 x1 x2 x7 x8 ((t261.length : Int) == 0)))) else (balustradelaw02_BitsMakes.j2 k x0 x1 x2 x7 x8 false))
def balustradelaw02_BitsMakes.j2 : Nat → Int → List Int → List Int → Int → List Int → Bool → Option (Bool)
  | 0, _, _, _, _, _, _ => none
  | k + 1, x0, x1, x2, x7, x8, x10 => (bits_New.f x0).bind fun t264 => ((balustraderef02_Words.f k x7 ([] : List Int)).bind fun t267 => ((balustradelaw02_words.f k t264 t267).bind fun t270 => (if t270 = true then ((bits_Full.f k x0).bind fun t271 => ((balustraderef02_Words.f k x7 x8).bind fun t274 => ((balustradelaw02_words.f k t271 t274).bind fun t277 => (if t277 = true then ((bits_Of.f k x0 x1).bind fun t278 => ((balustraderef02_Below.f k x1 x0).bind fun t281 => ((balustraderef02_Words.f k x7 t281).bind fun t284 => ((balustradelaw02_words.f k t278 t284).bind fun t287 => (if t287 = true then ((balustradelaw02_copied.f x2).bind fun t288 => ((bits_Right.f k t288 x0).bind fun t291 => (if (t291 == x10) = true then ((balustradelaw02_works.f k).bind fun t292 => (some t292)) else (some false)))) else (some false)))))) else (some false))))) else (some false))))
end
def balustradelaw02_BitsMakes.f (k : Nat) (a0 : Int) (l1 : List Int) (l2 : List Int) : Option (Bool) := if (l1.length : Int) > 30 then (balustradelaw02_BitsMakes.j0 k a0 l1 l2 true) else (if (l2.length : Int) > 8 then (balustradelaw02_BitsMakes.j0 k a0 l1 l2 true) else (if a0 > 512 then (balustradelaw02_BitsMakes.j0 k a0 l1 l2 (decide (a0 ≤ 65536))) else (balustradelaw02_BitsMakes.j0 k a0 l1 l2 false)))
theorem balustradelaw02_BitsMakes.mono_l : ∀ k, (∀ y0 y1 y2 y3, LeO (balustradelaw02_BitsMakes.j0 k y0 y1 y2 y3) (balustradelaw02_BitsMakes.j0 (k + 1) y0 y1 y2 y3)) ∧ (∀ y0 y1 y2 y3 y4 y5, LeO (balustradelaw02_BitsMakes.l0 k y0 y1 y2 y3 y4 y5) (balustradelaw02_BitsMakes.l0 (k + 1) y0 y1 y2 y3 y4 y5)) ∧ (∀ y0 y1 y2 y3 y4 y5, LeO (balustradelaw02_BitsMakes.j2 k y0 y1 y2 y3 y4 y5) (balustradelaw02_BitsMakes.j2 (k + 1) y0 y1 y2 y3 y4 y5))
  | 0 => ⟨fun _ _ _ _ r h => by simp [balustradelaw02_BitsMakes.j0] at h, fun _ _ _ _ _ _ r h => by simp [balustradelaw02_BitsMakes.l0] at h, fun _ _ _ _ _ _ r h => by simp [balustradelaw02_BitsMakes.j2] at h⟩
  | k + 1 => by
    obtain ⟨ih0, ih1, ih2⟩ := balustradelaw02_BitsMakes.mono_l k
    refine ⟨?_, ?_, ?_⟩
    · intro y0 y1 y2 y3
      unfold balustradelaw02_BitsMakes.j0
      repeat' first
      | (with_reducible exact ih0 _ _ _ _)
      | (with_reducible exact ih1 _ _ _ _ _ _)
      | (with_reducible exact ih2 _ _ _ _ _ _)
      | (with_reducible exact balustradelaw02_words.mono _ _ _)
      | (with_reducible exact balustradelaw02_works.mono _)
      | (with_reducible exact balustraderef02_Below.mono _ _ _)
      | (with_reducible exact balustraderef02_List.mono _ _)
      | (with_reducible exact balustraderef02_Out.mono _ _ _)
      | (with_reducible exact balustraderef02_Words.mono _ _ _)
      | (with_reducible exact bits_Full.mono _ _)
      | (with_reducible exact bits_Of.mono _ _ _)
      | (with_reducible exact bits_Right.mono _ _ _)
      | (with_reducible exact LeO.refl _)
      | (with_reducible exact LeO.none _)
      | (with_reducible refine LeO.ite ?_ ?_)
      | (with_reducible refine LeO.bind ?_ (fun _ => ?_))
      | exact ih0 _ _ _ _
      | exact ih1 _ _ _ _ _ _
      | exact ih2 _ _ _ _ _ _
      | exact balustradelaw02_words.mono _ _ _
      | exact balustradelaw02_works.mono _
      | exact balustraderef02_Below.mono _ _ _
      | exact balustraderef02_List.mono _ _
      | exact balustraderef02_Out.mono _ _ _
      | exact balustraderef02_Words.mono _ _ _
      | exact bits_Full.mono _ _
      | exact bits_Of.mono _ _ _
      | exact bits_Right.mono _ _ _
      | exact LeO.none _
      | refine LeO.ite ?_ ?_
      | refine LeO.bind ?_ (fun _ => ?_)
    · intro y0 y1 y2 y3 y4 y5
      unfold balustradelaw02_BitsMakes.l0
      repeat' first
      | (with_reducible exact ih0 _ _ _ _)
      | (with_reducible exact ih1 _ _ _ _ _ _)
      | (with_reducible exact ih2 _ _ _ _ _ _)
      | (with_reducible exact balustradelaw02_words.mono _ _ _)
      | (with_reducible exact balustradelaw02_works.mono _)
      | (with_reducible exact balustraderef02_Below.mono _ _ _)
      | (with_reducible exact balustraderef02_List.mono _ _)
      | (with_reducible exact balustraderef02_Out.mono _ _ _)
      | (with_reducible exact balustraderef02_Words.mono _ _ _)
      | (with_reducible exact bits_Full.mono _ _)
      | (with_reducible exact bits_Of.mono _ _ _)
      | (with_reducible exact bits_Right.mono _ _ _)
      | (with_reducible exact LeO.refl _)
      | (with_reducible exact LeO.none _)
      | (with_reducible refine LeO.ite ?_ ?_)
      | (with_reducible refine LeO.bind ?_ (fun _ => ?_))
      | exact ih0 _ _ _ _
      | exact ih1 _ _ _ _ _ _
      | exact ih2 _ _ _ _ _ _
      | exact balustradelaw02_words.mono _ _ _
      | exact balustradelaw02_works.mono _
      | exact balustraderef02_Below.mono _ _ _
      | exact balustraderef02_List.mono _ _
      | exact balustraderef02_Out.mono _ _ _
      | exact balustraderef02_Words.mono _ _ _
      | exact bits_Full.mono _ _
      | exact bits_Of.mono _ _ _
      | exact bits_Right.mono _ _ _
      | exact LeO.none _
      | refine LeO.ite ?_ ?_
      | refine LeO.bind ?_ (fun _ => ?_)
    · intro y0 y1 y2 y3 y4 y5
      unfold balustradelaw02_BitsMakes.j2
      repeat' first
      | (with_reducible exact ih0 _ _ _ _)
      | (with_reducible exact ih1 _ _ _ _ _ _)
      | (with_reducible exact ih2 _ _ _ _ _ _)
      | (with_reducible exact balustradelaw02_words.mono _ _ _)
      | (with_reducible exact balustradelaw02_works.mono _)
      | (with_reducible exact balustraderef02_Below.mono _ _ _)
      | (with_reducible exact balustraderef02_List.mono _ _)
      | (with_reducible exact balustraderef02_Out.mono _ _ _)
      | (with_reducible exact balustraderef02_Words.mono _ _ _)
      | (with_reducible exact bits_Full.mono _ _)
      | (with_reducible exact bits_Of.mono _ _ _)
      | (with_reducible exact bits_Right.mono _ _ _)
      | (with_reducible exact LeO.refl _)
      | (with_reducible exact LeO.none _)
      | (with_reducible refine LeO.ite ?_ ?_)
      | (with_reducible refine LeO.bind ?_ (fun _ => ?_))
      | exact ih0 _ _ _ _
      | exact ih1 _ _ _ _ _ _
      | exact ih2 _ _ _ _ _ _
      | exact balustradelaw02_words.mono _ _ _
      | exact balustradelaw02_works.mono _
      | exact balustraderef02_Below.mono _ _ _
      | exact balustraderef02_List.mono _ _
      | exact balustraderef02_Out.mono _ _ _
      | exact balustraderef02_Words.mono _ _ _
      | exact bits_Full.mono _ _
      | exact bits_Of.mono _ _ _
      | exact bits_Right.mono _ _ _
      | exact LeO.none _
      | refine LeO.ite ?_ ?_
      | refine LeO.bind ?_ (fun _ => ?_)
theorem balustradelaw02_BitsMakes.mono : ∀ a0 a1 a2 k, LeO (balustradelaw02_BitsMakes.f k a0 a1 a2) (balustradelaw02_BitsMakes.f (k + 1) a0 a1 a2) := by
  intro a0 a1 a2 k
  obtain ⟨ih0, ih1, ih2⟩ := balustradelaw02_BitsMakes.mono_l k
  unfold balustradelaw02_BitsMakes.f
  repeat' first
      | (with_reducible exact ih0 _ _ _ _)
      | (with_reducible exact ih1 _ _ _ _ _ _)
      | (with_reducible exact ih2 _ _ _ _ _ _)
      | (with_reducible exact balustradelaw02_words.mono _ _ _)
      | (with_reducible exact balustradelaw02_works.mono _)
      | (with_reducible exact balustraderef02_Below.mono _ _ _)
      | (with_reducible exact balustraderef02_List.mono _ _)
      | (with_reducible exact balustraderef02_Out.mono _ _ _)
      | (with_reducible exact balustraderef02_Words.mono _ _ _)
      | (with_reducible exact bits_Full.mono _ _)
      | (with_reducible exact bits_Of.mono _ _ _)
      | (with_reducible exact bits_Right.mono _ _ _)
      | (with_reducible exact LeO.refl _)
      | (with_reducible exact LeO.none _)
      | (with_reducible refine LeO.ite ?_ ?_)
      | (with_reducible refine LeO.bind ?_ (fun _ => ?_))
      | exact ih0 _ _ _ _
      | exact ih1 _ _ _ _ _ _
      | exact ih2 _ _ _ _ _ _
      | exact balustradelaw02_words.mono _ _ _
      | exact balustradelaw02_works.mono _
      | exact balustraderef02_Below.mono _ _ _
      | exact balustraderef02_List.mono _ _
      | exact balustraderef02_Out.mono _ _ _
      | exact balustraderef02_Words.mono _ _ _
      | exact bits_Full.mono _ _
      | exact bits_Of.mono _ _ _
      | exact bits_Right.mono _ _ _
      | exact LeO.none _
      | refine LeO.ite ?_ ?_
      | refine LeO.bind ?_ (fun _ => ?_)
set_option maxHeartbeats 8000000 in
set_option maxRecDepth 100000 in
theorem balustradelaw02_BitsMakes.calls (k : Nat) (a0 : Int) (A1 : Option Addr) (c1 : Nat) (l1 : List Int) (A2 : Option Addr) (c2 : Nat) (l2 : List Int) (r : Bool) (w : World) (hT : TabW w) (hr1 : Kd.C (Kd.int .i64) w A1 l1.length l1) (hc1 : l1.length ≤ c1) (hr2 : Kd.C (Kd.int .u64) w A2 l2.length l2) (hc2 : l2.length ≤ c2) (h : balustradelaw02_BitsMakes.f k a0 l1 l2 = some r) :
    Calls Tryd.prog 3 #[.int .i64 a0, .slice A1 l1.length c1, .slice A2 l2.length c2] w fun e w' => e = .returned (.bool r) ∧ Below w.heap.size w w' := by
  have hsn26 := fun W : World => Lib.run_eql_slice_nil (P := Tryd.prog) W 26 48 none 0 0 0 0 Tryd.underlying26
  simp only [Option.isNone_none] at hsn26
  have HR1 := Aside0.mk hr1
  have HC1 := Aside0.mk hc1
  clear hr1 hc1
  have HR2 := Aside0.mk hr2
  have HC2 := Aside0.mk hc2
  clear hr2 hc2
  have HT := Aside0.mk hT
  clear hT
  have HB := Aside0.mk (Below.refl w.heap.size w)
  have H : (if (l1.length : Int) > 30 then (balustradelaw02_BitsMakes.j0 k a0 l1 l2 true) else (if (l2.length : Int) > 8 then (balustradelaw02_BitsMakes.j0 k a0 l1 l2 true) else (if a0 > 512 then (balustradelaw02_BitsMakes.j0 k a0 l1 l2 (decide (a0 ≤ 65536))) else (balustradelaw02_BitsMakes.j0 k a0 l1 l2 false)))) = some r := h
  clear h
  have HC4 := Aside0.mk H
  clear H
  go_enter Tryd.func3, Tryd.ntmps3
  go_upto_region 1 with (fail)
  go_cut [26] (fun v26 wc => ∃ (kq : Nat) (x26_3 : Bool), v26 = .bool x26_3 ∧ Aside0 (balustradelaw02_BitsMakes.j0 kq a0 l1 l2 x26_3 = some r) ∧ Aside0 (kq ≤ k) ∧ Aside0 (Below w.heap.size w wc))
  case first =>
    have H := HC4.out
    clear HC4
    by_cases c5 : (l1.length : Int) > 30
    · rw [if_pos c5] at H
      have c5b0 : decide (30 < (l1.length : Int)) = true := decide_eq_true c5
      have c5b1 : decide (30 < l1.length) = true := decide_eq_true (by omega)
      clear c5
      (first | rw [c5b0] | (simp only [i64_w, i32_w]; rw [c5b0]) | skip)
      have H' := Aside0.mk H
      clear H
      go_wp2
      go_meet
      case rel => exact ⟨_, (true), (by first | rfl | (simp; done) | (simp [*]; done)), H', ⟨by first | omega | exact Nat.le_refl _⟩, ⟨zB⟩⟩
    · rw [if_neg c5] at H
      have c5b0 : decide (30 < (l1.length : Int)) = false := decide_eq_false c5
      have c5b1 : decide (30 < l1.length) = false := decide_eq_false (by omega)
      clear c5
      (first | rw [c5b0] | (simp only [i64_w, i32_w]; rw [c5b0]) | skip)
      by_cases c6 : (l2.length : Int) > 8
      · rw [if_pos c6] at H
        have c6b0 : decide (8 < (l2.length : Int)) = true := decide_eq_true c6
        have c6b1 : decide (8 < l2.length) = true := decide_eq_true (by omega)
        clear c6
        have H' := Aside0.mk H
        clear H
        go_wp2
        go_meet
        case rel => exact ⟨_, (true), (by first | rfl | (simp; done) | (simp [*]; done)), H', ⟨by first | omega | exact Nat.le_refl _⟩, ⟨zB⟩⟩
      · rw [if_neg c6] at H
        have c6b0 : decide (8 < (l2.length : Int)) = false := decide_eq_false c6
        have c6b1 : decide (8 < l2.length) = false := decide_eq_false (by omega)
        clear c6
        by_cases c7 : a0 > 512
        · rw [if_pos c7] at H
          have c7b0 : decide (512 < a0) = true := decide_eq_true c7
          clear c7
          have H' := Aside0.mk H
          clear H
          go_wp2
          go_meet
          case rel => exact ⟨_, (decide (a0 ≤ 65536)), (by first | rfl | (simp; done) | (simp [*]; done)), H', ⟨by first | omega | exact Nat.le_refl _⟩, ⟨zB⟩⟩
        · rw [if_neg c7] at H
          have c7b0 : decide (512 < a0) = false := decide_eq_false c7
          clear c7
          have H' := Aside0.mk H
          clear H
          go_wp2
          go_meet
          case rel => exact ⟨_, (false), (by first | rfl | (simp; done) | (simp [*]; done)), H', ⟨by first | omega | exact Nat.le_refl _⟩, ⟨zB⟩⟩
  case rest =>
    clear HC4
    try clear c1
    try clear c2
    try clear p2
    try clear c3
    try clear c5
    try clear c5b0
    try clear c5b1
    try clear c6
    try clear c6b0
    try clear c6b1
    try clear c7
    try clear c7b0
    obtain ⟨kq, x26_3, rfl, HA, HJ3, HB⟩ := hcut
    cases kq with
    | zero => exact absurd HA.out (by simp [balustradelaw02_BitsMakes.j0])
    | succ kj3 =>
      have H := HA.out
      clear HA
      simp only [balustradelaw02_BitsMakes.j0] at H
      by_cases c8 : x26_3 = true
      · subst c8
        have H1 : ((balustradelaw02_works.f kj3).bind fun t236 => (some t236)) = some r := by rw [if_pos rfl] at H; exact H
        clear H
        have H := H1
        clear H1
        replace H := Option.bind_eq_some_iff.mp H
        obtain ⟨t236, A90, H⟩ := H
        replace H : (some t236) = some r := H
        have A9 := Aside0.mk A90
        clear A90
        obtain rfl := Option.some.inj H
        go_wp2_with (first | ((with_reducible refine gate_callee (f := 7) rfl ?_); refine goesL_ (some 27) rfl rfl Tryd.func7 (by kernel_rfl) rfl #[] rfl zE ?_; (with_reducible refine (balustradelaw02_works.calls kj3  t236 _ ?side1 A9.out).mono ?_); (case side1 => first | exact HT.out | exact TabW.below HT.out (zB)); rintro e w10 ⟨rfl, hb⟩; refine ⟨_, rfl, ?_⟩; have n0_ := Aside0.mk (below_step (zB) hb); clear HB; have HB := n0_; clear n0_; (try clear hb); (try clear hb2); (try clear hk); (try clear hi)))
        go_ret
        exact ⟨by first | rfl | (simp [errW_none, errW_some] <;> rfl) | (simp [*, errW_none, errW_some] <;> rfl), zB⟩
      · replace c8 := Bool.eq_false_iff.mpr c8
        subst c8
        have H1 : ((balustraderef02_May.f a0).bind fun t237 => (if t237 = true then ((balustraderef02_Many.f a0).bind fun t251 => (balustradelaw02_BitsMakes.l0 kj3 a0 l1 l2 t251 (([] : List Int)) 0)) else (if a0 < 0 then ((bits_New_nil.f a0).bind fun _ => ((bits_Full_nil.f a0).bind fun _ => ((bits_Of_nil.f a0 l1).bind fun _ => ((balustradelaw02_copied.f l2).bind fun t238 => ((bits_Right.f kj3 t238 a0).bind fun t241 => (if t241 = true then (some false) else ((balustradelaw02_works.f kj3).bind fun t242 => (some t242)))))))) else (if a0 > 65536 then ((bits_New_nil.f a0).bind fun _ => ((bits_Full_nil.f a0).bind fun _ => ((bits_Of_nil.f a0 l1).bind fun _ => ((balustradelaw02_copied.f l2).bind fun t243 => ((bits_Right.f kj3 t243 a0).bind fun t246 => (if t246 = true then (some false) else ((balustradelaw02_works.f kj3).bind fun t247 => (some t247)))))))) else ((bits_New.f a0).bind fun t248 => (none)))))) = some r := by rw [if_neg (show ¬ (false = true) by decide)] at H; exact H
        clear H
        have H := H1
        clear H1
        replace H := Option.bind_eq_some_iff.mp H
        obtain ⟨t237, A110, H⟩ := H
        replace H : (if t237 = true then ((balustraderef02_Many.f a0).bind fun t251 => (balustradelaw02_BitsMakes.l0 kj3 a0 l1 l2 t251 (([] : List Int)) 0)) else (if a0 < 0 then ((bits_New_nil.f a0).bind fun _ => ((bits_Full_nil.f a0).bind fun _ => ((bits_Of_nil.f a0 l1).bind fun _ => ((balustradelaw02_copied.f l2).bind fun t238 => ((bits_Right.f kj3 t238 a0).bind fun t241 => (if t241 = true then (some false) else ((balustradelaw02_works.f kj3).bind fun t242 => (some t242)))))))) else (if a0 > 65536 then ((bits_New_nil.f a0).bind fun _ => ((bits_Full_nil.f a0).bind fun _ => ((bits_Of_nil.f a0 l1).bind fun _ => ((balustradelaw02_copied.f l2).bind fun t243 => ((bits_Right.f kj3 t243 a0).bind fun t246 => (if t246 = true then (some false) else ((balustradelaw02_works.f kj3).bind fun t247 => (some t247)))))))) else ((bits_New.f a0).bind fun t248 => (none))))) = some r := H
        have A11 := Aside0.mk A110
        clear A110
        by_cases c12 : t237 = true
        · subst c12
          have H1 : ((balustraderef02_Many.f a0).bind fun t251 => (balustradelaw02_BitsMakes.l0 kj3 a0 l1 l2 t251 (([] : List Int)) 0)) = some r := by rw [if_pos rfl] at H; exact H
          clear H
          have H := H1
          clear H1
          replace H := Option.bind_eq_some_iff.mp H
          obtain ⟨t251, A130, H⟩ := H
          replace H : (balustradelaw02_BitsMakes.l0 kj3 a0 l1 l2 t251 (([] : List Int)) 0) = some r := H
          have A13 := Aside0.mk A130
          clear A130
          obtain ⟨y252, hy252⟩ : ∃ y_ : List Int, y_ = (([] : List Int)) := ⟨_, rfl⟩
          replace H : (balustradelaw02_BitsMakes.l0 kj3 a0 l1 l2 t251 y252 0) = some r := by first | (rw [hy252]; with_reducible exact H) | (have H2_ := (Option.bind_some _ _).symm.trans H; rw [hy252]; with_reducible exact H2_) | (have H2_ := (Option.bind_some _ _).symm.trans H; with_reducible exact H2_) | with_reducible exact H | (rw [hy252]; exact H) | exact H
          have Ny252 := Aside0.mk hy252
          clear hy252
          have H' := Aside0.mk H
          clear H
          go_wp2_with (first | ((with_reducible refine gate_callee (f := 8) rfl ?_); refine goesL_ (some 29) rfl rfl Tryd.func8 (by kernel_rfl) rfl #[.int .i64 a0] rfl zE ?_; (with_reducible refine (balustraderef02_May.calls a0 true _ A11.out).mono ?_); rintro e w' ⟨rfl, ⟨nd, rfl⟩⟩; refine ⟨_, rfl, ?_⟩) | ((with_reducible refine gate_callee (f := 14) rfl ?_); refine goesL_ (some 56) rfl rfl Tryd.func14 (by kernel_rfl) rfl #[.int .i64 a0] rfl zE ?_; (with_reducible refine (balustraderef02_Many.calls a0 t251 _ A13.out).mono ?_); rintro e w' ⟨rfl, ⟨nd, rfl⟩⟩; refine ⟨_, rfl, ?_⟩) | ((with_reducible refine gate_dst (N := 57) rfl ?_); (try (refine gate_guard (by rfl) ?_; dsimp only)); refine Kd.R_lit (Kd.int .i64) _ 3 ?hg (N := 57) ?hd (xs := ([] : List Int)) (inner := []) (ok := fun _ => True) (okp := fun _ => True) ?hr ?hp (fun _ hk => hk) trivial (Below.refl _ _) (Nat.le_refl _) (by simp) ?_; (case hd => rfl); (case hg => rfl); (case hr => first | (go_simp; done) | (go_simp; rfl)); (case hp => exact (Reps.none _ _)); intro v253 w14 ho15 hb hg_ hnew_; clear hg_ hnew_; (first | rw [← Ny252.out] at ho15 | (simp only [Int.reduceToNat] at ho15; rw [← Ny252.out] at ho15)); have n0_ := Aside0.mk (Kd.R_lower ho15 (below_size (zB))); have n1_ := Aside0.mk (below_step (zB) hb); clear HB; have HO254 := n0_; have HB := n1_; clear n0_ n1_; clear hb ho15))
          go_loopg [8, 9] kj3 (fun kq v8 v9 w' => ∃ (x8_2 : List Int) (x9_2 : Int), v9 = .int .i64 x9_2 ∧ Aside0 (balustradelaw02_BitsMakes.l0 kq a0 l1 l2 t251 x8_2 x9_2 = some r) ∧ Aside0 (kq ≤ kj3) ∧ Aside0 (Kd.R (Kd.int .i64) 3 w' w.heap.size (fun _ => True) v8 x8_2) ∧ Aside0 (Below w.heap.size w w'))
          case atStart => exact ⟨(y252), (0), (by first | rfl | (simp; done) | (simp [*]; done)), H', ⟨Nat.le_refl _⟩, ⟨zR HO254.out⟩, ⟨zB⟩⟩
          case round =>
            clear H'
            try clear c1
            try clear c2
            try clear p2
            try clear c3
            try clear c5
            try clear c5b0
            try clear c5b1
            try clear c6
            try clear c6b0
            try clear c6b1
            try clear c7
            try clear c7b0
            try clear c8
            try clear c12
            try clear c14
            try clear p2
            obtain ⟨x8_2, x9_2, rfl, HA, HK2, HO_8, HB⟩ := hrel
            cases gk with
            | zero => exact absurd HA.out (by simp [balustradelaw02_BitsMakes.l0])
            | succ k2 =>
              have H := HA.out
              clear HA
              simp only [balustradelaw02_BitsMakes.l0] at H
              by_cases c16 : x9_2 < a0
              · rw [if_pos c16] at H
                have c16b0 : decide (x9_2 < a0) = true := decide_eq_true c16
                clear c16
                by_cases c17 : x8_2.length < 17592186044416
                · rw [if_pos c17] at H
                  have LMc17 := Aside0.mk c17
                  clear c17
                  obtain ⟨y255, hy255⟩ : ∃ y_ : List Int, y_ = (x8_2 ++ [x9_2]) := ⟨_, rfl⟩
                  replace H : (balustradelaw02_BitsMakes.l0 k2 a0 l1 l2 t251 y255 (wrap64 (x9_2 + 1))) = some r := by first | (rw [hy255]; with_reducible exact H) | (have H2_ := (Option.bind_some _ _).symm.trans H; rw [hy255]; with_reducible exact H2_) | (have H2_ := (Option.bind_some _ _).symm.trans H; with_reducible exact H2_) | with_reducible exact H | (rw [hy255]; exact H) | exact H
                  have Ny255 := Aside0.mk hy255
                  clear hy255
                  have H' := Aside0.mk H
                  clear H
                  go_wp2_with (first | ((with_reducible refine gate_builtin (b := .append) (xs := #[.tmp 63, .tmp 65]) rfl ?_); (try (refine gate_guard (by rfl) ?_; dsimp only)); at_builtin; refine Kd.R_append (Kd.int .i64) (w0 := w) w.heap.size rfl (.tmp 63) (.tmp 65) 22 3 (.int .i64 0) 8 rfl Tryd.underlying22 info3 rfl (by decide) (by omega) u8 x8_2 x9_2 [.int .i64 x9_2] (fun _ => True) (fun _ => False) rfl rfl ?aP (fun _ hk => hk.elim) ?aF ?aO ?aB ?aS ?aL ?_; (case aP => exact rfl); (case aB => exact (zB)); (case aF => exact (fun _ _ => trivial)); (case aO => exact (zR HO_8.out)); (case aS => exact (below_size (zB))); (case aL => have := LMc17.out; omega); intro v256 w18 ho hb hg hat; rw [← Ny255.out] at ho; have n0_ := Aside0.mk (hb); have n1_ := Aside0.mk (ho); clear HB; clear HO_8; have HB := n0_; have HO257 := n1_; clear n0_ n1_; clear ho hb hg hat))
                  go_roundg k2
                  case measure => have := HJ3.out; have := HK2.out; omega
                  case rel => exact ⟨(y255), (wrap64 (x9_2 + 1)), (by first | rfl | (simp; done) | (simp [*]; done)), H', ⟨by have := HJ3.out; have := HK2.out; omega⟩, ⟨zR HO257.out⟩, ⟨zB⟩⟩
                · rw [if_neg c17] at H
                  exact absurd H (by simp)
              · rw [if_neg c16] at H
                have c16b0 : decide (x9_2 < a0) = false := decide_eq_false c16
                clear c16
                have HC19 := Aside0.mk H
                clear H
                go_upto_region 11 with (fail)
                go_cut [10] (fun v10 wc => ∃ (kq : Nat) (x10_18 : Bool), v10 = .bool x10_18 ∧ Aside0 (balustradelaw02_BitsMakes.j2 kq a0 l1 l2 t251 x8_2 x10_18 = some r) ∧ Aside0 (kq ≤ k2) ∧ Aside0 (Kd.R (Kd.int .i64) 3 wc w.heap.size (fun _ => True) u8 x8_2) ∧ Aside0 (Below w.heap.size w wc))
                case first =>
                  have H := HC19.out
                  clear HC19
                  by_cases c20 : (l2.length : Int) = t251
                  · rw [if_pos c20] at H
                    have c20b0 : ((l2.length : Int) == t251) = true := beq_iff_eq.mpr c20
                    have c20b1 : ((l2.length : Int) != t251) = false := bne_eq_false_iff_eq.mpr c20
                    clear c20
                    (first | rw [c20b0] | (simp only [i64_w, i32_w]; rw [c20b0]) | skip)
                    replace H := Option.bind_eq_some_iff.mp H
                    obtain ⟨t258, A210, H⟩ := H
                    replace H : ((balustraderef02_Out.f k2 t258 x8_2).bind fun t261 => (balustradelaw02_BitsMakes.j2 k2 a0 l1 l2 t251 x8_2 ((t261.length : Int) == 0))) = some r := H
                    have A21 := Aside0.mk A210
                    clear A210
                    replace H := Option.bind_eq_some_iff.mp H
                    obtain ⟨t261, A220, H⟩ := H
                    replace H : (balustradelaw02_BitsMakes.j2 k2 a0 l1 l2 t251 x8_2 ((t261.length : Int) == 0)) = some r := H
                    have A22 := Aside0.mk A220
                    clear A220
                    have H' := Aside0.mk H
                    clear H
                    go_wp2_with (first | (go_at_call 16; (with_reducible refine (balustraderef02_List.calls k2 _ _ l2 t258 _ ?side1 ?side2 A21.out).mono ?_); (case side1 => exact zC (Kd.C_below HR2.out HB.out)); (case side2 => exact HC2.out); rintro e w23 ⟨v259, rfl, ho0, hb⟩; have n0_ := Aside0.mk (Kd.R_elder' (zR HO_8.out) (Kd.R_base ho0) hb); have n1_ := Aside0.mk (Kd.R_lower (Kd.R_new' ho0 (Kd.R_lt (zR HO_8.out))) (below_size (zB))); have n2_ := Aside0.mk (below_step (zB) hb); clear HO_8; clear HB; have HO_8 := n0_; have HO260 := n1_; have HB := n2_; clear n0_ n1_ n2_; (try clear hb); (try clear hb2); (try clear hk); (try clear hi); (try clear ho0); obtain ⟨Ao24, co24, eo24⟩ := Kd.R_slice HO260.out; subst eo24; obtain ⟨Ao25, co25, eo25⟩ := Kd.R_slice HO_8.out; subst eo25) | (go_at_call 15; (with_reducible refine (balustraderef02_Out.calls k2 _ _ t258 _ _ x8_2 t261 _ ?side1 ?side2 ?side3 ?side4 A22.out).mono ?_); (case side1 => exact zC (Kd.R_reads' HO260.out).2.2); (case side2 => exact (Kd.R_reads' HO260.out).2.1); (case side3 => exact zC (Kd.R_reads' HO_8.out).2.2); (case side4 => exact (Kd.R_reads' HO_8.out).2.1); rintro e w26 ⟨v262, rfl, ho0, hb⟩; have n0_ := Aside0.mk (Kd.R_elder' (zR HO_8.out) (Kd.R_base ho0) hb); have n1_ := Aside0.mk (Kd.R_elder' (zR HO260.out) (Kd.R_base ho0) hb); have n2_ := Aside0.mk (Kd.R_lower (Kd.R_new' (Kd.R_new' ho0 (Kd.R_lt (zR HO_8.out))) (Kd.R_lt (zR HO260.out))) (below_size (zB))); have n3_ := Aside0.mk (below_step (zB) hb); clear HO_8; clear HO260; clear HB; have HO_8 := n0_; have HO260 := n1_; have HO263 := n2_; have HB := n3_; clear n0_ n1_ n2_ n3_; (try clear hb); (try clear hb2); (try clear hk); (try clear hi); (try clear ho0); obtain ⟨Ao27, co27, eo27⟩ := Kd.R_slice HO263.out; subst eo27))
                    go_meet
                    case rel => exact ⟨_, (((t261.length : Int) == 0)), (by first | rfl | (simp; done) | (simp [*]; done)), H', ⟨by have := HJ3.out; have := HK2.out; first | omega | exact Nat.le_refl _⟩, ⟨by (with_reducible repeat (first | apply Kd.R_alloc | apply Kd.R_drewN | apply Kd.R_drew)); exact Kd.R_mono HO_8.out (fun _ hk => trivial)⟩, ⟨zB⟩⟩
                  · rw [if_neg c20] at H
                    have c20b0 : ((l2.length : Int) == t251) = false := beq_eq_false_iff_ne.mpr c20
                    have c20b1 : ((l2.length : Int) != t251) = true := bne_iff_ne.mpr c20
                    (first | rw [c20b0] | (simp only [i64_w, i32_w]; rw [c20b0]) | skip)
                    have H' := Aside0.mk H
                    clear H
                    go_wp2
                    go_meet
                    case rel => exact ⟨_, (false), (by first | rfl | (simp; done) | (simp [*]; done)), H', ⟨by have := HJ3.out; have := HK2.out; first | omega | exact Nat.le_refl _⟩, ⟨zR HO_8.out⟩, ⟨zB⟩⟩
                case rest =>
                  clear HC19
                  try clear c1
                  try clear c2
                  try clear p2
                  try clear c3
                  try clear c5
                  try clear c5b0
                  try clear c5b1
                  try clear c6
                  try clear c6b0
                  try clear c6b1
                  try clear p6
                  try clear c7
                  try clear c7b0
                  try clear c8
                  try clear c12
                  try clear c14
                  try clear c16
                  try clear c16b0
                  try clear c17
                  try clear c20
                  try clear c20b0
                  try clear c20b1
                  try clear p2
                  obtain ⟨kq, x10_18, rfl, HA, HJ18, HO_8, HB⟩ := hcut
                  cases kq with
                  | zero => exact absurd HA.out (by simp [balustradelaw02_BitsMakes.j2])
                  | succ kj18 =>
                    have H := HA.out
                    clear HA
                    simp only [balustradelaw02_BitsMakes.j2] at H
                    replace H := Option.bind_eq_some_iff.mp H
                    obtain ⟨t264, A280, H⟩ := H
                    replace H : ((balustraderef02_Words.f kj18 t251 ([] : List Int)).bind fun t267 => ((balustradelaw02_words.f kj18 t264 t267).bind fun t270 => (if t270 = true then ((bits_Full.f kj18 a0).bind fun t271 => ((balustraderef02_Words.f kj18 t251 x8_2).bind fun t274 => ((balustradelaw02_words.f kj18 t271 t274).bind fun t277 => (if t277 = true then ((bits_Of.f kj18 a0 l1).bind fun t278 => ((balustraderef02_Below.f kj18 l1 a0).bind fun t281 => ((balustraderef02_Words.f kj18 t251 t281).bind fun t284 => ((balustradelaw02_words.f kj18 t278 t284).bind fun t287 => (if t287 = true then ((balustradelaw02_copied.f l2).bind fun t288 => ((bits_Right.f kj18 t288 a0).bind fun t291 => (if (t291 == x10_18) = true then ((balustradelaw02_works.f kj18).bind fun t292 => (some t292)) else (some false)))) else (some false)))))) else (some false))))) else (some false)))) = some r := H
                    have A28 := Aside0.mk A280
                    clear A280
                    replace H := Option.bind_eq_some_iff.mp H
                    obtain ⟨t267, A290, H⟩ := H
                    replace H : ((balustradelaw02_words.f kj18 t264 t267).bind fun t270 => (if t270 = true then ((bits_Full.f kj18 a0).bind fun t271 => ((balustraderef02_Words.f kj18 t251 x8_2).bind fun t274 => ((balustradelaw02_words.f kj18 t271 t274).bind fun t277 => (if t277 = true then ((bits_Of.f kj18 a0 l1).bind fun t278 => ((balustraderef02_Below.f kj18 l1 a0).bind fun t281 => ((balustraderef02_Words.f kj18 t251 t281).bind fun t284 => ((balustradelaw02_words.f kj18 t278 t284).bind fun t287 => (if t287 = true then ((balustradelaw02_copied.f l2).bind fun t288 => ((bits_Right.f kj18 t288 a0).bind fun t291 => (if (t291 == x10_18) = true then ((balustradelaw02_works.f kj18).bind fun t292 => (some t292)) else (some false)))) else (some false)))))) else (some false))))) else (some false))) = some r := H
                    have A29 := Aside0.mk A290
                    clear A290
                    replace H := Option.bind_eq_some_iff.mp H
                    obtain ⟨t270, A300, H⟩ := H
                    replace H : (if t270 = true then ((bits_Full.f kj18 a0).bind fun t271 => ((balustraderef02_Words.f kj18 t251 x8_2).bind fun t274 => ((balustradelaw02_words.f kj18 t271 t274).bind fun t277 => (if t277 = true then ((bits_Of.f kj18 a0 l1).bind fun t278 => ((balustraderef02_Below.f kj18 l1 a0).bind fun t281 => ((balustraderef02_Words.f kj18 t251 t281).bind fun t284 => ((balustradelaw02_words.f kj18 t278 t284).bind fun t287 => (if t287 = true then ((balustradelaw02_copied.f l2).bind fun t288 => ((bits_Right.f kj18 t288 a0).bind fun t291 => (if (t291 == x10_18) = true then ((balustradelaw02_works.f kj18).bind fun t292 => (some t292)) else (some false)))) else (some false)))))) else (some false))))) else (some false)) = some r := H
                    have A30 := Aside0.mk A300
                    clear A300
                    by_cases c31 : t270 = true
                    · subst c31
                      have H1 : ((bits_Full.f kj18 a0).bind fun t271 => ((balustraderef02_Words.f kj18 t251 x8_2).bind fun t274 => ((balustradelaw02_words.f kj18 t271 t274).bind fun t277 => (if t277 = true then ((bits_Of.f kj18 a0 l1).bind fun t278 => ((balustraderef02_Below.f kj18 l1 a0).bind fun t281 => ((balustraderef02_Words.f kj18 t251 t281).bind fun t284 => ((balustradelaw02_words.f kj18 t278 t284).bind fun t287 => (if t287 = true then ((balustradelaw02_copied.f l2).bind fun t288 => ((bits_Right.f kj18 t288 a0).bind fun t291 => (if (t291 == x10_18) = true then ((balustradelaw02_works.f kj18).bind fun t292 => (some t292)) else (some false)))) else (some false)))))) else (some false))))) = some r := by rw [if_pos rfl] at H; exact H
                      clear H
                      have H := H1
                      clear H1
                      replace H := Option.bind_eq_some_iff.mp H
                      obtain ⟨t271, A320, H⟩ := H
                      replace H : ((balustraderef02_Words.f kj18 t251 x8_2).bind fun t274 => ((balustradelaw02_words.f kj18 t271 t274).bind fun t277 => (if t277 = true then ((bits_Of.f kj18 a0 l1).bind fun t278 => ((balustraderef02_Below.f kj18 l1 a0).bind fun t281 => ((balustraderef02_Words.f kj18 t251 t281).bind fun t284 => ((balustradelaw02_words.f kj18 t278 t284).bind fun t287 => (if t287 = true then ((balustradelaw02_copied.f l2).bind fun t288 => ((bits_Right.f kj18 t288 a0).bind fun t291 => (if (t291 == x10_18) = true then ((balustradelaw02_works.f kj18).bind fun t292 => (some t292)) else (some false)))) else (some false)))))) else (some false)))) = some r := H
                      have A32 := Aside0.mk A320
                      clear A320
                      replace H := Option.bind_eq_some_iff.mp H
                      obtain ⟨t274, A330, H⟩ := H
                      replace H : ((balustradelaw02_words.f kj18 t271 t274).bind fun t277 => (if t277 = true then ((bits_Of.f kj18 a0 l1).bind fun t278 => ((balustraderef02_Below.f kj18 l1 a0).bind fun t281 => ((balustraderef02_Words.f kj18 t251 t281).bind fun t284 => ((balustradelaw02_words.f kj18 t278 t284).bind fun t287 => (if t287 = true then ((balustradelaw02_copied.f l2).bind fun t288 => ((bits_Right.f kj18 t288 a0).bind fun t291 => (if (t291 == x10_18) = true then ((balustradelaw02_works.f kj18).bind fun t292 => (some t292)) else (some false)))) else (some false)))))) else (some false))) = some r := H
                      have A33 := Aside0.mk A330
                      clear A330
                      replace H := Option.bind_eq_some_iff.mp H
                      obtain ⟨t277, A340, H⟩ := H
                      replace H : (if t277 = true then ((bits_Of.f kj18 a0 l1).bind fun t278 => ((balustraderef02_Below.f kj18 l1 a0).bind fun t281 => ((balustraderef02_Words.f kj18 t251 t281).bind fun t284 => ((balustradelaw02_words.f kj18 t278 t284).bind fun t287 => (if t287 = true then ((balustradelaw02_copied.f l2).bind fun t288 => ((bits_Right.f kj18 t288 a0).bind fun t291 => (if (t291 == x10_18) = true then ((balustradelaw02_works.f kj18).bind fun t292 => (some t292)) else (some false)))) else (some false)))))) else (some false)) = some r := H
                      have A34 := Aside0.mk A340
                      clear A340
                      by_cases c35 : t277 = true
                      · subst c35
                        have H1 : ((bits_Of.f kj18 a0 l1).bind fun t278 => ((balustraderef02_Below.f kj18 l1 a0).bind fun t281 => ((balustraderef02_Words.f kj18 t251 t281).bind fun t284 => ((balustradelaw02_words.f kj18 t278 t284).bind fun t287 => (if t287 = true then ((balustradelaw02_copied.f l2).bind fun t288 => ((bits_Right.f kj18 t288 a0).bind fun t291 => (if (t291 == x10_18) = true then ((balustradelaw02_works.f kj18).bind fun t292 => (some t292)) else (some false)))) else (some false)))))) = some r := by rw [if_pos rfl] at H; exact H
                        clear H
                        have H := H1
                        clear H1
                        replace H := Option.bind_eq_some_iff.mp H
                        obtain ⟨t278, A360, H⟩ := H
                        replace H : ((balustraderef02_Below.f kj18 l1 a0).bind fun t281 => ((balustraderef02_Words.f kj18 t251 t281).bind fun t284 => ((balustradelaw02_words.f kj18 t278 t284).bind fun t287 => (if t287 = true then ((balustradelaw02_copied.f l2).bind fun t288 => ((bits_Right.f kj18 t288 a0).bind fun t291 => (if (t291 == x10_18) = true then ((balustradelaw02_works.f kj18).bind fun t292 => (some t292)) else (some false)))) else (some false))))) = some r := H
                        have A36 := Aside0.mk A360
                        clear A360
                        replace H := Option.bind_eq_some_iff.mp H
                        obtain ⟨t281, A370, H⟩ := H
                        replace H : ((balustraderef02_Words.f kj18 t251 t281).bind fun t284 => ((balustradelaw02_words.f kj18 t278 t284).bind fun t287 => (if t287 = true then ((balustradelaw02_copied.f l2).bind fun t288 => ((bits_Right.f kj18 t288 a0).bind fun t291 => (if (t291 == x10_18) = true then ((balustradelaw02_works.f kj18).bind fun t292 => (some t292)) else (some false)))) else (some false)))) = some r := H
                        have A37 := Aside0.mk A370
                        clear A370
                        replace H := Option.bind_eq_some_iff.mp H
                        obtain ⟨t284, A380, H⟩ := H
                        replace H : ((balustradelaw02_words.f kj18 t278 t284).bind fun t287 => (if t287 = true then ((balustradelaw02_copied.f l2).bind fun t288 => ((bits_Right.f kj18 t288 a0).bind fun t291 => (if (t291 == x10_18) = true then ((balustradelaw02_works.f kj18).bind fun t292 => (some t292)) else (some false)))) else (some false))) = some r := H
                        have A38 := Aside0.mk A380
                        clear A380
                        replace H := Option.bind_eq_some_iff.mp H
                        obtain ⟨t287, A390, H⟩ := H
                        replace H : (if t287 = true then ((balustradelaw02_copied.f l2).bind fun t288 => ((bits_Right.f kj18 t288 a0).bind fun t291 => (if (t291 == x10_18) = true then ((balustradelaw02_works.f kj18).bind fun t292 => (some t292)) else (some false)))) else (some false)) = some r := H
                        have A39 := Aside0.mk A390
                        clear A390
                        by_cases c40 : t287 = true
                        · subst c40
                          have H1 : ((balustradelaw02_copied.f l2).bind fun t288 => ((bits_Right.f kj18 t288 a0).bind fun t291 => (if (t291 == x10_18) = true then ((balustradelaw02_works.f kj18).bind fun t292 => (some t292)) else (some false)))) = some r := by rw [if_pos rfl] at H; exact H
                          clear H
                          have H := H1
                          clear H1
                          replace H := Option.bind_eq_some_iff.mp H
                          obtain ⟨t288, A410, H⟩ := H
                          replace H : ((bits_Right.f kj18 t288 a0).bind fun t291 => (if (t291 == x10_18) = true then ((balustradelaw02_works.f kj18).bind fun t292 => (some t292)) else (some false))) = some r := H
                          have A41 := Aside0.mk A410
                          clear A410
                          replace H := Option.bind_eq_some_iff.mp H
                          obtain ⟨t291, A420, H⟩ := H
                          replace H : (if (t291 == x10_18) = true then ((balustradelaw02_works.f kj18).bind fun t292 => (some t292)) else (some false)) = some r := H
                          have A42 := Aside0.mk A420
                          clear A420
                          by_cases c43 : (t291 == x10_18) = true
                          · rw [if_pos c43] at H
                            have c43b0 : (t291 == x10_18) = true := c43
                            (try (have c43b1 : decide (t291 = x10_18) = true := by simpa using c43))
                            (try (have c43b2 : (t291 == x10_18) = true := by simpa using c43))
                            clear c43
                            replace H := Option.bind_eq_some_iff.mp H
                            obtain ⟨t292, A440, H⟩ := H
                            replace H : (some t292) = some r := H
                            have A44 := Aside0.mk A440
                            clear A440
                            obtain rfl := Option.some.inj H
                            go_wp2_with (first | ((with_reducible refine gate_callee (f := 9) rfl ?_); refine goesL_ (some 80) rfl rfl Tryd.func9 (by kernel_rfl) rfl #[.int .i64 a0] rfl zE ?_; (with_reducible refine (bits_New.calls a0 t264 _ A28.out).mono ?_); rintro e w45 ⟨v265, rfl, ho0, hb⟩; refine ⟨_, rfl, ?_⟩; have n0_ := Aside0.mk (Kd.R_below (zR HO_8.out) hb); have n1_ := Aside0.mk (Kd.R_lower ho0 (below_size (zB))); have n2_ := Aside0.mk (below_step (zB) hb); clear HO_8; clear HB; have HO_8 := n0_; have HO266 := n1_; have HB := n2_; clear n0_ n1_ n2_; (try clear hb); (try clear hb2); (try clear hk); (try clear hi); (try clear ho0)) | ((with_reducible refine gate_callee (f := 18) rfl ?_); refine goesL_ (some 82) rfl rfl Tryd.func18 (by kernel_rfl) rfl #[.int .i64 t251, .slice none 0 0] rfl zE ?_; (refine (balustraderef02_Words.calls kj18 t251 _ _ ([] : List Int) t267 _ ?side1 ?side2 A29.out).mono ?_); (case side1 => exact Kd.C_nil _ _); (case side2 => exact Nat.le_refl _); rintro e w46 ⟨v268, rfl, ho0, hb⟩; refine ⟨_, rfl, ?_⟩; have n0_ := Aside0.mk (Kd.R_below (zR HO_8.out) hb); have n1_ := Aside0.mk (Kd.R_elder' (zR HO266.out) (Kd.R_base ho0) hb); have n2_ := Aside0.mk (Kd.R_lower (Kd.R_new' ho0 (Kd.R_lt (zR HO266.out))) (below_size (zB))); have n3_ := Aside0.mk (below_step (zB) hb); clear HO_8; clear HO266; clear HB; have HO_8 := n0_; have HO266 := n1_; have HO269 := n2_; have HB := n3_; clear n0_ n1_ n2_ n3_; (try clear hb); (try clear hb2); (try clear hk); (try clear hi); (try clear ho0); obtain ⟨Ao47, co47, eo47⟩ := Kd.R_slice HO266.out; subst eo47; obtain ⟨Ao48, co48, eo48⟩ := Kd.R_slice HO269.out; subst eo48) | ((with_reducible refine gate_callee (f := 17) rfl ?_); refine goesL_ (some 83) rfl rfl Tryd.func17 (by kernel_rfl) rfl #[.slice Ao47 t264.length co47, .slice Ao48 t267.length co48] rfl zE ?_; (with_reducible refine (balustradelaw02_words.calls kj18 _ _ t264 _ _ t267 true _ ?side1 ?side2 ?side3 ?side4 A30.out).mono ?_); (case side1 => exact zC (Kd.R_reads' HO266.out).2.2); (case side2 => exact (Kd.R_reads' HO266.out).2.1); (case side3 => exact zC (Kd.R_reads' HO269.out).2.2); (case side4 => exact (Kd.R_reads' HO269.out).2.1); rintro e w' ⟨rfl, ⟨nd, rfl⟩⟩; refine ⟨_, rfl, ?_⟩) | (go_at_call 10; (with_reducible refine (bits_Full.calls kj18 a0 t271 _ A32.out).mono ?_); rintro e w49 ⟨v272, rfl, ho0, hb⟩; have n0_ := Aside0.mk (Kd.R_below (zR HO_8.out) hb); have n1_ := Aside0.mk (Kd.R_elder' (zR HO266.out) (Kd.R_base ho0) hb); have n2_ := Aside0.mk (Kd.R_elder' (zR HO269.out) (Kd.R_base ho0) hb); have n3_ := Aside0.mk (Kd.R_lower (Kd.R_new' (Kd.R_new' ho0 (Kd.R_lt (zR HO266.out))) (Kd.R_lt (zR HO269.out))) (below_size (zB))); have n4_ := Aside0.mk (below_step (zB) hb); clear HO_8; clear HO266; clear HO269; clear HB; have HO_8 := n0_; have HO266 := n1_; have HO269 := n2_; have HO273 := n3_; have HB := n4_; clear n0_ n1_ n2_ n3_ n4_; (try clear hb); (try clear hb2); (try clear hk); (try clear hi); (try clear ho0); obtain ⟨Ao50, co50, eo50⟩ := Kd.R_slice HO_8.out; subst eo50) | (go_at_call 18; (with_reducible refine (balustraderef02_Words.calls kj18 t251 _ _ x8_2 t274 _ ?side1 ?side2 A33.out).mono ?_); (case side1 => exact zC (Kd.R_reads' HO_8.out).2.2); (case side2 => exact (Kd.R_reads' HO_8.out).2.1); rintro e w51 ⟨v275, rfl, ho0, hb⟩; have n0_ := Aside0.mk (Kd.R_below (zR HO_8.out) hb); have n1_ := Aside0.mk (Kd.R_elder' (zR HO266.out) (Kd.R_base ho0) hb); have n2_ := Aside0.mk (Kd.R_elder' (zR HO269.out) (Kd.R_base ho0) hb); have n3_ := Aside0.mk (Kd.R_elder' (zR HO273.out) (Kd.R_base ho0) hb); have n4_ := Aside0.mk (Kd.R_lower (Kd.R_new' (Kd.R_new' (Kd.R_new' ho0 (Kd.R_lt (zR HO266.out))) (Kd.R_lt (zR HO269.out))) (Kd.R_lt (zR HO273.out))) (below_size (zB))); have n5_ := Aside0.mk (below_step (zB) hb); clear HO_8; clear HO266; clear HO269; clear HO273; clear HB; have HO_8 := n0_; have HO266 := n1_; have HO269 := n2_; have HO273 := n3_; have HO276 := n4_; have HB := n5_; clear n0_ n1_ n2_ n3_ n4_ n5_; (try clear hb); (try clear hb2); (try clear hk); (try clear hi); (try clear ho0); obtain ⟨Ao52, co52, eo52⟩ := Kd.R_slice HO273.out; subst eo52; obtain ⟨Ao53, co53, eo53⟩ := Kd.R_slice HO276.out; subst eo53) | (go_at_call 17; (with_reducible refine (balustradelaw02_words.calls kj18 _ _ t271 _ _ t274 true _ ?side1 ?side2 ?side3 ?side4 A34.out).mono ?_); (case side1 => exact zC (Kd.R_reads' HO273.out).2.2); (case side2 => exact (Kd.R_reads' HO273.out).2.1); (case side3 => exact zC (Kd.R_reads' HO276.out).2.2); (case side4 => exact (Kd.R_reads' HO276.out).2.1); rintro e w' ⟨rfl, ⟨nd, rfl⟩⟩) | (go_at_call 11; (with_reducible refine (bits_Of.calls kj18 a0 _ _ l1 t278 _ ?side1 ?side2 A36.out).mono ?_); (case side1 => exact zC (Kd.C_below HR1.out (zB))); (case side2 => exact HC1.out); rintro e w54 ⟨v279, rfl, ho0, hb⟩; have n0_ := Aside0.mk (Kd.R_below (zR HO_8.out) hb); have n1_ := Aside0.mk (Kd.R_elder' (zR HO266.out) (Kd.R_base ho0) hb); have n2_ := Aside0.mk (Kd.R_elder' (zR HO269.out) (Kd.R_base ho0) hb); have n3_ := Aside0.mk (Kd.R_elder' (zR HO273.out) (Kd.R_base ho0) hb); have n4_ := Aside0.mk (Kd.R_elder' (zR HO276.out) (Kd.R_base ho0) hb); have n5_ := Aside0.mk (Kd.R_lower (Kd.R_new' (Kd.R_new' (Kd.R_new' (Kd.R_new' ho0 (Kd.R_lt (zR HO266.out))) (Kd.R_lt (zR HO269.out))) (Kd.R_lt (zR HO273.out))) (Kd.R_lt (zR HO276.out))) (below_size (zB))); have n6_ := Aside0.mk (below_step (zB) hb); clear HO_8; clear HO266; clear HO269; clear HO273; clear HO276; clear HB; have HO_8 := n0_; have HO266 := n1_; have HO269 := n2_; have HO273 := n3_; have HO276 := n4_; have HO280 := n5_; have HB := n6_; clear n0_ n1_ n2_ n3_ n4_ n5_ n6_; (try clear hb); (try clear hb2); (try clear hk); (try clear hi); (try clear ho0)) | (go_at_call 19; (with_reducible refine (balustraderef02_Below.calls kj18 _ _ l1 a0 t281 _ ?side1 ?side2 A37.out).mono ?_); (case side1 => exact zC (Kd.C_below HR1.out HB.out)); (case side2 => exact HC1.out); rintro e w55 ⟨v282, rfl, ho0, hb⟩; have n0_ := Aside0.mk (Kd.R_elder' (zR HO_8.out) (Kd.R_base ho0) hb); have n1_ := Aside0.mk (Kd.R_below (zR HO266.out) hb); have n2_ := Aside0.mk (Kd.R_below (zR HO269.out) hb); have n3_ := Aside0.mk (Kd.R_below (zR HO273.out) hb); have n4_ := Aside0.mk (Kd.R_below (zR HO276.out) hb); have n5_ := Aside0.mk (Kd.R_below (zR HO280.out) hb); have n6_ := Aside0.mk (Kd.R_lower (Kd.R_new' ho0 (Kd.R_lt (zR HO_8.out))) (below_size (zB))); have n7_ := Aside0.mk (below_step (zB) hb); clear HO_8; clear HO266; clear HO269; clear HO273; clear HO276; clear HO280; clear HB; have HO_8 := n0_; have HO266 := n1_; have HO269 := n2_; have HO273 := n3_; have HO276 := n4_; have HO280 := n5_; have HO283 := n6_; have HB := n7_; clear n0_ n1_ n2_ n3_ n4_ n5_ n6_ n7_; (try clear hb); (try clear hb2); (try clear hk); (try clear hi); (try clear ho0); obtain ⟨Ao56, co56, eo56⟩ := Kd.R_slice HO283.out; subst eo56) | (go_at_call 18; (with_reducible refine (balustraderef02_Words.calls kj18 t251 _ _ t281 t284 _ ?side1 ?side2 A38.out).mono ?_); (case side1 => exact zC (Kd.R_reads' HO283.out).2.2); (case side2 => exact (Kd.R_reads' HO283.out).2.1); rintro e w57 ⟨v285, rfl, ho0, hb⟩; have n0_ := Aside0.mk (Kd.R_below (zR HO_8.out) hb); have n1_ := Aside0.mk (Kd.R_elder' (zR HO266.out) (Kd.R_base ho0) hb); have n2_ := Aside0.mk (Kd.R_elder' (zR HO269.out) (Kd.R_base ho0) hb); have n3_ := Aside0.mk (Kd.R_elder' (zR HO273.out) (Kd.R_base ho0) hb); have n4_ := Aside0.mk (Kd.R_elder' (zR HO276.out) (Kd.R_base ho0) hb); have n5_ := Aside0.mk (Kd.R_elder' (zR HO280.out) (Kd.R_base ho0) hb); have n6_ := Aside0.mk (Kd.R_below (zR HO283.out) hb); have n7_ := Aside0.mk (Kd.R_lower (Kd.R_new' (Kd.R_new' (Kd.R_new' (Kd.R_new' (Kd.R_new' ho0 (Kd.R_lt (zR HO266.out))) (Kd.R_lt (zR HO269.out))) (Kd.R_lt (zR HO273.out))) (Kd.R_lt (zR HO276.out))) (Kd.R_lt (zR HO280.out))) (below_size (zB))); have n8_ := Aside0.mk (below_step (zB) hb); clear HO_8; clear HO266; clear HO269; clear HO273; clear HO276; clear HO280; clear HO283; clear HB; have HO_8 := n0_; have HO266 := n1_; have HO269 := n2_; have HO273 := n3_; have HO276 := n4_; have HO280 := n5_; have HO283 := n6_; have HO286 := n7_; have HB := n8_; clear n0_ n1_ n2_ n3_ n4_ n5_ n6_ n7_ n8_; (try clear hb); (try clear hb2); (try clear hk); (try clear hi); (try clear ho0); obtain ⟨Ao58, co58, eo58⟩ := Kd.R_slice HO280.out; subst eo58; obtain ⟨Ao59, co59, eo59⟩ := Kd.R_slice HO286.out; subst eo59) | (go_at_call 17; (with_reducible refine (balustradelaw02_words.calls kj18 _ _ t278 _ _ t284 true _ ?side1 ?side2 ?side3 ?side4 A39.out).mono ?_); (case side1 => exact zC (Kd.R_reads' HO280.out).2.2); (case side2 => exact (Kd.R_reads' HO280.out).2.1); (case side3 => exact zC (Kd.R_reads' HO286.out).2.2); (case side4 => exact (Kd.R_reads' HO286.out).2.1); rintro e w' ⟨rfl, ⟨nd, rfl⟩⟩) | (go_at_call 13; (with_reducible refine (balustradelaw02_copied.calls _ _ l2 t288 _ ?side1 ?side2 A41.out).mono ?_); (case side1 => exact zC (Kd.C_below HR2.out (zB))); (case side2 => exact HC2.out); rintro e w60 ⟨v289, rfl, ho0, hb⟩; have n0_ := Aside0.mk (Kd.R_below (zR HO_8.out) hb); have n1_ := Aside0.mk (Kd.R_elder' (zR HO266.out) (Kd.R_base ho0) hb); have n2_ := Aside0.mk (Kd.R_elder' (zR HO269.out) (Kd.R_base ho0) hb); have n3_ := Aside0.mk (Kd.R_elder' (zR HO273.out) (Kd.R_base ho0) hb); have n4_ := Aside0.mk (Kd.R_elder' (zR HO276.out) (Kd.R_base ho0) hb); have n5_ := Aside0.mk (Kd.R_elder' (zR HO280.out) (Kd.R_base ho0) hb); have n6_ := Aside0.mk (Kd.R_below (zR HO283.out) hb); have n7_ := Aside0.mk (Kd.R_elder' (zR HO286.out) (Kd.R_base ho0) hb); have n8_ := Aside0.mk (Kd.R_lower (Kd.R_new' (Kd.R_new' (Kd.R_new' (Kd.R_new' (Kd.R_new' (Kd.R_new' ho0 (Kd.R_lt (zR HO266.out))) (Kd.R_lt (zR HO269.out))) (Kd.R_lt (zR HO273.out))) (Kd.R_lt (zR HO276.out))) (Kd.R_lt (zR HO280.out))) (Kd.R_lt (zR HO286.out))) (below_size (zB))); have n9_ := Aside0.mk (below_step (zB) hb); clear HO_8; clear HO266; clear HO269; clear HO273; clear HO276; clear HO280; clear HO283; clear HO286; clear HB; have HO_8 := n0_; have HO266 := n1_; have HO269 := n2_; have HO273 := n3_; have HO276 := n4_; have HO280 := n5_; have HO283 := n6_; have HO286 := n7_; have HO290 := n8_; have HB := n9_; clear n0_ n1_ n2_ n3_ n4_ n5_ n6_ n7_ n8_ n9_; (try clear hb); (try clear hb2); (try clear hk); (try clear hi); (try clear ho0); obtain ⟨Ao61, co61, eo61⟩ := Kd.R_slice HO290.out; subst eo61) | (go_at_call 12; (with_reducible refine (bits_Right.calls kj18 _ _ t288 a0 t291 _ ?side1 ?side2 ?side3 A42.out).mono ?_); (case side1 => first | exact HT.out | exact TabW.below HT.out (zB)); (case side2 => exact zC (Kd.R_reads' HO290.out).2.2); (case side3 => exact (Kd.R_reads' HO290.out).2.1); rintro e w62 ⟨rfl, hb⟩; have n0_ := Aside0.mk (Kd.R_below (zR HO_8.out) hb); have n1_ := Aside0.mk (Kd.R_below (zR HO266.out) hb); have n2_ := Aside0.mk (Kd.R_below (zR HO269.out) hb); have n3_ := Aside0.mk (Kd.R_below (zR HO273.out) hb); have n4_ := Aside0.mk (Kd.R_below (zR HO276.out) hb); have n5_ := Aside0.mk (Kd.R_below (zR HO280.out) hb); have n6_ := Aside0.mk (Kd.R_below (zR HO283.out) hb); have n7_ := Aside0.mk (Kd.R_below (zR HO286.out) hb); have n8_ := Aside0.mk (Kd.R_below (zR HO290.out) hb); have n9_ := Aside0.mk (below_step (zB) hb); clear HO_8; clear HO266; clear HO269; clear HO273; clear HO276; clear HO280; clear HO283; clear HO286; clear HO290; clear HB; have HO_8 := n0_; have HO266 := n1_; have HO269 := n2_; have HO273 := n3_; have HO276 := n4_; have HO280 := n5_; have HO283 := n6_; have HO286 := n7_; have HO290 := n8_; have HB := n9_; clear n0_ n1_ n2_ n3_ n4_ n5_ n6_ n7_ n8_ n9_; (try clear hb); (try clear hb2); (try clear hk); (try clear hi)) | (go_at_call 7; (with_reducible refine (balustradelaw02_works.calls kj18  t292 _ ?side1 A44.out).mono ?_); (case side1 => first | exact HT.out | exact TabW.below HT.out (zB)); rintro e w63 ⟨rfl, hb⟩; have n0_ := Aside0.mk (Kd.R_below (zR HO_8.out) hb); have n1_ := Aside0.mk (Kd.R_below (zR HO266.out) hb); have n2_ := Aside0.mk (Kd.R_below (zR HO269.out) hb); have n3_ := Aside0.mk (Kd.R_below (zR HO273.out) hb); have n4_ := Aside0.mk (Kd.R_below (zR HO276.out) hb); have n5_ := Aside0.mk (Kd.R_below (zR HO280.out) hb); have n6_ := Aside0.mk (Kd.R_below (zR HO283.out) hb); have n7_ := Aside0.mk (Kd.R_below (zR HO286.out) hb); have n8_ := Aside0.mk (Kd.R_below (zR HO290.out) hb); have n9_ := Aside0.mk (below_step (zB) hb); clear HO_8; clear HO266; clear HO269; clear HO273; clear HO276; clear HO280; clear HO283; clear HO286; clear HO290; clear HB; have HO_8 := n0_; have HO266 := n1_; have HO269 := n2_; have HO273 := n3_; have HO276 := n4_; have HO280 := n5_; have HO283 := n6_; have HO286 := n7_; have HO290 := n8_; have HB := n9_; clear n0_ n1_ n2_ n3_ n4_ n5_ n6_ n7_ n8_ n9_; (try clear hb); (try clear hb2); (try clear hk); (try clear hi)))
                            go_ret
                            exact ⟨by first | rfl | (simp [errW_none, errW_some] <;> rfl) | (simp [*, errW_none, errW_some] <;> rfl), zB⟩
                          · rw [if_neg c43] at H
                            have c43b0 : (t291 == x10_18) = false := by simpa using c43
                            (try (have c43b1 : decide (t291 = x10_18) = false := by simpa using c43))
                            (try (have c43b2 : (t291 == x10_18) = false := by simpa using c43))
                            (try (have c43b3 : ¬ (t291 = x10_18) := by simpa using c43))
                            clear c43
                            obtain rfl := Option.some.inj H
                            go_wp2_with (first | ((with_reducible refine gate_callee (f := 9) rfl ?_); refine goesL_ (some 80) rfl rfl Tryd.func9 (by kernel_rfl) rfl #[.int .i64 a0] rfl zE ?_; (with_reducible refine (bits_New.calls a0 t264 _ A28.out).mono ?_); rintro e w64 ⟨v265, rfl, ho0, hb⟩; refine ⟨_, rfl, ?_⟩; have n0_ := Aside0.mk (Kd.R_below (zR HO_8.out) hb); have n1_ := Aside0.mk (Kd.R_lower ho0 (below_size (zB))); have n2_ := Aside0.mk (below_step (zB) hb); clear HO_8; clear HB; have HO_8 := n0_; have HO266 := n1_; have HB := n2_; clear n0_ n1_ n2_; (try clear hb); (try clear hb2); (try clear hk); (try clear hi); (try clear ho0)) | ((with_reducible refine gate_callee (f := 18) rfl ?_); refine goesL_ (some 82) rfl rfl Tryd.func18 (by kernel_rfl) rfl #[.int .i64 t251, .slice none 0 0] rfl zE ?_; (refine (balustraderef02_Words.calls kj18 t251 _ _ ([] : List Int) t267 _ ?side1 ?side2 A29.out).mono ?_); (case side1 => exact Kd.C_nil _ _); (case side2 => exact Nat.le_refl _); rintro e w65 ⟨v268, rfl, ho0, hb⟩; refine ⟨_, rfl, ?_⟩; have n0_ := Aside0.mk (Kd.R_below (zR HO_8.out) hb); have n1_ := Aside0.mk (Kd.R_elder' (zR HO266.out) (Kd.R_base ho0) hb); have n2_ := Aside0.mk (Kd.R_lower (Kd.R_new' ho0 (Kd.R_lt (zR HO266.out))) (below_size (zB))); have n3_ := Aside0.mk (below_step (zB) hb); clear HO_8; clear HO266; clear HB; have HO_8 := n0_; have HO266 := n1_; have HO269 := n2_; have HB := n3_; clear n0_ n1_ n2_ n3_; (try clear hb); (try clear hb2); (try clear hk); (try clear hi); (try clear ho0); obtain ⟨Ao66, co66, eo66⟩ := Kd.R_slice HO266.out; subst eo66; obtain ⟨Ao67, co67, eo67⟩ := Kd.R_slice HO269.out; subst eo67) | ((with_reducible refine gate_callee (f := 17) rfl ?_); refine goesL_ (some 83) rfl rfl Tryd.func17 (by kernel_rfl) rfl #[.slice Ao66 t264.length co66, .slice Ao67 t267.length co67] rfl zE ?_; (with_reducible refine (balustradelaw02_words.calls kj18 _ _ t264 _ _ t267 true _ ?side1 ?side2 ?side3 ?side4 A30.out).mono ?_); (case side1 => exact zC (Kd.R_reads' HO266.out).2.2); (case side2 => exact (Kd.R_reads' HO266.out).2.1); (case side3 => exact zC (Kd.R_reads' HO269.out).2.2); (case side4 => exact (Kd.R_reads' HO269.out).2.1); rintro e w' ⟨rfl, ⟨nd, rfl⟩⟩; refine ⟨_, rfl, ?_⟩) | (go_at_call 10; (with_reducible refine (bits_Full.calls kj18 a0 t271 _ A32.out).mono ?_); rintro e w68 ⟨v272, rfl, ho0, hb⟩; have n0_ := Aside0.mk (Kd.R_below (zR HO_8.out) hb); have n1_ := Aside0.mk (Kd.R_elder' (zR HO266.out) (Kd.R_base ho0) hb); have n2_ := Aside0.mk (Kd.R_elder' (zR HO269.out) (Kd.R_base ho0) hb); have n3_ := Aside0.mk (Kd.R_lower (Kd.R_new' (Kd.R_new' ho0 (Kd.R_lt (zR HO266.out))) (Kd.R_lt (zR HO269.out))) (below_size (zB))); have n4_ := Aside0.mk (below_step (zB) hb); clear HO_8; clear HO266; clear HO269; clear HB; have HO_8 := n0_; have HO266 := n1_; have HO269 := n2_; have HO273 := n3_; have HB := n4_; clear n0_ n1_ n2_ n3_ n4_; (try clear hb); (try clear hb2); (try clear hk); (try clear hi); (try clear ho0); obtain ⟨Ao69, co69, eo69⟩ := Kd.R_slice HO_8.out; subst eo69) | (go_at_call 18; (with_reducible refine (balustraderef02_Words.calls kj18 t251 _ _ x8_2 t274 _ ?side1 ?side2 A33.out).mono ?_); (case side1 => exact zC (Kd.R_reads' HO_8.out).2.2); (case side2 => exact (Kd.R_reads' HO_8.out).2.1); rintro e w70 ⟨v275, rfl, ho0, hb⟩; have n0_ := Aside0.mk (Kd.R_below (zR HO_8.out) hb); have n1_ := Aside0.mk (Kd.R_elder' (zR HO266.out) (Kd.R_base ho0) hb); have n2_ := Aside0.mk (Kd.R_elder' (zR HO269.out) (Kd.R_base ho0) hb); have n3_ := Aside0.mk (Kd.R_elder' (zR HO273.out) (Kd.R_base ho0) hb); have n4_ := Aside0.mk (Kd.R_lower (Kd.R_new' (Kd.R_new' (Kd.R_new' ho0 (Kd.R_lt (zR HO266.out))) (Kd.R_lt (zR HO269.out))) (Kd.R_lt (zR HO273.out))) (below_size (zB))); have n5_ := Aside0.mk (below_step (zB) hb); clear HO_8; clear HO266; clear HO269; clear HO273; clear HB; have HO_8 := n0_; have HO266 := n1_; have HO269 := n2_; have HO273 := n3_; have HO276 := n4_; have HB := n5_; clear n0_ n1_ n2_ n3_ n4_ n5_; (try clear hb); (try clear hb2); (try clear hk); (try clear hi); (try clear ho0); obtain ⟨Ao71, co71, eo71⟩ := Kd.R_slice HO273.out; subst eo71; obtain ⟨Ao72, co72, eo72⟩ := Kd.R_slice HO276.out; subst eo72) | (go_at_call 17; (with_reducible refine (balustradelaw02_words.calls kj18 _ _ t271 _ _ t274 true _ ?side1 ?side2 ?side3 ?side4 A34.out).mono ?_); (case side1 => exact zC (Kd.R_reads' HO273.out).2.2); (case side2 => exact (Kd.R_reads' HO273.out).2.1); (case side3 => exact zC (Kd.R_reads' HO276.out).2.2); (case side4 => exact (Kd.R_reads' HO276.out).2.1); rintro e w' ⟨rfl, ⟨nd, rfl⟩⟩) | (go_at_call 11; (with_reducible refine (bits_Of.calls kj18 a0 _ _ l1 t278 _ ?side1 ?side2 A36.out).mono ?_); (case side1 => exact zC (Kd.C_below HR1.out (zB))); (case side2 => exact HC1.out); rintro e w73 ⟨v279, rfl, ho0, hb⟩; have n0_ := Aside0.mk (Kd.R_below (zR HO_8.out) hb); have n1_ := Aside0.mk (Kd.R_elder' (zR HO266.out) (Kd.R_base ho0) hb); have n2_ := Aside0.mk (Kd.R_elder' (zR HO269.out) (Kd.R_base ho0) hb); have n3_ := Aside0.mk (Kd.R_elder' (zR HO273.out) (Kd.R_base ho0) hb); have n4_ := Aside0.mk (Kd.R_elder' (zR HO276.out) (Kd.R_base ho0) hb); have n5_ := Aside0.mk (Kd.R_lower (Kd.R_new' (Kd.R_new' (Kd.R_new' (Kd.R_new' ho0 (Kd.R_lt (zR HO266.out))) (Kd.R_lt (zR HO269.out))) (Kd.R_lt (zR HO273.out))) (Kd.R_lt (zR HO276.out))) (below_size (zB))); have n6_ := Aside0.mk (below_step (zB) hb); clear HO_8; clear HO266; clear HO269; clear HO273; clear HO276; clear HB; have HO_8 := n0_; have HO266 := n1_; have HO269 := n2_; have HO273 := n3_; have HO276 := n4_; have HO280 := n5_; have HB := n6_; clear n0_ n1_ n2_ n3_ n4_ n5_ n6_; (try clear hb); (try clear hb2); (try clear hk); (try clear hi); (try clear ho0)) | (go_at_call 19; (with_reducible refine (balustraderef02_Below.calls kj18 _ _ l1 a0 t281 _ ?side1 ?side2 A37.out).mono ?_); (case side1 => exact zC (Kd.C_below HR1.out HB.out)); (case side2 => exact HC1.out); rintro e w74 ⟨v282, rfl, ho0, hb⟩; have n0_ := Aside0.mk (Kd.R_elder' (zR HO_8.out) (Kd.R_base ho0) hb); have n1_ := Aside0.mk (Kd.R_below (zR HO266.out) hb); have n2_ := Aside0.mk (Kd.R_below (zR HO269.out) hb); have n3_ := Aside0.mk (Kd.R_below (zR HO273.out) hb); have n4_ := Aside0.mk (Kd.R_below (zR HO276.out) hb); have n5_ := Aside0.mk (Kd.R_below (zR HO280.out) hb); have n6_ := Aside0.mk (Kd.R_lower (Kd.R_new' ho0 (Kd.R_lt (zR HO_8.out))) (below_size (zB))); have n7_ := Aside0.mk (below_step (zB) hb); clear HO_8; clear HO266; clear HO269; clear HO273; clear HO276; clear HO280; clear HB; have HO_8 := n0_; have HO266 := n1_; have HO269 := n2_; have HO273 := n3_; have HO276 := n4_; have HO280 := n5_; have HO283 := n6_; have HB := n7_; clear n0_ n1_ n2_ n3_ n4_ n5_ n6_ n7_; (try clear hb); (try clear hb2); (try clear hk); (try clear hi); (try clear ho0); obtain ⟨Ao75, co75, eo75⟩ := Kd.R_slice HO283.out; subst eo75) | (go_at_call 18; (with_reducible refine (balustraderef02_Words.calls kj18 t251 _ _ t281 t284 _ ?side1 ?side2 A38.out).mono ?_); (case side1 => exact zC (Kd.R_reads' HO283.out).2.2); (case side2 => exact (Kd.R_reads' HO283.out).2.1); rintro e w76 ⟨v285, rfl, ho0, hb⟩; have n0_ := Aside0.mk (Kd.R_below (zR HO_8.out) hb); have n1_ := Aside0.mk (Kd.R_elder' (zR HO266.out) (Kd.R_base ho0) hb); have n2_ := Aside0.mk (Kd.R_elder' (zR HO269.out) (Kd.R_base ho0) hb); have n3_ := Aside0.mk (Kd.R_elder' (zR HO273.out) (Kd.R_base ho0) hb); have n4_ := Aside0.mk (Kd.R_elder' (zR HO276.out) (Kd.R_base ho0) hb); have n5_ := Aside0.mk (Kd.R_elder' (zR HO280.out) (Kd.R_base ho0) hb); have n6_ := Aside0.mk (Kd.R_below (zR HO283.out) hb); have n7_ := Aside0.mk (Kd.R_lower (Kd.R_new' (Kd.R_new' (Kd.R_new' (Kd.R_new' (Kd.R_new' ho0 (Kd.R_lt (zR HO266.out))) (Kd.R_lt (zR HO269.out))) (Kd.R_lt (zR HO273.out))) (Kd.R_lt (zR HO276.out))) (Kd.R_lt (zR HO280.out))) (below_size (zB))); have n8_ := Aside0.mk (below_step (zB) hb); clear HO_8; clear HO266; clear HO269; clear HO273; clear HO276; clear HO280; clear HO283; clear HB; have HO_8 := n0_; have HO266 := n1_; have HO269 := n2_; have HO273 := n3_; have HO276 := n4_; have HO280 := n5_; have HO283 := n6_; have HO286 := n7_; have HB := n8_; clear n0_ n1_ n2_ n3_ n4_ n5_ n6_ n7_ n8_; (try clear hb); (try clear hb2); (try clear hk); (try clear hi); (try clear ho0); obtain ⟨Ao77, co77, eo77⟩ := Kd.R_slice HO280.out; subst eo77; obtain ⟨Ao78, co78, eo78⟩ := Kd.R_slice HO286.out; subst eo78) | (go_at_call 17; (with_reducible refine (balustradelaw02_words.calls kj18 _ _ t278 _ _ t284 true _ ?side1 ?side2 ?side3 ?side4 A39.out).mono ?_); (case side1 => exact zC (Kd.R_reads' HO280.out).2.2); (case side2 => exact (Kd.R_reads' HO280.out).2.1); (case side3 => exact zC (Kd.R_reads' HO286.out).2.2); (case side4 => exact (Kd.R_reads' HO286.out).2.1); rintro e w' ⟨rfl, ⟨nd, rfl⟩⟩) | (go_at_call 13; (with_reducible refine (balustradelaw02_copied.calls _ _ l2 t288 _ ?side1 ?side2 A41.out).mono ?_); (case side1 => exact zC (Kd.C_below HR2.out (zB))); (case side2 => exact HC2.out); rintro e w79 ⟨v289, rfl, ho0, hb⟩; have n0_ := Aside0.mk (Kd.R_below (zR HO_8.out) hb); have n1_ := Aside0.mk (Kd.R_elder' (zR HO266.out) (Kd.R_base ho0) hb); have n2_ := Aside0.mk (Kd.R_elder' (zR HO269.out) (Kd.R_base ho0) hb); have n3_ := Aside0.mk (Kd.R_elder' (zR HO273.out) (Kd.R_base ho0) hb); have n4_ := Aside0.mk (Kd.R_elder' (zR HO276.out) (Kd.R_base ho0) hb); have n5_ := Aside0.mk (Kd.R_elder' (zR HO280.out) (Kd.R_base ho0) hb); have n6_ := Aside0.mk (Kd.R_below (zR HO283.out) hb); have n7_ := Aside0.mk (Kd.R_elder' (zR HO286.out) (Kd.R_base ho0) hb); have n8_ := Aside0.mk (Kd.R_lower (Kd.R_new' (Kd.R_new' (Kd.R_new' (Kd.R_new' (Kd.R_new' (Kd.R_new' ho0 (Kd.R_lt (zR HO266.out))) (Kd.R_lt (zR HO269.out))) (Kd.R_lt (zR HO273.out))) (Kd.R_lt (zR HO276.out))) (Kd.R_lt (zR HO280.out))) (Kd.R_lt (zR HO286.out))) (below_size (zB))); have n9_ := Aside0.mk (below_step (zB) hb); clear HO_8; clear HO266; clear HO269; clear HO273; clear HO276; clear HO280; clear HO283; clear HO286; clear HB; have HO_8 := n0_; have HO266 := n1_; have HO269 := n2_; have HO273 := n3_; have HO276 := n4_; have HO280 := n5_; have HO283 := n6_; have HO286 := n7_; have HO290 := n8_; have HB := n9_; clear n0_ n1_ n2_ n3_ n4_ n5_ n6_ n7_ n8_ n9_; (try clear hb); (try clear hb2); (try clear hk); (try clear hi); (try clear ho0); obtain ⟨Ao80, co80, eo80⟩ := Kd.R_slice HO290.out; subst eo80) | (go_at_call 12; (with_reducible refine (bits_Right.calls kj18 _ _ t288 a0 t291 _ ?side1 ?side2 ?side3 A42.out).mono ?_); (case side1 => first | exact HT.out | exact TabW.below HT.out (zB)); (case side2 => exact zC (Kd.R_reads' HO290.out).2.2); (case side3 => exact (Kd.R_reads' HO290.out).2.1); rintro e w81 ⟨rfl, hb⟩; have n0_ := Aside0.mk (Kd.R_below (zR HO_8.out) hb); have n1_ := Aside0.mk (Kd.R_below (zR HO266.out) hb); have n2_ := Aside0.mk (Kd.R_below (zR HO269.out) hb); have n3_ := Aside0.mk (Kd.R_below (zR HO273.out) hb); have n4_ := Aside0.mk (Kd.R_below (zR HO276.out) hb); have n5_ := Aside0.mk (Kd.R_below (zR HO280.out) hb); have n6_ := Aside0.mk (Kd.R_below (zR HO283.out) hb); have n7_ := Aside0.mk (Kd.R_below (zR HO286.out) hb); have n8_ := Aside0.mk (Kd.R_below (zR HO290.out) hb); have n9_ := Aside0.mk (below_step (zB) hb); clear HO_8; clear HO266; clear HO269; clear HO273; clear HO276; clear HO280; clear HO283; clear HO286; clear HO290; clear HB; have HO_8 := n0_; have HO266 := n1_; have HO269 := n2_; have HO273 := n3_; have HO276 := n4_; have HO280 := n5_; have HO283 := n6_; have HO286 := n7_; have HO290 := n8_; have HB := n9_; clear n0_ n1_ n2_ n3_ n4_ n5_ n6_ n7_ n8_ n9_; (try clear hb); (try clear hb2); (try clear hk); (try clear hi)))
                            go_ret
                            exact ⟨by first | rfl | (simp [errW_none, errW_some] <;> rfl) | (simp [*, errW_none, errW_some] <;> rfl), zB⟩
                        · replace c40 := Bool.eq_false_iff.mpr c40
                          subst c40
                          have H1 : (some false) = some r := by rw [if_neg (show ¬ (false = true) by decide)] at H; exact H
                          clear H
                          have H := H1
                          clear H1
                          obtain rfl := Option.some.inj H
                          go_wp2_with (first | ((with_reducible refine gate_callee (f := 9) rfl ?_); refine goesL_ (some 80) rfl rfl Tryd.func9 (by kernel_rfl) rfl #[.int .i64 a0] rfl zE ?_; (with_reducible refine (bits_New.calls a0 t264 _ A28.out).mono ?_); rintro e w82 ⟨v265, rfl, ho0, hb⟩; refine ⟨_, rfl, ?_⟩; have n0_ := Aside0.mk (Kd.R_below (zR HO_8.out) hb); have n1_ := Aside0.mk (Kd.R_lower ho0 (below_size (zB))); have n2_ := Aside0.mk (below_step (zB) hb); clear HO_8; clear HB; have HO_8 := n0_; have HO266 := n1_; have HB := n2_; clear n0_ n1_ n2_; (try clear hb); (try clear hb2); (try clear hk); (try clear hi); (try clear ho0)) | ((with_reducible refine gate_callee (f := 18) rfl ?_); refine goesL_ (some 82) rfl rfl Tryd.func18 (by kernel_rfl) rfl #[.int .i64 t251, .slice none 0 0] rfl zE ?_; (refine (balustraderef02_Words.calls kj18 t251 _ _ ([] : List Int) t267 _ ?side1 ?side2 A29.out).mono ?_); (case side1 => exact Kd.C_nil _ _); (case side2 => exact Nat.le_refl _); rintro e w83 ⟨v268, rfl, ho0, hb⟩; refine ⟨_, rfl, ?_⟩; have n0_ := Aside0.mk (Kd.R_below (zR HO_8.out) hb); have n1_ := Aside0.mk (Kd.R_elder' (zR HO266.out) (Kd.R_base ho0) hb); have n2_ := Aside0.mk (Kd.R_lower (Kd.R_new' ho0 (Kd.R_lt (zR HO266.out))) (below_size (zB))); have n3_ := Aside0.mk (below_step (zB) hb); clear HO_8; clear HO266; clear HB; have HO_8 := n0_; have HO266 := n1_; have HO269 := n2_; have HB := n3_; clear n0_ n1_ n2_ n3_; (try clear hb); (try clear hb2); (try clear hk); (try clear hi); (try clear ho0); obtain ⟨Ao84, co84, eo84⟩ := Kd.R_slice HO266.out; subst eo84; obtain ⟨Ao85, co85, eo85⟩ := Kd.R_slice HO269.out; subst eo85) | ((with_reducible refine gate_callee (f := 17) rfl ?_); refine goesL_ (some 83) rfl rfl Tryd.func17 (by kernel_rfl) rfl #[.slice Ao84 t264.length co84, .slice Ao85 t267.length co85] rfl zE ?_; (with_reducible refine (balustradelaw02_words.calls kj18 _ _ t264 _ _ t267 true _ ?side1 ?side2 ?side3 ?side4 A30.out).mono ?_); (case side1 => exact zC (Kd.R_reads' HO266.out).2.2); (case side2 => exact (Kd.R_reads' HO266.out).2.1); (case side3 => exact zC (Kd.R_reads' HO269.out).2.2); (case side4 => exact (Kd.R_reads' HO269.out).2.1); rintro e w' ⟨rfl, ⟨nd, rfl⟩⟩; refine ⟨_, rfl, ?_⟩) | (go_at_call 10; (with_reducible refine (bits_Full.calls kj18 a0 t271 _ A32.out).mono ?_); rintro e w86 ⟨v272, rfl, ho0, hb⟩; have n0_ := Aside0.mk (Kd.R_below (zR HO_8.out) hb); have n1_ := Aside0.mk (Kd.R_elder' (zR HO266.out) (Kd.R_base ho0) hb); have n2_ := Aside0.mk (Kd.R_elder' (zR HO269.out) (Kd.R_base ho0) hb); have n3_ := Aside0.mk (Kd.R_lower (Kd.R_new' (Kd.R_new' ho0 (Kd.R_lt (zR HO266.out))) (Kd.R_lt (zR HO269.out))) (below_size (zB))); have n4_ := Aside0.mk (below_step (zB) hb); clear HO_8; clear HO266; clear HO269; clear HB; have HO_8 := n0_; have HO266 := n1_; have HO269 := n2_; have HO273 := n3_; have HB := n4_; clear n0_ n1_ n2_ n3_ n4_; (try clear hb); (try clear hb2); (try clear hk); (try clear hi); (try clear ho0); obtain ⟨Ao87, co87, eo87⟩ := Kd.R_slice HO_8.out; subst eo87) | (go_at_call 18; (with_reducible refine (balustraderef02_Words.calls kj18 t251 _ _ x8_2 t274 _ ?side1 ?side2 A33.out).mono ?_); (case side1 => exact zC (Kd.R_reads' HO_8.out).2.2); (case side2 => exact (Kd.R_reads' HO_8.out).2.1); rintro e w88 ⟨v275, rfl, ho0, hb⟩; have n0_ := Aside0.mk (Kd.R_below (zR HO_8.out) hb); have n1_ := Aside0.mk (Kd.R_elder' (zR HO266.out) (Kd.R_base ho0) hb); have n2_ := Aside0.mk (Kd.R_elder' (zR HO269.out) (Kd.R_base ho0) hb); have n3_ := Aside0.mk (Kd.R_elder' (zR HO273.out) (Kd.R_base ho0) hb); have n4_ := Aside0.mk (Kd.R_lower (Kd.R_new' (Kd.R_new' (Kd.R_new' ho0 (Kd.R_lt (zR HO266.out))) (Kd.R_lt (zR HO269.out))) (Kd.R_lt (zR HO273.out))) (below_size (zB))); have n5_ := Aside0.mk (below_step (zB) hb); clear HO_8; clear HO266; clear HO269; clear HO273; clear HB; have HO_8 := n0_; have HO266 := n1_; have HO269 := n2_; have HO273 := n3_; have HO276 := n4_; have HB := n5_; clear n0_ n1_ n2_ n3_ n4_ n5_; (try clear hb); (try clear hb2); (try clear hk); (try clear hi); (try clear ho0); obtain ⟨Ao89, co89, eo89⟩ := Kd.R_slice HO273.out; subst eo89; obtain ⟨Ao90, co90, eo90⟩ := Kd.R_slice HO276.out; subst eo90) | (go_at_call 17; (with_reducible refine (balustradelaw02_words.calls kj18 _ _ t271 _ _ t274 true _ ?side1 ?side2 ?side3 ?side4 A34.out).mono ?_); (case side1 => exact zC (Kd.R_reads' HO273.out).2.2); (case side2 => exact (Kd.R_reads' HO273.out).2.1); (case side3 => exact zC (Kd.R_reads' HO276.out).2.2); (case side4 => exact (Kd.R_reads' HO276.out).2.1); rintro e w' ⟨rfl, ⟨nd, rfl⟩⟩) | (go_at_call 11; (with_reducible refine (bits_Of.calls kj18 a0 _ _ l1 t278 _ ?side1 ?side2 A36.out).mono ?_); (case side1 => exact zC (Kd.C_below HR1.out (zB))); (case side2 => exact HC1.out); rintro e w91 ⟨v279, rfl, ho0, hb⟩; have n0_ := Aside0.mk (Kd.R_below (zR HO_8.out) hb); have n1_ := Aside0.mk (Kd.R_elder' (zR HO266.out) (Kd.R_base ho0) hb); have n2_ := Aside0.mk (Kd.R_elder' (zR HO269.out) (Kd.R_base ho0) hb); have n3_ := Aside0.mk (Kd.R_elder' (zR HO273.out) (Kd.R_base ho0) hb); have n4_ := Aside0.mk (Kd.R_elder' (zR HO276.out) (Kd.R_base ho0) hb); have n5_ := Aside0.mk (Kd.R_lower (Kd.R_new' (Kd.R_new' (Kd.R_new' (Kd.R_new' ho0 (Kd.R_lt (zR HO266.out))) (Kd.R_lt (zR HO269.out))) (Kd.R_lt (zR HO273.out))) (Kd.R_lt (zR HO276.out))) (below_size (zB))); have n6_ := Aside0.mk (below_step (zB) hb); clear HO_8; clear HO266; clear HO269; clear HO273; clear HO276; clear HB; have HO_8 := n0_; have HO266 := n1_; have HO269 := n2_; have HO273 := n3_; have HO276 := n4_; have HO280 := n5_; have HB := n6_; clear n0_ n1_ n2_ n3_ n4_ n5_ n6_; (try clear hb); (try clear hb2); (try clear hk); (try clear hi); (try clear ho0)) | (go_at_call 19; (with_reducible refine (balustraderef02_Below.calls kj18 _ _ l1 a0 t281 _ ?side1 ?side2 A37.out).mono ?_); (case side1 => exact zC (Kd.C_below HR1.out HB.out)); (case side2 => exact HC1.out); rintro e w92 ⟨v282, rfl, ho0, hb⟩; have n0_ := Aside0.mk (Kd.R_elder' (zR HO_8.out) (Kd.R_base ho0) hb); have n1_ := Aside0.mk (Kd.R_below (zR HO266.out) hb); have n2_ := Aside0.mk (Kd.R_below (zR HO269.out) hb); have n3_ := Aside0.mk (Kd.R_below (zR HO273.out) hb); have n4_ := Aside0.mk (Kd.R_below (zR HO276.out) hb); have n5_ := Aside0.mk (Kd.R_below (zR HO280.out) hb); have n6_ := Aside0.mk (Kd.R_lower (Kd.R_new' ho0 (Kd.R_lt (zR HO_8.out))) (below_size (zB))); have n7_ := Aside0.mk (below_step (zB) hb); clear HO_8; clear HO266; clear HO269; clear HO273; clear HO276; clear HO280; clear HB; have HO_8 := n0_; have HO266 := n1_; have HO269 := n2_; have HO273 := n3_; have HO276 := n4_; have HO280 := n5_; have HO283 := n6_; have HB := n7_; clear n0_ n1_ n2_ n3_ n4_ n5_ n6_ n7_; (try clear hb); (try clear hb2); (try clear hk); (try clear hi); (try clear ho0); obtain ⟨Ao93, co93, eo93⟩ := Kd.R_slice HO283.out; subst eo93) | (go_at_call 18; (with_reducible refine (balustraderef02_Words.calls kj18 t251 _ _ t281 t284 _ ?side1 ?side2 A38.out).mono ?_); (case side1 => exact zC (Kd.R_reads' HO283.out).2.2); (case side2 => exact (Kd.R_reads' HO283.out).2.1); rintro e w94 ⟨v285, rfl, ho0, hb⟩; have n0_ := Aside0.mk (Kd.R_below (zR HO_8.out) hb); have n1_ := Aside0.mk (Kd.R_elder' (zR HO266.out) (Kd.R_base ho0) hb); have n2_ := Aside0.mk (Kd.R_elder' (zR HO269.out) (Kd.R_base ho0) hb); have n3_ := Aside0.mk (Kd.R_elder' (zR HO273.out) (Kd.R_base ho0) hb); have n4_ := Aside0.mk (Kd.R_elder' (zR HO276.out) (Kd.R_base ho0) hb); have n5_ := Aside0.mk (Kd.R_elder' (zR HO280.out) (Kd.R_base ho0) hb); have n6_ := Aside0.mk (Kd.R_below (zR HO283.out) hb); have n7_ := Aside0.mk (Kd.R_lower (Kd.R_new' (Kd.R_new' (Kd.R_new' (Kd.R_new' (Kd.R_new' ho0 (Kd.R_lt (zR HO266.out))) (Kd.R_lt (zR HO269.out))) (Kd.R_lt (zR HO273.out))) (Kd.R_lt (zR HO276.out))) (Kd.R_lt (zR HO280.out))) (below_size (zB))); have n8_ := Aside0.mk (below_step (zB) hb); clear HO_8; clear HO266; clear HO269; clear HO273; clear HO276; clear HO280; clear HO283; clear HB; have HO_8 := n0_; have HO266 := n1_; have HO269 := n2_; have HO273 := n3_; have HO276 := n4_; have HO280 := n5_; have HO283 := n6_; have HO286 := n7_; have HB := n8_; clear n0_ n1_ n2_ n3_ n4_ n5_ n6_ n7_ n8_; (try clear hb); (try clear hb2); (try clear hk); (try clear hi); (try clear ho0); obtain ⟨Ao95, co95, eo95⟩ := Kd.R_slice HO280.out; subst eo95; obtain ⟨Ao96, co96, eo96⟩ := Kd.R_slice HO286.out; subst eo96) | (go_at_call 17; (with_reducible refine (balustradelaw02_words.calls kj18 _ _ t278 _ _ t284 false _ ?side1 ?side2 ?side3 ?side4 A39.out).mono ?_); (case side1 => exact zC (Kd.R_reads' HO280.out).2.2); (case side2 => exact (Kd.R_reads' HO280.out).2.1); (case side3 => exact zC (Kd.R_reads' HO286.out).2.2); (case side4 => exact (Kd.R_reads' HO286.out).2.1); rintro e w' ⟨rfl, ⟨nd, rfl⟩⟩))
                          go_ret
                          exact ⟨by first | rfl | (simp [errW_none, errW_some] <;> rfl) | (simp [*, errW_none, errW_some] <;> rfl), zB⟩
                      · replace c35 := Bool.eq_false_iff.mpr c35
                        subst c35
                        have H1 : (some false) = some r := by rw [if_neg (show ¬ (false = true) by decide)] at H; exact H
                        clear H
                        have H := H1
                        clear H1
                        obtain rfl := Option.some.inj H
                        go_wp2_with (first | ((with_reducible refine gate_callee (f := 9) rfl ?_); refine goesL_ (some 80) rfl rfl Tryd.func9 (by kernel_rfl) rfl #[.int .i64 a0] rfl zE ?_; (with_reducible refine (bits_New.calls a0 t264 _ A28.out).mono ?_); rintro e w97 ⟨v265, rfl, ho0, hb⟩; refine ⟨_, rfl, ?_⟩; have n0_ := Aside0.mk (Kd.R_below (zR HO_8.out) hb); have n1_ := Aside0.mk (Kd.R_lower ho0 (below_size (zB))); have n2_ := Aside0.mk (below_step (zB) hb); clear HO_8; clear HB; have HO_8 := n0_; have HO266 := n1_; have HB := n2_; clear n0_ n1_ n2_; (try clear hb); (try clear hb2); (try clear hk); (try clear hi); (try clear ho0)) | ((with_reducible refine gate_callee (f := 18) rfl ?_); refine goesL_ (some 82) rfl rfl Tryd.func18 (by kernel_rfl) rfl #[.int .i64 t251, .slice none 0 0] rfl zE ?_; (refine (balustraderef02_Words.calls kj18 t251 _ _ ([] : List Int) t267 _ ?side1 ?side2 A29.out).mono ?_); (case side1 => exact Kd.C_nil _ _); (case side2 => exact Nat.le_refl _); rintro e w98 ⟨v268, rfl, ho0, hb⟩; refine ⟨_, rfl, ?_⟩; have n0_ := Aside0.mk (Kd.R_below (zR HO_8.out) hb); have n1_ := Aside0.mk (Kd.R_elder' (zR HO266.out) (Kd.R_base ho0) hb); have n2_ := Aside0.mk (Kd.R_lower (Kd.R_new' ho0 (Kd.R_lt (zR HO266.out))) (below_size (zB))); have n3_ := Aside0.mk (below_step (zB) hb); clear HO_8; clear HO266; clear HB; have HO_8 := n0_; have HO266 := n1_; have HO269 := n2_; have HB := n3_; clear n0_ n1_ n2_ n3_; (try clear hb); (try clear hb2); (try clear hk); (try clear hi); (try clear ho0); obtain ⟨Ao99, co99, eo99⟩ := Kd.R_slice HO266.out; subst eo99; obtain ⟨Ao100, co100, eo100⟩ := Kd.R_slice HO269.out; subst eo100) | ((with_reducible refine gate_callee (f := 17) rfl ?_); refine goesL_ (some 83) rfl rfl Tryd.func17 (by kernel_rfl) rfl #[.slice Ao99 t264.length co99, .slice Ao100 t267.length co100] rfl zE ?_; (with_reducible refine (balustradelaw02_words.calls kj18 _ _ t264 _ _ t267 true _ ?side1 ?side2 ?side3 ?side4 A30.out).mono ?_); (case side1 => exact zC (Kd.R_reads' HO266.out).2.2); (case side2 => exact (Kd.R_reads' HO266.out).2.1); (case side3 => exact zC (Kd.R_reads' HO269.out).2.2); (case side4 => exact (Kd.R_reads' HO269.out).2.1); rintro e w' ⟨rfl, ⟨nd, rfl⟩⟩; refine ⟨_, rfl, ?_⟩) | (go_at_call 10; (with_reducible refine (bits_Full.calls kj18 a0 t271 _ A32.out).mono ?_); rintro e w101 ⟨v272, rfl, ho0, hb⟩; have n0_ := Aside0.mk (Kd.R_below (zR HO_8.out) hb); have n1_ := Aside0.mk (Kd.R_elder' (zR HO266.out) (Kd.R_base ho0) hb); have n2_ := Aside0.mk (Kd.R_elder' (zR HO269.out) (Kd.R_base ho0) hb); have n3_ := Aside0.mk (Kd.R_lower (Kd.R_new' (Kd.R_new' ho0 (Kd.R_lt (zR HO266.out))) (Kd.R_lt (zR HO269.out))) (below_size (zB))); have n4_ := Aside0.mk (below_step (zB) hb); clear HO_8; clear HO266; clear HO269; clear HB; have HO_8 := n0_; have HO266 := n1_; have HO269 := n2_; have HO273 := n3_; have HB := n4_; clear n0_ n1_ n2_ n3_ n4_; (try clear hb); (try clear hb2); (try clear hk); (try clear hi); (try clear ho0); obtain ⟨Ao102, co102, eo102⟩ := Kd.R_slice HO_8.out; subst eo102) | (go_at_call 18; (with_reducible refine (balustraderef02_Words.calls kj18 t251 _ _ x8_2 t274 _ ?side1 ?side2 A33.out).mono ?_); (case side1 => exact zC (Kd.R_reads' HO_8.out).2.2); (case side2 => exact (Kd.R_reads' HO_8.out).2.1); rintro e w103 ⟨v275, rfl, ho0, hb⟩; have n0_ := Aside0.mk (Kd.R_below (zR HO_8.out) hb); have n1_ := Aside0.mk (Kd.R_elder' (zR HO266.out) (Kd.R_base ho0) hb); have n2_ := Aside0.mk (Kd.R_elder' (zR HO269.out) (Kd.R_base ho0) hb); have n3_ := Aside0.mk (Kd.R_elder' (zR HO273.out) (Kd.R_base ho0) hb); have n4_ := Aside0.mk (Kd.R_lower (Kd.R_new' (Kd.R_new' (Kd.R_new' ho0 (Kd.R_lt (zR HO266.out))) (Kd.R_lt (zR HO269.out))) (Kd.R_lt (zR HO273.out))) (below_size (zB))); have n5_ := Aside0.mk (below_step (zB) hb); clear HO_8; clear HO266; clear HO269; clear HO273; clear HB; have HO_8 := n0_; have HO266 := n1_; have HO269 := n2_; have HO273 := n3_; have HO276 := n4_; have HB := n5_; clear n0_ n1_ n2_ n3_ n4_ n5_; (try clear hb); (try clear hb2); (try clear hk); (try clear hi); (try clear ho0); obtain ⟨Ao104, co104, eo104⟩ := Kd.R_slice HO273.out; subst eo104; obtain ⟨Ao105, co105, eo105⟩ := Kd.R_slice HO276.out; subst eo105) | (go_at_call 17; (with_reducible refine (balustradelaw02_words.calls kj18 _ _ t271 _ _ t274 false _ ?side1 ?side2 ?side3 ?side4 A34.out).mono ?_); (case side1 => exact zC (Kd.R_reads' HO273.out).2.2); (case side2 => exact (Kd.R_reads' HO273.out).2.1); (case side3 => exact zC (Kd.R_reads' HO276.out).2.2); (case side4 => exact (Kd.R_reads' HO276.out).2.1); rintro e w' ⟨rfl, ⟨nd, rfl⟩⟩))
                        go_ret
                        exact ⟨by first | rfl | (simp [errW_none, errW_some] <;> rfl) | (simp [*, errW_none, errW_some] <;> rfl), zB⟩
                    · replace c31 := Bool.eq_false_iff.mpr c31
                      subst c31
                      have H1 : (some false) = some r := by rw [if_neg (show ¬ (false = true) by decide)] at H; exact H
                      clear H
                      have H := H1
                      clear H1
                      obtain rfl := Option.some.inj H
                      go_wp2_with (first | ((with_reducible refine gate_callee (f := 9) rfl ?_); refine goesL_ (some 80) rfl rfl Tryd.func9 (by kernel_rfl) rfl #[.int .i64 a0] rfl zE ?_; (with_reducible refine (bits_New.calls a0 t264 _ A28.out).mono ?_); rintro e w106 ⟨v265, rfl, ho0, hb⟩; refine ⟨_, rfl, ?_⟩; have n0_ := Aside0.mk (Kd.R_below (zR HO_8.out) hb); have n1_ := Aside0.mk (Kd.R_lower ho0 (below_size (zB))); have n2_ := Aside0.mk (below_step (zB) hb); clear HO_8; clear HB; have HO_8 := n0_; have HO266 := n1_; have HB := n2_; clear n0_ n1_ n2_; (try clear hb); (try clear hb2); (try clear hk); (try clear hi); (try clear ho0)) | ((with_reducible refine gate_callee (f := 18) rfl ?_); refine goesL_ (some 82) rfl rfl Tryd.func18 (by kernel_rfl) rfl #[.int .i64 t251, .slice none 0 0] rfl zE ?_; (refine (balustraderef02_Words.calls kj18 t251 _ _ ([] : List Int) t267 _ ?side1 ?side2 A29.out).mono ?_); (case side1 => exact Kd.C_nil _ _); (case side2 => exact Nat.le_refl _); rintro e w107 ⟨v268, rfl, ho0, hb⟩; refine ⟨_, rfl, ?_⟩; have n0_ := Aside0.mk (Kd.R_below (zR HO_8.out) hb); have n1_ := Aside0.mk (Kd.R_elder' (zR HO266.out) (Kd.R_base ho0) hb); have n2_ := Aside0.mk (Kd.R_lower (Kd.R_new' ho0 (Kd.R_lt (zR HO266.out))) (below_size (zB))); have n3_ := Aside0.mk (below_step (zB) hb); clear HO_8; clear HO266; clear HB; have HO_8 := n0_; have HO266 := n1_; have HO269 := n2_; have HB := n3_; clear n0_ n1_ n2_ n3_; (try clear hb); (try clear hb2); (try clear hk); (try clear hi); (try clear ho0); obtain ⟨Ao108, co108, eo108⟩ := Kd.R_slice HO266.out; subst eo108; obtain ⟨Ao109, co109, eo109⟩ := Kd.R_slice HO269.out; subst eo109) | ((with_reducible refine gate_callee (f := 17) rfl ?_); refine goesL_ (some 83) rfl rfl Tryd.func17 (by kernel_rfl) rfl #[.slice Ao108 t264.length co108, .slice Ao109 t267.length co109] rfl zE ?_; (with_reducible refine (balustradelaw02_words.calls kj18 _ _ t264 _ _ t267 false _ ?side1 ?side2 ?side3 ?side4 A30.out).mono ?_); (case side1 => exact zC (Kd.R_reads' HO266.out).2.2); (case side2 => exact (Kd.R_reads' HO266.out).2.1); (case side3 => exact zC (Kd.R_reads' HO269.out).2.2); (case side4 => exact (Kd.R_reads' HO269.out).2.1); rintro e w' ⟨rfl, ⟨nd, rfl⟩⟩; refine ⟨_, rfl, ?_⟩))
                      go_ret
                      exact ⟨by first | rfl | (simp [errW_none, errW_some] <;> rfl) | (simp [*, errW_none, errW_some] <;> rfl), zB⟩
        · replace c12 := Bool.eq_false_iff.mpr c12
          subst c12
          have H1 : (if a0 < 0 then ((bits_New_nil.f a0).bind fun _ => ((bits_Full_nil.f a0).bind fun _ => ((bits_Of_nil.f a0 l1).bind fun _ => ((balustradelaw02_copied.f l2).bind fun t238 => ((bits_Right.f kj3 t238 a0).bind fun t241 => (if t241 = true then (some false) else ((balustradelaw02_works.f kj3).bind fun t242 => (some t242)))))))) else (if a0 > 65536 then ((bits_New_nil.f a0).bind fun _ => ((bits_Full_nil.f a0).bind fun _ => ((bits_Of_nil.f a0 l1).bind fun _ => ((balustradelaw02_copied.f l2).bind fun t243 => ((bits_Right.f kj3 t243 a0).bind fun t246 => (if t246 = true then (some false) else ((balustradelaw02_works.f kj3).bind fun t247 => (some t247)))))))) else ((bits_New.f a0).bind fun t248 => (none)))) = some r := by rw [if_neg (show ¬ (false = true) by decide)] at H; exact H
          clear H
          have H := H1
          clear H1
          by_cases c110 : a0 < 0
          · rw [if_pos c110] at H
            have c110b0 : decide (a0 < 0) = true := decide_eq_true c110
            clear c110
            replace H := Option.bind_eq_some_iff.mp H
            obtain ⟨_, A1110, H⟩ := H
            replace H : ((bits_Full_nil.f a0).bind fun _ => ((bits_Of_nil.f a0 l1).bind fun _ => ((balustradelaw02_copied.f l2).bind fun t238 => ((bits_Right.f kj3 t238 a0).bind fun t241 => (if t241 = true then (some false) else ((balustradelaw02_works.f kj3).bind fun t242 => (some t242))))))) = some r := H
            have A111 := Aside0.mk A1110
            clear A1110
            replace H := Option.bind_eq_some_iff.mp H
            obtain ⟨_, A1120, H⟩ := H
            replace H : ((bits_Of_nil.f a0 l1).bind fun _ => ((balustradelaw02_copied.f l2).bind fun t238 => ((bits_Right.f kj3 t238 a0).bind fun t241 => (if t241 = true then (some false) else ((balustradelaw02_works.f kj3).bind fun t242 => (some t242)))))) = some r := H
            have A112 := Aside0.mk A1120
            clear A1120
            replace H := Option.bind_eq_some_iff.mp H
            obtain ⟨_, A1130, H⟩ := H
            replace H : ((balustradelaw02_copied.f l2).bind fun t238 => ((bits_Right.f kj3 t238 a0).bind fun t241 => (if t241 = true then (some false) else ((balustradelaw02_works.f kj3).bind fun t242 => (some t242))))) = some r := H
            have A113 := Aside0.mk A1130
            clear A1130
            replace H := Option.bind_eq_some_iff.mp H
            obtain ⟨t238, A1140, H⟩ := H
            replace H : ((bits_Right.f kj3 t238 a0).bind fun t241 => (if t241 = true then (some false) else ((balustradelaw02_works.f kj3).bind fun t242 => (some t242)))) = some r := H
            have A114 := Aside0.mk A1140
            clear A1140
            replace H := Option.bind_eq_some_iff.mp H
            obtain ⟨t241, A1150, H⟩ := H
            replace H : (if t241 = true then (some false) else ((balustradelaw02_works.f kj3).bind fun t242 => (some t242))) = some r := H
            have A115 := Aside0.mk A1150
            clear A1150
            by_cases c116 : t241 = true
            · subst c116
              have H1 : (some false) = some r := by rw [if_pos rfl] at H; exact H
              clear H
              have H := H1
              clear H1
              obtain rfl := Option.some.inj H
              go_wp2_with (first | ((with_reducible refine gate_callee (f := 8) rfl ?_); refine goesL_ (some 29) rfl rfl Tryd.func8 (by kernel_rfl) rfl #[.int .i64 a0] rfl zE ?_; (with_reducible refine (balustraderef02_May.calls a0 false _ A11.out).mono ?_); rintro e w' ⟨rfl, ⟨nd, rfl⟩⟩; refine ⟨_, rfl, ?_⟩) | ((with_reducible refine gate_callee (f := 9) rfl ?_); refine goesL_ (some 32) rfl rfl Tryd.func9 (by kernel_rfl) rfl #[.int .i64 a0] rfl zE ?_; (with_reducible refine (bits_New_nil.calls a0  _ A111.out).mono ?_); rintro e w' ⟨rfl, ⟨nd, rfl⟩⟩; refine ⟨_, rfl, ?_⟩) | (go_at_call 10; (with_reducible refine (bits_Full_nil.calls a0  _ A112.out).mono ?_); rintro e w' ⟨rfl, ⟨nd, rfl⟩⟩) | (go_at_call 11; (with_reducible refine (bits_Of_nil.calls a0 _ _ l1  _ ?side1 ?side2 A113.out).mono ?_); (case side1 => exact zC (Kd.C_below HR1.out (zB))); (case side2 => exact HC1.out); rintro e w' ⟨rfl, ⟨nd, rfl⟩⟩) | (go_at_call 13; (with_reducible refine (balustradelaw02_copied.calls _ _ l2 t238 _ ?side1 ?side2 A114.out).mono ?_); (case side1 => exact zC (Kd.C_below HR2.out (zB))); (case side2 => exact HC2.out); rintro e w117 ⟨v239, rfl, ho0, hb⟩; have n0_ := Aside0.mk (Kd.R_lower ho0 (below_size (zB))); have n1_ := Aside0.mk (below_step (zB) hb); clear HB; have HO240 := n0_; have HB := n1_; clear n0_ n1_; (try clear hb); (try clear hb2); (try clear hk); (try clear hi); (try clear ho0); obtain ⟨Ao118, co118, eo118⟩ := Kd.R_slice HO240.out; subst eo118) | (go_at_call 12; (with_reducible refine (bits_Right.calls kj3 _ _ t238 a0 true _ ?side1 ?side2 ?side3 A115.out).mono ?_); (case side1 => first | exact HT.out | exact TabW.below HT.out (zB)); (case side2 => exact zC (Kd.R_reads' HO240.out).2.2); (case side3 => exact (Kd.R_reads' HO240.out).2.1); rintro e w119 ⟨rfl, hb⟩; have n0_ := Aside0.mk (Kd.R_below (zR HO240.out) hb); have n1_ := Aside0.mk (below_step (zB) hb); clear HO240; clear HB; have HO240 := n0_; have HB := n1_; clear n0_ n1_; (try clear hb); (try clear hb2); (try clear hk); (try clear hi)))
              go_ret
              exact ⟨by first | rfl | (simp [errW_none, errW_some] <;> rfl) | (simp [*, errW_none, errW_some] <;> rfl), zB⟩
            · replace c116 := Bool.eq_false_iff.mpr c116
              subst c116
              have H1 : ((balustradelaw02_works.f kj3).bind fun t242 => (some t242)) = some r := by rw [if_neg (show ¬ (false = true) by decide)] at H; exact H
              clear H
              have H := H1
              clear H1
              replace H := Option.bind_eq_some_iff.mp H
              obtain ⟨t242, A1200, H⟩ := H
              replace H : (some t242) = some r := H
              have A120 := Aside0.mk A1200
              clear A1200
              obtain rfl := Option.some.inj H
              go_wp2_with (first | ((with_reducible refine gate_callee (f := 8) rfl ?_); refine goesL_ (some 29) rfl rfl Tryd.func8 (by kernel_rfl) rfl #[.int .i64 a0] rfl zE ?_; (with_reducible refine (balustraderef02_May.calls a0 false _ A11.out).mono ?_); rintro e w' ⟨rfl, ⟨nd, rfl⟩⟩; refine ⟨_, rfl, ?_⟩) | ((with_reducible refine gate_callee (f := 9) rfl ?_); refine goesL_ (some 32) rfl rfl Tryd.func9 (by kernel_rfl) rfl #[.int .i64 a0] rfl zE ?_; (with_reducible refine (bits_New_nil.calls a0  _ A111.out).mono ?_); rintro e w' ⟨rfl, ⟨nd, rfl⟩⟩; refine ⟨_, rfl, ?_⟩) | (go_at_call 10; (with_reducible refine (bits_Full_nil.calls a0  _ A112.out).mono ?_); rintro e w' ⟨rfl, ⟨nd, rfl⟩⟩) | (go_at_call 11; (with_reducible refine (bits_Of_nil.calls a0 _ _ l1  _ ?side1 ?side2 A113.out).mono ?_); (case side1 => exact zC (Kd.C_below HR1.out (zB))); (case side2 => exact HC1.out); rintro e w' ⟨rfl, ⟨nd, rfl⟩⟩) | (go_at_call 13; (with_reducible refine (balustradelaw02_copied.calls _ _ l2 t238 _ ?side1 ?side2 A114.out).mono ?_); (case side1 => exact zC (Kd.C_below HR2.out (zB))); (case side2 => exact HC2.out); rintro e w121 ⟨v239, rfl, ho0, hb⟩; have n0_ := Aside0.mk (Kd.R_lower ho0 (below_size (zB))); have n1_ := Aside0.mk (below_step (zB) hb); clear HB; have HO240 := n0_; have HB := n1_; clear n0_ n1_; (try clear hb); (try clear hb2); (try clear hk); (try clear hi); (try clear ho0); obtain ⟨Ao122, co122, eo122⟩ := Kd.R_slice HO240.out; subst eo122) | (go_at_call 12; (with_reducible refine (bits_Right.calls kj3 _ _ t238 a0 false _ ?side1 ?side2 ?side3 A115.out).mono ?_); (case side1 => first | exact HT.out | exact TabW.below HT.out (zB)); (case side2 => exact zC (Kd.R_reads' HO240.out).2.2); (case side3 => exact (Kd.R_reads' HO240.out).2.1); rintro e w123 ⟨rfl, hb⟩; have n0_ := Aside0.mk (Kd.R_below (zR HO240.out) hb); have n1_ := Aside0.mk (below_step (zB) hb); clear HO240; clear HB; have HO240 := n0_; have HB := n1_; clear n0_ n1_; (try clear hb); (try clear hb2); (try clear hk); (try clear hi)) | (go_at_call 7; (with_reducible refine (balustradelaw02_works.calls kj3  t242 _ ?side1 A120.out).mono ?_); (case side1 => first | exact HT.out | exact TabW.below HT.out (zB)); rintro e w124 ⟨rfl, hb⟩; have n0_ := Aside0.mk (Kd.R_below (zR HO240.out) hb); have n1_ := Aside0.mk (below_step (zB) hb); clear HO240; clear HB; have HO240 := n0_; have HB := n1_; clear n0_ n1_; (try clear hb); (try clear hb2); (try clear hk); (try clear hi)))
              go_ret
              exact ⟨by first | rfl | (simp [errW_none, errW_some] <;> rfl) | (simp [*, errW_none, errW_some] <;> rfl), zB⟩
          · rw [if_neg c110] at H
            have c110b0 : decide (a0 < 0) = false := decide_eq_false c110
            clear c110
            by_cases c125 : a0 > 65536
            · rw [if_pos c125] at H
              have c125b0 : decide (65536 < a0) = true := decide_eq_true c125
              clear c125
              replace H := Option.bind_eq_some_iff.mp H
              obtain ⟨_, A1260, H⟩ := H
              replace H : ((bits_Full_nil.f a0).bind fun _ => ((bits_Of_nil.f a0 l1).bind fun _ => ((balustradelaw02_copied.f l2).bind fun t243 => ((bits_Right.f kj3 t243 a0).bind fun t246 => (if t246 = true then (some false) else ((balustradelaw02_works.f kj3).bind fun t247 => (some t247))))))) = some r := H
              have A126 := Aside0.mk A1260
              clear A1260
              replace H := Option.bind_eq_some_iff.mp H
              obtain ⟨_, A1270, H⟩ := H
              replace H : ((bits_Of_nil.f a0 l1).bind fun _ => ((balustradelaw02_copied.f l2).bind fun t243 => ((bits_Right.f kj3 t243 a0).bind fun t246 => (if t246 = true then (some false) else ((balustradelaw02_works.f kj3).bind fun t247 => (some t247)))))) = some r := H
              have A127 := Aside0.mk A1270
              clear A1270
              replace H := Option.bind_eq_some_iff.mp H
              obtain ⟨_, A1280, H⟩ := H
              replace H : ((balustradelaw02_copied.f l2).bind fun t243 => ((bits_Right.f kj3 t243 a0).bind fun t246 => (if t246 = true then (some false) else ((balustradelaw02_works.f kj3).bind fun t247 => (some t247))))) = some r := H
              have A128 := Aside0.mk A1280
              clear A1280
              replace H := Option.bind_eq_some_iff.mp H
              obtain ⟨t243, A1290, H⟩ := H
              replace H : ((bits_Right.f kj3 t243 a0).bind fun t246 => (if t246 = true then (some false) else ((balustradelaw02_works.f kj3).bind fun t247 => (some t247)))) = some r := H
              have A129 := Aside0.mk A1290
              clear A1290
              replace H := Option.bind_eq_some_iff.mp H
              obtain ⟨t246, A1300, H⟩ := H
              replace H : (if t246 = true then (some false) else ((balustradelaw02_works.f kj3).bind fun t247 => (some t247))) = some r := H
              have A130 := Aside0.mk A1300
              clear A1300
              by_cases c131 : t246 = true
              · subst c131
                have H1 : (some false) = some r := by rw [if_pos rfl] at H; exact H
                clear H
                have H := H1
                clear H1
                obtain rfl := Option.some.inj H
                go_wp2_with (first | ((with_reducible refine gate_callee (f := 8) rfl ?_); refine goesL_ (some 29) rfl rfl Tryd.func8 (by kernel_rfl) rfl #[.int .i64 a0] rfl zE ?_; (with_reducible refine (balustraderef02_May.calls a0 false _ A11.out).mono ?_); rintro e w' ⟨rfl, ⟨nd, rfl⟩⟩; refine ⟨_, rfl, ?_⟩) | ((with_reducible refine gate_callee (f := 9) rfl ?_); refine goesL_ (some 32) rfl rfl Tryd.func9 (by kernel_rfl) rfl #[.int .i64 a0] rfl zE ?_; (with_reducible refine (bits_New_nil.calls a0  _ A126.out).mono ?_); rintro e w' ⟨rfl, ⟨nd, rfl⟩⟩; refine ⟨_, rfl, ?_⟩) | (go_at_call 10; (with_reducible refine (bits_Full_nil.calls a0  _ A127.out).mono ?_); rintro e w' ⟨rfl, ⟨nd, rfl⟩⟩) | (go_at_call 11; (with_reducible refine (bits_Of_nil.calls a0 _ _ l1  _ ?side1 ?side2 A128.out).mono ?_); (case side1 => exact zC (Kd.C_below HR1.out (zB))); (case side2 => exact HC1.out); rintro e w' ⟨rfl, ⟨nd, rfl⟩⟩) | (go_at_call 13; (with_reducible refine (balustradelaw02_copied.calls _ _ l2 t243 _ ?side1 ?side2 A129.out).mono ?_); (case side1 => exact zC (Kd.C_below HR2.out (zB))); (case side2 => exact HC2.out); rintro e w132 ⟨v244, rfl, ho0, hb⟩; have n0_ := Aside0.mk (Kd.R_lower ho0 (below_size (zB))); have n1_ := Aside0.mk (below_step (zB) hb); clear HB; have HO245 := n0_; have HB := n1_; clear n0_ n1_; (try clear hb); (try clear hb2); (try clear hk); (try clear hi); (try clear ho0); obtain ⟨Ao133, co133, eo133⟩ := Kd.R_slice HO245.out; subst eo133) | (go_at_call 12; (with_reducible refine (bits_Right.calls kj3 _ _ t243 a0 true _ ?side1 ?side2 ?side3 A130.out).mono ?_); (case side1 => first | exact HT.out | exact TabW.below HT.out (zB)); (case side2 => exact zC (Kd.R_reads' HO245.out).2.2); (case side3 => exact (Kd.R_reads' HO245.out).2.1); rintro e w134 ⟨rfl, hb⟩; have n0_ := Aside0.mk (Kd.R_below (zR HO245.out) hb); have n1_ := Aside0.mk (below_step (zB) hb); clear HO245; clear HB; have HO245 := n0_; have HB := n1_; clear n0_ n1_; (try clear hb); (try clear hb2); (try clear hk); (try clear hi)))
                go_ret
                exact ⟨by first | rfl | (simp [errW_none, errW_some] <;> rfl) | (simp [*, errW_none, errW_some] <;> rfl), zB⟩
              · replace c131 := Bool.eq_false_iff.mpr c131
                subst c131
                have H1 : ((balustradelaw02_works.f kj3).bind fun t247 => (some t247)) = some r := by rw [if_neg (show ¬ (false = true) by decide)] at H; exact H
                clear H
                have H := H1
                clear H1
                replace H := Option.bind_eq_some_iff.mp H
                obtain ⟨t247, A1350, H⟩ := H
                replace H : (some t247) = some r := H
                have A135 := Aside0.mk A1350
                clear A1350
                obtain rfl := Option.some.inj H
                go_wp2_with (first | ((with_reducible refine gate_callee (f := 8) rfl ?_); refine goesL_ (some 29) rfl rfl Tryd.func8 (by kernel_rfl) rfl #[.int .i64 a0] rfl zE ?_; (with_reducible refine (balustraderef02_May.calls a0 false _ A11.out).mono ?_); rintro e w' ⟨rfl, ⟨nd, rfl⟩⟩; refine ⟨_, rfl, ?_⟩) | ((with_reducible refine gate_callee (f := 9) rfl ?_); refine goesL_ (some 32) rfl rfl Tryd.func9 (by kernel_rfl) rfl #[.int .i64 a0] rfl zE ?_; (with_reducible refine (bits_New_nil.calls a0  _ A126.out).mono ?_); rintro e w' ⟨rfl, ⟨nd, rfl⟩⟩; refine ⟨_, rfl, ?_⟩) | (go_at_call 10; (with_reducible refine (bits_Full_nil.calls a0  _ A127.out).mono ?_); rintro e w' ⟨rfl, ⟨nd, rfl⟩⟩) | (go_at_call 11; (with_reducible refine (bits_Of_nil.calls a0 _ _ l1  _ ?side1 ?side2 A128.out).mono ?_); (case side1 => exact zC (Kd.C_below HR1.out (zB))); (case side2 => exact HC1.out); rintro e w' ⟨rfl, ⟨nd, rfl⟩⟩) | (go_at_call 13; (with_reducible refine (balustradelaw02_copied.calls _ _ l2 t243 _ ?side1 ?side2 A129.out).mono ?_); (case side1 => exact zC (Kd.C_below HR2.out (zB))); (case side2 => exact HC2.out); rintro e w136 ⟨v244, rfl, ho0, hb⟩; have n0_ := Aside0.mk (Kd.R_lower ho0 (below_size (zB))); have n1_ := Aside0.mk (below_step (zB) hb); clear HB; have HO245 := n0_; have HB := n1_; clear n0_ n1_; (try clear hb); (try clear hb2); (try clear hk); (try clear hi); (try clear ho0); obtain ⟨Ao137, co137, eo137⟩ := Kd.R_slice HO245.out; subst eo137) | (go_at_call 12; (with_reducible refine (bits_Right.calls kj3 _ _ t243 a0 false _ ?side1 ?side2 ?side3 A130.out).mono ?_); (case side1 => first | exact HT.out | exact TabW.below HT.out (zB)); (case side2 => exact zC (Kd.R_reads' HO245.out).2.2); (case side3 => exact (Kd.R_reads' HO245.out).2.1); rintro e w138 ⟨rfl, hb⟩; have n0_ := Aside0.mk (Kd.R_below (zR HO245.out) hb); have n1_ := Aside0.mk (below_step (zB) hb); clear HO245; clear HB; have HO245 := n0_; have HB := n1_; clear n0_ n1_; (try clear hb); (try clear hb2); (try clear hk); (try clear hi)) | (go_at_call 7; (with_reducible refine (balustradelaw02_works.calls kj3  t247 _ ?side1 A135.out).mono ?_); (case side1 => first | exact HT.out | exact TabW.below HT.out (zB)); rintro e w139 ⟨rfl, hb⟩; have n0_ := Aside0.mk (Kd.R_below (zR HO245.out) hb); have n1_ := Aside0.mk (below_step (zB) hb); clear HO245; clear HB; have HO245 := n0_; have HB := n1_; clear n0_ n1_; (try clear hb); (try clear hb2); (try clear hk); (try clear hi)))
                go_ret
                exact ⟨by first | rfl | (simp [errW_none, errW_some] <;> rfl) | (simp [*, errW_none, errW_some] <;> rfl), zB⟩
            · rw [if_neg c125] at H
              have c125b0 : decide (65536 < a0) = false := decide_eq_false c125
              clear c125
              replace H := Option.bind_eq_some_iff.mp H
              obtain ⟨t248, A1400, H⟩ := H
              replace H : (none) = some r := H
              have A140 := Aside0.mk A1400
              clear A1400
              exact absurd H (by simp)

/-- THE ONE PURE STATEMENT of balustradelaw02_BitsMakes: yours. -/
def balustradelaw02_BitsMakes.Pure : Prop := ∀ (a0 : Int) (l1 : List Int) (l2 : List Int), (Lit.int .i64 a0).wf = true → l1.length ≤ maxLen → l1.length * 8 ≤ 140737488351232 → (∀ x ∈ l1, (Lit.int .i64 x).wf = true) → l2.length ≤ maxLen → l2.length * 8 ≤ 140737488351232 → (∀ x ∈ l2, (Lit.int .u64 x).wf = true) → ∃ k, balustradelaw02_BitsMakes.f k a0 l1 l2 = some true
theorem balustradelaw02_BitsMakes.walk (P : balustradelaw02_BitsMakes.Pure) (a0 : Int) (a1 : Option Addr) (len1 cap1 : Nat) (z1 : List Int) (a2 : Option Addr) (len2 cap2 : Nat) (z2 : List Int) (w : World) (hT : TabW w) (w0 : (Lit.int .i64 a0).wf = true) (w1 : (a1 = none ∧ len1 = 0 ∧ cap1 = 0 ∧ z1 = []) ∨ ∃ x, a1 = some x ∧ len1 ≤ cap1 ∧ cap1 ≤ maxLen ∧ z1.length = cap1 ∧ (∀ i, i < z1.length → w.cell? (x.add i) = some (.int .i64 (z1.getD i 0))) ∧ ∀ n ∈ z1, (Lit.int .i64 n).wf = true) (y1 : len1 * 8 ≤ 140737488351232) (w2 : (a2 = none ∧ len2 = 0 ∧ cap2 = 0 ∧ z2 = []) ∨ ∃ x, a2 = some x ∧ len2 ≤ cap2 ∧ cap2 ≤ maxLen ∧ z2.length = cap2 ∧ (∀ i, i < z2.length → w.cell? (x.add i) = some (.int .u64 (z2.getD i 0))) ∧ ∀ n ∈ z2, (Lit.int .u64 n).wf = true) (y2 : len2 * 8 ≤ 140737488351232) :
    Calls Tryd.prog 3 #[.int .i64 a0, .slice a1 len1 cap1, .slice a2 len2 cap2] w fun e w' => e = .returned (.bool true) ∧ Below w.heap.size w w' := by
  obtain ⟨l1, rfl, hr1, hm1, hw1, hc1⟩ := ReadsInt.ofRowC w1
  obtain ⟨l2, rfl, hr2, hm2, hw2, hc2⟩ := ReadsInt.ofRowC w2
  obtain ⟨k, h⟩ := P a0 l1 l2 w0 hm1 y1 hw1 hm2 y2 hw2
  refine (balustradelaw02_BitsMakes.calls k a0 _ _ l1 _ _ l2 true w hT (Kd.C_of_reads (d := (0 : Int)) (h1 := fun _ => rfl) hr1) hc1 (Kd.C_of_reads (d := (0 : Int)) (h1 := fun _ => rfl) hr2) hc2 h).mono ?_
  rintro e w' ⟨rfl, hd⟩
  exact ⟨rfl, hd⟩

end Go.Proofs.YtbkbgooncedleaaDoor.P

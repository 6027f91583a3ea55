/- A part of it. -/
import Derived.Test.YtanpghbakbebiaaDoorFsP0
import Derived.Test.YtanpghbakbebiaaDoorFsM26
import Derived.Test.YtanpghbakbebiaaDoorFsP8
namespace Go.Proofs.YtanpghbakbebiaaDoor.P
open Go.RowKit Go.Proofs.YtanpghbakbebiaaDoorW.PrintWords Go.Proofs.YtanpghbakbebiaaDoorW.PrintLast Go.Proofs.YtanpghbakbebiaaDoorW.PrintMore
attribute [local go_sem] max2_int min2_int max_two min_two max_three min_three max_four min_four   
set_option linter.unusedVariables false
set_option linter.unusedSimpArgs false
def bits_Set_Has.f (l0 : List Int) (a1 : Int) : Option (Bool) := if a1 ≤ 9223372036854775807 then (if 0 ≤ a1 ∧ a1 / 64 < (l0.length : Int) then some (Go.bits .and .u64 (rd l0 (a1 / 64)) (shl .u64 1 (a1 % 64)) != 0) else some false) else none
set_option maxHeartbeats 1000000 in
set_option maxRecDepth 100000 in
theorem bits_Set_Has.calls (A0 : Option Addr) (c0 : Nat) (l0 : List Int) (a1 : Int) (r : Bool) (w : World) (hr0 : Kd.C (Kd.int .u64) w A0 l0.length l0) (hc0 : l0.length ≤ c0) (h : bits_Set_Has.f l0 a1 = some r) :
  Calls Tryd.prog 35 #[.slice A0 l0.length c0, .int .i64 a1] w fun e w' => e = .returned (.bool r) ∧ Drawn0 w w' := by
 have HR0 := Aside0.mk hr0
 clear hr0 hc0
 unfold bits_Set_Has.f at h
 by_cases hm : a1 ≤ 9223372036854775807
 ·rw [if_pos hm] at h
  by_cases h1 : 0 ≤ a1 ∧ a1 / 64 < (l0.length : Int)
  ·rw [if_pos h1] at h
   obtain rfl := Option.some.inj h
   clear h
   obtain ⟨h1, h2⟩ := h1
   have p : 0 ≤ a1 / 64 := by omega
   obtain ⟨ad, e, hx⟩ := Kd.at_int HR0.out (a1/64) p h2
   cases e
   go_enter Tryd.func35, Tryd.ntmps35
   go_wp2_with (go_at_call 45; refine (bits_at_in ad c0 l0.length a1 _ hm h1 h2).mono ?_; rintro e w' ⟨rfl, ⟨n, rfl⟩⟩)
   repeat (go_quiet (fail); try go_wp2)
   go_ret
   exact ⟨rfl, zD⟩
  ·rw [if_neg h1] at h
   obtain rfl := Option.some.inj h
   clear h
   have H1 := Lib.hid h1; clear h1
   go_enter Tryd.func35, Tryd.ntmps35
   go_wp2_with (go_at_call 45; refine (bits_at_out A0 c0 l0.length a1 _ hm H1.out).mono ?_; rintro e w' ⟨rfl, rfl⟩)
   go_ret
   exact ⟨rfl, zD⟩
 ·rw [if_neg hm] at h
  cases h
mutual
def balustradelaw18_same.l0 : Nat → List (List Int) → List (List Bool) → Int → Int → Option (Bool)
 | 0, _, _, _, _ => none
 | k + 1, x0, x1, x2, x7 => if x7 < (x0.length : Int) then (if 0 ≤ x7 then ((bits_Right.f k (rd_L3 x0 x7) x2).bind fun t353 => (if t353 = true then (balustradelaw18_same.l1 k x0 x1 x2 x7 0) else (some false))) else (none)) else (some true)
def balustradelaw18_same.l1 : Nat → List (List Int) → List (List Bool) → Int → Int → Int → Option (Bool)
 | 0, _, _, _, _, _ => none
 | k + 1, x0, x1, x2, x7, x8 => if x8 < x2 then (if 0 ≤ x7 then (if x7 < (x0.length : Int) then ((bits_Set_Has.f (rd_L3 x0 x7) x8).bind fun t355 => (if x7 < (x1.length : Int) then (if 0 ≤ x8 then (if x8 < ((rd_L5 x1 x7).length : Int) then (if (t355 != (rdOf false (rd_L5 x1 x7) x8)) = true then (some false) else (balustradelaw18_same.l1 k x0 x1 x2 x7 (wrap64 (x8 + 1)))) else (none)) else (none)) else (none))) else (none)) else (none)) else (balustradelaw18_same.l0 k x0 x1 x2 (wrap64 (x7 + 1)))
end
def balustradelaw18_same.f (k : Nat) (l0 : List (List Int)) (l1 : List (List Bool)) (a2 : Int) : Option (Bool) := if (l0.length : Int) = (l1.length : Int) then (balustradelaw18_same.l0 k l0 l1 a2 0) else (some false)
set_option maxHeartbeats 8000000 in
set_option maxRecDepth 100000 in
theorem balustradelaw18_same.calls (k : Nat) (A0 : Option Addr) (c0 : Nat) (l0 : List (List Int)) (A1 : Option Addr) (c1 : Nat) (l1 : List (List Bool)) (a2 : Int) (r : Bool) (w : World) (hT : TabW w) (hr0 : Kd.C (Kd.slice 72 (Kd.int .u64)) w A0 l0.length l0) (hc0 : l0.length ≤ c0) (hr1 : Kd.C (Kd.slice 4 Kd.bool) w A1 l1.length l1) (hc1 : l1.length ≤ c1) (h : balustradelaw18_same.f k l0 l1 a2 = some r) :
  Calls Tryd.prog 14 #[.slice A0 l0.length c0, .slice A1 l1.length c1, .int .i64 a2] w fun e w' => e = .returned (.bool r) ∧ Below w.heap.size w w' := by
 have HR0 := Aside0.mk hr0
 have HC0 := Aside0.mk hc0
 clear hr0 hc0
 have HR1 := Aside0.mk hr1
 have HC1 := Aside0.mk hc1
 clear hr1 hc1
 have HT := Aside0.mk hT
 clear hT
 have HB := Aside0.mk (Below.refl w.heap.size w)
 have H : (if (l0.length : Int) = (l1.length : Int) then (balustradelaw18_same.l0 k l0 l1 a2 0) else (some false)) = some r := h
 clear h
 by_cases c4 : (l0.length : Int) = (l1.length : Int)
 ·rw [if_pos c4] at H
  have c4b0 : ((l0.length : Int) == (l1.length : Int)) = true := beq_iff_eq.mpr c4
  have c4b1 : ((l0.length : Int) != (l1.length : Int)) = false := bne_eq_false_iff_eq.mpr c4
  have c4b2 : (l0.length == l1.length) = true := by first | simpa using c4 | (simp at c4 ⊢; omega)
  clear c4
  have H' := Aside0.mk H
  clear H
  go_enter Tryd.func14, Tryd.ntmps14
  go_wp2
  repeat (go_quiet (fail); try go_wp2)
  go_loopg [7] k (fun kq v7 w' => ∃ (x7_1 : Int), v7 = .int .i64 x7_1 ∧ Aside0 (balustradelaw18_same.l0 kq l0 l1 a2 x7_1 = some r) ∧ Aside0 (kq ≤ k) ∧ Aside0 (Below w.heap.size w w'))
  case atStart => exact ⟨(0), zQ, H', ⟨Nat.le_refl _⟩, ⟨zB⟩⟩
  case round =>
   clear H'
   (try clear c1); (try clear p2); (try clear c4); (try clear c4b0); (try clear c4b1); (try clear c4b2)
   obtain ⟨x7_1, rfl, HA, HK1, HB⟩ := hrel
   cases gk with
   | zero => exact absurd HA.out (by simp [balustradelaw18_same.l0])
   | succ k1 =>
    have H := HA.out
    clear HA
    simp only [balustradelaw18_same.l0] at H
    by_cases c5 : x7_1 < (l0.length : Int)
    ·rw [if_pos c5] at H
     have c5b0 : decide (x7_1 < (l0.length : Int)) = true := decide_eq_true c5
     clear c5
     by_cases c6 : 0 ≤ x7_1
     ·rw [if_pos c6] at H
      have c6b0 : decide (0 ≤ x7_1) = true := decide_eq_true c6
      clear c6
      replace H := Option.bind_eq_some_iff.mp H
      obtain ⟨t353, A70, H⟩ := H
      replace H : (if t353 = true then (balustradelaw18_same.l1 k1 l0 l1 a2 x7_1 0) else (some false)) = some r := H
      have A7 := Aside0.mk A70
      clear A70
      by_cases c8 : t353 = true
      ·subst c8
       have H1 : (balustradelaw18_same.l1 k1 l0 l1 a2 x7_1 0) = some r := by rw [if_pos rfl] at H; exact H
       clear H
       have H := H1
       clear H1
       have H' := Aside0.mk H
       clear H
       have p352 : 0 ≤ (x7_1 : Int) := zO
       have q352 : x7_1 < (l0.length : Int) := zO
       obtain ⟨ad352, A352_0, c352_0, e352, hx352_0, hl352_0, hi352_0⟩ := at_L3 HR0.out x7_1 p352 q352
       cases e352
       replace hx352_0 := pw_cell_below HB.out hx352_0
       have HR352_0 := Aside0.mk hi352_0
       have HC352_0 := Aside0.mk hl352_0
       clear hi352_0 hl352_0
       replace p352 := eq_true p352
       replace q352 := eq_true q352
       go_wp2_with (first | (go_at_call 34; (with_reducible refine (bits_Right.calls k1 _ _ (rd_L3 l0 x7_1) a2 true _ ?side1 ?side2 ?side3 A7.out).mono ?_); (case side1 => first | exact HT.out | exact TabW.below HT.out (zB)); (case side2 => exact zC (Kd.C_below HR352_0.out HB.out)); (case side3 => exact HC352_0.out); rintro e w9 ⟨rfl, hb⟩; have n0_ := Aside0.mk (below_step (zB) hb); clear HB; have HB := n0_; clear n0_; (try clear hb); (try clear hb2); (try clear hk); (try clear hi)))
       repeat (go_quiet (first | (go_at_call 34; (with_reducible refine (bits_Right.calls k1 _ _ (rd_L3 l0 x7_1) a2 true _ ?side1 ?side2 ?side3 A7.out).mono ?_); (case side1 => first | exact HT.out | exact TabW.below HT.out (zB)); (case side2 => exact zC (Kd.C_below HR352_0.out HB.out)); (case side3 => exact HC352_0.out); rintro e w9 ⟨rfl, hb⟩; have n0_ := Aside0.mk (below_step (zB) hb); clear HB; have HB := n0_; clear n0_; (try clear hb); (try clear hb2); (try clear hk); (try clear hi))); try go_wp2_with (first | (go_at_call 34; (with_reducible refine (bits_Right.calls k1 _ _ (rd_L3 l0 x7_1) a2 true _ ?side1 ?side2 ?side3 A7.out).mono ?_); (case side1 => first | exact HT.out | exact TabW.below HT.out (zB)); (case side2 => exact zC (Kd.C_below HR352_0.out HB.out)); (case side3 => exact HC352_0.out); rintro e w9 ⟨rfl, hb⟩; have n0_ := Aside0.mk (below_step (zB) hb); clear HB; have HB := n0_; clear n0_; (try clear hb); (try clear hb2); (try clear hk); (try clear hi))))
       go_loopg [8] k1 (fun kq v8 w' => ∃ (x8_2 : Int), v8 = .int .i64 x8_2 ∧ Aside0 (balustradelaw18_same.l1 kq l0 l1 a2 x7_1 x8_2 = some r) ∧ Aside0 (kq ≤ k1) ∧ Aside0 (Below w.heap.size w w'))
       case atStart => exact ⟨(0), zQ, H', ⟨Nat.le_refl _⟩, ⟨zB⟩⟩
       case round =>
        clear H'
        (try clear c1); (try clear p2); (try clear c3); (try clear p3); (try clear q3); (try clear hx3); (try clear c4); (try clear c4b0); (try clear c4b1); (try clear c4b2); (try clear c5); (try clear c5b0); (try clear c6); (try clear c6b0); (try clear c8); (try clear hx352_0); (try clear p2); (try clear p352); (try clear q352)
        obtain ⟨x8_2, rfl, HA, HK2, HB⟩ := hrel
        cases gk with
        | zero => exact absurd HA.out (by simp [balustradelaw18_same.l1])
        | succ k2 =>
         have H := HA.out
         clear HA
         simp only [balustradelaw18_same.l1] at H
         by_cases c10 : x8_2 < a2
         ·rw [if_pos c10] at H
          have c10b0 : decide (x8_2 < a2) = true := decide_eq_true c10
          clear c10
          by_cases c11 : 0 ≤ x7_1
          ·rw [if_pos c11] at H
           have c11b0 : decide (0 ≤ x7_1) = true := decide_eq_true c11
           clear c11
           by_cases c12 : x7_1 < (l0.length : Int)
           ·rw [if_pos c12] at H
            have c12b0 : decide (x7_1 < (l0.length : Int)) = true := decide_eq_true c12
            clear c12
            replace H := Option.bind_eq_some_iff.mp H
            obtain ⟨t355, A130, H⟩ := H
            replace H : (if x7_1 < (l1.length : Int) then (if 0 ≤ x8_2 then (if x8_2 < ((rd_L5 l1 x7_1).length : Int) then (if (t355 != (rdOf false (rd_L5 l1 x7_1) x8_2)) = true then (some false) else (balustradelaw18_same.l1 k2 l0 l1 a2 x7_1 (wrap64 (x8_2 + 1)))) else (none)) else (none)) else (none)) = some r := H
            have A13 := Aside0.mk A130
            clear A130
            by_cases c14 : x7_1 < (l1.length : Int)
            ·rw [if_pos c14] at H
             have c14b0 : decide (x7_1 < (l1.length : Int)) = true := decide_eq_true c14
             clear c14
             by_cases c15 : 0 ≤ x8_2
             ·rw [if_pos c15] at H
              have c15b0 : decide (0 ≤ x8_2) = true := decide_eq_true c15
              clear c15
              by_cases c16 : x8_2 < ((rd_L5 l1 x7_1).length : Int)
              ·rw [if_pos c16] at H
               have c16b0 : decide (x8_2 < ((rd_L5 l1 x7_1).length : Int)) = true := decide_eq_true c16
               clear c16
               by_cases c17 : (t355 != (rdOf false (rd_L5 l1 x7_1) x8_2)) = true
               ·rw [if_pos c17] at H
                have c17b0 : (t355 != (rdOf false (rd_L5 l1 x7_1) x8_2)) = true := c17
                (try (have c17b1 : decide (t355 = (rdOf false (rd_L5 l1 x7_1) x8_2)) = false := by simpa using c17))
                (try (have c17b2 : (t355 == (rdOf false (rd_L5 l1 x7_1) x8_2)) = false := by simpa using c17))
                (try (have c17b3 : ¬ (t355 = (rdOf false (rd_L5 l1 x7_1) x8_2)) := by simpa using c17))
                clear c17
                obtain rfl := Option.some.inj H
                have p354 : 0 ≤ (x7_1 : Int) := zO
                have q354 : x7_1 < (l0.length : Int) := zO
                obtain ⟨ad354, A354_0, c354_0, e354, hx354_0, hl354_0, hi354_0⟩ := at_L3 HR0.out x7_1 p354 q354
                obtain rfl : ad352 = ad354 := (by injection e354)
                replace hx354_0 := pw_cell_below HB.out hx354_0
                have HR354_0 := Aside0.mk hi354_0
                have HC354_0 := Aside0.mk hl354_0
                clear hi354_0 hl354_0
                replace p354 := eq_true p354
                replace q354 := eq_true q354
                go_wp2_with (first | (go_at_call 35; (with_reducible refine (bits_Set_Has.calls _ _ (rd_L3 l0 x7_1) x8_2 t355 _ ?side1 ?side2 A13.out).mono ?_); (case side1 => exact zC (Kd.C_below HR354_0.out HB.out)); (case side2 => exact HC354_0.out); rintro e w' ⟨rfl, ⟨nd, rfl⟩⟩; (try first | exact ⟨rfl, _, World.drewN_drewN _ _ _⟩ | exact ⟨rfl, _, Eq.trans (World.drewN_drewN _ _ _) (congrArg (World.drewN _) (Nat.add_assoc _ _ _))⟩); have p356 : 0 ≤ (x7_1 : Int) := zO; have q356 : x7_1 < (l1.length : Int) := zO; obtain ⟨ad356, A356_0, c356_0, e356, hx356_0, hl356_0, hi356_0⟩ := at_L5 HR1.out x7_1 p356 q356; cases e356; replace hx356_0 := pw_cell_below HB.out hx356_0; have HR356_0 := Aside0.mk hi356_0; have HC356_0 := Aside0.mk hl356_0; clear hi356_0 hl356_0; replace p356 := eq_true p356; replace q356 := eq_true q356; have p357 : 0 ≤ (x8_2 : Int) := zO; have q357 : x8_2 < ((rd_L5 l1 x7_1).length : Int) := zO; obtain ⟨ad357, e357, hx357_0⟩ := Kd.at_bool HR356_0.out x8_2 p357 q357; cases e357; replace hx357_0 := pw_cell_below HB.out hx357_0; replace p357 := eq_true p357; replace q357 := eq_true q357))
                repeat (go_quiet (first | (go_at_call 35; (with_reducible refine (bits_Set_Has.calls _ _ (rd_L3 l0 x7_1) x8_2 t355 _ ?side1 ?side2 A13.out).mono ?_); (case side1 => exact zC (Kd.C_below HR354_0.out HB.out)); (case side2 => exact HC354_0.out); rintro e w' ⟨rfl, ⟨nd, rfl⟩⟩; (try first | exact ⟨rfl, _, World.drewN_drewN _ _ _⟩ | exact ⟨rfl, _, Eq.trans (World.drewN_drewN _ _ _) (congrArg (World.drewN _) (Nat.add_assoc _ _ _))⟩); have p356 : 0 ≤ (x7_1 : Int) := zO; have q356 : x7_1 < (l1.length : Int) := zO; obtain ⟨ad356, A356_0, c356_0, e356, hx356_0, hl356_0, hi356_0⟩ := at_L5 HR1.out x7_1 p356 q356; cases e356; replace hx356_0 := pw_cell_below HB.out hx356_0; have HR356_0 := Aside0.mk hi356_0; have HC356_0 := Aside0.mk hl356_0; clear hi356_0 hl356_0; replace p356 := eq_true p356; replace q356 := eq_true q356; have p357 : 0 ≤ (x8_2 : Int) := zO; have q357 : x8_2 < ((rd_L5 l1 x7_1).length : Int) := zO; obtain ⟨ad357, e357, hx357_0⟩ := Kd.at_bool HR356_0.out x8_2 p357 q357; cases e357; replace hx357_0 := pw_cell_below HB.out hx357_0; replace p357 := eq_true p357; replace q357 := eq_true q357)); try go_wp2_with (first | (go_at_call 35; (with_reducible refine (bits_Set_Has.calls _ _ (rd_L3 l0 x7_1) x8_2 t355 _ ?side1 ?side2 A13.out).mono ?_); (case side1 => exact zC (Kd.C_below HR354_0.out HB.out)); (case side2 => exact HC354_0.out); rintro e w' ⟨rfl, ⟨nd, rfl⟩⟩; (try first | exact ⟨rfl, _, World.drewN_drewN _ _ _⟩ | exact ⟨rfl, _, Eq.trans (World.drewN_drewN _ _ _) (congrArg (World.drewN _) (Nat.add_assoc _ _ _))⟩); have p356 : 0 ≤ (x7_1 : Int) := zO; have q356 : x7_1 < (l1.length : Int) := zO; obtain ⟨ad356, A356_0, c356_0, e356, hx356_0, hl356_0, hi356_0⟩ := at_L5 HR1.out x7_1 p356 q356; cases e356; replace hx356_0 := pw_cell_below HB.out hx356_0; have HR356_0 := Aside0.mk hi356_0; have HC356_0 := Aside0.mk hl356_0; clear hi356_0 hl356_0; replace p356 := eq_true p356; replace q356 := eq_true q356; have p357 : 0 ≤ (x8_2 : Int) := zO; have q357 : x8_2 < ((rd_L5 l1 x7_1).length : Int) := zO; obtain ⟨ad357, e357, hx357_0⟩ := Kd.at_bool HR356_0.out x8_2 p357 q357; cases e357; replace hx357_0 := pw_cell_below HB.out hx357_0; replace p357 := eq_true p357; replace q357 := eq_true q357)))
                go_ret
                exact ⟨zV, zB⟩
               ·rw [if_neg c17] at H
                have c17b0 : (t355 != (rdOf false (rd_L5 l1 x7_1) x8_2)) = false := by simpa using c17
                (try (have c17b1 : decide (t355 = (rdOf false (rd_L5 l1 x7_1) x8_2)) = true := by simpa using c17))
                (try (have c17b2 : (t355 == (rdOf false (rd_L5 l1 x7_1) x8_2)) = true := by simpa using c17))
                clear c17
                have H' := Aside0.mk H
                clear H
                have p354 : 0 ≤ (x7_1 : Int) := zO
                have q354 : x7_1 < (l0.length : Int) := zO
                obtain ⟨ad354, A354_0, c354_0, e354, hx354_0, hl354_0, hi354_0⟩ := at_L3 HR0.out x7_1 p354 q354
                obtain rfl : ad352 = ad354 := (by injection e354)
                replace hx354_0 := pw_cell_below HB.out hx354_0
                have HR354_0 := Aside0.mk hi354_0
                have HC354_0 := Aside0.mk hl354_0
                clear hi354_0 hl354_0
                replace p354 := eq_true p354
                replace q354 := eq_true q354
                go_wp2_with (first | (go_at_call 35; (with_reducible refine (bits_Set_Has.calls _ _ (rd_L3 l0 x7_1) x8_2 t355 _ ?side1 ?side2 A13.out).mono ?_); (case side1 => exact zC (Kd.C_below HR354_0.out HB.out)); (case side2 => exact HC354_0.out); rintro e w' ⟨rfl, ⟨nd, rfl⟩⟩; (try first | exact ⟨rfl, _, World.drewN_drewN _ _ _⟩ | exact ⟨rfl, _, Eq.trans (World.drewN_drewN _ _ _) (congrArg (World.drewN _) (Nat.add_assoc _ _ _))⟩); have p356 : 0 ≤ (x7_1 : Int) := zO; have q356 : x7_1 < (l1.length : Int) := zO; obtain ⟨ad356, A356_0, c356_0, e356, hx356_0, hl356_0, hi356_0⟩ := at_L5 HR1.out x7_1 p356 q356; cases e356; replace hx356_0 := pw_cell_below HB.out hx356_0; have HR356_0 := Aside0.mk hi356_0; have HC356_0 := Aside0.mk hl356_0; clear hi356_0 hl356_0; replace p356 := eq_true p356; replace q356 := eq_true q356; have p357 : 0 ≤ (x8_2 : Int) := zO; have q357 : x8_2 < ((rd_L5 l1 x7_1).length : Int) := zO; obtain ⟨ad357, e357, hx357_0⟩ := Kd.at_bool HR356_0.out x8_2 p357 q357; cases e357; replace hx357_0 := pw_cell_below HB.out hx357_0; replace p357 := eq_true p357; replace q357 := eq_true q357))
                repeat (go_quiet (first | (go_at_call 35; (with_reducible refine (bits_Set_Has.calls _ _ (rd_L3 l0 x7_1) x8_2 t355 _ ?side1 ?side2 A13.out).mono ?_); (case side1 => exact zC (Kd.C_below HR354_0.out HB.out)); (case side2 => exact HC354_0.out); rintro e w' ⟨rfl, ⟨nd, rfl⟩⟩; (try first | exact ⟨rfl, _, World.drewN_drewN _ _ _⟩ | exact ⟨rfl, _, Eq.trans (World.drewN_drewN _ _ _) (congrArg (World.drewN _) (Nat.add_assoc _ _ _))⟩); have p356 : 0 ≤ (x7_1 : Int) := zO; have q356 : x7_1 < (l1.length : Int) := zO; obtain ⟨ad356, A356_0, c356_0, e356, hx356_0, hl356_0, hi356_0⟩ := at_L5 HR1.out x7_1 p356 q356; cases e356; replace hx356_0 := pw_cell_below HB.out hx356_0; have HR356_0 := Aside0.mk hi356_0; have HC356_0 := Aside0.mk hl356_0; clear hi356_0 hl356_0; replace p356 := eq_true p356; replace q356 := eq_true q356; have p357 : 0 ≤ (x8_2 : Int) := zO; have q357 : x8_2 < ((rd_L5 l1 x7_1).length : Int) := zO; obtain ⟨ad357, e357, hx357_0⟩ := Kd.at_bool HR356_0.out x8_2 p357 q357; cases e357; replace hx357_0 := pw_cell_below HB.out hx357_0; replace p357 := eq_true p357; replace q357 := eq_true q357)); try go_wp2_with (first | (go_at_call 35; (with_reducible refine (bits_Set_Has.calls _ _ (rd_L3 l0 x7_1) x8_2 t355 _ ?side1 ?side2 A13.out).mono ?_); (case side1 => exact zC (Kd.C_below HR354_0.out HB.out)); (case side2 => exact HC354_0.out); rintro e w' ⟨rfl, ⟨nd, rfl⟩⟩; (try first | exact ⟨rfl, _, World.drewN_drewN _ _ _⟩ | exact ⟨rfl, _, Eq.trans (World.drewN_drewN _ _ _) (congrArg (World.drewN _) (Nat.add_assoc _ _ _))⟩); have p356 : 0 ≤ (x7_1 : Int) := zO; have q356 : x7_1 < (l1.length : Int) := zO; obtain ⟨ad356, A356_0, c356_0, e356, hx356_0, hl356_0, hi356_0⟩ := at_L5 HR1.out x7_1 p356 q356; cases e356; replace hx356_0 := pw_cell_below HB.out hx356_0; have HR356_0 := Aside0.mk hi356_0; have HC356_0 := Aside0.mk hl356_0; clear hi356_0 hl356_0; replace p356 := eq_true p356; replace q356 := eq_true q356; have p357 : 0 ≤ (x8_2 : Int) := zO; have q357 : x8_2 < ((rd_L5 l1 x7_1).length : Int) := zO; obtain ⟨ad357, e357, hx357_0⟩ := Kd.at_bool HR356_0.out x8_2 p357 q357; cases e357; replace hx357_0 := pw_cell_below HB.out hx357_0; replace p357 := eq_true p357; replace q357 := eq_true q357)))
                go_roundg k2
                case measure => have := HK1.out; have := HK2.out; omega
                case rel => exact ⟨(wrap64 (x8_2 + 1)), zQ, H', ⟨by have := HK1.out; have := HK2.out; omega⟩, ⟨zB⟩⟩
              ·rw [if_neg c16] at H
               exact absurd H (by simp)
             ·rw [if_neg c15] at H
              exact absurd H (by simp)
            ·rw [if_neg c14] at H
             exact absurd H (by simp)
           ·rw [if_neg c12] at H
            exact absurd H (by simp)
          ·rw [if_neg c11] at H
           exact absurd H (by simp)
         ·rw [if_neg c10] at H
          have c10b0 : decide (x8_2 < a2) = false := decide_eq_false c10
          clear c10
          have H' := Aside0.mk H
          clear H
          go_wp2
          repeat (go_quiet (fail); try go_wp2)
          go_roundg k2
          case measure => have := HK1.out; have := HK2.out; omega
          case rel => exact ⟨(wrap64 (x7_1 + 1)), zQ, H', ⟨by have := HK1.out; have := HK2.out; omega⟩, ⟨zB⟩⟩
      ·replace c8 := Bool.eq_false_iff.mpr c8
       subst c8
       have H1 : (some false) = some r := by rw [if_neg (show ¬ (false = true) by decide)] at H; exact H
       clear H
       have H := H1
       clear H1
       obtain rfl := Option.some.inj H
       have p352 : 0 ≤ (x7_1 : Int) := zO
       have q352 : x7_1 < (l0.length : Int) := zO
       obtain ⟨ad352, A352_0, c352_0, e352, hx352_0, hl352_0, hi352_0⟩ := at_L3 HR0.out x7_1 p352 q352
       cases e352
       replace hx352_0 := pw_cell_below HB.out hx352_0
       have HR352_0 := Aside0.mk hi352_0
       have HC352_0 := Aside0.mk hl352_0
       clear hi352_0 hl352_0
       replace p352 := eq_true p352
       replace q352 := eq_true q352
       go_wp2_with (first | (go_at_call 34; (with_reducible refine (bits_Right.calls k1 _ _ (rd_L3 l0 x7_1) a2 false _ ?side1 ?side2 ?side3 A7.out).mono ?_); (case side1 => first | exact HT.out | exact TabW.below HT.out (zB)); (case side2 => exact zC (Kd.C_below HR352_0.out HB.out)); (case side3 => exact HC352_0.out); rintro e w18 ⟨rfl, hb⟩; have n0_ := Aside0.mk (below_step (zB) hb); clear HB; have HB := n0_; clear n0_; (try clear hb); (try clear hb2); (try clear hk); (try clear hi)))
       repeat (go_quiet (first | (go_at_call 34; (with_reducible refine (bits_Right.calls k1 _ _ (rd_L3 l0 x7_1) a2 false _ ?side1 ?side2 ?side3 A7.out).mono ?_); (case side1 => first | exact HT.out | exact TabW.below HT.out (zB)); (case side2 => exact zC (Kd.C_below HR352_0.out HB.out)); (case side3 => exact HC352_0.out); rintro e w18 ⟨rfl, hb⟩; have n0_ := Aside0.mk (below_step (zB) hb); clear HB; have HB := n0_; clear n0_; (try clear hb); (try clear hb2); (try clear hk); (try clear hi))); try go_wp2_with (first | (go_at_call 34; (with_reducible refine (bits_Right.calls k1 _ _ (rd_L3 l0 x7_1) a2 false _ ?side1 ?side2 ?side3 A7.out).mono ?_); (case side1 => first | exact HT.out | exact TabW.below HT.out (zB)); (case side2 => exact zC (Kd.C_below HR352_0.out HB.out)); (case side3 => exact HC352_0.out); rintro e w18 ⟨rfl, hb⟩; have n0_ := Aside0.mk (below_step (zB) hb); clear HB; have HB := n0_; clear n0_; (try clear hb); (try clear hb2); (try clear hk); (try clear hi))))
       go_ret
       exact ⟨zV, zB⟩
     ·rw [if_neg c6] at H
      exact absurd H (by simp)
    ·rw [if_neg c5] at H
     have c5b0 : decide (x7_1 < (l0.length : Int)) = false := decide_eq_false c5
     clear c5
     obtain rfl := Option.some.inj H
     go_wp2
     repeat (go_quiet (fail); try go_wp2)
     go_ret
     exact ⟨zV, zB⟩
 ·rw [if_neg c4] at H
  have c4b0 : ((l0.length : Int) == (l1.length : Int)) = false := beq_eq_false_iff_ne.mpr c4
  have c4b1 : ((l0.length : Int) != (l1.length : Int)) = true := bne_iff_ne.mpr c4
  have c4b2 : (l0.length == l1.length) = false := by first | simpa using c4 | (simp at c4 ⊢; omega)
  obtain rfl := Option.some.inj H
  go_enter Tryd.func14, Tryd.ntmps14
  go_wp2
  repeat (go_quiet (fail); try go_wp2)
  go_ret
  exact ⟨zV, zB⟩
end Go.Proofs.YtanpghbakbebiaaDoor.P
namespace Go.Proofs.YtanpghbakbebiaaDoor.P
open Go.RowKit Go.Proofs.YtanpghbakbebiaaDoorW.PrintWords Go.Proofs.YtanpghbakbebiaaDoorW.PrintLast Go.Proofs.YtanpghbakbebiaaDoorW.PrintMore
attribute [local go_sem] max2_int min2_int max_two min_two max_three min_three max_four min_four   
set_option linter.unusedVariables false
set_option linter.unusedSimpArgs false
end Go.Proofs.YtanpghbakbebiaaDoor.P

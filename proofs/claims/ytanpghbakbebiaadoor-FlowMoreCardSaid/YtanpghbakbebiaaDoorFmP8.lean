/- A part of it. -/
import Derived.Test.YtanpghbakbebiaaDoorFmZ
import Derived.Test.YtanpghbakbebiaaDoorFmP0
import Derived.Test.YtanpghbakbebiaaDoorFmP2
import Derived.Test.YtanpghbakbebiaaDoorFmP7
namespace Go.Proofs.YtanpghbakbebiaaDoor.P
open Go.RowKit Go.Proofs.YtanpghbakbebiaaDoorW.PrintWords Go.Proofs.YtanpghbakbebiaaDoorW.PrintLast Go.Proofs.YtanpghbakbebiaaDoorW.PrintMore
attribute [local go_sem] max2_int min2_int max_two min_two max_three min_three max_four min_four   
set_option linter.unusedVariables false
set_option linter.unusedSimpArgs false
set_option maxHeartbeats 1000000 in
set_option maxRecDepth 100000 in
theorem bits_at_out (A0 : Option Addr) (c0 n : Nat) (a1 : Int) (w : World) (hm : a1 ≤ 9223372036854775807) (h : ¬ (0 ≤ a1 ∧ a1 / 64 < (n : Int))) :
  Calls Tryd.prog 45 #[.slice A0 n c0, .int .i64 a1] w fun e w' => e = .returned (.tuple #[.pointer none, .int .u64 0, .bool false]) ∧ w = w' := by
 by_cases h1 : 0 ≤ a1
 ·have t1 : decide (a1 < 0) = false := decide_eq_false (by omega)
  have t2 : decide ((n : Int) ≤ a1 / 64) = true := decide_eq_true (by omega)
  clear h
  go_enter Tryd.func45, Tryd.ntmps45
  go_wp2
  go_ret3
  exact ⟨rfl, rfl⟩
 ·have t1 : decide (a1 < 0) = true := decide_eq_true (by omega)
  clear h
  go_enter Tryd.func45, Tryd.ntmps45
  go_wp2
  go_ret3
  exact ⟨rfl, rfl⟩
set_option maxHeartbeats 1000000 in
set_option maxRecDepth 100000 in
theorem bits_at_in (ad : Addr) (c0 n : Nat) (a1 : Int) (w : World) (hm : a1 ≤ 9223372036854775807) (h1 : 0 ≤ a1) (h2 : a1 / 64 < (n : Int)) :
  Calls Tryd.prog 45 #[.slice (some ad) n c0, .int .i64 a1] w fun e w' => e = .returned (.tuple #[.pointer (some (ad.add (a1 / 64).toNat)), .int .u64 (shl .u64 1 (a1 % 64)), .bool true]) ∧ Drawn0 w w' := by
 have t1 : decide (a1 < 0) = false := decide_eq_false (by omega)
 have t2 : decide ((n : Int) ≤ a1 / 64) = false := decide_eq_false (by omega)
 have p : 0 ≤ a1 / 64 := by omega
 have p2 : 0 ≤ a1 % 64 := by omega
 have p3 : a1 % 64 < 64 := by omega
 have e1 : ∀ m : Nat, m < 64 → IntKind.u64.wrap (2 ^ m) = shl .u64 1 m := by
  intro m hm2
  unfold shl
  rw [Int.one_mul, Int.toNat_natCast, Nat.min_eq_left (by show m ≤ 64; omega)]
 have E1 := Lib.hid e1; clear e1
 go_enter Tryd.func45, Tryd.ntmps45
 go_wp2
 repeat (go_quiet (fail); try go_wp2)
 go_ret3
 refine ⟨?_, zD⟩
 have e2 := E1.out (a1 % 64).toNat (by omega)
 rw [Int.toNat_of_nonneg p2] at e2
 rw [← e2]
 rfl
def bits_Set_Put.f (l0 : List Int) (a1 : Int) : Option (Bool × List Int) := if a1 ≤ 9223372036854775807 then (if 0 ≤ a1 ∧ a1 / 64 < (l0.length : Int) then (if Go.bits .and .u64 (rd l0 (a1 / 64)) (shl .u64 1 (a1 % 64)) = 0 then some (true, l0.set (a1 / 64).toNat (Go.bits .or .u64 (rd l0 (a1 / 64)) (shl .u64 1 (a1 % 64)))) else some (false, l0)) else some (false, l0)) else none
set_option maxHeartbeats 1000000 in
set_option maxRecDepth 100000 in
theorem bits_Set_Put.calls (P0_ : Nat → Prop) (u9000_ : Value) (l0 : List Int) (a1 : Int) (r1 : Bool) (r2 : List Int) (w0 w : World) (hB : Below w0.heap.size w0 w) (ho0 : Kd.R (Kd.int .u64) 72 w w0.heap.size P0_ u9000_ l0) (h : bits_Set_Put.f l0 a1 = some (r1, r2)) :
  Calls Tryd.prog 37 #[u9000_, .int .i64 a1] w fun e w' => e = .returned (.bool r1) ∧ Kd.R (Kd.int .u64) 72 w' w0.heap.size (fun k_ => (P0_ k_ ∨ w.heap.size ≤ k_)) u9000_ r2 ∧ Below w0.heap.size w0 w' ∧ Kept w w' (fun k_ => P0_ k_) := by
 have HO := Aside0.mk (show Kd.R (Kd.int .u64) 72 w w0.heap.size (fun k_ => (P0_ k_ ∨ w.heap.size ≤ k_)) u9000_ l0 from Kd.R_mono ho0 (fun k_ hk => (.inl hk)))
 have HP := Aside0.mk ho0
 have HB := Aside0.mk hB
 clear ho0 hB
 unfold bits_Set_Put.f at h
 by_cases hm : a1 ≤ 9223372036854775807
 ·rw [if_pos hm] at h
  by_cases h1 : 0 ≤ a1 ∧ a1 / 64 < (l0.length : Int)
  ·rw [if_pos h1] at h
   obtain ⟨h1, h2⟩ := h1
   have p : 0 ≤ a1 / 64 := by omega
   obtain ⟨g, c, e, gb, gl, cl, hg⟩ := Kd.R_form HO.out (by omega)
   subst e
   obtain ⟨hx, hf⟩ := Kd.R_celln 0 HO.out (a1 / 64) p h2
   replace hx : w.cell? ⟨g, (a1 / 64).toNat, none⟩ = some (.int .u64 (rd l0 (a1 / 64))) := hx
   have GB := Aside0.mk gb
   have HM := Aside0.mk (show P0_ g from HP.out.1 _ rfl)
   clear gb gl cl hg
   by_cases h3 : Go.bits .and .u64 (rd l0 (a1 / 64)) (shl .u64 1 (a1 % 64)) = 0
   ·rw [if_pos h3] at h
    have hi := Option.some.inj h
    injection hi with hi1 hi2
    subst hi1 hi2
    clear h
    have t3 : (Go.bits .and .u64 (rd l0 (a1 / 64)) (shl .u64 1 (a1 % 64)) != 0) = false := bne_eq_false_iff_eq.mpr h3
    have t4 : (Go.bits .and .u64 (rd l0 (a1 / 64)) (shl .u64 1 (a1 % 64)) == 0) = true := beq_iff_eq.mpr h3
    clear h3
    go_enter Tryd.func37, Tryd.ntmps37
    go_wp2_with (go_at_call 45; refine (bits_at_in ⟨g, 0, none⟩ c l0.length a1 _ hm h1 h2).mono ?_; rw [add_plain]; rintro e w' ⟨rfl, ⟨n, rfl⟩⟩)
    go_ret
    exact ⟨rfl, Kd.R_putn (Kd.R_drewN HO.out _) _ _, below_set (pw_below_drewN HB.out _) GB.out, Kept.setCell (Kept.drewN (Kept.refl _ _) _) (.inl HM.out) _⟩
   ·rw [if_neg h3] at h
    have hi := Option.some.inj h
    injection hi with hi1 hi2
    subst hi1 hi2
    clear h
    have t3 : (Go.bits .and .u64 (rd l0 (a1 / 64)) (shl .u64 1 (a1 % 64)) != 0) = true := bne_iff_ne.mpr h3
    have t4 : (Go.bits .and .u64 (rd l0 (a1 / 64)) (shl .u64 1 (a1 % 64)) == 0) = false := beq_eq_false_iff_ne.mpr h3
    clear h3
    go_enter Tryd.func37, Tryd.ntmps37
    go_wp2_with (go_at_call 45; refine (bits_at_in ⟨g, 0, none⟩ c l0.length a1 _ hm h1 h2).mono ?_; rw [add_plain]; rintro e w' ⟨rfl, ⟨n, rfl⟩⟩)
    go_ret
    exact ⟨rfl, Kd.R_drewN HO.out _, pw_below_drewN HB.out _, Kept.drewN (Kept.refl _ _) _⟩
  ·rw [if_neg h1] at h
   have hi := Option.some.inj h
   injection hi with hi1 hi2
   subst hi1 hi2
   clear h
   have H1 := Lib.hid h1
   clear h1
   obtain ⟨A, c, e⟩ := Kd.R_slice HO.out
   subst e
   go_enter Tryd.func37, Tryd.ntmps37
   go_wp2_with (go_at_call 45; refine (bits_at_out A c l0.length a1 _ hm H1.out).mono ?_; rintro e w' ⟨rfl, rfl⟩)
   go_ret
   exact ⟨rfl, HO.out, HB.out, Kept.refl _ _⟩
 ·rw [if_neg hm] at h
  cases h
def bits_Of.l0 : Nat → Int → List Int → List Int → Int → Int → Option (List Int)
 | 0, _, _, _, _, _ => none
 | k + 1, x0, x5, x10, x11, x12 => if x12 < x11 then (if 0 ≤ x12 then (if x12 < (x10.length : Int) then (if (rd x10 x12) < x0 then ((bits_Set_Put.f x5 (rd x10 x12)).bind fun bt187 => (bits_Of.l0 k x0 bt187.2 x10 x11 (wrap64 (x12 + 1)))) else (bits_Of.l0 k x0 x5 x10 x11 (wrap64 (x12 + 1)))) else (none)) else (none)) else (some x5)
def bits_Of.f (k : Nat) (a0 : Int) (l1 : List Int) : Option (List Int) := (bits_New.f a0).bind fun t183 => (bits_Of.l0 k a0 t183 l1 (l1.length : Int) 0)
theorem bits_Of.mono_l : ∀ k, (∀ y0 y1 y2 y3 y4, LeO (bits_Of.l0 k y0 y1 y2 y3 y4) (bits_Of.l0 (k + 1) y0 y1 y2 y3 y4))
 | 0 => fun _ _ _ _ _ r h => by simp [bits_Of.l0] at h
 | k + 1 => by
  have ih0 := bits_Of.mono_l k
  ·intro y0 y1 y2 y3 y4
   unfold bits_Of.l0
   repeat' first
   | (with_reducible exact ih0 _ _ _ _ _)
   | (with_reducible exact LeO.refl _)
   | (with_reducible exact LeO.none _)
   | (with_reducible refine LeO.ite ?_ ?_)
   | (with_reducible refine LeO.bind ?_ (fun _ => ?_))
   | exact ih0 _ _ _ _ _
   | exact LeO.none _
   | refine LeO.ite ?_ ?_
   | refine LeO.bind ?_ (fun _ => ?_)
theorem bits_Of.mono : ∀ a0 a1 k, LeO (bits_Of.f k a0 a1) (bits_Of.f (k + 1) a0 a1) := by
 intro a0 a1 k
 have ih0 := bits_Of.mono_l k
 unfold bits_Of.f
 repeat' first
   | (with_reducible exact ih0 _ _ _ _ _)
   | (with_reducible exact LeO.refl _)
   | (with_reducible exact LeO.none _)
   | (with_reducible refine LeO.ite ?_ ?_)
   | (with_reducible refine LeO.bind ?_ (fun _ => ?_))
   | exact ih0 _ _ _ _ _
   | exact LeO.none _
   | refine LeO.ite ?_ ?_
   | refine LeO.bind ?_ (fun _ => ?_)
set_option maxHeartbeats 8000000 in
set_option maxRecDepth 100000 in
theorem bits_Of.calls (k : Nat) (a0 : Int) (A1 : Option Addr) (c1 : Nat) (l1 : List Int) (r : List Int) (w : World) (hr1 : Kd.C (Kd.int .i64) w A1 l1.length l1) (hc1 : l1.length ≤ c1) (h : bits_Of.f k a0 l1 = some r) :
  Calls Tryd.prog 16 #[.int .i64 a0, .slice A1 l1.length c1] w fun e w' => ∃ v0_ : Value, e = .returned (v0_) ∧ Kd.R (Kd.int .u64) 72 w' w.heap.size (fun _ => True) v0_ r ∧ Below w.heap.size w w' := by
 have HR1 := Aside0.mk hr1
 have HC1 := Aside0.mk hc1
 clear hr1 hc1
 have HB := Aside0.mk (Below.refl w.heap.size w)
 have H : ((bits_New.f a0).bind fun t183 => (bits_Of.l0 k a0 t183 l1 (l1.length : Int) 0)) = some r := h
 clear h
 replace H := Option.bind_eq_some_iff.mp H
 obtain ⟨t183, A30, H⟩ := H
 replace H : (bits_Of.l0 k a0 t183 l1 (l1.length : Int) 0) = some r := H
 have A3 := Aside0.mk A30
 clear A30
 have H' := Aside0.mk H
 clear H
 go_enter Tryd.func16, Tryd.ntmps16
 go_wp2_with (first | ((with_reducible refine gate_callee (f := 22) rfl ?_); refine goesL_ (some 9) rfl rfl Tryd.func22 (by kernel_rfl) rfl #[.int .i64 a0] rfl zE ?_; (with_reducible refine (bits_New.calls a0 t183 _ A3.out).mono ?_); rintro e w4 ⟨v184, rfl, ho0, hb⟩; refine ⟨_, rfl, ?_⟩; have n0_ := Aside0.mk (Kd.R_lower ho0 (below_size (zB))); have n1_ := Aside0.mk (below_step (zB) hb); clear HB; have HO185 := n0_; have HB := n1_; clear n0_ n1_; (try clear hb); (try clear hb2); (try clear hk); (try clear hi); (try clear ho0)))
 go_loopg [12] k (fun kq v12 w' => ∃ (x5_1 : List Int) (x12_1 : Int), v12 = .int .i64 x12_1 ∧ Aside0 (bits_Of.l0 kq a0 x5_1 l1 (l1.length : Int) x12_1 = some r) ∧ Aside0 (kq ≤ k) ∧ Aside0 (Kd.R (Kd.int .u64) 72 w' w.heap.size (fun _ => True) v184 x5_1) ∧ Aside0 (Below w.heap.size w w'))
 case atStart => exact ⟨(t183), (0), zQ, H', ⟨Nat.le_refl _⟩, ⟨zR HO185.out⟩, ⟨zB⟩⟩
 case round =>
  clear H'
  (try clear c1); (try clear c2); (try clear p2)
  obtain ⟨x5_1, x12_1, rfl, HA, HK1, HO_5, HB⟩ := hrel
  cases gk with
  | zero => exact absurd HA.out (by simp [bits_Of.l0])
  | succ k1 =>
   have H := HA.out
   clear HA
   simp only [bits_Of.l0] at H
   by_cases c5 : x12_1 < (l1.length : Int)
   ·rw [if_pos c5] at H
    have c5b0 : decide (x12_1 < (l1.length : Int)) = true := decide_eq_true c5
    clear c5
    by_cases c6 : 0 ≤ x12_1
    ·rw [if_pos c6] at H
     have c6b0 : decide (0 ≤ x12_1) = true := decide_eq_true c6
     clear c6
     by_cases c7 : x12_1 < (l1.length : Int)
     ·rw [if_pos c7] at H
      have c7b0 : decide (x12_1 < (l1.length : Int)) = true := decide_eq_true c7
      clear c7
      by_cases c8 : (rd l1 x12_1) < a0
      ·rw [if_pos c8] at H
       have c8b0 : decide ((rd l1 x12_1) < a0) = true := decide_eq_true c8
       clear c8
       replace H := Option.bind_eq_some_iff.mp H
       obtain ⟨⟨t187, t188⟩, A90, H⟩ := H
       replace H : (bits_Of.l0 k1 a0 t188 l1 (l1.length : Int) (wrap64 (x12_1 + 1))) = some r := H
       have A9 := Aside0.mk A90
       clear A90
       have H' := Aside0.mk H
       clear H
       have p186 : 0 ≤ (x12_1 : Int) := zO
       have q186 : x12_1 < (l1.length : Int) := zO
       obtain ⟨ad186, e186, hx186_0⟩ := Kd.at_int HR1.out x12_1 p186 q186
       cases e186
       replace hx186_0 := pw_cell_below HB.out hx186_0
       replace p186 := eq_true p186
       replace q186 := eq_true q186
       obtain ⟨Ao10, co10, eo10⟩ := Kd.R_slice HO_5.out
       subst eo10
       go_wp2_with (first | ((with_reducible refine gate_callee (f := 37) rfl ?_); refine goesL_ (some 21) rfl rfl Tryd.func37 (by kernel_rfl) rfl #[.slice Ao10 x5_1.length co10, .int .i64 (rd l1 x12_1)] rfl zE ?_; (with_reducible refine (bits_Set_Put.calls (fun k_ => some k_ = (.slice Ao10 x5_1.length co10 : Value).ownBlock) (.slice Ao10 x5_1.length co10) x5_1 (rd l1 x12_1) t187 t188 w _ ?side1 ?side2 A9.out).mono ?_); (case side1 => repeat (first | (with_reducible first | exact HB.out | apply below_alloc | apply pw_below_drewN | apply below_drew1) | exact HB.out)); (case side2 => exact Kd.R_tight rfl HO_5.out); rintro e w11 ⟨rfl, hy0, hb, hkp⟩; refine ⟨_, rfl, ?_⟩; have n0_ := Aside0.mk (Kd.R_reok rfl hy0 (fun k_ e_ => HO_5.out.1 k_ e_)); have n1_ := Aside0.mk (hb); clear HO_5; clear HB; have HO_5 := n0_; have HB := n1_; clear n0_ n1_; (try clear hb); (try clear hkp); (try clear hy0)))
       go_roundg k1
       case measure => have := HK1.out; omega
       case rel => exact ⟨(t188), (wrap64 (x12_1 + 1)), zQ, H', ⟨by have := HK1.out; omega⟩, ⟨zR HO_5.out⟩, ⟨zB⟩⟩
      ·rw [if_neg c8] at H
       have c8b0 : decide ((rd l1 x12_1) < a0) = false := decide_eq_false c8
       clear c8
       have H' := Aside0.mk H
       clear H
       have p186 : 0 ≤ (x12_1 : Int) := zO
       have q186 : x12_1 < (l1.length : Int) := zO
       obtain ⟨ad186, e186, hx186_0⟩ := Kd.at_int HR1.out x12_1 p186 q186
       cases e186
       replace hx186_0 := pw_cell_below HB.out hx186_0
       replace p186 := eq_true p186
       replace q186 := eq_true q186
       go_wp2
       go_roundg k1
       case measure => have := HK1.out; omega
       case rel => exact ⟨(x5_1), (wrap64 (x12_1 + 1)), zQ, H', ⟨by have := HK1.out; omega⟩, ⟨zR HO_5.out⟩, ⟨zB⟩⟩
     ·rw [if_neg c7] at H
      exact absurd H (by simp)
    ·rw [if_neg c6] at H
     exact absurd H (by simp)
   ·rw [if_neg c5] at H
    have c5b0 : decide (x12_1 < (l1.length : Int)) = false := decide_eq_false c5
    clear c5
    obtain rfl := Option.some.inj H
    go_wp2
    go_ret
    exact ⟨_, zV, zR HO_5.out, zB⟩
def balustradebase_SameInts.l0 : Nat → List Int → List Int → Int → Option (Bool)
 | 0, _, _, _ => none
 | k + 1, x0, x1, x5 => if x5 < (x0.length : Int) then (if 0 ≤ x5 then (if x5 < (x1.length : Int) then (if (rd x0 x5) = (rd x1 x5) then (balustradebase_SameInts.l0 k x0 x1 (wrap64 (x5 + 1))) else (some false)) else (none)) else (none)) else (some true)
def balustradebase_SameInts.f (k : Nat) (l0 : List Int) (l1 : List Int) : Option (Bool) := if (l0.length : Int) = (l1.length : Int) then (balustradebase_SameInts.l0 k l0 l1 0) else (some false)
theorem balustradebase_SameInts.mono_l : ∀ k, (∀ y0 y1 y2, LeO (balustradebase_SameInts.l0 k y0 y1 y2) (balustradebase_SameInts.l0 (k + 1) y0 y1 y2))
 | 0 => fun _ _ _ r h => by simp [balustradebase_SameInts.l0] at h
 | k + 1 => by
  have ih0 := balustradebase_SameInts.mono_l k
  ·intro y0 y1 y2
   unfold balustradebase_SameInts.l0
   repeat' first
   | (with_reducible exact ih0 _ _ _)
   | (with_reducible exact LeO.refl _)
   | (with_reducible exact LeO.none _)
   | (with_reducible refine LeO.ite ?_ ?_)
   | (with_reducible refine LeO.bind ?_ (fun _ => ?_))
   | exact ih0 _ _ _
   | exact LeO.none _
   | refine LeO.ite ?_ ?_
   | refine LeO.bind ?_ (fun _ => ?_)
theorem balustradebase_SameInts.mono : ∀ a0 a1 k, LeO (balustradebase_SameInts.f k a0 a1) (balustradebase_SameInts.f (k + 1) a0 a1) := by
 intro a0 a1 k
 have ih0 := balustradebase_SameInts.mono_l k
 unfold balustradebase_SameInts.f
 repeat' first
   | (with_reducible exact ih0 _ _ _)
   | (with_reducible exact LeO.refl _)
   | (with_reducible exact LeO.none _)
   | (with_reducible refine LeO.ite ?_ ?_)
   | (with_reducible refine LeO.bind ?_ (fun _ => ?_))
   | exact ih0 _ _ _
   | exact LeO.none _
   | refine LeO.ite ?_ ?_
   | refine LeO.bind ?_ (fun _ => ?_)
set_option maxHeartbeats 8000000 in
set_option maxRecDepth 100000 in
theorem balustradebase_SameInts.calls (k : Nat) (A0 : Option Addr) (c0 : Nat) (l0 : List Int) (A1 : Option Addr) (c1 : Nat) (l1 : List Int) (r : Bool) (w : World) (hr0 : Kd.C (Kd.int .i64) w A0 l0.length l0) (hc0 : l0.length ≤ c0) (hr1 : Kd.C (Kd.int .i64) w A1 l1.length l1) (hc1 : l1.length ≤ c1) (h : balustradebase_SameInts.f k l0 l1 = some r) :
  Calls Tryd.prog 23 #[.slice A0 l0.length c0, .slice A1 l1.length c1] w fun e w' => e = .returned (.bool r) ∧ Drawn0 w w' := by
 have HR0 := Aside0.mk hr0
 have HC0 := Aside0.mk hc0
 clear hr0 hc0
 have HR1 := Aside0.mk hr1
 have HC1 := Aside0.mk hc1
 clear hr1 hc1
 have H : (if (l0.length : Int) = (l1.length : Int) then (balustradebase_SameInts.l0 k l0 l1 0) else (some false)) = some r := h
 clear h
 by_cases c3 : (l0.length : Int) = (l1.length : Int)
 ·rw [if_pos c3] at H
  have c3b0 : ((l0.length : Int) == (l1.length : Int)) = true := beq_iff_eq.mpr c3
  have c3b1 : ((l0.length : Int) != (l1.length : Int)) = false := bne_eq_false_iff_eq.mpr c3
  have c3b2 : (l0.length == l1.length) = true := by first | simpa using c3 | (simp at c3 ⊢; omega)
  clear c3
  have H' := Aside0.mk H
  clear H
  go_enter Tryd.func23, Tryd.ntmps23
  go_wp2
  repeat (go_quiet (fail); try go_wp2)
  go_loopg [5] k (fun kq v5 w' => ∃ (x5_1 : Int), v5 = .int .i64 x5_1 ∧ Aside0 (balustradebase_SameInts.l0 kq l0 l1 x5_1 = some r) ∧ Aside0 (kq ≤ k) ∧ Drawn0 w w')
  case atStart => exact ⟨(0), zQ, H', ⟨Nat.le_refl _⟩, zD⟩
  case round =>
   clear H'
   (try clear c1); (try clear c2); (try clear p2); (try clear c3); (try clear c3b0); (try clear c3b1); (try clear c3b2)
   obtain ⟨x5_1, rfl, HA, HK1, ⟨m1, rfl⟩⟩ := hrel
   cases gk with
   | zero => exact absurd HA.out (by simp [balustradebase_SameInts.l0])
   | succ k1 =>
    have H := HA.out
    clear HA
    simp only [balustradebase_SameInts.l0] at H
    by_cases c4 : x5_1 < (l0.length : Int)
    ·rw [if_pos c4] at H
     have c4b0 : decide (x5_1 < (l0.length : Int)) = true := decide_eq_true c4
     clear c4
     by_cases c5 : 0 ≤ x5_1
     ·rw [if_pos c5] at H
      have c5b0 : decide (0 ≤ x5_1) = true := decide_eq_true c5
      clear c5
      by_cases c6 : x5_1 < (l1.length : Int)
      ·rw [if_pos c6] at H
       have c6b0 : decide (x5_1 < (l1.length : Int)) = true := decide_eq_true c6
       clear c6
       by_cases c7 : (rd l0 x5_1) = (rd l1 x5_1)
       ·rw [if_pos c7] at H
        have c7b0 : ((rd l0 x5_1) == (rd l1 x5_1)) = true := beq_iff_eq.mpr c7
        have c7b1 : ((rd l0 x5_1) != (rd l1 x5_1)) = false := bne_eq_false_iff_eq.mpr c7
        clear c7
        have H' := Aside0.mk H
        clear H
        have p189 : 0 ≤ (x5_1 : Int) := zO
        have q189 : x5_1 < (l0.length : Int) := zO
        obtain ⟨ad189, e189, hx189_0⟩ := Kd.at_int HR0.out x5_1 p189 q189
        cases e189
        replace p189 := eq_true p189
        replace q189 := eq_true q189
        have p190 : 0 ≤ (x5_1 : Int) := zO
        have q190 : x5_1 < (l1.length : Int) := zO
        obtain ⟨ad190, e190, hx190_0⟩ := Kd.at_int HR1.out x5_1 p190 q190
        cases e190
        replace p190 := eq_true p190
        replace q190 := eq_true q190
        go_wp2
        repeat (go_quiet (fail); try go_wp2)
        go_roundg k1
        case measure => have := HK1.out; omega
        case rel => exact ⟨(wrap64 (x5_1 + 1)), zQ, H', ⟨by have := HK1.out; omega⟩, zD⟩
       ·rw [if_neg c7] at H
        have c7b0 : ((rd l0 x5_1) == (rd l1 x5_1)) = false := beq_eq_false_iff_ne.mpr c7
        have c7b1 : ((rd l0 x5_1) != (rd l1 x5_1)) = true := bne_iff_ne.mpr c7
        obtain rfl := Option.some.inj H
        have p189 : 0 ≤ (x5_1 : Int) := zO
        have q189 : x5_1 < (l0.length : Int) := zO
        obtain ⟨ad189, e189, hx189_0⟩ := Kd.at_int HR0.out x5_1 p189 q189
        cases e189
        replace p189 := eq_true p189
        replace q189 := eq_true q189
        have p190 : 0 ≤ (x5_1 : Int) := zO
        have q190 : x5_1 < (l1.length : Int) := zO
        obtain ⟨ad190, e190, hx190_0⟩ := Kd.at_int HR1.out x5_1 p190 q190
        cases e190
        replace p190 := eq_true p190
        replace q190 := eq_true q190
        go_wp2
        repeat (go_quiet (fail); try go_wp2)
        go_ret
        exact ⟨zQ, zD⟩
      ·rw [if_neg c6] at H
       exact absurd H (by simp)
     ·rw [if_neg c5] at H
      exact absurd H (by simp)
    ·rw [if_neg c4] at H
     have c4b0 : decide (x5_1 < (l0.length : Int)) = false := decide_eq_false c4
     clear c4
     obtain rfl := Option.some.inj H
     go_wp2
     repeat (go_quiet (fail); try go_wp2)
     go_ret
     exact ⟨zQ, zD⟩
 ·rw [if_neg c3] at H
  have c3b0 : ((l0.length : Int) == (l1.length : Int)) = false := beq_eq_false_iff_ne.mpr c3
  have c3b1 : ((l0.length : Int) != (l1.length : Int)) = true := bne_iff_ne.mpr c3
  have c3b2 : (l0.length == l1.length) = false := by first | simpa using c3 | (simp at c3 ⊢; omega)
  obtain rfl := Option.some.inj H
  go_enter Tryd.func23, Tryd.ntmps23
  go_wp2
  repeat (go_quiet (fail); try go_wp2)
  go_ret
  exact ⟨zQ, zD⟩
def balustradelaw18_works.f (k : Nat)  : Option (Bool) := (bits_Of.f k 4 (([3] : List Int))).bind fun t194 => ((bits_New.f 4).bind fun t197 => ((bits_New.f 4).bind fun t203 => ((bits_New.f 4).bind fun t206 => ((bits_New.f 4).bind fun t221 => ((flow_Solve.f k (([(([1] : List Int)), (([1] : List Int))] : List (List Int))) false false 4 (([t194, t197] : List (List Int))) (([t203, t206] : List (List Int))) t221).bind fun bt224 => (if bt224.2.2 = true then (if (bt224.1.length : Int) = 2 then (if 1 < (bt224.1.length : Int) then ((bits_Set_List.f k (rd_L3 bt224.1 1)).bind fun t233 => ((balustradebase_SameInts.f k t233 (([3] : List Int))).bind fun t239 => (some t239))) else (none)) else (some false)) else (some false)))))))
theorem balustradelaw18_works.mono : ∀ k, LeO (balustradelaw18_works.f k ) (balustradelaw18_works.f (k + 1) ) := by
 intro  k
 unfold balustradelaw18_works.f
 repeat' first
   | (with_reducible exact balustradebase_SameInts.mono _ _ _)
   | (with_reducible exact bits_Of.mono _ _ _)
   | (with_reducible exact bits_Set_List.mono _ _)
   | (with_reducible exact flow_Solve.mono _ _ _ _ _ _ _ _)
   | (with_reducible exact LeO.refl _)
   | (with_reducible exact LeO.none _)
   | (with_reducible refine LeO.ite ?_ ?_)
   | (with_reducible refine LeO.bind ?_ (fun _ => ?_))
   | exact balustradebase_SameInts.mono _ _ _
   | exact bits_Of.mono _ _ _
   | exact bits_Set_List.mono _ _
   | exact flow_Solve.mono _ _ _ _ _ _ _ _
   | exact LeO.none _
   | refine LeO.ite ?_ ?_
   | refine LeO.bind ?_ (fun _ => ?_)
set_option maxHeartbeats 8000000 in
set_option maxRecDepth 100000 in
theorem balustradelaw18_works.calls (k : Nat)  (r : Bool) (w : World) (hT : TabW w) (h : balustradelaw18_works.f k  = some r) :
  Calls Tryd.prog 7 #[] w fun e w' => e = .returned (.bool r) ∧ Below w.heap.size w w' := by
 have hu32 := Tryd.underlying32
 have hu36 := Tryd.underlying36
 have HT := Aside0.mk hT
 clear hT
 have HB := Aside0.mk (Below.refl w.heap.size w)
 have H : ((bits_Of.f k 4 (([3] : List Int))).bind fun t194 => ((bits_New.f 4).bind fun t197 => ((bits_New.f 4).bind fun t203 => ((bits_New.f 4).bind fun t206 => ((bits_New.f 4).bind fun t221 => ((flow_Solve.f k (([(([1] : List Int)), (([1] : List Int))] : List (List Int))) false false 4 (([t194, t197] : List (List Int))) (([t203, t206] : List (List Int))) t221).bind fun bt224 => (if bt224.2.2 = true then (if (bt224.1.length : Int) = 2 then (if 1 < (bt224.1.length : Int) then ((bits_Set_List.f k (rd_L3 bt224.1 1)).bind fun t233 => ((balustradebase_SameInts.f k t233 (([3] : List Int))).bind fun t239 => (some t239))) else (none)) else (some false)) else (some false)))))))) = some r := h
 clear h
 obtain ⟨y191, hy191⟩ : ∃ y_ : List Int, y_ = (([3] : List Int)) := ⟨_, rfl⟩
 replace H : ((bits_Of.f k 4 y191).bind fun t194 => ((bits_New.f 4).bind fun t197 => ((bits_New.f 4).bind fun t203 => ((bits_New.f 4).bind fun t206 => ((bits_New.f 4).bind fun t221 => ((flow_Solve.f k (([(([1] : List Int)), (([1] : List Int))] : List (List Int))) false false 4 (([t194, t197] : List (List Int))) (([t203, t206] : List (List Int))) t221).bind fun bt224 => (if bt224.2.2 = true then (if (bt224.1.length : Int) = 2 then (if 1 < (bt224.1.length : Int) then ((bits_Set_List.f k (rd_L3 bt224.1 1)).bind fun t233 => ((balustradebase_SameInts.f k t233 (([3] : List Int))).bind fun t239 => (some t239))) else (none)) else (some false)) else (some false)))))))) = some r := by first | (rw [hy191]; with_reducible exact H) | (have H2_ := (Option.bind_some _ _).symm.trans H; rw [hy191]; with_reducible exact H2_) | (have H2_ := (Option.bind_some _ _).symm.trans H; with_reducible exact H2_) | with_reducible exact H | (rw [hy191]; exact H) | exact H
 have Ny191 := Aside0.mk hy191
 clear hy191
 replace H := Option.bind_eq_some_iff.mp H
 obtain ⟨t194, A10, H⟩ := H
 replace H : ((bits_New.f 4).bind fun t197 => ((bits_New.f 4).bind fun t203 => ((bits_New.f 4).bind fun t206 => ((bits_New.f 4).bind fun t221 => ((flow_Solve.f k (([(([1] : List Int)), (([1] : List Int))] : List (List Int))) false false 4 (([t194, t197] : List (List Int))) (([t203, t206] : List (List Int))) t221).bind fun bt224 => (if bt224.2.2 = true then (if (bt224.1.length : Int) = 2 then (if 1 < (bt224.1.length : Int) then ((bits_Set_List.f k (rd_L3 bt224.1 1)).bind fun t233 => ((balustradebase_SameInts.f k t233 (([3] : List Int))).bind fun t239 => (some t239))) else (none)) else (some false)) else (some false))))))) = some r := H
 have A1 := Aside0.mk A10
 clear A10
 replace H := Option.bind_eq_some_iff.mp H
 obtain ⟨t197, A20, H⟩ := H
 replace H : ((bits_New.f 4).bind fun t203 => ((bits_New.f 4).bind fun t206 => ((bits_New.f 4).bind fun t221 => ((flow_Solve.f k (([(([1] : List Int)), (([1] : List Int))] : List (List Int))) false false 4 (([t194, t197] : List (List Int))) (([t203, t206] : List (List Int))) t221).bind fun bt224 => (if bt224.2.2 = true then (if (bt224.1.length : Int) = 2 then (if 1 < (bt224.1.length : Int) then ((bits_Set_List.f k (rd_L3 bt224.1 1)).bind fun t233 => ((balustradebase_SameInts.f k t233 (([3] : List Int))).bind fun t239 => (some t239))) else (none)) else (some false)) else (some false)))))) = some r := H
 have A2 := Aside0.mk A20
 clear A20
 obtain ⟨y200, hy200⟩ : ∃ y_ : List (List Int), y_ = (([t194, t197] : List (List Int))) := ⟨_, rfl⟩
 replace H : ((bits_New.f 4).bind fun t203 => ((bits_New.f 4).bind fun t206 => ((bits_New.f 4).bind fun t221 => ((flow_Solve.f k (([(([1] : List Int)), (([1] : List Int))] : List (List Int))) false false 4 y200 (([t203, t206] : List (List Int))) t221).bind fun bt224 => (if bt224.2.2 = true then (if (bt224.1.length : Int) = 2 then (if 1 < (bt224.1.length : Int) then ((bits_Set_List.f k (rd_L3 bt224.1 1)).bind fun t233 => ((balustradebase_SameInts.f k t233 (([3] : List Int))).bind fun t239 => (some t239))) else (none)) else (some false)) else (some false)))))) = some r := by first | (rw [hy200]; with_reducible exact H) | (have H2_ := (Option.bind_some _ _).symm.trans H; rw [hy200]; with_reducible exact H2_) | (have H2_ := (Option.bind_some _ _).symm.trans H; with_reducible exact H2_) | with_reducible exact H | (rw [hy200]; exact H) | exact H
 have Ny200 := Aside0.mk hy200
 clear hy200
 replace H := Option.bind_eq_some_iff.mp H
 obtain ⟨t203, A30, H⟩ := H
 replace H : ((bits_New.f 4).bind fun t206 => ((bits_New.f 4).bind fun t221 => ((flow_Solve.f k (([(([1] : List Int)), (([1] : List Int))] : List (List Int))) false false 4 y200 (([t203, t206] : List (List Int))) t221).bind fun bt224 => (if bt224.2.2 = true then (if (bt224.1.length : Int) = 2 then (if 1 < (bt224.1.length : Int) then ((bits_Set_List.f k (rd_L3 bt224.1 1)).bind fun t233 => ((balustradebase_SameInts.f k t233 (([3] : List Int))).bind fun t239 => (some t239))) else (none)) else (some false)) else (some false))))) = some r := H
 have A3 := Aside0.mk A30
 clear A30
 replace H := Option.bind_eq_some_iff.mp H
 obtain ⟨t206, A40, H⟩ := H
 replace H : ((bits_New.f 4).bind fun t221 => ((flow_Solve.f k (([(([1] : List Int)), (([1] : List Int))] : List (List Int))) false false 4 y200 (([t203, t206] : List (List Int))) t221).bind fun bt224 => (if bt224.2.2 = true then (if (bt224.1.length : Int) = 2 then (if 1 < (bt224.1.length : Int) then ((bits_Set_List.f k (rd_L3 bt224.1 1)).bind fun t233 => ((balustradebase_SameInts.f k t233 (([3] : List Int))).bind fun t239 => (some t239))) else (none)) else (some false)) else (some false)))) = some r := H
 have A4 := Aside0.mk A40
 clear A40
 obtain ⟨y209, hy209⟩ : ∃ y_ : List (List Int), y_ = (([t203, t206] : List (List Int))) := ⟨_, rfl⟩
 replace H : ((bits_New.f 4).bind fun t221 => ((flow_Solve.f k (([(([1] : List Int)), (([1] : List Int))] : List (List Int))) false false 4 y200 y209 t221).bind fun bt224 => (if bt224.2.2 = true then (if (bt224.1.length : Int) = 2 then (if 1 < (bt224.1.length : Int) then ((bits_Set_List.f k (rd_L3 bt224.1 1)).bind fun t233 => ((balustradebase_SameInts.f k t233 (([3] : List Int))).bind fun t239 => (some t239))) else (none)) else (some false)) else (some false)))) = some r := by first | (rw [hy209]; with_reducible exact H) | (have H2_ := (Option.bind_some _ _).symm.trans H; rw [hy209]; with_reducible exact H2_) | (have H2_ := (Option.bind_some _ _).symm.trans H; with_reducible exact H2_) | with_reducible exact H | (rw [hy209]; exact H) | exact H
 have Ny209 := Aside0.mk hy209
 clear hy209
 obtain ⟨y212, hy212⟩ : ∃ y_ : List Int, y_ = (([1] : List Int)) := ⟨_, rfl⟩
 replace H : ((bits_New.f 4).bind fun t221 => ((flow_Solve.f k (([y212, (([1] : List Int))] : List (List Int))) false false 4 y200 y209 t221).bind fun bt224 => (if bt224.2.2 = true then (if (bt224.1.length : Int) = 2 then (if 1 < (bt224.1.length : Int) then ((bits_Set_List.f k (rd_L3 bt224.1 1)).bind fun t233 => ((balustradebase_SameInts.f k t233 (([3] : List Int))).bind fun t239 => (some t239))) else (none)) else (some false)) else (some false)))) = some r := by first | (rw [hy212]; with_reducible exact H) | (have H2_ := (Option.bind_some _ _).symm.trans H; rw [hy212]; with_reducible exact H2_) | (have H2_ := (Option.bind_some _ _).symm.trans H; with_reducible exact H2_) | with_reducible exact H | (rw [hy212]; exact H) | exact H
 have Ny212 := Aside0.mk hy212
 clear hy212
 obtain ⟨y215, hy215⟩ : ∃ y_ : List Int, y_ = (([1] : List Int)) := ⟨_, rfl⟩
 replace H : ((bits_New.f 4).bind fun t221 => ((flow_Solve.f k (([y212, y215] : List (List Int))) false false 4 y200 y209 t221).bind fun bt224 => (if bt224.2.2 = true then (if (bt224.1.length : Int) = 2 then (if 1 < (bt224.1.length : Int) then ((bits_Set_List.f k (rd_L3 bt224.1 1)).bind fun t233 => ((balustradebase_SameInts.f k t233 (([3] : List Int))).bind fun t239 => (some t239))) else (none)) else (some false)) else (some false)))) = some r := by first | (rw [hy215]; with_reducible exact H) | (have H2_ := (Option.bind_some _ _).symm.trans H; rw [hy215]; with_reducible exact H2_) | (have H2_ := (Option.bind_some _ _).symm.trans H; with_reducible exact H2_) | with_reducible exact H | (rw [hy215]; exact H) | exact H
 have Ny215 := Aside0.mk hy215
 clear hy215
 obtain ⟨y218, hy218⟩ : ∃ y_ : List (List Int), y_ = (([y212, y215] : List (List Int))) := ⟨_, rfl⟩
 replace H : ((bits_New.f 4).bind fun t221 => ((flow_Solve.f k y218 false false 4 y200 y209 t221).bind fun bt224 => (if bt224.2.2 = true then (if (bt224.1.length : Int) = 2 then (if 1 < (bt224.1.length : Int) then ((bits_Set_List.f k (rd_L3 bt224.1 1)).bind fun t233 => ((balustradebase_SameInts.f k t233 (([3] : List Int))).bind fun t239 => (some t239))) else (none)) else (some false)) else (some false)))) = some r := by first | (rw [hy218]; with_reducible exact H) | (have H2_ := (Option.bind_some _ _).symm.trans H; rw [hy218]; with_reducible exact H2_) | (have H2_ := (Option.bind_some _ _).symm.trans H; with_reducible exact H2_) | with_reducible exact H | (rw [hy218]; exact H) | exact H
 have Ny218 := Aside0.mk hy218
 clear hy218
 replace H := Option.bind_eq_some_iff.mp H
 obtain ⟨t221, A50, H⟩ := H
 replace H : ((flow_Solve.f k y218 false false 4 y200 y209 t221).bind fun bt224 => (if bt224.2.2 = true then (if (bt224.1.length : Int) = 2 then (if 1 < (bt224.1.length : Int) then ((bits_Set_List.f k (rd_L3 bt224.1 1)).bind fun t233 => ((balustradebase_SameInts.f k t233 (([3] : List Int))).bind fun t239 => (some t239))) else (none)) else (some false)) else (some false))) = some r := H
 have A5 := Aside0.mk A50
 clear A50
 replace H := Option.bind_eq_some_iff.mp H
 obtain ⟨⟨t224, t227, t230⟩, A60, H⟩ := H
 replace H : (if t230 = true then (if (t224.length : Int) = 2 then (if 1 < (t224.length : Int) then ((bits_Set_List.f k (rd_L3 t224 1)).bind fun t233 => ((balustradebase_SameInts.f k t233 (([3] : List Int))).bind fun t239 => (some t239))) else (none)) else (some false)) else (some false)) = some r := H
 have A6 := Aside0.mk A60
 clear A60
 by_cases c7 : t230 = true
 ·subst c7
  have H1 : (if (t224.length : Int) = 2 then (if 1 < (t224.length : Int) then ((bits_Set_List.f k (rd_L3 t224 1)).bind fun t233 => ((balustradebase_SameInts.f k t233 (([3] : List Int))).bind fun t239 => (some t239))) else (none)) else (some false)) = some r := by rw [if_pos rfl] at H; exact H
  clear H
  have H := H1
  clear H1
  by_cases c8 : (t224.length : Int) = 2
  ·rw [if_pos c8] at H
   have c8b0 : ((t224.length : Int) == 2) = true := beq_iff_eq.mpr c8
   have c8b1 : ((t224.length : Int) != 2) = false := bne_eq_false_iff_eq.mpr c8
   clear c8
   by_cases c9 : 1 < (t224.length : Int)
   ·rw [if_pos c9] at H
    have c9b0 : decide (1 < (t224.length : Int)) = true := decide_eq_true c9
    have c9b1 : decide (1 < t224.length) = true := decide_eq_true (by omega)
    clear c9
    replace H := Option.bind_eq_some_iff.mp H
    obtain ⟨t233, A100, H⟩ := H
    replace H : ((balustradebase_SameInts.f k t233 (([3] : List Int))).bind fun t239 => (some t239)) = some r := H
    have A10 := Aside0.mk A100
    clear A100
    obtain ⟨y236, hy236⟩ : ∃ y_ : List Int, y_ = (([3] : List Int)) := ⟨_, rfl⟩
    replace H : ((balustradebase_SameInts.f k t233 y236).bind fun t239 => (some t239)) = some r := by first | (rw [hy236]; with_reducible exact H) | (have H2_ := (Option.bind_some _ _).symm.trans H; rw [hy236]; with_reducible exact H2_) | (have H2_ := (Option.bind_some _ _).symm.trans H; with_reducible exact H2_) | with_reducible exact H | (rw [hy236]; exact H) | exact H
    have Ny236 := Aside0.mk hy236
    clear hy236
    replace H := Option.bind_eq_some_iff.mp H
    obtain ⟨t239, A110, H⟩ := H
    replace H : (some t239) = some r := H
    have A11 := Aside0.mk A110
    clear A110
    obtain rfl := Option.some.inj H
    go_enter Tryd.func7, Tryd.ntmps7
    go_wp2_with (first | ((with_reducible refine gate_dst (N := 5) rfl ?_); (try (refine gate_guard (by rfl) ?_; dsimp only)); refine Kd.R_lit (Kd.int .i64) _ 3 ?hg (N := 5) ?hd (xs := ([3] : List Int)) (inner := [.int .i64 3]) (ok := fun _ => True) (okp := fun _ => True) ?hr ?hp (fun _ hk => hk) trivial (Below.refl _ _) (Nat.le_refl _) (by simp) ?_; (case hd => rfl); (case hg => rfl); (case hr => first | (go_simp; done) | (go_simp; rfl)); (case hp => exact (Reps.one (show Kd.M (Kd.int .i64) _ _ _ 3 [.int .i64 3] from rfl) (Reps.none _ _))); intro v192 w12 ho13 hb hg_ hnew_; clear hg_ hnew_; (first | rw [← Ny191.out] at ho13 | (simp only [Int.reduceToNat] at ho13; rw [← Ny191.out] at ho13)); have n0_ := Aside0.mk (Kd.R_lower ho13 (below_size (zB))); have n1_ := Aside0.mk (below_step (zB) hb); clear HB; have HO193 := n0_; have HB := n1_; clear n0_ n1_; clear hb ho13; obtain ⟨Ao14, co14, eo14⟩ := Kd.R_slice HO193.out; subst eo14) | ((with_reducible refine gate_callee (f := 16) rfl ?_); refine goesL_ (some 6) rfl rfl Tryd.func16 (by kernel_rfl) rfl #[.int .i64 4, .slice Ao14 y191.length co14] rfl zE ?_; (with_reducible refine (bits_Of.calls k 4 _ _ y191 t194 _ ?side1 ?side2 A1.out).mono ?_); (case side1 => exact zC (Kd.R_reads' HO193.out).2.2); (case side2 => exact (Kd.R_reads' HO193.out).2.1); rintro e w15 ⟨v195, rfl, ho0, hb⟩; refine ⟨_, rfl, ?_⟩; have n0_ := Aside0.mk (Kd.R_below (zR HO193.out) hb); have n1_ := Aside0.mk (Kd.R_lower ho0 (below_size (zB))); have n2_ := Aside0.mk (below_step (zB) hb); clear HO193; clear HB; have HO193 := n0_; have HO196 := n1_; have HB := n2_; clear n0_ n1_ n2_; (try clear hb); (try clear hb2); (try clear hk); (try clear hi); (try clear ho0)) | ((with_reducible refine gate_callee (f := 22) rfl ?_); refine goesL_ (some 7) rfl rfl Tryd.func22 (by kernel_rfl) rfl #[.int .i64 4] rfl zE ?_; (with_reducible refine (bits_New.calls 4 t197 _ A2.out).mono ?_); rintro e w16 ⟨v198, rfl, ho0, hb⟩; refine ⟨_, rfl, ?_⟩; have n0_ := Aside0.mk (Kd.R_below (zR HO193.out) hb); have n1_ := Aside0.mk (Kd.R_elder' (zR HO196.out) (Kd.R_base ho0) hb); have n2_ := Aside0.mk (Kd.R_lower (Kd.R_new' ho0 (Kd.R_lt (zR HO196.out))) (below_size (zB))); have n3_ := Aside0.mk (below_step (zB) hb); clear HO193; clear HO196; clear HB; have HO193 := n0_; have HO196 := n1_; have HO199 := n2_; have HB := n3_; clear n0_ n1_ n2_ n3_; (try clear hb); (try clear hb2); (try clear hk); (try clear hi); (try clear ho0); obtain ⟨Ao17, co17, eo17⟩ := Kd.R_slice HO196.out; subst eo17; obtain ⟨Ao18, co18, eo18⟩ := Kd.R_slice HO199.out; subst eo18) | ((with_reducible refine gate_dst (N := 8) rfl ?_); (try (refine gate_guard (by rfl) ?_; dsimp only)); refine Kd.N_lit (Kd.slice 72 (Kd.int .u64)) _ 30 ?hg (N' := 8) ?hd (xs := ([t194, t197] : List (List Int))) (inner := [.slice Ao17 t194.length co17, .slice Ao18 t197.length co18]) (ok := (fun k_ => some k_ ≠ (.slice Ao14 y191.length co14 : Value).ownBlock)) (okp := (fun k_ => some k_ ≠ (.slice Ao14 y191.length co14 : Value).ownBlock)) ?hr ?hp (fun _ hk => hk) ((show ∀ k_, w16.heap.size ≤ k_ → (fun k_ => some k_ ≠ (.slice Ao14 y191.length co14 : Value).ownBlock) k_ from fun k_ hk => Kd.fresh' (Kd.R_lt (zR HO193.out)) k_ hk) _ (Nat.le_refl _)) (Below.refl _ _) (Nat.le_refl _) (by simp) ?_; (case hd => rfl); (case hg => rfl); (case hr => first | (go_simp; done) | (go_simp; rfl)); (case hp => exact (Reps.one (show Kd.FK (Kd.slice 72 (Kd.int .u64)) _ _ t194 [.slice Ao17 t194.length co17] from (Kd.FK_slice_mk (Kd.R_reads' (Kd.R_mono (ok' := (fun k_ => some k_ ≠ (.slice Ao14 y191.length co14 : Value).ownBlock)) (Kd.R_apart' (HO196.out) (Kd.R_typed HO193.out) (by decide)) (fun k_ hk => hk.2))).2.1 (Kd.R_F (Kd.R_mono (ok' := (fun k_ => some k_ ≠ (.slice Ao14 y191.length co14 : Value).ownBlock)) (Kd.R_apart' (HO196.out) (Kd.R_typed HO193.out) (by decide)) (fun k_ hk => hk.2))))) (Reps.one (show Kd.FK (Kd.slice 72 (Kd.int .u64)) _ _ t197 [.slice Ao18 t197.length co18] from (Kd.FK_slice_mk (Kd.R_reads' (Kd.R_mono (ok' := (fun k_ => some k_ ≠ (.slice Ao14 y191.length co14 : Value).ownBlock)) (Kd.R_apart' (HO199.out) (Kd.R_typed HO193.out) (by decide)) (fun k_ hk => hk.2))).2.1 (Kd.R_F (Kd.R_mono (ok' := (fun k_ => some k_ ≠ (.slice Ao14 y191.length co14 : Value).ownBlock)) (Kd.R_apart' (HO199.out) (Kd.R_typed HO193.out) (by decide)) (fun k_ hk => hk.2))))) (Reps.none _ _)))); intro v201 w19 ho20 hb hg_ hnew_; clear hg_ hnew_; (first | rw [← Ny200.out] at ho20 | (simp only [Int.reduceToNat] at ho20; rw [← Ny200.out] at ho20)); have n0_ := Aside0.mk (Kd.R_below (zR HO193.out) hb); have n1_ := Aside0.mk (Kd.N_lower ho20 (below_size (zB))); have n2_ := Aside0.mk (below_step (zB) hb); clear HO193; clear HB; clear HO196; clear HO199; have HO193 := n0_; have HO202 := n1_; have HB := n2_; clear n0_ n1_ n2_; clear hb ho20) | ((with_reducible refine gate_callee (f := 22) rfl ?_); refine goesL_ (some 9) rfl rfl Tryd.func22 (by kernel_rfl) rfl #[.int .i64 4] rfl zE ?_; (with_reducible refine (bits_New.calls 4 t203 _ A3.out).mono ?_); rintro e w21 ⟨v204, rfl, ho0, hb⟩; refine ⟨_, rfl, ?_⟩; have n0_ := Aside0.mk (Kd.R_below (zR HO193.out) hb); have n1_ := Aside0.mk (Kd.N_elder' (by (with_reducible repeat (first | apply Kd.N_alloc | apply Kd.N_drewN | apply Kd.N_drew)); exact HO202.out) (Kd.R_base ho0) hb); have n2_ := Aside0.mk (Kd.R_lower ho0 (below_size (zB))); have n3_ := Aside0.mk (below_step (zB) hb); clear HO193; clear HO202; clear HB; have HO193 := n0_; have HO202 := n1_; have HO205 := n2_; have HB := n3_; clear n0_ n1_ n2_ n3_; (try clear hb); (try clear hb2); (try clear hk); (try clear hi); (try clear ho0)) | ((with_reducible refine gate_callee (f := 22) rfl ?_); refine goesL_ (some 10) rfl rfl Tryd.func22 (by kernel_rfl) rfl #[.int .i64 4] rfl zE ?_; (with_reducible refine (bits_New.calls 4 t206 _ A4.out).mono ?_); rintro e w22 ⟨v207, rfl, ho0, hb⟩; refine ⟨_, rfl, ?_⟩; have n0_ := Aside0.mk (Kd.R_below (zR HO193.out) hb); have n1_ := Aside0.mk (Kd.N_elder' (by (with_reducible repeat (first | apply Kd.N_alloc | apply Kd.N_drewN | apply Kd.N_drew)); exact HO202.out) (Kd.R_base ho0) hb); have n2_ := Aside0.mk (Kd.R_elder' (zR HO205.out) (Kd.R_base ho0) hb); have n3_ := Aside0.mk (Kd.R_lower (Kd.R_new' ho0 (Kd.R_lt (zR HO205.out))) (below_size (zB))); have n4_ := Aside0.mk (below_step (zB) hb); clear HO193; clear HO202; clear HO205; clear HB; have HO193 := n0_; have HO202 := n1_; have HO205 := n2_; have HO208 := n3_; have HB := n4_; clear n0_ n1_ n2_ n3_ n4_; (try clear hb); (try clear hb2); (try clear hk); (try clear hi); (try clear ho0); obtain ⟨Ao23, co23, eo23⟩ := Kd.R_slice HO205.out; subst eo23; obtain ⟨Ao24, co24, eo24⟩ := Kd.R_slice HO208.out; subst eo24) | ((with_reducible refine gate_dst (N := 11) rfl ?_); (try (refine gate_guard (by rfl) ?_; dsimp only)); refine Kd.N_lit (Kd.slice 72 (Kd.int .u64)) _ 30 ?hg (N' := 11) ?hd (xs := ([t203, t206] : List (List Int))) (inner := [.slice Ao23 t203.length co23, .slice Ao24 t206.length co24]) (ok := (fun k_ => some k_ ≠ (.slice Ao14 y191.length co14 : Value).ownBlock ∧ some k_ ≠ (v201 : Value).ownBlock)) (okp := (fun k_ => some k_ ≠ (.slice Ao14 y191.length co14 : Value).ownBlock ∧ some k_ ≠ (v201 : Value).ownBlock)) ?hr ?hp (fun _ hk => hk) ((show ∀ k_, w22.heap.size ≤ k_ → (fun k_ => some k_ ≠ (.slice Ao14 y191.length co14 : Value).ownBlock ∧ some k_ ≠ (v201 : Value).ownBlock) k_ from fun k_ hk => ⟨Kd.fresh' (Kd.R_lt (zR HO193.out)) k_ hk, Kd.fresh' (Kd.N_lt (by (with_reducible repeat (first | apply Kd.N_alloc | apply Kd.N_drewN | apply Kd.N_drew)); exact HO202.out)) k_ hk⟩) _ (Nat.le_refl _)) (Below.refl _ _) (Nat.le_refl _) (by simp) ?_; (case hd => rfl); (case hg => rfl); (case hr => first | (go_simp; done) | (go_simp; rfl)); (case hp => exact (Reps.one (show Kd.FK (Kd.slice 72 (Kd.int .u64)) _ _ t203 [.slice Ao23 t203.length co23] from (Kd.FK_slice_mk (Kd.R_reads' (Kd.R_mono (ok' := (fun k_ => some k_ ≠ (.slice Ao14 y191.length co14 : Value).ownBlock ∧ some k_ ≠ (v201 : Value).ownBlock)) (Kd.R_apart' (Kd.R_apart' (HO205.out) (Kd.R_typed HO193.out) (by decide)) (Kd.N_typed HO202.out) (by decide)) (fun k_ hk => ⟨hk.1.2, hk.2⟩))).2.1 (Kd.R_F (Kd.R_mono (ok' := (fun k_ => some k_ ≠ (.slice Ao14 y191.length co14 : Value).ownBlock ∧ some k_ ≠ (v201 : Value).ownBlock)) (Kd.R_apart' (Kd.R_apart' (HO205.out) (Kd.R_typed HO193.out) (by decide)) (Kd.N_typed HO202.out) (by decide)) (fun k_ hk => ⟨hk.1.2, hk.2⟩))))) (Reps.one (show Kd.FK (Kd.slice 72 (Kd.int .u64)) _ _ t206 [.slice Ao24 t206.length co24] from (Kd.FK_slice_mk (Kd.R_reads' (Kd.R_mono (ok' := (fun k_ => some k_ ≠ (.slice Ao14 y191.length co14 : Value).ownBlock ∧ some k_ ≠ (v201 : Value).ownBlock)) (Kd.R_apart' (Kd.R_apart' (HO208.out) (Kd.R_typed HO193.out) (by decide)) (Kd.N_typed HO202.out) (by decide)) (fun k_ hk => ⟨hk.1.2, hk.2⟩))).2.1 (Kd.R_F (Kd.R_mono (ok' := (fun k_ => some k_ ≠ (.slice Ao14 y191.length co14 : Value).ownBlock ∧ some k_ ≠ (v201 : Value).ownBlock)) (Kd.R_apart' (Kd.R_apart' (HO208.out) (Kd.R_typed HO193.out) (by decide)) (Kd.N_typed HO202.out) (by decide)) (fun k_ hk => ⟨hk.1.2, hk.2⟩))))) (Reps.none _ _)))); intro v210 w25 ho26 hb hg_ hnew_; clear hg_ hnew_; (first | rw [← Ny209.out] at ho26 | (simp only [Int.reduceToNat] at ho26; rw [← Ny209.out] at ho26)); have n0_ := Aside0.mk (Kd.R_below (zR HO193.out) hb); have n1_ := Aside0.mk (Kd.N_elder' (by (with_reducible repeat (first | apply Kd.N_alloc | apply Kd.N_drewN | apply Kd.N_drew)); exact HO202.out) (Kd.N_base ho26) hb); have n2_ := Aside0.mk (Kd.N_lower ho26 (below_size (zB))); have n3_ := Aside0.mk (below_step (zB) hb); clear HO193; clear HO202; clear HB; clear HO205; clear HO208; have HO193 := n0_; have HO202 := n1_; have HO211 := n2_; have HB := n3_; clear n0_ n1_ n2_ n3_; clear hb ho26) | ((with_reducible refine gate_dst (N := 13) rfl ?_); (try (refine gate_guard (by rfl) ?_; dsimp only)); refine Kd.R_lit (Kd.int .i64) _ 3 ?hg (N := 13) ?hd (xs := ([1] : List Int)) (inner := [.int .i64 1]) (ok := fun _ => True) (okp := fun _ => True) ?hr ?hp (fun _ hk => hk) trivial (Below.refl _ _) (Nat.le_refl _) (by simp) ?_; (case hd => rfl); (case hg => rfl); (case hr => first | (go_simp; done) | (go_simp; rfl)); (case hp => exact (Reps.one (show Kd.M (Kd.int .i64) _ _ _ 1 [.int .i64 1] from rfl) (Reps.none _ _))); intro v213 w27 ho28 hb hg_ hnew_; clear hg_ hnew_; (first | rw [← Ny212.out] at ho28 | (simp only [Int.reduceToNat] at ho28; rw [← Ny212.out] at ho28)); have n0_ := Aside0.mk (Kd.R_elder' (zR HO193.out) (Kd.R_base ho28) hb); have n1_ := Aside0.mk (Kd.N_elder' (by (with_reducible repeat (first | apply Kd.N_alloc | apply Kd.N_drewN | apply Kd.N_drew)); exact HO202.out) (Kd.R_base ho28) hb); have n2_ := Aside0.mk (Kd.N_elder' (by (with_reducible repeat (first | apply Kd.N_alloc | apply Kd.N_drewN | apply Kd.N_drew)); exact HO211.out) (Kd.R_base ho28) hb); have n3_ := Aside0.mk (Kd.R_lower (Kd.R_new' ho28 (Kd.R_lt (zR HO193.out))) (below_size (zB))); have n4_ := Aside0.mk (below_step (zB) hb); clear HO193; clear HO202; clear HO211; clear HB; have HO193 := n0_; have HO202 := n1_; have HO211 := n2_; have HO214 := n3_; have HB := n4_; clear n0_ n1_ n2_ n3_ n4_; clear hb ho28) | ((with_reducible refine gate_dst (N := 14) rfl ?_); (try (refine gate_guard (by rfl) ?_; dsimp only)); refine Kd.R_lit (Kd.int .i64) _ 3 ?hg (N := 14) ?hd (xs := ([1] : List Int)) (inner := [.int .i64 1]) (ok := fun _ => True) (okp := fun _ => True) ?hr ?hp (fun _ hk => hk) trivial (Below.refl _ _) (Nat.le_refl _) (by simp) ?_; (case hd => rfl); (case hg => rfl); (case hr => first | (go_simp; done) | (go_simp; rfl)); (case hp => exact (Reps.one (show Kd.M (Kd.int .i64) _ _ _ 1 [.int .i64 1] from rfl) (Reps.none _ _))); intro v216 w29 ho30 hb hg_ hnew_; clear hg_ hnew_; (first | rw [← Ny215.out] at ho30 | (simp only [Int.reduceToNat] at ho30; rw [← Ny215.out] at ho30)); have n0_ := Aside0.mk (Kd.R_elder' (zR HO193.out) (Kd.R_base ho30) hb); have n1_ := Aside0.mk (Kd.N_elder' (by (with_reducible repeat (first | apply Kd.N_alloc | apply Kd.N_drewN | apply Kd.N_drew)); exact HO202.out) (Kd.R_base ho30) hb); have n2_ := Aside0.mk (Kd.N_elder' (by (with_reducible repeat (first | apply Kd.N_alloc | apply Kd.N_drewN | apply Kd.N_drew)); exact HO211.out) (Kd.R_base ho30) hb); have n3_ := Aside0.mk (Kd.R_elder' (zR HO214.out) (Kd.R_base ho30) hb); have n4_ := Aside0.mk (Kd.R_lower (Kd.R_new' (Kd.R_new' ho30 (Kd.R_lt (zR HO193.out))) (Kd.R_lt (zR HO214.out))) (below_size (zB))); have n5_ := Aside0.mk (below_step (zB) hb); clear HO193; clear HO202; clear HO211; clear HO214; clear HB; have HO193 := n0_; have HO202 := n1_; have HO211 := n2_; have HO214 := n3_; have HO217 := n4_; have HB := n5_; clear n0_ n1_ n2_ n3_ n4_ n5_; clear hb ho30; obtain ⟨Ao31, co31, eo31⟩ := Kd.R_slice HO214.out; subst eo31; obtain ⟨Ao32, co32, eo32⟩ := Kd.R_slice HO217.out; subst eo32) | ((with_reducible refine gate_dst (N := 15) rfl ?_); (try (refine gate_guard (by rfl) ?_; dsimp only)); refine Kd.N_lit (Kd.slice 3 (Kd.int .i64)) _ 23 ?hg (N' := 15) ?hd (xs := ([y212, y215] : List (List Int))) (inner := [.slice Ao31 y212.length co31, .slice Ao32 y215.length co32]) (ok := (fun k_ => some k_ ≠ (.slice Ao14 y191.length co14 : Value).ownBlock ∧ some k_ ≠ (v201 : Value).ownBlock ∧ some k_ ≠ (v210 : Value).ownBlock)) (okp := (fun k_ => some k_ ≠ (.slice Ao14 y191.length co14 : Value).ownBlock ∧ some k_ ≠ (v201 : Value).ownBlock ∧ some k_ ≠ (v210 : Value).ownBlock)) ?hr ?hp (fun _ hk => hk) ((show ∀ k_, w29.heap.size ≤ k_ → (fun k_ => some k_ ≠ (.slice Ao14 y191.length co14 : Value).ownBlock ∧ some k_ ≠ (v201 : Value).ownBlock ∧ some k_ ≠ (v210 : Value).ownBlock) k_ from fun k_ hk => ⟨Kd.fresh' (Kd.R_lt (zR HO193.out)) k_ hk, Kd.fresh' (Kd.N_lt (by (with_reducible repeat (first | apply Kd.N_alloc | apply Kd.N_drewN | apply Kd.N_drew)); exact HO202.out)) k_ hk, Kd.fresh' (Kd.N_lt (by (with_reducible repeat (first | apply Kd.N_alloc | apply Kd.N_drewN | apply Kd.N_drew)); exact HO211.out)) k_ hk⟩) _ (Nat.le_refl _)) (Below.refl _ _) (Nat.le_refl _) (by simp) ?_; (case hd => rfl); (case hg => rfl); (case hr => first | (go_simp; done) | (go_simp; rfl)); (case hp => exact (Reps.one (show Kd.FK (Kd.slice 3 (Kd.int .i64)) _ _ y212 [.slice Ao31 y212.length co31] from (Kd.FK_slice_mk (Kd.R_reads' (Kd.R_mono (ok' := (fun k_ => some k_ ≠ (.slice Ao14 y191.length co14 : Value).ownBlock ∧ some k_ ≠ (v201 : Value).ownBlock ∧ some k_ ≠ (v210 : Value).ownBlock)) (Kd.R_apart' (Kd.R_apart' (HO214.out) (Kd.N_typed HO202.out) (by decide)) (Kd.N_typed HO211.out) (by decide)) (fun k_ hk => ⟨hk.1.1.1.2, ⟨hk.1.2, hk.2⟩⟩))).2.1 (Kd.R_F (Kd.R_mono (ok' := (fun k_ => some k_ ≠ (.slice Ao14 y191.length co14 : Value).ownBlock ∧ some k_ ≠ (v201 : Value).ownBlock ∧ some k_ ≠ (v210 : Value).ownBlock)) (Kd.R_apart' (Kd.R_apart' (HO214.out) (Kd.N_typed HO202.out) (by decide)) (Kd.N_typed HO211.out) (by decide)) (fun k_ hk => ⟨hk.1.1.1.2, ⟨hk.1.2, hk.2⟩⟩))))) (Reps.one (show Kd.FK (Kd.slice 3 (Kd.int .i64)) _ _ y215 [.slice Ao32 y215.length co32] from (Kd.FK_slice_mk (Kd.R_reads' (Kd.R_mono (ok' := (fun k_ => some k_ ≠ (.slice Ao14 y191.length co14 : Value).ownBlock ∧ some k_ ≠ (v201 : Value).ownBlock ∧ some k_ ≠ (v210 : Value).ownBlock)) (Kd.R_apart' (Kd.R_apart' (HO217.out) (Kd.N_typed HO202.out) (by decide)) (Kd.N_typed HO211.out) (by decide)) (fun k_ hk => ⟨hk.1.1.1.2, ⟨hk.1.2, hk.2⟩⟩))).2.1 (Kd.R_F (Kd.R_mono (ok' := (fun k_ => some k_ ≠ (.slice Ao14 y191.length co14 : Value).ownBlock ∧ some k_ ≠ (v201 : Value).ownBlock ∧ some k_ ≠ (v210 : Value).ownBlock)) (Kd.R_apart' (Kd.R_apart' (HO217.out) (Kd.N_typed HO202.out) (by decide)) (Kd.N_typed HO211.out) (by decide)) (fun k_ hk => ⟨hk.1.1.1.2, ⟨hk.1.2, hk.2⟩⟩))))) (Reps.none _ _)))); intro v219 w33 ho34 hb hg_ hnew_; clear hg_ hnew_; (first | rw [← Ny218.out] at ho34 | (simp only [Int.reduceToNat] at ho34; rw [← Ny218.out] at ho34)); have n0_ := Aside0.mk (Kd.R_below (zR HO193.out) hb); have n1_ := Aside0.mk (Kd.N_elder' (by (with_reducible repeat (first | apply Kd.N_alloc | apply Kd.N_drewN | apply Kd.N_drew)); exact HO202.out) (Kd.N_base ho34) hb); have n2_ := Aside0.mk (Kd.N_elder' (by (with_reducible repeat (first | apply Kd.N_alloc | apply Kd.N_drewN | apply Kd.N_drew)); exact HO211.out) (Kd.N_base ho34) hb); have n3_ := Aside0.mk (Kd.N_lower ho34 (below_size (zB))); have n4_ := Aside0.mk (below_step (zB) hb); clear HO193; clear HO202; clear HO211; clear HB; clear HO214; clear HO217; have HO193 := n0_; have HO202 := n1_; have HO211 := n2_; have HO220 := n3_; have HB := n4_; clear n0_ n1_ n2_ n3_ n4_; clear hb ho34) | ((with_reducible refine gate_callee (f := 22) rfl ?_); refine goesL_ (some 18) rfl rfl Tryd.func22 (by kernel_rfl) rfl #[.int .i64 4] rfl zE ?_; (with_reducible refine (bits_New.calls 4 t221 _ A5.out).mono ?_); rintro e w35 ⟨v222, rfl, ho0, hb⟩; refine ⟨_, rfl, ?_⟩; have n0_ := Aside0.mk (Kd.R_below (zR HO193.out) hb); have n1_ := Aside0.mk (Kd.N_elder' (by (with_reducible repeat (first | apply Kd.N_alloc | apply Kd.N_drewN | apply Kd.N_drew)); exact HO202.out) (Kd.R_base ho0) hb); have n2_ := Aside0.mk (Kd.N_elder' (by (with_reducible repeat (first | apply Kd.N_alloc | apply Kd.N_drewN | apply Kd.N_drew)); exact HO211.out) (Kd.R_base ho0) hb); have n3_ := Aside0.mk (Kd.N_elder' (by (with_reducible repeat (first | apply Kd.N_alloc | apply Kd.N_drewN | apply Kd.N_drew)); exact HO220.out) (Kd.R_base ho0) hb); have n4_ := Aside0.mk (Kd.R_lower ho0 (below_size (zB))); have n5_ := Aside0.mk (below_step (zB) hb); clear HO193; clear HO202; clear HO211; clear HO220; clear HB; have HO193 := n0_; have HO202 := n1_; have HO211 := n2_; have HO220 := n3_; have HO223 := n4_; have HB := n5_; clear n0_ n1_ n2_ n3_ n4_ n5_; (try clear hb); (try clear hb2); (try clear hk); (try clear hi); (try clear ho0); obtain ⟨Ao36, co36, eo36⟩ := Kd.R_slice HO223.out; subst eo36; obtain ⟨Ao37, co37, eo37⟩ := Kd.N_slice HO211.out; subst eo37; obtain ⟨Ao38, co38, eo38⟩ := Kd.N_slice HO202.out; subst eo38; obtain ⟨Ao39, co39, eo39⟩ := Kd.N_slice HO220.out; subst eo39) | ((with_reducible refine gate_callee (f := 9) rfl ?_); refine goesL_ (some 20) rfl rfl Tryd.func9 (by kernel_rfl) rfl #[.agg #[.slice Ao39 y218.length co39, .bool false, .bool false, .int .i64 4, .slice Ao38 y200.length co38, .slice Ao37 y209.length co37, .slice Ao36 t221.length co36]] rfl zE ?_; (with_reducible refine (flow_Solve.calls k _ _ y218 false false 4 _ _ y200 _ _ y209 _ _ t221 t224 t227 true _ ?side1 ?side2 ?side3 ?side4 ?side5 ?side6 ?side7 ?side8 ?side9 A6.out).mono ?_); (case side1 => first | exact HT.out | exact TabW.below HT.out (zB)); (case side2 => exact zC (Kd.N_reads' HO220.out).2.2); (case side3 => exact (Kd.N_reads' HO220.out).2.1); (case side4 => exact zC (Kd.N_reads' HO202.out).2.2); (case side5 => exact (Kd.N_reads' HO202.out).2.1); (case side6 => exact zC (Kd.N_reads' HO211.out).2.2); (case side7 => exact (Kd.N_reads' HO211.out).2.1); (case side8 => exact zC (Kd.R_reads' HO223.out).2.2); (case side9 => exact (Kd.R_reads' HO223.out).2.1); rintro e w40 ⟨v225, v228, rfl, ho0, ho1, hb⟩; refine ⟨_, rfl, ?_⟩; have n0_ := Aside0.mk (Kd.R_below (zR HO193.out) hb); have n1_ := Aside0.mk (Kd.N_mono (Kd.N_told (Kd.N_told (Kd.N_old (by (with_reducible repeat (first | apply Kd.N_alloc | apply Kd.N_drewN | apply Kd.N_drew)); exact HO202.out) hb) (Kd.N_base ho0)) (Kd.N_base ho1)) (fun _ h_ => h_.1)); have n2_ := Aside0.mk (Kd.N_mono (Kd.N_told (Kd.N_told (Kd.N_old (by (with_reducible repeat (first | apply Kd.N_alloc | apply Kd.N_drewN | apply Kd.N_drew)); exact HO211.out) hb) (Kd.N_base ho0)) (Kd.N_base ho1)) (fun _ h_ => h_.1)); have n3_ := Aside0.mk (Kd.N_mono (Kd.N_told (Kd.N_told (Kd.N_old (by (with_reducible repeat (first | apply Kd.N_alloc | apply Kd.N_drewN | apply Kd.N_drew)); exact HO220.out) hb) (Kd.N_base ho0)) (Kd.N_base ho1)) (fun _ h_ => h_.1)); have n4_ := Aside0.mk (Kd.R_below (zR HO223.out) hb); have n5_ := Aside0.mk (Kd.N_lower (Kd.N_mono (ok' := fun k_ => some k_ ≠ (v228 : Value).ownBlock ∧ some k_ ≠ (.slice Ao14 y191.length co14 : Value).ownBlock ∧ some k_ ≠ (.slice Ao38 y200.length co38 : Value).ownBlock ∧ some k_ ≠ (.slice Ao37 y209.length co37 : Value).ownBlock ∧ some k_ ≠ (.slice Ao39 y218.length co39 : Value).ownBlock ∧ some k_ ≠ (.slice Ao36 t221.length co36 : Value).ownBlock) (Kd.N_mono ho0 (fun k_ h_ => And.intro h_.1 (And.intro h_.2 trivial))) (fun k_ hk_ => ⟨hk_.1, (Kd.fresh' (Kd.R_lt (zR HO193.out)) k_ hk_.2.1), (Kd.fresh' (Kd.N_lt (by (with_reducible repeat (first | apply Kd.N_alloc | apply Kd.N_drewN | apply Kd.N_drew)); exact HO202.out)) k_ hk_.2.1), (Kd.fresh' (Kd.N_lt (by (with_reducible repeat (first | apply Kd.N_alloc | apply Kd.N_drewN | apply Kd.N_drew)); exact HO211.out)) k_ hk_.2.1), (Kd.fresh' (Kd.N_lt (by (with_reducible repeat (first | apply Kd.N_alloc | apply Kd.N_drewN | apply Kd.N_drew)); exact HO220.out)) k_ hk_.2.1), (Kd.fresh' (Kd.R_lt (zR HO223.out)) k_ hk_.2.1)⟩)) (below_size (zB))); have n6_ := Aside0.mk (Kd.N_lower (Kd.N_mono (ok' := fun k_ => some k_ ≠ (v225 : Value).ownBlock ∧ some k_ ≠ (.slice Ao14 y191.length co14 : Value).ownBlock ∧ some k_ ≠ (.slice Ao38 y200.length co38 : Value).ownBlock ∧ some k_ ≠ (.slice Ao37 y209.length co37 : Value).ownBlock ∧ some k_ ≠ (.slice Ao39 y218.length co39 : Value).ownBlock ∧ some k_ ≠ (.slice Ao36 t221.length co36 : Value).ownBlock) (Kd.N_mono ho1 (fun k_ h_ => And.intro h_.1 (And.intro h_.2 trivial))) (fun k_ hk_ => ⟨hk_.1, (Kd.fresh' (Kd.R_lt (zR HO193.out)) k_ hk_.2.1), (Kd.fresh' (Kd.N_lt (by (with_reducible repeat (first | apply Kd.N_alloc | apply Kd.N_drewN | apply Kd.N_drew)); exact HO202.out)) k_ hk_.2.1), (Kd.fresh' (Kd.N_lt (by (with_reducible repeat (first | apply Kd.N_alloc | apply Kd.N_drewN | apply Kd.N_drew)); exact HO211.out)) k_ hk_.2.1), (Kd.fresh' (Kd.N_lt (by (with_reducible repeat (first | apply Kd.N_alloc | apply Kd.N_drewN | apply Kd.N_drew)); exact HO220.out)) k_ hk_.2.1), (Kd.fresh' (Kd.R_lt (zR HO223.out)) k_ hk_.2.1)⟩)) (below_size (zB))); have n7_ := Aside0.mk (below_step (zB) hb); clear HO193; clear HO202; clear HO211; clear HO220; clear HO223; clear HB; have HO193 := n0_; have HO202 := n1_; have HO211 := n2_; have HO220 := n3_; have HO223 := n4_; have HO226 := n5_; have HO229 := n6_; have HB := n7_; clear n0_ n1_ n2_ n3_ n4_ n5_ n6_ n7_; (try clear hb); (try clear hb2); (try clear hk); (try clear hi); (try clear ho0); (try clear ho1)) | ((with_reducible refine gate_dst (N := 3) rfl ?_); (try (refine gate_guard (by rfl) ?_; dsimp only)); refine box_event ?hg (N := 3) ?hd (cs := #[.slice none 0 0, .slice none 0 0]) (t := 36) ?hr ?_; (case hd => rfl); (case hg => rfl); (case hr => first | (go_simp; done) | (go_simp; rfl)); intro gb231 hg w41 hbox hb; have n0_ := Aside0.mk (Kd.R_below (zR HO193.out) hb); have n1_ := Aside0.mk (Kd.N_below (Kd.N_elderB (by (with_reducible repeat (first | apply Kd.N_alloc | apply Kd.N_drewN | apply Kd.N_drew)); exact HO202.out) gb231 (Nat.le_of_eq hg.symm)) hb); have n2_ := Aside0.mk (Kd.N_below (Kd.N_elderB (by (with_reducible repeat (first | apply Kd.N_alloc | apply Kd.N_drewN | apply Kd.N_drew)); exact HO211.out) gb231 (Nat.le_of_eq hg.symm)) hb); have n3_ := Aside0.mk (Kd.N_below (Kd.N_elderB (by (with_reducible repeat (first | apply Kd.N_alloc | apply Kd.N_drewN | apply Kd.N_drew)); exact HO220.out) gb231 (Nat.le_of_eq hg.symm)) hb); have n4_ := Aside0.mk (Kd.R_below (zR HO223.out) hb); have n5_ := Aside0.mk (Kd.N_below (Kd.N_elderB (by (with_reducible repeat (first | apply Kd.N_alloc | apply Kd.N_drewN | apply Kd.N_drew)); exact HO226.out) gb231 (Nat.le_of_eq hg.symm)) hb); have n6_ := Aside0.mk (Kd.N_below (Kd.N_elderB (by (with_reducible repeat (first | apply Kd.N_alloc | apply Kd.N_drewN | apply Kd.N_drew)); exact HO229.out) gb231 (Nat.le_of_eq hg.symm)) hb); have n7_ := Aside0.mk (below_step (zB) hb); have n8_ := Aside0.mk (hbox); have n9_ := Aside0.mk (zH hg : w.heap.size ≤ gb231); have n10_ := Aside0.mk ((by rw [hg]; exact (below_size (zB)) : w.heap.size ≤ gb231)); clear HO193; clear HO202; clear HO211; clear HO220; clear HO223; clear HO226; clear HO229; clear HB; have HO193 := n0_; have HO202 := n1_; have HO211 := n2_; have HO220 := n3_; have HO223 := n4_; have HO226 := n5_; have HO229 := n6_; have HB := n7_; have BK231 := n8_; have GW231 := n9_; have GE231 := n10_; clear n0_ n1_ n2_ n3_ n4_ n5_ n6_ n7_ n8_ n9_ n10_; clear hb hbox hg; obtain ⟨Ao42, co42, eo42⟩ := Kd.N_slice HO226.out; subst eo42; obtain ⟨hcz43_0, hcz43_1⟩ := zc2 BK231.out; obtain ⟨hfz43_0, hfz43_1⟩ := zf2 BK231.out; obtain ⟨Ao44, co44, eo44⟩ := Kd.N_slice HO229.out; subst eo44) | ((with_reducible refine gate_store (t := 36) (p := 3) rfl ?_); refine store_event (t := 36) (p := 3) (v := ?vo_w45) (w1 := ((w41.setCell ⟨gb231, 0, none⟩ (.slice Ao42 t224.length co42)).setCell ⟨gb231, 1, none⟩ (.slice Ao44 t227.length co44))) ?hg ?ho ?hn ?hr ?_; (case ho => rfl); (case hg => rfl); (case hn => rfl); (case hr => first | (go_simp; done) | (go_simp; rfl)); intro w45 hw; have n0_ : Aside0 (Kd.R (Kd.int .i64) 3 w45 w.heap.size (fun _ => True) (.slice Ao14 y191.length co14) y191) := ⟨(by rw [hw]; exact (by (with_reducible repeat (first | apply Kd.R_alloc | apply Kd.R_drewN | apply Kd.R_drew)); exact Kd.R_mono (Kd.R_far (p := ⟨gb231, 1, none⟩) (Kd.R_far (p := ⟨gb231, 0, none⟩) (Kd.R_types HO193.out BK231.out (by decide)) (fun _ hk => hk.2) (.slice Ao42 t224.length co42)) (fun _ hk => hk.2) (.slice Ao44 t227.length co44)) (fun _ hk => trivial)))⟩; have n1_ : Aside0 (Kd.N (Kd.slice 72 (Kd.int .u64)) 30 w45 w.heap.size (fun k_ => some k_ ≠ (.slice Ao14 y191.length co14 : Value).ownBlock ∧ some k_ ≠ (.slice Ao37 y209.length co37 : Value).ownBlock ∧ some k_ ≠ (.slice Ao39 y218.length co39 : Value).ownBlock ∧ some k_ ≠ (.slice Ao36 t221.length co36 : Value).ownBlock ∧ some k_ ≠ (.slice Ao42 t224.length co42 : Value).ownBlock ∧ some k_ ≠ (.slice Ao44 t227.length co44 : Value).ownBlock ∧ k_ ≠ gb231) (.slice Ao38 y200.length co38) y200) := ⟨(by rw [hw]; exact (by (with_reducible repeat (first | apply Kd.N_alloc | apply Kd.N_drewN | apply Kd.N_drew)); exact Kd.N_mono (Kd.N_far (p := ⟨gb231, 1, none⟩) (Kd.N_far (p := ⟨gb231, 0, none⟩) (Kd.N_mono HO202.out (fun k_ hk => (⟨hk, hk.2⟩ : _ ∧ k_ ≠ gb231))) (fun _ hk => hk.2) (.slice Ao42 t224.length co42)) (fun _ hk => hk.2) (.slice Ao44 t227.length co44)) (fun _ hk => ⟨hk.1.1.1.1.1.1.1.1.1.1.1, ⟨hk.1.1.1.1.1.1.1.1.2, ⟨hk.1.1.1.1.1.2, ⟨hk.1.1.1.1.2, ⟨hk.1.1.1.2, ⟨hk.1.1.2, hk.1.2⟩⟩⟩⟩⟩⟩)))⟩; have n2_ : Aside0 (Kd.N (Kd.slice 72 (Kd.int .u64)) 30 w45 w.heap.size (fun k_ => some k_ ≠ (.slice Ao14 y191.length co14 : Value).ownBlock ∧ some k_ ≠ (.slice Ao38 y200.length co38 : Value).ownBlock ∧ some k_ ≠ (.slice Ao39 y218.length co39 : Value).ownBlock ∧ some k_ ≠ (.slice Ao36 t221.length co36 : Value).ownBlock ∧ some k_ ≠ (.slice Ao42 t224.length co42 : Value).ownBlock ∧ some k_ ≠ (.slice Ao44 t227.length co44 : Value).ownBlock ∧ k_ ≠ gb231) (.slice Ao37 y209.length co37) y209) := ⟨(by rw [hw]; exact (by (with_reducible repeat (first | apply Kd.N_alloc | apply Kd.N_drewN | apply Kd.N_drew)); exact Kd.N_mono (Kd.N_far (p := ⟨gb231, 1, none⟩) (Kd.N_far (p := ⟨gb231, 0, none⟩) (Kd.N_mono HO211.out (fun k_ hk => (⟨hk, hk.2⟩ : _ ∧ k_ ≠ gb231))) (fun _ hk => hk.2) (.slice Ao42 t224.length co42)) (fun _ hk => hk.2) (.slice Ao44 t227.length co44)) (fun _ hk => ⟨hk.1.1.1.1.1.1.1.1.1, ⟨hk.1.1.1.1.1.1.1.1.2, ⟨hk.1.1.1.1.1.2, ⟨hk.1.1.1.1.2, ⟨hk.1.1.1.2, ⟨hk.1.1.2, hk.1.2⟩⟩⟩⟩⟩⟩)))⟩; have n3_ : Aside0 (Kd.N (Kd.slice 3 (Kd.int .i64)) 23 w45 w.heap.size (fun k_ => some k_ ≠ (.slice Ao14 y191.length co14 : Value).ownBlock ∧ some k_ ≠ (.slice Ao38 y200.length co38 : Value).ownBlock ∧ some k_ ≠ (.slice Ao37 y209.length co37 : Value).ownBlock ∧ some k_ ≠ (.slice Ao36 t221.length co36 : Value).ownBlock ∧ some k_ ≠ (.slice Ao42 t224.length co42 : Value).ownBlock ∧ some k_ ≠ (.slice Ao44 t227.length co44 : Value).ownBlock ∧ k_ ≠ gb231) (.slice Ao39 y218.length co39) y218) := ⟨(by rw [hw]; exact (by (with_reducible repeat (first | apply Kd.N_alloc | apply Kd.N_drewN | apply Kd.N_drew)); exact Kd.N_mono (Kd.N_far (p := ⟨gb231, 1, none⟩) (Kd.N_far (p := ⟨gb231, 0, none⟩) (Kd.N_mono HO220.out (fun k_ hk => (⟨hk, hk.2⟩ : _ ∧ k_ ≠ gb231))) (fun _ hk => hk.2) (.slice Ao42 t224.length co42)) (fun _ hk => hk.2) (.slice Ao44 t227.length co44)) (fun _ hk => ⟨hk.1.1.1.1.1.1, ⟨hk.1.1.1.1.1.2.1, ⟨hk.1.1.1.1.1.2.2, ⟨hk.1.1.1.1.2, ⟨hk.1.1.1.2, ⟨hk.1.1.2, hk.1.2⟩⟩⟩⟩⟩⟩)))⟩; have n4_ : Aside0 (Kd.R (Kd.int .u64) 72 w45 w.heap.size (fun _ => True) (.slice Ao36 t221.length co36) t221) := ⟨(by rw [hw]; exact (by (with_reducible repeat (first | apply Kd.R_alloc | apply Kd.R_drewN | apply Kd.R_drew)); exact Kd.R_mono (Kd.R_far (p := ⟨gb231, 1, none⟩) (Kd.R_far (p := ⟨gb231, 0, none⟩) (Kd.R_types HO223.out BK231.out (by decide)) (fun _ hk => hk.2) (.slice Ao42 t224.length co42)) (fun _ hk => hk.2) (.slice Ao44 t227.length co44)) (fun _ hk => trivial)))⟩; have n5_ : Aside0 (Kd.N (Kd.slice 72 (Kd.int .u64)) 30 w45 w.heap.size (fun k_ => some k_ ≠ (.slice Ao14 y191.length co14 : Value).ownBlock ∧ some k_ ≠ (.slice Ao38 y200.length co38 : Value).ownBlock ∧ some k_ ≠ (.slice Ao37 y209.length co37 : Value).ownBlock ∧ some k_ ≠ (.slice Ao39 y218.length co39 : Value).ownBlock ∧ some k_ ≠ (.slice Ao36 t221.length co36 : Value).ownBlock ∧ some k_ ≠ (.slice Ao44 t227.length co44 : Value).ownBlock ∧ k_ ≠ gb231) (.slice Ao42 t224.length co42) t224) := ⟨(by rw [hw]; exact (by (with_reducible repeat (first | apply Kd.N_alloc | apply Kd.N_drewN | apply Kd.N_drew)); exact Kd.N_mono (Kd.N_far (p := ⟨gb231, 1, none⟩) (Kd.N_far (p := ⟨gb231, 0, none⟩) (Kd.N_mono HO226.out (fun k_ hk => (⟨hk, hk.2⟩ : _ ∧ k_ ≠ gb231))) (fun _ hk => hk.2) (.slice Ao42 t224.length co42)) (fun _ hk => hk.2) (.slice Ao44 t227.length co44)) (fun _ hk => ⟨hk.1.1.2.1, ⟨hk.1.1.2.2.1, ⟨hk.1.1.2.2.2.1, ⟨hk.1.1.2.2.2.2.1, ⟨hk.1.1.2.2.2.2.2, ⟨hk.1.1.1, hk.1.2⟩⟩⟩⟩⟩⟩)))⟩; have n6_ : Aside0 (Kd.N (Kd.slice 72 (Kd.int .u64)) 30 w45 w.heap.size (fun k_ => some k_ ≠ (.slice Ao14 y191.length co14 : Value).ownBlock ∧ some k_ ≠ (.slice Ao38 y200.length co38 : Value).ownBlock ∧ some k_ ≠ (.slice Ao37 y209.length co37 : Value).ownBlock ∧ some k_ ≠ (.slice Ao39 y218.length co39 : Value).ownBlock ∧ some k_ ≠ (.slice Ao36 t221.length co36 : Value).ownBlock ∧ some k_ ≠ (.slice Ao42 t224.length co42 : Value).ownBlock ∧ k_ ≠ gb231) (.slice Ao44 t227.length co44) t227) := ⟨(by rw [hw]; exact (by (with_reducible repeat (first | apply Kd.N_alloc | apply Kd.N_drewN | apply Kd.N_drew)); exact Kd.N_mono (Kd.N_far (p := ⟨gb231, 1, none⟩) (Kd.N_far (p := ⟨gb231, 0, none⟩) (Kd.N_mono HO229.out (fun k_ hk => (⟨hk, hk.2⟩ : _ ∧ k_ ≠ gb231))) (fun _ hk => hk.2) (.slice Ao42 t224.length co42)) (fun _ hk => hk.2) (.slice Ao44 t227.length co44)) (fun _ hk => ⟨hk.1.1.2.1, ⟨hk.1.1.2.2.1, ⟨hk.1.1.2.2.2.1, ⟨hk.1.1.2.2.2.2.1, ⟨hk.1.1.2.2.2.2.2, ⟨hk.1.1.1, hk.1.2⟩⟩⟩⟩⟩⟩)))⟩; have n7_ : Aside0 (w45.heap[gb231]? = some (.cells #[.slice Ao42 t224.length co42, .slice Ao44 t227.length co44] 36 (0, 0))) := ⟨(by rw [hw]; exact (by (with_reducible repeat (first | refine blk_drewN ?_ _ | refine blk_drew ?_ | refine blk_alloc ?_ _)); refine blk_put (cs := #[.slice Ao42 t224.length co42, .slice none 0 0]) ?_ 1 _ rfl; (with_reducible repeat (first | refine blk_drewN ?_ _ | refine blk_drew ?_ | refine blk_alloc ?_ _)); refine blk_put (cs := #[.slice none 0 0, .slice none 0 0]) ?_ 0 _ rfl; (with_reducible repeat (first | refine blk_drewN ?_ _ | refine blk_drew ?_ | refine blk_alloc ?_ _)); exact BK231.out))⟩; have n8_ : Aside0 (Below w.heap.size w w45) := ⟨(by rw [hw]; exact (zG))⟩; clear hw; clear HO193; clear HO202; clear HO211; clear HO220; clear HO223; clear HO226; clear HO229; clear BK231; clear HB; have HO193 := n0_; have HO202 := n1_; have HO211 := n2_; have HO220 := n3_; have HO223 := n4_; have HO226 := n5_; have HO229 := n6_; have BK231 := n7_; have HB := n8_; clear n0_ n1_ n2_ n3_ n4_ n5_ n6_ n7_ n8_; obtain ⟨hcz46_0, hcz46_1⟩ := zc2 BK231.out; obtain ⟨hfz46_0, hfz46_1⟩ := zf2 BK231.out; have p232 : 0 ≤ (1 : Int) := (by omega); have q232 : 1 < (t224.length : Int) := zO; obtain ⟨ad232, A232_0, c232_0, e232, hx232_0, hl232_0, hi232_0⟩ := at_L3 (Kd.N_reads' HO226.out).2.2 1 p232 q232; cases e232; obtain ⟨ce232, hce232, hMe232, hcc232⟩ := Kd.N_get HO226.out [] 1 p232 (by first | exact q232 | exact zO | (have e_ := (Kd.N_reads' HO226.out).1; omega)); obtain ⟨ua232_0, uc232_0, rfl, ul232_0, ge232_0⟩ := Kd.FK_slice_open hMe232; have hv232_0 := hcc232 0 _ rfl; rw [Nat.add_zero, show ((Kd.slice 72 (Kd.int .u64))).sz = 1 from rfl, Nat.mul_one] at hv232_0; replace hv232_0 := Option.some.inj (hv232_0.symm.trans hx232_0); injection hv232_0 with hva_ hvn_ hvc_; rw [hva_] at ge232_0; rw [hvc_] at ul232_0; have HL232_0 := Aside0.mk (show Kd.V (Kd.int .u64) 72 _ w.heap.size _ _ (rd_L3 t224 1) from Kd.V_mk ul232_0 ge232_0); clear hva_ hvn_ hvc_ ge232_0 ul232_0; clear hcc232 hce232; (try simp only [show (1 : Int).toNat = 1 from rfl, Nat.reduceMul, Nat.reduceEqDiff, Go.Addr.add, ↓reduceIte] at hx232_0); have qi232 : (1 < t224.length) = True := eq_true (by omega); (try rw [show ((1 : Int)).toNat = 1 from rfl] at hx232_0); have HR232_0 := Aside0.mk hi232_0; have HC232_0 := Aside0.mk hl232_0; clear hi232_0 hl232_0; replace p232 := eq_true p232; replace q232 := eq_true q232) | (go_at_call 24; (with_reducible refine (bits_Set_List.calls k _ _ (rd_L3 t224 1) t233 _ ?side1 ?side2 ?side3 A10.out).mono ?_); (case side1 => first | exact HT.out | exact TabW.below HT.out (zG)); (case side2 => repeat (first | exact (by repeat (first | (with_reducible exact HR232_0.out) | (with_reducible refine Kd.C_alloc ?_ _) | (with_reducible refine Kd.C_drewN ?_ _) | (with_reducible refine Kd.C_drew ?_) | exact HR232_0.out)) | (with_reducible refine Kd.C_alloc ?_ _) | (with_reducible refine Kd.C_drewN ?_ _) | (with_reducible refine Kd.C_drew ?_))); (case side3 => exact HC232_0.out); rintro e w47 ⟨v234, rfl, ho0, hb⟩; have n0_ := Aside0.mk (Kd.R_elder' (zR HO193.out) (Kd.R_base ho0) hb); have n1_ := Aside0.mk (Kd.N_elder' (by (with_reducible repeat (first | apply Kd.N_alloc | apply Kd.N_drewN | apply Kd.N_drew)); exact HO202.out) (Kd.R_base ho0) hb); have n2_ := Aside0.mk (Kd.N_elder' (by (with_reducible repeat (first | apply Kd.N_alloc | apply Kd.N_drewN | apply Kd.N_drew)); exact HO211.out) (Kd.R_base ho0) hb); have n3_ := Aside0.mk (Kd.N_elder' (by (with_reducible repeat (first | apply Kd.N_alloc | apply Kd.N_drewN | apply Kd.N_drew)); exact HO220.out) (Kd.R_base ho0) hb); have n4_ := Aside0.mk (Kd.R_below (zR HO223.out) hb); have n5_ := Aside0.mk (Kd.N_elder' (by (with_reducible repeat (first | apply Kd.N_alloc | apply Kd.N_drewN | apply Kd.N_drew)); exact HO226.out) (Kd.R_base ho0) hb); have n6_ := Aside0.mk (Kd.N_elder' (by (with_reducible repeat (first | apply Kd.N_alloc | apply Kd.N_drewN | apply Kd.N_drew)); exact HO229.out) (Kd.R_base ho0) hb); have n7_ := Aside0.mk (Kd.V_elder' (by (with_reducible repeat (first | apply Kd.V_alloc | apply Kd.V_drewN | apply Kd.V_drew)); exact HL232_0.out) (Kd.R_base ho0) hb); have n8_ := Aside0.mk (Kd.R_lower (Kd.R_new' ho0 (Kd.R_lt (zR HO193.out))) (below_size (zG))); have n9_ := Aside0.mk (blk_below (g := gb231) (o := .cells #[.slice (some ad232) t224.length co42, .slice Ao44 t227.length co44] 36 (0, 0)) (zK BK231.out) hb); have n10_ := Aside0.mk (Kd.C_below (by repeat (first | (with_reducible exact HR232_0.out) | (with_reducible refine Kd.C_alloc ?_ _) | (with_reducible refine Kd.C_drewN ?_ _) | (with_reducible refine Kd.C_drew ?_) | exact HR232_0.out)) hb); have n11_ := Aside0.mk (below_step (zG) hb); clear HO193; clear HO202; clear HO211; clear HO220; clear HO223; clear HO226; clear HO229; clear HL232_0; clear BK231; clear HR232_0; clear HB; have HO193 := n0_; have HO202 := n1_; have HO211 := n2_; have HO220 := n3_; have HO223 := n4_; have HO226 := n5_; have HO229 := n6_; have HL232_0 := n7_; have HO235 := n8_; have BK231 := n9_; have HR232_0 := n10_; have HB := n11_; clear n0_ n1_ n2_ n3_ n4_ n5_ n6_ n7_ n8_ n9_ n10_ n11_; (try clear hb); (try clear hb2); (try clear hk); (try clear hi); (try clear ho0)) | ((with_reducible refine gate_dst (N := 36) rfl ?_); (try (refine gate_guard (by rfl) ?_; dsimp only)); refine Kd.R_lit (Kd.int .i64) _ 3 ?hg (N := 36) ?hd (xs := ([3] : List Int)) (inner := [.int .i64 3]) (ok := fun _ => True) (okp := fun _ => True) ?hr ?hp (fun _ hk => hk) trivial (Below.refl _ _) (Nat.le_refl _) (by simp) ?_; (case hd => rfl); (case hg => rfl); (case hr => first | (go_simp; done) | (go_simp; rfl)); (case hp => exact (Reps.one (show Kd.M (Kd.int .i64) _ _ _ 3 [.int .i64 3] from rfl) (Reps.none _ _))); intro v237 w48 ho49 hb hg_ hnew_; clear hg_ hnew_; (first | rw [← Ny236.out] at ho49 | (simp only [Int.reduceToNat] at ho49; rw [← Ny236.out] at ho49)); have n0_ := Aside0.mk (Kd.R_elder' (zR HO193.out) (Kd.R_base ho49) hb); have n1_ := Aside0.mk (Kd.N_elder' (by (with_reducible repeat (first | apply Kd.N_alloc | apply Kd.N_drewN | apply Kd.N_drew)); exact HO202.out) (Kd.R_base ho49) hb); have n2_ := Aside0.mk (Kd.N_elder' (by (with_reducible repeat (first | apply Kd.N_alloc | apply Kd.N_drewN | apply Kd.N_drew)); exact HO211.out) (Kd.R_base ho49) hb); have n3_ := Aside0.mk (Kd.N_elder' (by (with_reducible repeat (first | apply Kd.N_alloc | apply Kd.N_drewN | apply Kd.N_drew)); exact HO220.out) (Kd.R_base ho49) hb); have n4_ := Aside0.mk (Kd.R_below (zR HO223.out) hb); have n5_ := Aside0.mk (Kd.N_elder' (by (with_reducible repeat (first | apply Kd.N_alloc | apply Kd.N_drewN | apply Kd.N_drew)); exact HO226.out) (Kd.R_base ho49) hb); have n6_ := Aside0.mk (Kd.N_elder' (by (with_reducible repeat (first | apply Kd.N_alloc | apply Kd.N_drewN | apply Kd.N_drew)); exact HO229.out) (Kd.R_base ho49) hb); have n7_ := Aside0.mk (Kd.V_elder' (by (with_reducible repeat (first | apply Kd.V_alloc | apply Kd.V_drewN | apply Kd.V_drew)); exact HL232_0.out) (Kd.R_base ho49) hb); have n8_ := Aside0.mk (Kd.R_elder' (zR HO235.out) (Kd.R_base ho49) hb); have n9_ := Aside0.mk (Kd.R_lower (Kd.R_new' (Kd.R_new' ho49 (Kd.R_lt (zR HO193.out))) (Kd.R_lt (zR HO235.out))) (below_size (zG))); have n10_ := Aside0.mk (blk_below (g := gb231) (o := .cells #[.slice (some ad232) t224.length co42, .slice Ao44 t227.length co44] 36 (0, 0)) (zK BK231.out) hb); have n11_ := Aside0.mk (Kd.C_below (by repeat (first | (with_reducible exact HR232_0.out) | (with_reducible refine Kd.C_alloc ?_ _) | (with_reducible refine Kd.C_drewN ?_ _) | (with_reducible refine Kd.C_drew ?_) | exact HR232_0.out)) hb); have n12_ := Aside0.mk (below_step (zG) hb); clear HO193; clear HO202; clear HO211; clear HO220; clear HO223; clear HO226; clear HO229; clear HL232_0; clear HO235; clear BK231; clear HR232_0; clear HB; have HO193 := n0_; have HO202 := n1_; have HO211 := n2_; have HO220 := n3_; have HO223 := n4_; have HO226 := n5_; have HO229 := n6_; have HL232_0 := n7_; have HO235 := n8_; have HO238 := n9_; have BK231 := n10_; have HR232_0 := n11_; have HB := n12_; clear n0_ n1_ n2_ n3_ n4_ n5_ n6_ n7_ n8_ n9_ n10_ n11_ n12_; clear hb ho49; obtain ⟨Ao50, co50, eo50⟩ := Kd.R_slice HO235.out; subst eo50; obtain ⟨Ao51, co51, eo51⟩ := Kd.R_slice HO238.out; subst eo51) | (go_at_call 23; (with_reducible refine (balustradebase_SameInts.calls k _ _ t233 _ _ y236 t239 _ ?side1 ?side2 ?side3 ?side4 A11.out).mono ?_); (case side1 => exact zC (Kd.R_reads' HO235.out).2.2); (case side2 => exact (Kd.R_reads' HO235.out).2.1); (case side3 => exact zC (Kd.R_reads' HO238.out).2.2); (case side4 => exact (Kd.R_reads' HO238.out).2.1); rintro e w' ⟨rfl, ⟨nd, rfl⟩⟩))
    go_ret
    exact ⟨zV, zG⟩
   ·rw [if_neg c9] at H
    exact absurd H (by simp)
  ·rw [if_neg c8] at H
   have c8b0 : ((t224.length : Int) == 2) = false := beq_eq_false_iff_ne.mpr c8
   have c8b1 : ((t224.length : Int) != 2) = true := bne_iff_ne.mpr c8
   obtain rfl := Option.some.inj H
   go_enter Tryd.func7, Tryd.ntmps7
   go_wp2_with (first | ((with_reducible refine gate_dst (N := 5) rfl ?_); (try (refine gate_guard (by rfl) ?_; dsimp only)); refine Kd.R_lit (Kd.int .i64) _ 3 ?hg (N := 5) ?hd (xs := ([3] : List Int)) (inner := [.int .i64 3]) (ok := fun _ => True) (okp := fun _ => True) ?hr ?hp (fun _ hk => hk) trivial (Below.refl _ _) (Nat.le_refl _) (by simp) ?_; (case hd => rfl); (case hg => rfl); (case hr => first | (go_simp; done) | (go_simp; rfl)); (case hp => exact (Reps.one (show Kd.M (Kd.int .i64) _ _ _ 3 [.int .i64 3] from rfl) (Reps.none _ _))); intro v192 w52 ho53 hb hg_ hnew_; clear hg_ hnew_; (first | rw [← Ny191.out] at ho53 | (simp only [Int.reduceToNat] at ho53; rw [← Ny191.out] at ho53)); have n0_ := Aside0.mk (Kd.R_lower ho53 (below_size (zB))); have n1_ := Aside0.mk (below_step (zB) hb); clear HB; have HO193 := n0_; have HB := n1_; clear n0_ n1_; clear hb ho53; obtain ⟨Ao54, co54, eo54⟩ := Kd.R_slice HO193.out; subst eo54) | ((with_reducible refine gate_callee (f := 16) rfl ?_); refine goesL_ (some 6) rfl rfl Tryd.func16 (by kernel_rfl) rfl #[.int .i64 4, .slice Ao54 y191.length co54] rfl zE ?_; (with_reducible refine (bits_Of.calls k 4 _ _ y191 t194 _ ?side1 ?side2 A1.out).mono ?_); (case side1 => exact zC (Kd.R_reads' HO193.out).2.2); (case side2 => exact (Kd.R_reads' HO193.out).2.1); rintro e w55 ⟨v195, rfl, ho0, hb⟩; refine ⟨_, rfl, ?_⟩; have n0_ := Aside0.mk (Kd.R_below (zR HO193.out) hb); have n1_ := Aside0.mk (Kd.R_lower ho0 (below_size (zB))); have n2_ := Aside0.mk (below_step (zB) hb); clear HO193; clear HB; have HO193 := n0_; have HO196 := n1_; have HB := n2_; clear n0_ n1_ n2_; (try clear hb); (try clear hb2); (try clear hk); (try clear hi); (try clear ho0)) | ((with_reducible refine gate_callee (f := 22) rfl ?_); refine goesL_ (some 7) rfl rfl Tryd.func22 (by kernel_rfl) rfl #[.int .i64 4] rfl zE ?_; (with_reducible refine (bits_New.calls 4 t197 _ A2.out).mono ?_); rintro e w56 ⟨v198, rfl, ho0, hb⟩; refine ⟨_, rfl, ?_⟩; have n0_ := Aside0.mk (Kd.R_below (zR HO193.out) hb); have n1_ := Aside0.mk (Kd.R_elder' (zR HO196.out) (Kd.R_base ho0) hb); have n2_ := Aside0.mk (Kd.R_lower (Kd.R_new' ho0 (Kd.R_lt (zR HO196.out))) (below_size (zB))); have n3_ := Aside0.mk (below_step (zB) hb); clear HO193; clear HO196; clear HB; have HO193 := n0_; have HO196 := n1_; have HO199 := n2_; have HB := n3_; clear n0_ n1_ n2_ n3_; (try clear hb); (try clear hb2); (try clear hk); (try clear hi); (try clear ho0); obtain ⟨Ao57, co57, eo57⟩ := Kd.R_slice HO196.out; subst eo57; obtain ⟨Ao58, co58, eo58⟩ := Kd.R_slice HO199.out; subst eo58) | ((with_reducible refine gate_dst (N := 8) rfl ?_); (try (refine gate_guard (by rfl) ?_; dsimp only)); refine Kd.N_lit (Kd.slice 72 (Kd.int .u64)) _ 30 ?hg (N' := 8) ?hd (xs := ([t194, t197] : List (List Int))) (inner := [.slice Ao57 t194.length co57, .slice Ao58 t197.length co58]) (ok := (fun k_ => some k_ ≠ (.slice Ao54 y191.length co54 : Value).ownBlock)) (okp := (fun k_ => some k_ ≠ (.slice Ao54 y191.length co54 : Value).ownBlock)) ?hr ?hp (fun _ hk => hk) ((show ∀ k_, w56.heap.size ≤ k_ → (fun k_ => some k_ ≠ (.slice Ao54 y191.length co54 : Value).ownBlock) k_ from fun k_ hk => Kd.fresh' (Kd.R_lt (zR HO193.out)) k_ hk) _ (Nat.le_refl _)) (Below.refl _ _) (Nat.le_refl _) (by simp) ?_; (case hd => rfl); (case hg => rfl); (case hr => first | (go_simp; done) | (go_simp; rfl)); (case hp => exact (Reps.one (show Kd.FK (Kd.slice 72 (Kd.int .u64)) _ _ t194 [.slice Ao57 t194.length co57] from (Kd.FK_slice_mk (Kd.R_reads' (Kd.R_mono (ok' := (fun k_ => some k_ ≠ (.slice Ao54 y191.length co54 : Value).ownBlock)) (Kd.R_apart' (HO196.out) (Kd.R_typed HO193.out) (by decide)) (fun k_ hk => hk.2))).2.1 (Kd.R_F (Kd.R_mono (ok' := (fun k_ => some k_ ≠ (.slice Ao54 y191.length co54 : Value).ownBlock)) (Kd.R_apart' (HO196.out) (Kd.R_typed HO193.out) (by decide)) (fun k_ hk => hk.2))))) (Reps.one (show Kd.FK (Kd.slice 72 (Kd.int .u64)) _ _ t197 [.slice Ao58 t197.length co58] from (Kd.FK_slice_mk (Kd.R_reads' (Kd.R_mono (ok' := (fun k_ => some k_ ≠ (.slice Ao54 y191.length co54 : Value).ownBlock)) (Kd.R_apart' (HO199.out) (Kd.R_typed HO193.out) (by decide)) (fun k_ hk => hk.2))).2.1 (Kd.R_F (Kd.R_mono (ok' := (fun k_ => some k_ ≠ (.slice Ao54 y191.length co54 : Value).ownBlock)) (Kd.R_apart' (HO199.out) (Kd.R_typed HO193.out) (by decide)) (fun k_ hk => hk.2))))) (Reps.none _ _)))); intro v201 w59 ho60 hb hg_ hnew_; clear hg_ hnew_; (first | rw [← Ny200.out] at ho60 | (simp only [Int.reduceToNat] at ho60; rw [← Ny200.out] at ho60)); have n0_ := Aside0.mk (Kd.R_below (zR HO193.out) hb); have n1_ := Aside0.mk (Kd.N_lower ho60 (below_size (zB))); have n2_ := Aside0.mk (below_step (zB) hb); clear HO193; clear HB; clear HO196; clear HO199; have HO193 := n0_; have HO202 := n1_; have HB := n2_; clear n0_ n1_ n2_; clear hb ho60) | ((with_reducible refine gate_callee (f := 22) rfl ?_); refine goesL_ (some 9) rfl rfl Tryd.func22 (by kernel_rfl) rfl #[.int .i64 4] rfl zE ?_; (with_reducible refine (bits_New.calls 4 t203 _ A3.out).mono ?_); rintro e w61 ⟨v204, rfl, ho0, hb⟩; refine ⟨_, rfl, ?_⟩; have n0_ := Aside0.mk (Kd.R_below (zR HO193.out) hb); have n1_ := Aside0.mk (Kd.N_elder' (by (with_reducible repeat (first | apply Kd.N_alloc | apply Kd.N_drewN | apply Kd.N_drew)); exact HO202.out) (Kd.R_base ho0) hb); have n2_ := Aside0.mk (Kd.R_lower ho0 (below_size (zB))); have n3_ := Aside0.mk (below_step (zB) hb); clear HO193; clear HO202; clear HB; have HO193 := n0_; have HO202 := n1_; have HO205 := n2_; have HB := n3_; clear n0_ n1_ n2_ n3_; (try clear hb); (try clear hb2); (try clear hk); (try clear hi); (try clear ho0)) | ((with_reducible refine gate_callee (f := 22) rfl ?_); refine goesL_ (some 10) rfl rfl Tryd.func22 (by kernel_rfl) rfl #[.int .i64 4] rfl zE ?_; (with_reducible refine (bits_New.calls 4 t206 _ A4.out).mono ?_); rintro e w62 ⟨v207, rfl, ho0, hb⟩; refine ⟨_, rfl, ?_⟩; have n0_ := Aside0.mk (Kd.R_below (zR HO193.out) hb); have n1_ := Aside0.mk (Kd.N_elder' (by (with_reducible repeat (first | apply Kd.N_alloc | apply Kd.N_drewN | apply Kd.N_drew)); exact HO202.out) (Kd.R_base ho0) hb); have n2_ := Aside0.mk (Kd.R_elder' (zR HO205.out) (Kd.R_base ho0) hb); have n3_ := Aside0.mk (Kd.R_lower (Kd.R_new' ho0 (Kd.R_lt (zR HO205.out))) (below_size (zB))); have n4_ := Aside0.mk (below_step (zB) hb); clear HO193; clear HO202; clear HO205; clear HB; have HO193 := n0_; have HO202 := n1_; have HO205 := n2_; have HO208 := n3_; have HB := n4_; clear n0_ n1_ n2_ n3_ n4_; (try clear hb); (try clear hb2); (try clear hk); (try clear hi); (try clear ho0); obtain ⟨Ao63, co63, eo63⟩ := Kd.R_slice HO205.out; subst eo63; obtain ⟨Ao64, co64, eo64⟩ := Kd.R_slice HO208.out; subst eo64) | ((with_reducible refine gate_dst (N := 11) rfl ?_); (try (refine gate_guard (by rfl) ?_; dsimp only)); refine Kd.N_lit (Kd.slice 72 (Kd.int .u64)) _ 30 ?hg (N' := 11) ?hd (xs := ([t203, t206] : List (List Int))) (inner := [.slice Ao63 t203.length co63, .slice Ao64 t206.length co64]) (ok := (fun k_ => some k_ ≠ (.slice Ao54 y191.length co54 : Value).ownBlock ∧ some k_ ≠ (v201 : Value).ownBlock)) (okp := (fun k_ => some k_ ≠ (.slice Ao54 y191.length co54 : Value).ownBlock ∧ some k_ ≠ (v201 : Value).ownBlock)) ?hr ?hp (fun _ hk => hk) ((show ∀ k_, w62.heap.size ≤ k_ → (fun k_ => some k_ ≠ (.slice Ao54 y191.length co54 : Value).ownBlock ∧ some k_ ≠ (v201 : Value).ownBlock) k_ from fun k_ hk => ⟨Kd.fresh' (Kd.R_lt (zR HO193.out)) k_ hk, Kd.fresh' (Kd.N_lt (by (with_reducible repeat (first | apply Kd.N_alloc | apply Kd.N_drewN | apply Kd.N_drew)); exact HO202.out)) k_ hk⟩) _ (Nat.le_refl _)) (Below.refl _ _) (Nat.le_refl _) (by simp) ?_; (case hd => rfl); (case hg => rfl); (case hr => first | (go_simp; done) | (go_simp; rfl)); (case hp => exact (Reps.one (show Kd.FK (Kd.slice 72 (Kd.int .u64)) _ _ t203 [.slice Ao63 t203.length co63] from (Kd.FK_slice_mk (Kd.R_reads' (Kd.R_mono (ok' := (fun k_ => some k_ ≠ (.slice Ao54 y191.length co54 : Value).ownBlock ∧ some k_ ≠ (v201 : Value).ownBlock)) (Kd.R_apart' (Kd.R_apart' (HO205.out) (Kd.R_typed HO193.out) (by decide)) (Kd.N_typed HO202.out) (by decide)) (fun k_ hk => ⟨hk.1.2, hk.2⟩))).2.1 (Kd.R_F (Kd.R_mono (ok' := (fun k_ => some k_ ≠ (.slice Ao54 y191.length co54 : Value).ownBlock ∧ some k_ ≠ (v201 : Value).ownBlock)) (Kd.R_apart' (Kd.R_apart' (HO205.out) (Kd.R_typed HO193.out) (by decide)) (Kd.N_typed HO202.out) (by decide)) (fun k_ hk => ⟨hk.1.2, hk.2⟩))))) (Reps.one (show Kd.FK (Kd.slice 72 (Kd.int .u64)) _ _ t206 [.slice Ao64 t206.length co64] from (Kd.FK_slice_mk (Kd.R_reads' (Kd.R_mono (ok' := (fun k_ => some k_ ≠ (.slice Ao54 y191.length co54 : Value).ownBlock ∧ some k_ ≠ (v201 : Value).ownBlock)) (Kd.R_apart' (Kd.R_apart' (HO208.out) (Kd.R_typed HO193.out) (by decide)) (Kd.N_typed HO202.out) (by decide)) (fun k_ hk => ⟨hk.1.2, hk.2⟩))).2.1 (Kd.R_F (Kd.R_mono (ok' := (fun k_ => some k_ ≠ (.slice Ao54 y191.length co54 : Value).ownBlock ∧ some k_ ≠ (v201 : Value).ownBlock)) (Kd.R_apart' (Kd.R_apart' (HO208.out) (Kd.R_typed HO193.out) (by decide)) (Kd.N_typed HO202.out) (by decide)) (fun k_ hk => ⟨hk.1.2, hk.2⟩))))) (Reps.none _ _)))); intro v210 w65 ho66 hb hg_ hnew_; clear hg_ hnew_; (first | rw [← Ny209.out] at ho66 | (simp only [Int.reduceToNat] at ho66; rw [← Ny209.out] at ho66)); have n0_ := Aside0.mk (Kd.R_below (zR HO193.out) hb); have n1_ := Aside0.mk (Kd.N_elder' (by (with_reducible repeat (first | apply Kd.N_alloc | apply Kd.N_drewN | apply Kd.N_drew)); exact HO202.out) (Kd.N_base ho66) hb); have n2_ := Aside0.mk (Kd.N_lower ho66 (below_size (zB))); have n3_ := Aside0.mk (below_step (zB) hb); clear HO193; clear HO202; clear HB; clear HO205; clear HO208; have HO193 := n0_; have HO202 := n1_; have HO211 := n2_; have HB := n3_; clear n0_ n1_ n2_ n3_; clear hb ho66) | ((with_reducible refine gate_dst (N := 13) rfl ?_); (try (refine gate_guard (by rfl) ?_; dsimp only)); refine Kd.R_lit (Kd.int .i64) _ 3 ?hg (N := 13) ?hd (xs := ([1] : List Int)) (inner := [.int .i64 1]) (ok := fun _ => True) (okp := fun _ => True) ?hr ?hp (fun _ hk => hk) trivial (Below.refl _ _) (Nat.le_refl _) (by simp) ?_; (case hd => rfl); (case hg => rfl); (case hr => first | (go_simp; done) | (go_simp; rfl)); (case hp => exact (Reps.one (show Kd.M (Kd.int .i64) _ _ _ 1 [.int .i64 1] from rfl) (Reps.none _ _))); intro v213 w67 ho68 hb hg_ hnew_; clear hg_ hnew_; (first | rw [← Ny212.out] at ho68 | (simp only [Int.reduceToNat] at ho68; rw [← Ny212.out] at ho68)); have n0_ := Aside0.mk (Kd.R_elder' (zR HO193.out) (Kd.R_base ho68) hb); have n1_ := Aside0.mk (Kd.N_elder' (by (with_reducible repeat (first | apply Kd.N_alloc | apply Kd.N_drewN | apply Kd.N_drew)); exact HO202.out) (Kd.R_base ho68) hb); have n2_ := Aside0.mk (Kd.N_elder' (by (with_reducible repeat (first | apply Kd.N_alloc | apply Kd.N_drewN | apply Kd.N_drew)); exact HO211.out) (Kd.R_base ho68) hb); have n3_ := Aside0.mk (Kd.R_lower (Kd.R_new' ho68 (Kd.R_lt (zR HO193.out))) (below_size (zB))); have n4_ := Aside0.mk (below_step (zB) hb); clear HO193; clear HO202; clear HO211; clear HB; have HO193 := n0_; have HO202 := n1_; have HO211 := n2_; have HO214 := n3_; have HB := n4_; clear n0_ n1_ n2_ n3_ n4_; clear hb ho68) | ((with_reducible refine gate_dst (N := 14) rfl ?_); (try (refine gate_guard (by rfl) ?_; dsimp only)); refine Kd.R_lit (Kd.int .i64) _ 3 ?hg (N := 14) ?hd (xs := ([1] : List Int)) (inner := [.int .i64 1]) (ok := fun _ => True) (okp := fun _ => True) ?hr ?hp (fun _ hk => hk) trivial (Below.refl _ _) (Nat.le_refl _) (by simp) ?_; (case hd => rfl); (case hg => rfl); (case hr => first | (go_simp; done) | (go_simp; rfl)); (case hp => exact (Reps.one (show Kd.M (Kd.int .i64) _ _ _ 1 [.int .i64 1] from rfl) (Reps.none _ _))); intro v216 w69 ho70 hb hg_ hnew_; clear hg_ hnew_; (first | rw [← Ny215.out] at ho70 | (simp only [Int.reduceToNat] at ho70; rw [← Ny215.out] at ho70)); have n0_ := Aside0.mk (Kd.R_elder' (zR HO193.out) (Kd.R_base ho70) hb); have n1_ := Aside0.mk (Kd.N_elder' (by (with_reducible repeat (first | apply Kd.N_alloc | apply Kd.N_drewN | apply Kd.N_drew)); exact HO202.out) (Kd.R_base ho70) hb); have n2_ := Aside0.mk (Kd.N_elder' (by (with_reducible repeat (first | apply Kd.N_alloc | apply Kd.N_drewN | apply Kd.N_drew)); exact HO211.out) (Kd.R_base ho70) hb); have n3_ := Aside0.mk (Kd.R_elder' (zR HO214.out) (Kd.R_base ho70) hb); have n4_ := Aside0.mk (Kd.R_lower (Kd.R_new' (Kd.R_new' ho70 (Kd.R_lt (zR HO193.out))) (Kd.R_lt (zR HO214.out))) (below_size (zB))); have n5_ := Aside0.mk (below_step (zB) hb); clear HO193; clear HO202; clear HO211; clear HO214; clear HB; have HO193 := n0_; have HO202 := n1_; have HO211 := n2_; have HO214 := n3_; have HO217 := n4_; have HB := n5_; clear n0_ n1_ n2_ n3_ n4_ n5_; clear hb ho70; obtain ⟨Ao71, co71, eo71⟩ := Kd.R_slice HO214.out; subst eo71; obtain ⟨Ao72, co72, eo72⟩ := Kd.R_slice HO217.out; subst eo72) | ((with_reducible refine gate_dst (N := 15) rfl ?_); (try (refine gate_guard (by rfl) ?_; dsimp only)); refine Kd.N_lit (Kd.slice 3 (Kd.int .i64)) _ 23 ?hg (N' := 15) ?hd (xs := ([y212, y215] : List (List Int))) (inner := [.slice Ao71 y212.length co71, .slice Ao72 y215.length co72]) (ok := (fun k_ => some k_ ≠ (.slice Ao54 y191.length co54 : Value).ownBlock ∧ some k_ ≠ (v201 : Value).ownBlock ∧ some k_ ≠ (v210 : Value).ownBlock)) (okp := (fun k_ => some k_ ≠ (.slice Ao54 y191.length co54 : Value).ownBlock ∧ some k_ ≠ (v201 : Value).ownBlock ∧ some k_ ≠ (v210 : Value).ownBlock)) ?hr ?hp (fun _ hk => hk) ((show ∀ k_, w69.heap.size ≤ k_ → (fun k_ => some k_ ≠ (.slice Ao54 y191.length co54 : Value).ownBlock ∧ some k_ ≠ (v201 : Value).ownBlock ∧ some k_ ≠ (v210 : Value).ownBlock) k_ from fun k_ hk => ⟨Kd.fresh' (Kd.R_lt (zR HO193.out)) k_ hk, Kd.fresh' (Kd.N_lt (by (with_reducible repeat (first | apply Kd.N_alloc | apply Kd.N_drewN | apply Kd.N_drew)); exact HO202.out)) k_ hk, Kd.fresh' (Kd.N_lt (by (with_reducible repeat (first | apply Kd.N_alloc | apply Kd.N_drewN | apply Kd.N_drew)); exact HO211.out)) k_ hk⟩) _ (Nat.le_refl _)) (Below.refl _ _) (Nat.le_refl _) (by simp) ?_; (case hd => rfl); (case hg => rfl); (case hr => first | (go_simp; done) | (go_simp; rfl)); (case hp => exact (Reps.one (show Kd.FK (Kd.slice 3 (Kd.int .i64)) _ _ y212 [.slice Ao71 y212.length co71] from (Kd.FK_slice_mk (Kd.R_reads' (Kd.R_mono (ok' := (fun k_ => some k_ ≠ (.slice Ao54 y191.length co54 : Value).ownBlock ∧ some k_ ≠ (v201 : Value).ownBlock ∧ some k_ ≠ (v210 : Value).ownBlock)) (Kd.R_apart' (Kd.R_apart' (HO214.out) (Kd.N_typed HO202.out) (by decide)) (Kd.N_typed HO211.out) (by decide)) (fun k_ hk => ⟨hk.1.1.1.2, ⟨hk.1.2, hk.2⟩⟩))).2.1 (Kd.R_F (Kd.R_mono (ok' := (fun k_ => some k_ ≠ (.slice Ao54 y191.length co54 : Value).ownBlock ∧ some k_ ≠ (v201 : Value).ownBlock ∧ some k_ ≠ (v210 : Value).ownBlock)) (Kd.R_apart' (Kd.R_apart' (HO214.out) (Kd.N_typed HO202.out) (by decide)) (Kd.N_typed HO211.out) (by decide)) (fun k_ hk => ⟨hk.1.1.1.2, ⟨hk.1.2, hk.2⟩⟩))))) (Reps.one (show Kd.FK (Kd.slice 3 (Kd.int .i64)) _ _ y215 [.slice Ao72 y215.length co72] from (Kd.FK_slice_mk (Kd.R_reads' (Kd.R_mono (ok' := (fun k_ => some k_ ≠ (.slice Ao54 y191.length co54 : Value).ownBlock ∧ some k_ ≠ (v201 : Value).ownBlock ∧ some k_ ≠ (v210 : Value).ownBlock)) (Kd.R_apart' (Kd.R_apart' (HO217.out) (Kd.N_typed HO202.out) (by decide)) (Kd.N_typed HO211.out) (by decide)) (fun k_ hk => ⟨hk.1.1.1.2, ⟨hk.1.2, hk.2⟩⟩))).2.1 (Kd.R_F (Kd.R_mono (ok' := (fun k_ => some k_ ≠ (.slice Ao54 y191.length co54 : Value).ownBlock ∧ some k_ ≠ (v201 : Value).ownBlock ∧ some k_ ≠ (v210 : Value).ownBlock)) (Kd.R_apart' (Kd.R_apart' (HO217.out) (Kd.N_typed HO202.out) (by decide)) (Kd.N_typed HO211.out) (by decide)) (fun k_ hk => ⟨hk.1.1.1.2, ⟨hk.1.2, hk.2⟩⟩))))) (Reps.none _ _)))); intro v219 w73 ho74 hb hg_ hnew_; clear hg_ hnew_; (first | rw [← Ny218.out] at ho74 | (simp only [Int.reduceToNat] at ho74; rw [← Ny218.out] at ho74)); have n0_ := Aside0.mk (Kd.R_below (zR HO193.out) hb); have n1_ := Aside0.mk (Kd.N_elder' (by (with_reducible repeat (first | apply Kd.N_alloc | apply Kd.N_drewN | apply Kd.N_drew)); exact HO202.out) (Kd.N_base ho74) hb); have n2_ := Aside0.mk (Kd.N_elder' (by (with_reducible repeat (first | apply Kd.N_alloc | apply Kd.N_drewN | apply Kd.N_drew)); exact HO211.out) (Kd.N_base ho74) hb); have n3_ := Aside0.mk (Kd.N_lower ho74 (below_size (zB))); have n4_ := Aside0.mk (below_step (zB) hb); clear HO193; clear HO202; clear HO211; clear HB; clear HO214; clear HO217; have HO193 := n0_; have HO202 := n1_; have HO211 := n2_; have HO220 := n3_; have HB := n4_; clear n0_ n1_ n2_ n3_ n4_; clear hb ho74) | ((with_reducible refine gate_callee (f := 22) rfl ?_); refine goesL_ (some 18) rfl rfl Tryd.func22 (by kernel_rfl) rfl #[.int .i64 4] rfl zE ?_; (with_reducible refine (bits_New.calls 4 t221 _ A5.out).mono ?_); rintro e w75 ⟨v222, rfl, ho0, hb⟩; refine ⟨_, rfl, ?_⟩; have n0_ := Aside0.mk (Kd.R_below (zR HO193.out) hb); have n1_ := Aside0.mk (Kd.N_elder' (by (with_reducible repeat (first | apply Kd.N_alloc | apply Kd.N_drewN | apply Kd.N_drew)); exact HO202.out) (Kd.R_base ho0) hb); have n2_ := Aside0.mk (Kd.N_elder' (by (with_reducible repeat (first | apply Kd.N_alloc | apply Kd.N_drewN | apply Kd.N_drew)); exact HO211.out) (Kd.R_base ho0) hb); have n3_ := Aside0.mk (Kd.N_elder' (by (with_reducible repeat (first | apply Kd.N_alloc | apply Kd.N_drewN | apply Kd.N_drew)); exact HO220.out) (Kd.R_base ho0) hb); have n4_ := Aside0.mk (Kd.R_lower ho0 (below_size (zB))); have n5_ := Aside0.mk (below_step (zB) hb); clear HO193; clear HO202; clear HO211; clear HO220; clear HB; have HO193 := n0_; have HO202 := n1_; have HO211 := n2_; have HO220 := n3_; have HO223 := n4_; have HB := n5_; clear n0_ n1_ n2_ n3_ n4_ n5_; (try clear hb); (try clear hb2); (try clear hk); (try clear hi); (try clear ho0); obtain ⟨Ao76, co76, eo76⟩ := Kd.R_slice HO223.out; subst eo76; obtain ⟨Ao77, co77, eo77⟩ := Kd.N_slice HO211.out; subst eo77; obtain ⟨Ao78, co78, eo78⟩ := Kd.N_slice HO202.out; subst eo78; obtain ⟨Ao79, co79, eo79⟩ := Kd.N_slice HO220.out; subst eo79) | ((with_reducible refine gate_callee (f := 9) rfl ?_); refine goesL_ (some 20) rfl rfl Tryd.func9 (by kernel_rfl) rfl #[.agg #[.slice Ao79 y218.length co79, .bool false, .bool false, .int .i64 4, .slice Ao78 y200.length co78, .slice Ao77 y209.length co77, .slice Ao76 t221.length co76]] rfl zE ?_; (with_reducible refine (flow_Solve.calls k _ _ y218 false false 4 _ _ y200 _ _ y209 _ _ t221 t224 t227 true _ ?side1 ?side2 ?side3 ?side4 ?side5 ?side6 ?side7 ?side8 ?side9 A6.out).mono ?_); (case side1 => first | exact HT.out | exact TabW.below HT.out (zB)); (case side2 => exact zC (Kd.N_reads' HO220.out).2.2); (case side3 => exact (Kd.N_reads' HO220.out).2.1); (case side4 => exact zC (Kd.N_reads' HO202.out).2.2); (case side5 => exact (Kd.N_reads' HO202.out).2.1); (case side6 => exact zC (Kd.N_reads' HO211.out).2.2); (case side7 => exact (Kd.N_reads' HO211.out).2.1); (case side8 => exact zC (Kd.R_reads' HO223.out).2.2); (case side9 => exact (Kd.R_reads' HO223.out).2.1); rintro e w80 ⟨v225, v228, rfl, ho0, ho1, hb⟩; refine ⟨_, rfl, ?_⟩; have n0_ := Aside0.mk (Kd.R_below (zR HO193.out) hb); have n1_ := Aside0.mk (Kd.N_mono (Kd.N_told (Kd.N_told (Kd.N_old (by (with_reducible repeat (first | apply Kd.N_alloc | apply Kd.N_drewN | apply Kd.N_drew)); exact HO202.out) hb) (Kd.N_base ho0)) (Kd.N_base ho1)) (fun _ h_ => h_.1)); have n2_ := Aside0.mk (Kd.N_mono (Kd.N_told (Kd.N_told (Kd.N_old (by (with_reducible repeat (first | apply Kd.N_alloc | apply Kd.N_drewN | apply Kd.N_drew)); exact HO211.out) hb) (Kd.N_base ho0)) (Kd.N_base ho1)) (fun _ h_ => h_.1)); have n3_ := Aside0.mk (Kd.N_mono (Kd.N_told (Kd.N_told (Kd.N_old (by (with_reducible repeat (first | apply Kd.N_alloc | apply Kd.N_drewN | apply Kd.N_drew)); exact HO220.out) hb) (Kd.N_base ho0)) (Kd.N_base ho1)) (fun _ h_ => h_.1)); have n4_ := Aside0.mk (Kd.R_below (zR HO223.out) hb); have n5_ := Aside0.mk (Kd.N_lower (Kd.N_mono (ok' := fun k_ => some k_ ≠ (v228 : Value).ownBlock ∧ some k_ ≠ (.slice Ao54 y191.length co54 : Value).ownBlock ∧ some k_ ≠ (.slice Ao78 y200.length co78 : Value).ownBlock ∧ some k_ ≠ (.slice Ao77 y209.length co77 : Value).ownBlock ∧ some k_ ≠ (.slice Ao79 y218.length co79 : Value).ownBlock ∧ some k_ ≠ (.slice Ao76 t221.length co76 : Value).ownBlock) (Kd.N_mono ho0 (fun k_ h_ => And.intro h_.1 (And.intro h_.2 trivial))) (fun k_ hk_ => ⟨hk_.1, (Kd.fresh' (Kd.R_lt (zR HO193.out)) k_ hk_.2.1), (Kd.fresh' (Kd.N_lt (by (with_reducible repeat (first | apply Kd.N_alloc | apply Kd.N_drewN | apply Kd.N_drew)); exact HO202.out)) k_ hk_.2.1), (Kd.fresh' (Kd.N_lt (by (with_reducible repeat (first | apply Kd.N_alloc | apply Kd.N_drewN | apply Kd.N_drew)); exact HO211.out)) k_ hk_.2.1), (Kd.fresh' (Kd.N_lt (by (with_reducible repeat (first | apply Kd.N_alloc | apply Kd.N_drewN | apply Kd.N_drew)); exact HO220.out)) k_ hk_.2.1), (Kd.fresh' (Kd.R_lt (zR HO223.out)) k_ hk_.2.1)⟩)) (below_size (zB))); have n6_ := Aside0.mk (Kd.N_lower (Kd.N_mono (ok' := fun k_ => some k_ ≠ (v225 : Value).ownBlock ∧ some k_ ≠ (.slice Ao54 y191.length co54 : Value).ownBlock ∧ some k_ ≠ (.slice Ao78 y200.length co78 : Value).ownBlock ∧ some k_ ≠ (.slice Ao77 y209.length co77 : Value).ownBlock ∧ some k_ ≠ (.slice Ao79 y218.length co79 : Value).ownBlock ∧ some k_ ≠ (.slice Ao76 t221.length co76 : Value).ownBlock) (Kd.N_mono ho1 (fun k_ h_ => And.intro h_.1 (And.intro h_.2 trivial))) (fun k_ hk_ => ⟨hk_.1, (Kd.fresh' (Kd.R_lt (zR HO193.out)) k_ hk_.2.1), (Kd.fresh' (Kd.N_lt (by (with_reducible repeat (first | apply Kd.N_alloc | apply Kd.N_drewN | apply Kd.N_drew)); exact HO202.out)) k_ hk_.2.1), (Kd.fresh' (Kd.N_lt (by (with_reducible repeat (first | apply Kd.N_alloc | apply Kd.N_drewN | apply Kd.N_drew)); exact HO211.out)) k_ hk_.2.1), (Kd.fresh' (Kd.N_lt (by (with_reducible repeat (first | apply Kd.N_alloc | apply Kd.N_drewN | apply Kd.N_drew)); exact HO220.out)) k_ hk_.2.1), (Kd.fresh' (Kd.R_lt (zR HO223.out)) k_ hk_.2.1)⟩)) (below_size (zB))); have n7_ := Aside0.mk (below_step (zB) hb); clear HO193; clear HO202; clear HO211; clear HO220; clear HO223; clear HB; have HO193 := n0_; have HO202 := n1_; have HO211 := n2_; have HO220 := n3_; have HO223 := n4_; have HO226 := n5_; have HO229 := n6_; have HB := n7_; clear n0_ n1_ n2_ n3_ n4_ n5_ n6_ n7_; (try clear hb); (try clear hb2); (try clear hk); (try clear hi); (try clear ho0); (try clear ho1)) | ((with_reducible refine gate_dst (N := 3) rfl ?_); (try (refine gate_guard (by rfl) ?_; dsimp only)); refine box_event ?hg (N := 3) ?hd (cs := #[.slice none 0 0, .slice none 0 0]) (t := 36) ?hr ?_; (case hd => rfl); (case hg => rfl); (case hr => first | (go_simp; done) | (go_simp; rfl)); intro gb231 hg w81 hbox hb; have n0_ := Aside0.mk (Kd.R_below (zR HO193.out) hb); have n1_ := Aside0.mk (Kd.N_below (Kd.N_elderB (by (with_reducible repeat (first | apply Kd.N_alloc | apply Kd.N_drewN | apply Kd.N_drew)); exact HO202.out) gb231 (Nat.le_of_eq hg.symm)) hb); have n2_ := Aside0.mk (Kd.N_below (Kd.N_elderB (by (with_reducible repeat (first | apply Kd.N_alloc | apply Kd.N_drewN | apply Kd.N_drew)); exact HO211.out) gb231 (Nat.le_of_eq hg.symm)) hb); have n3_ := Aside0.mk (Kd.N_below (Kd.N_elderB (by (with_reducible repeat (first | apply Kd.N_alloc | apply Kd.N_drewN | apply Kd.N_drew)); exact HO220.out) gb231 (Nat.le_of_eq hg.symm)) hb); have n4_ := Aside0.mk (Kd.R_below (zR HO223.out) hb); have n5_ := Aside0.mk (Kd.N_below (Kd.N_elderB (by (with_reducible repeat (first | apply Kd.N_alloc | apply Kd.N_drewN | apply Kd.N_drew)); exact HO226.out) gb231 (Nat.le_of_eq hg.symm)) hb); have n6_ := Aside0.mk (Kd.N_below (Kd.N_elderB (by (with_reducible repeat (first | apply Kd.N_alloc | apply Kd.N_drewN | apply Kd.N_drew)); exact HO229.out) gb231 (Nat.le_of_eq hg.symm)) hb); have n7_ := Aside0.mk (below_step (zB) hb); have n8_ := Aside0.mk (hbox); have n9_ := Aside0.mk (zH hg : w.heap.size ≤ gb231); have n10_ := Aside0.mk ((by rw [hg]; exact (below_size (zB)) : w.heap.size ≤ gb231)); clear HO193; clear HO202; clear HO211; clear HO220; clear HO223; clear HO226; clear HO229; clear HB; have HO193 := n0_; have HO202 := n1_; have HO211 := n2_; have HO220 := n3_; have HO223 := n4_; have HO226 := n5_; have HO229 := n6_; have HB := n7_; have BK231 := n8_; have GW231 := n9_; have GE231 := n10_; clear n0_ n1_ n2_ n3_ n4_ n5_ n6_ n7_ n8_ n9_ n10_; clear hb hbox hg; obtain ⟨Ao82, co82, eo82⟩ := Kd.N_slice HO226.out; subst eo82; obtain ⟨hcz83_0, hcz83_1⟩ := zc2 BK231.out; obtain ⟨hfz83_0, hfz83_1⟩ := zf2 BK231.out; obtain ⟨Ao84, co84, eo84⟩ := Kd.N_slice HO229.out; subst eo84))
   go_ret
   exact ⟨zV, zG⟩
 ·replace c7 := Bool.eq_false_iff.mpr c7
  subst c7
  have H1 : (some false) = some r := by rw [if_neg (show ¬ (false = true) by decide)] at H; exact H
  clear H
  have H := H1
  clear H1
  obtain rfl := Option.some.inj H
  go_enter Tryd.func7, Tryd.ntmps7
  go_wp2_with (first | ((with_reducible refine gate_dst (N := 5) rfl ?_); (try (refine gate_guard (by rfl) ?_; dsimp only)); refine Kd.R_lit (Kd.int .i64) _ 3 ?hg (N := 5) ?hd (xs := ([3] : List Int)) (inner := [.int .i64 3]) (ok := fun _ => True) (okp := fun _ => True) ?hr ?hp (fun _ hk => hk) trivial (Below.refl _ _) (Nat.le_refl _) (by simp) ?_; (case hd => rfl); (case hg => rfl); (case hr => first | (go_simp; done) | (go_simp; rfl)); (case hp => exact (Reps.one (show Kd.M (Kd.int .i64) _ _ _ 3 [.int .i64 3] from rfl) (Reps.none _ _))); intro v192 w85 ho86 hb hg_ hnew_; clear hg_ hnew_; (first | rw [← Ny191.out] at ho86 | (simp only [Int.reduceToNat] at ho86; rw [← Ny191.out] at ho86)); have n0_ := Aside0.mk (Kd.R_lower ho86 (below_size (zB))); have n1_ := Aside0.mk (below_step (zB) hb); clear HB; have HO193 := n0_; have HB := n1_; clear n0_ n1_; clear hb ho86; obtain ⟨Ao87, co87, eo87⟩ := Kd.R_slice HO193.out; subst eo87) | ((with_reducible refine gate_callee (f := 16) rfl ?_); refine goesL_ (some 6) rfl rfl Tryd.func16 (by kernel_rfl) rfl #[.int .i64 4, .slice Ao87 y191.length co87] rfl zE ?_; (with_reducible refine (bits_Of.calls k 4 _ _ y191 t194 _ ?side1 ?side2 A1.out).mono ?_); (case side1 => exact zC (Kd.R_reads' HO193.out).2.2); (case side2 => exact (Kd.R_reads' HO193.out).2.1); rintro e w88 ⟨v195, rfl, ho0, hb⟩; refine ⟨_, rfl, ?_⟩; have n0_ := Aside0.mk (Kd.R_below (zR HO193.out) hb); have n1_ := Aside0.mk (Kd.R_lower ho0 (below_size (zB))); have n2_ := Aside0.mk (below_step (zB) hb); clear HO193; clear HB; have HO193 := n0_; have HO196 := n1_; have HB := n2_; clear n0_ n1_ n2_; (try clear hb); (try clear hb2); (try clear hk); (try clear hi); (try clear ho0)) | ((with_reducible refine gate_callee (f := 22) rfl ?_); refine goesL_ (some 7) rfl rfl Tryd.func22 (by kernel_rfl) rfl #[.int .i64 4] rfl zE ?_; (with_reducible refine (bits_New.calls 4 t197 _ A2.out).mono ?_); rintro e w89 ⟨v198, rfl, ho0, hb⟩; refine ⟨_, rfl, ?_⟩; have n0_ := Aside0.mk (Kd.R_below (zR HO193.out) hb); have n1_ := Aside0.mk (Kd.R_elder' (zR HO196.out) (Kd.R_base ho0) hb); have n2_ := Aside0.mk (Kd.R_lower (Kd.R_new' ho0 (Kd.R_lt (zR HO196.out))) (below_size (zB))); have n3_ := Aside0.mk (below_step (zB) hb); clear HO193; clear HO196; clear HB; have HO193 := n0_; have HO196 := n1_; have HO199 := n2_; have HB := n3_; clear n0_ n1_ n2_ n3_; (try clear hb); (try clear hb2); (try clear hk); (try clear hi); (try clear ho0); obtain ⟨Ao90, co90, eo90⟩ := Kd.R_slice HO196.out; subst eo90; obtain ⟨Ao91, co91, eo91⟩ := Kd.R_slice HO199.out; subst eo91) | ((with_reducible refine gate_dst (N := 8) rfl ?_); (try (refine gate_guard (by rfl) ?_; dsimp only)); refine Kd.N_lit (Kd.slice 72 (Kd.int .u64)) _ 30 ?hg (N' := 8) ?hd (xs := ([t194, t197] : List (List Int))) (inner := [.slice Ao90 t194.length co90, .slice Ao91 t197.length co91]) (ok := (fun k_ => some k_ ≠ (.slice Ao87 y191.length co87 : Value).ownBlock)) (okp := (fun k_ => some k_ ≠ (.slice Ao87 y191.length co87 : Value).ownBlock)) ?hr ?hp (fun _ hk => hk) ((show ∀ k_, w89.heap.size ≤ k_ → (fun k_ => some k_ ≠ (.slice Ao87 y191.length co87 : Value).ownBlock) k_ from fun k_ hk => Kd.fresh' (Kd.R_lt (zR HO193.out)) k_ hk) _ (Nat.le_refl _)) (Below.refl _ _) (Nat.le_refl _) (by simp) ?_; (case hd => rfl); (case hg => rfl); (case hr => first | (go_simp; done) | (go_simp; rfl)); (case hp => exact (Reps.one (show Kd.FK (Kd.slice 72 (Kd.int .u64)) _ _ t194 [.slice Ao90 t194.length co90] from (Kd.FK_slice_mk (Kd.R_reads' (Kd.R_mono (ok' := (fun k_ => some k_ ≠ (.slice Ao87 y191.length co87 : Value).ownBlock)) (Kd.R_apart' (HO196.out) (Kd.R_typed HO193.out) (by decide)) (fun k_ hk => hk.2))).2.1 (Kd.R_F (Kd.R_mono (ok' := (fun k_ => some k_ ≠ (.slice Ao87 y191.length co87 : Value).ownBlock)) (Kd.R_apart' (HO196.out) (Kd.R_typed HO193.out) (by decide)) (fun k_ hk => hk.2))))) (Reps.one (show Kd.FK (Kd.slice 72 (Kd.int .u64)) _ _ t197 [.slice Ao91 t197.length co91] from (Kd.FK_slice_mk (Kd.R_reads' (Kd.R_mono (ok' := (fun k_ => some k_ ≠ (.slice Ao87 y191.length co87 : Value).ownBlock)) (Kd.R_apart' (HO199.out) (Kd.R_typed HO193.out) (by decide)) (fun k_ hk => hk.2))).2.1 (Kd.R_F (Kd.R_mono (ok' := (fun k_ => some k_ ≠ (.slice Ao87 y191.length co87 : Value).ownBlock)) (Kd.R_apart' (HO199.out) (Kd.R_typed HO193.out) (by decide)) (fun k_ hk => hk.2))))) (Reps.none _ _)))); intro v201 w92 ho93 hb hg_ hnew_; clear hg_ hnew_; (first | rw [← Ny200.out] at ho93 | (simp only [Int.reduceToNat] at ho93; rw [← Ny200.out] at ho93)); have n0_ := Aside0.mk (Kd.R_below (zR HO193.out) hb); have n1_ := Aside0.mk (Kd.N_lower ho93 (below_size (zB))); have n2_ := Aside0.mk (below_step (zB) hb); clear HO193; clear HB; clear HO196; clear HO199; have HO193 := n0_; have HO202 := n1_; have HB := n2_; clear n0_ n1_ n2_; clear hb ho93) | ((with_reducible refine gate_callee (f := 22) rfl ?_); refine goesL_ (some 9) rfl rfl Tryd.func22 (by kernel_rfl) rfl #[.int .i64 4] rfl zE ?_; (with_reducible refine (bits_New.calls 4 t203 _ A3.out).mono ?_); rintro e w94 ⟨v204, rfl, ho0, hb⟩; refine ⟨_, rfl, ?_⟩; have n0_ := Aside0.mk (Kd.R_below (zR HO193.out) hb); have n1_ := Aside0.mk (Kd.N_elder' (by (with_reducible repeat (first | apply Kd.N_alloc | apply Kd.N_drewN | apply Kd.N_drew)); exact HO202.out) (Kd.R_base ho0) hb); have n2_ := Aside0.mk (Kd.R_lower ho0 (below_size (zB))); have n3_ := Aside0.mk (below_step (zB) hb); clear HO193; clear HO202; clear HB; have HO193 := n0_; have HO202 := n1_; have HO205 := n2_; have HB := n3_; clear n0_ n1_ n2_ n3_; (try clear hb); (try clear hb2); (try clear hk); (try clear hi); (try clear ho0)) | ((with_reducible refine gate_callee (f := 22) rfl ?_); refine goesL_ (some 10) rfl rfl Tryd.func22 (by kernel_rfl) rfl #[.int .i64 4] rfl zE ?_; (with_reducible refine (bits_New.calls 4 t206 _ A4.out).mono ?_); rintro e w95 ⟨v207, rfl, ho0, hb⟩; refine ⟨_, rfl, ?_⟩; have n0_ := Aside0.mk (Kd.R_below (zR HO193.out) hb); have n1_ := Aside0.mk (Kd.N_elder' (by (with_reducible repeat (first | apply Kd.N_alloc | apply Kd.N_drewN | apply Kd.N_drew)); exact HO202.out) (Kd.R_base ho0) hb); have n2_ := Aside0.mk (Kd.R_elder' (zR HO205.out) (Kd.R_base ho0) hb); have n3_ := Aside0.mk (Kd.R_lower (Kd.R_new' ho0 (Kd.R_lt (zR HO205.out))) (below_size (zB))); have n4_ := Aside0.mk (below_step (zB) hb); clear HO193; clear HO202; clear HO205; clear HB; have HO193 := n0_; have HO202 := n1_; have HO205 := n2_; have HO208 := n3_; have HB := n4_; clear n0_ n1_ n2_ n3_ n4_; (try clear hb); (try clear hb2); (try clear hk); (try clear hi); (try clear ho0); obtain ⟨Ao96, co96, eo96⟩ := Kd.R_slice HO205.out; subst eo96; obtain ⟨Ao97, co97, eo97⟩ := Kd.R_slice HO208.out; subst eo97) | ((with_reducible refine gate_dst (N := 11) rfl ?_); (try (refine gate_guard (by rfl) ?_; dsimp only)); refine Kd.N_lit (Kd.slice 72 (Kd.int .u64)) _ 30 ?hg (N' := 11) ?hd (xs := ([t203, t206] : List (List Int))) (inner := [.slice Ao96 t203.length co96, .slice Ao97 t206.length co97]) (ok := (fun k_ => some k_ ≠ (.slice Ao87 y191.length co87 : Value).ownBlock ∧ some k_ ≠ (v201 : Value).ownBlock)) (okp := (fun k_ => some k_ ≠ (.slice Ao87 y191.length co87 : Value).ownBlock ∧ some k_ ≠ (v201 : Value).ownBlock)) ?hr ?hp (fun _ hk => hk) ((show ∀ k_, w95.heap.size ≤ k_ → (fun k_ => some k_ ≠ (.slice Ao87 y191.length co87 : Value).ownBlock ∧ some k_ ≠ (v201 : Value).ownBlock) k_ from fun k_ hk => ⟨Kd.fresh' (Kd.R_lt (zR HO193.out)) k_ hk, Kd.fresh' (Kd.N_lt (by (with_reducible repeat (first | apply Kd.N_alloc | apply Kd.N_drewN | apply Kd.N_drew)); exact HO202.out)) k_ hk⟩) _ (Nat.le_refl _)) (Below.refl _ _) (Nat.le_refl _) (by simp) ?_; (case hd => rfl); (case hg => rfl); (case hr => first | (go_simp; done) | (go_simp; rfl)); (case hp => exact (Reps.one (show Kd.FK (Kd.slice 72 (Kd.int .u64)) _ _ t203 [.slice Ao96 t203.length co96] from (Kd.FK_slice_mk (Kd.R_reads' (Kd.R_mono (ok' := (fun k_ => some k_ ≠ (.slice Ao87 y191.length co87 : Value).ownBlock ∧ some k_ ≠ (v201 : Value).ownBlock)) (Kd.R_apart' (Kd.R_apart' (HO205.out) (Kd.R_typed HO193.out) (by decide)) (Kd.N_typed HO202.out) (by decide)) (fun k_ hk => ⟨hk.1.2, hk.2⟩))).2.1 (Kd.R_F (Kd.R_mono (ok' := (fun k_ => some k_ ≠ (.slice Ao87 y191.length co87 : Value).ownBlock ∧ some k_ ≠ (v201 : Value).ownBlock)) (Kd.R_apart' (Kd.R_apart' (HO205.out) (Kd.R_typed HO193.out) (by decide)) (Kd.N_typed HO202.out) (by decide)) (fun k_ hk => ⟨hk.1.2, hk.2⟩))))) (Reps.one (show Kd.FK (Kd.slice 72 (Kd.int .u64)) _ _ t206 [.slice Ao97 t206.length co97] from (Kd.FK_slice_mk (Kd.R_reads' (Kd.R_mono (ok' := (fun k_ => some k_ ≠ (.slice Ao87 y191.length co87 : Value).ownBlock ∧ some k_ ≠ (v201 : Value).ownBlock)) (Kd.R_apart' (Kd.R_apart' (HO208.out) (Kd.R_typed HO193.out) (by decide)) (Kd.N_typed HO202.out) (by decide)) (fun k_ hk => ⟨hk.1.2, hk.2⟩))).2.1 (Kd.R_F (Kd.R_mono (ok' := (fun k_ => some k_ ≠ (.slice Ao87 y191.length co87 : Value).ownBlock ∧ some k_ ≠ (v201 : Value).ownBlock)) (Kd.R_apart' (Kd.R_apart' (HO208.out) (Kd.R_typed HO193.out) (by decide)) (Kd.N_typed HO202.out) (by decide)) (fun k_ hk => ⟨hk.1.2, hk.2⟩))))) (Reps.none _ _)))); intro v210 w98 ho99 hb hg_ hnew_; clear hg_ hnew_; (first | rw [← Ny209.out] at ho99 | (simp only [Int.reduceToNat] at ho99; rw [← Ny209.out] at ho99)); have n0_ := Aside0.mk (Kd.R_below (zR HO193.out) hb); have n1_ := Aside0.mk (Kd.N_elder' (by (with_reducible repeat (first | apply Kd.N_alloc | apply Kd.N_drewN | apply Kd.N_drew)); exact HO202.out) (Kd.N_base ho99) hb); have n2_ := Aside0.mk (Kd.N_lower ho99 (below_size (zB))); have n3_ := Aside0.mk (below_step (zB) hb); clear HO193; clear HO202; clear HB; clear HO205; clear HO208; have HO193 := n0_; have HO202 := n1_; have HO211 := n2_; have HB := n3_; clear n0_ n1_ n2_ n3_; clear hb ho99) | ((with_reducible refine gate_dst (N := 13) rfl ?_); (try (refine gate_guard (by rfl) ?_; dsimp only)); refine Kd.R_lit (Kd.int .i64) _ 3 ?hg (N := 13) ?hd (xs := ([1] : List Int)) (inner := [.int .i64 1]) (ok := fun _ => True) (okp := fun _ => True) ?hr ?hp (fun _ hk => hk) trivial (Below.refl _ _) (Nat.le_refl _) (by simp) ?_; (case hd => rfl); (case hg => rfl); (case hr => first | (go_simp; done) | (go_simp; rfl)); (case hp => exact (Reps.one (show Kd.M (Kd.int .i64) _ _ _ 1 [.int .i64 1] from rfl) (Reps.none _ _))); intro v213 w100 ho101 hb hg_ hnew_; clear hg_ hnew_; (first | rw [← Ny212.out] at ho101 | (simp only [Int.reduceToNat] at ho101; rw [← Ny212.out] at ho101)); have n0_ := Aside0.mk (Kd.R_elder' (zR HO193.out) (Kd.R_base ho101) hb); have n1_ := Aside0.mk (Kd.N_elder' (by (with_reducible repeat (first | apply Kd.N_alloc | apply Kd.N_drewN | apply Kd.N_drew)); exact HO202.out) (Kd.R_base ho101) hb); have n2_ := Aside0.mk (Kd.N_elder' (by (with_reducible repeat (first | apply Kd.N_alloc | apply Kd.N_drewN | apply Kd.N_drew)); exact HO211.out) (Kd.R_base ho101) hb); have n3_ := Aside0.mk (Kd.R_lower (Kd.R_new' ho101 (Kd.R_lt (zR HO193.out))) (below_size (zB))); have n4_ := Aside0.mk (below_step (zB) hb); clear HO193; clear HO202; clear HO211; clear HB; have HO193 := n0_; have HO202 := n1_; have HO211 := n2_; have HO214 := n3_; have HB := n4_; clear n0_ n1_ n2_ n3_ n4_; clear hb ho101) | ((with_reducible refine gate_dst (N := 14) rfl ?_); (try (refine gate_guard (by rfl) ?_; dsimp only)); refine Kd.R_lit (Kd.int .i64) _ 3 ?hg (N := 14) ?hd (xs := ([1] : List Int)) (inner := [.int .i64 1]) (ok := fun _ => True) (okp := fun _ => True) ?hr ?hp (fun _ hk => hk) trivial (Below.refl _ _) (Nat.le_refl _) (by simp) ?_; (case hd => rfl); (case hg => rfl); (case hr => first | (go_simp; done) | (go_simp; rfl)); (case hp => exact (Reps.one (show Kd.M (Kd.int .i64) _ _ _ 1 [.int .i64 1] from rfl) (Reps.none _ _))); intro v216 w102 ho103 hb hg_ hnew_; clear hg_ hnew_; (first | rw [← Ny215.out] at ho103 | (simp only [Int.reduceToNat] at ho103; rw [← Ny215.out] at ho103)); have n0_ := Aside0.mk (Kd.R_elder' (zR HO193.out) (Kd.R_base ho103) hb); have n1_ := Aside0.mk (Kd.N_elder' (by (with_reducible repeat (first | apply Kd.N_alloc | apply Kd.N_drewN | apply Kd.N_drew)); exact HO202.out) (Kd.R_base ho103) hb); have n2_ := Aside0.mk (Kd.N_elder' (by (with_reducible repeat (first | apply Kd.N_alloc | apply Kd.N_drewN | apply Kd.N_drew)); exact HO211.out) (Kd.R_base ho103) hb); have n3_ := Aside0.mk (Kd.R_elder' (zR HO214.out) (Kd.R_base ho103) hb); have n4_ := Aside0.mk (Kd.R_lower (Kd.R_new' (Kd.R_new' ho103 (Kd.R_lt (zR HO193.out))) (Kd.R_lt (zR HO214.out))) (below_size (zB))); have n5_ := Aside0.mk (below_step (zB) hb); clear HO193; clear HO202; clear HO211; clear HO214; clear HB; have HO193 := n0_; have HO202 := n1_; have HO211 := n2_; have HO214 := n3_; have HO217 := n4_; have HB := n5_; clear n0_ n1_ n2_ n3_ n4_ n5_; clear hb ho103; obtain ⟨Ao104, co104, eo104⟩ := Kd.R_slice HO214.out; subst eo104; obtain ⟨Ao105, co105, eo105⟩ := Kd.R_slice HO217.out; subst eo105) | ((with_reducible refine gate_dst (N := 15) rfl ?_); (try (refine gate_guard (by rfl) ?_; dsimp only)); refine Kd.N_lit (Kd.slice 3 (Kd.int .i64)) _ 23 ?hg (N' := 15) ?hd (xs := ([y212, y215] : List (List Int))) (inner := [.slice Ao104 y212.length co104, .slice Ao105 y215.length co105]) (ok := (fun k_ => some k_ ≠ (.slice Ao87 y191.length co87 : Value).ownBlock ∧ some k_ ≠ (v201 : Value).ownBlock ∧ some k_ ≠ (v210 : Value).ownBlock)) (okp := (fun k_ => some k_ ≠ (.slice Ao87 y191.length co87 : Value).ownBlock ∧ some k_ ≠ (v201 : Value).ownBlock ∧ some k_ ≠ (v210 : Value).ownBlock)) ?hr ?hp (fun _ hk => hk) ((show ∀ k_, w102.heap.size ≤ k_ → (fun k_ => some k_ ≠ (.slice Ao87 y191.length co87 : Value).ownBlock ∧ some k_ ≠ (v201 : Value).ownBlock ∧ some k_ ≠ (v210 : Value).ownBlock) k_ from fun k_ hk => ⟨Kd.fresh' (Kd.R_lt (zR HO193.out)) k_ hk, Kd.fresh' (Kd.N_lt (by (with_reducible repeat (first | apply Kd.N_alloc | apply Kd.N_drewN | apply Kd.N_drew)); exact HO202.out)) k_ hk, Kd.fresh' (Kd.N_lt (by (with_reducible repeat (first | apply Kd.N_alloc | apply Kd.N_drewN | apply Kd.N_drew)); exact HO211.out)) k_ hk⟩) _ (Nat.le_refl _)) (Below.refl _ _) (Nat.le_refl _) (by simp) ?_; (case hd => rfl); (case hg => rfl); (case hr => first | (go_simp; done) | (go_simp; rfl)); (case hp => exact (Reps.one (show Kd.FK (Kd.slice 3 (Kd.int .i64)) _ _ y212 [.slice Ao104 y212.length co104] from (Kd.FK_slice_mk (Kd.R_reads' (Kd.R_mono (ok' := (fun k_ => some k_ ≠ (.slice Ao87 y191.length co87 : Value).ownBlock ∧ some k_ ≠ (v201 : Value).ownBlock ∧ some k_ ≠ (v210 : Value).ownBlock)) (Kd.R_apart' (Kd.R_apart' (HO214.out) (Kd.N_typed HO202.out) (by decide)) (Kd.N_typed HO211.out) (by decide)) (fun k_ hk => ⟨hk.1.1.1.2, ⟨hk.1.2, hk.2⟩⟩))).2.1 (Kd.R_F (Kd.R_mono (ok' := (fun k_ => some k_ ≠ (.slice Ao87 y191.length co87 : Value).ownBlock ∧ some k_ ≠ (v201 : Value).ownBlock ∧ some k_ ≠ (v210 : Value).ownBlock)) (Kd.R_apart' (Kd.R_apart' (HO214.out) (Kd.N_typed HO202.out) (by decide)) (Kd.N_typed HO211.out) (by decide)) (fun k_ hk => ⟨hk.1.1.1.2, ⟨hk.1.2, hk.2⟩⟩))))) (Reps.one (show Kd.FK (Kd.slice 3 (Kd.int .i64)) _ _ y215 [.slice Ao105 y215.length co105] from (Kd.FK_slice_mk (Kd.R_reads' (Kd.R_mono (ok' := (fun k_ => some k_ ≠ (.slice Ao87 y191.length co87 : Value).ownBlock ∧ some k_ ≠ (v201 : Value).ownBlock ∧ some k_ ≠ (v210 : Value).ownBlock)) (Kd.R_apart' (Kd.R_apart' (HO217.out) (Kd.N_typed HO202.out) (by decide)) (Kd.N_typed HO211.out) (by decide)) (fun k_ hk => ⟨hk.1.1.1.2, ⟨hk.1.2, hk.2⟩⟩))).2.1 (Kd.R_F (Kd.R_mono (ok' := (fun k_ => some k_ ≠ (.slice Ao87 y191.length co87 : Value).ownBlock ∧ some k_ ≠ (v201 : Value).ownBlock ∧ some k_ ≠ (v210 : Value).ownBlock)) (Kd.R_apart' (Kd.R_apart' (HO217.out) (Kd.N_typed HO202.out) (by decide)) (Kd.N_typed HO211.out) (by decide)) (fun k_ hk => ⟨hk.1.1.1.2, ⟨hk.1.2, hk.2⟩⟩))))) (Reps.none _ _)))); intro v219 w106 ho107 hb hg_ hnew_; clear hg_ hnew_; (first | rw [← Ny218.out] at ho107 | (simp only [Int.reduceToNat] at ho107; rw [← Ny218.out] at ho107)); have n0_ := Aside0.mk (Kd.R_below (zR HO193.out) hb); have n1_ := Aside0.mk (Kd.N_elder' (by (with_reducible repeat (first | apply Kd.N_alloc | apply Kd.N_drewN | apply Kd.N_drew)); exact HO202.out) (Kd.N_base ho107) hb); have n2_ := Aside0.mk (Kd.N_elder' (by (with_reducible repeat (first | apply Kd.N_alloc | apply Kd.N_drewN | apply Kd.N_drew)); exact HO211.out) (Kd.N_base ho107) hb); have n3_ := Aside0.mk (Kd.N_lower ho107 (below_size (zB))); have n4_ := Aside0.mk (below_step (zB) hb); clear HO193; clear HO202; clear HO211; clear HB; clear HO214; clear HO217; have HO193 := n0_; have HO202 := n1_; have HO211 := n2_; have HO220 := n3_; have HB := n4_; clear n0_ n1_ n2_ n3_ n4_; clear hb ho107) | ((with_reducible refine gate_callee (f := 22) rfl ?_); refine goesL_ (some 18) rfl rfl Tryd.func22 (by kernel_rfl) rfl #[.int .i64 4] rfl zE ?_; (with_reducible refine (bits_New.calls 4 t221 _ A5.out).mono ?_); rintro e w108 ⟨v222, rfl, ho0, hb⟩; refine ⟨_, rfl, ?_⟩; have n0_ := Aside0.mk (Kd.R_below (zR HO193.out) hb); have n1_ := Aside0.mk (Kd.N_elder' (by (with_reducible repeat (first | apply Kd.N_alloc | apply Kd.N_drewN | apply Kd.N_drew)); exact HO202.out) (Kd.R_base ho0) hb); have n2_ := Aside0.mk (Kd.N_elder' (by (with_reducible repeat (first | apply Kd.N_alloc | apply Kd.N_drewN | apply Kd.N_drew)); exact HO211.out) (Kd.R_base ho0) hb); have n3_ := Aside0.mk (Kd.N_elder' (by (with_reducible repeat (first | apply Kd.N_alloc | apply Kd.N_drewN | apply Kd.N_drew)); exact HO220.out) (Kd.R_base ho0) hb); have n4_ := Aside0.mk (Kd.R_lower ho0 (below_size (zB))); have n5_ := Aside0.mk (below_step (zB) hb); clear HO193; clear HO202; clear HO211; clear HO220; clear HB; have HO193 := n0_; have HO202 := n1_; have HO211 := n2_; have HO220 := n3_; have HO223 := n4_; have HB := n5_; clear n0_ n1_ n2_ n3_ n4_ n5_; (try clear hb); (try clear hb2); (try clear hk); (try clear hi); (try clear ho0); obtain ⟨Ao109, co109, eo109⟩ := Kd.R_slice HO223.out; subst eo109; obtain ⟨Ao110, co110, eo110⟩ := Kd.N_slice HO211.out; subst eo110; obtain ⟨Ao111, co111, eo111⟩ := Kd.N_slice HO202.out; subst eo111; obtain ⟨Ao112, co112, eo112⟩ := Kd.N_slice HO220.out; subst eo112) | ((with_reducible refine gate_callee (f := 9) rfl ?_); refine goesL_ (some 20) rfl rfl Tryd.func9 (by kernel_rfl) rfl #[.agg #[.slice Ao112 y218.length co112, .bool false, .bool false, .int .i64 4, .slice Ao111 y200.length co111, .slice Ao110 y209.length co110, .slice Ao109 t221.length co109]] rfl zE ?_; (with_reducible refine (flow_Solve.calls k _ _ y218 false false 4 _ _ y200 _ _ y209 _ _ t221 t224 t227 false _ ?side1 ?side2 ?side3 ?side4 ?side5 ?side6 ?side7 ?side8 ?side9 A6.out).mono ?_); (case side1 => first | exact HT.out | exact TabW.below HT.out (zB)); (case side2 => exact zC (Kd.N_reads' HO220.out).2.2); (case side3 => exact (Kd.N_reads' HO220.out).2.1); (case side4 => exact zC (Kd.N_reads' HO202.out).2.2); (case side5 => exact (Kd.N_reads' HO202.out).2.1); (case side6 => exact zC (Kd.N_reads' HO211.out).2.2); (case side7 => exact (Kd.N_reads' HO211.out).2.1); (case side8 => exact zC (Kd.R_reads' HO223.out).2.2); (case side9 => exact (Kd.R_reads' HO223.out).2.1); rintro e w113 ⟨v225, v228, rfl, ho0, ho1, hb⟩; refine ⟨_, rfl, ?_⟩; have n0_ := Aside0.mk (Kd.R_below (zR HO193.out) hb); have n1_ := Aside0.mk (Kd.N_mono (Kd.N_told (Kd.N_told (Kd.N_old (by (with_reducible repeat (first | apply Kd.N_alloc | apply Kd.N_drewN | apply Kd.N_drew)); exact HO202.out) hb) (Kd.N_base ho0)) (Kd.N_base ho1)) (fun _ h_ => h_.1)); have n2_ := Aside0.mk (Kd.N_mono (Kd.N_told (Kd.N_told (Kd.N_old (by (with_reducible repeat (first | apply Kd.N_alloc | apply Kd.N_drewN | apply Kd.N_drew)); exact HO211.out) hb) (Kd.N_base ho0)) (Kd.N_base ho1)) (fun _ h_ => h_.1)); have n3_ := Aside0.mk (Kd.N_mono (Kd.N_told (Kd.N_told (Kd.N_old (by (with_reducible repeat (first | apply Kd.N_alloc | apply Kd.N_drewN | apply Kd.N_drew)); exact HO220.out) hb) (Kd.N_base ho0)) (Kd.N_base ho1)) (fun _ h_ => h_.1)); have n4_ := Aside0.mk (Kd.R_below (zR HO223.out) hb); have n5_ := Aside0.mk (Kd.N_lower (Kd.N_mono (ok' := fun k_ => some k_ ≠ (v228 : Value).ownBlock ∧ some k_ ≠ (.slice Ao87 y191.length co87 : Value).ownBlock ∧ some k_ ≠ (.slice Ao111 y200.length co111 : Value).ownBlock ∧ some k_ ≠ (.slice Ao110 y209.length co110 : Value).ownBlock ∧ some k_ ≠ (.slice Ao112 y218.length co112 : Value).ownBlock ∧ some k_ ≠ (.slice Ao109 t221.length co109 : Value).ownBlock) (Kd.N_mono ho0 (fun k_ h_ => And.intro h_.1 (And.intro h_.2 trivial))) (fun k_ hk_ => ⟨hk_.1, (Kd.fresh' (Kd.R_lt (zR HO193.out)) k_ hk_.2.1), (Kd.fresh' (Kd.N_lt (by (with_reducible repeat (first | apply Kd.N_alloc | apply Kd.N_drewN | apply Kd.N_drew)); exact HO202.out)) k_ hk_.2.1), (Kd.fresh' (Kd.N_lt (by (with_reducible repeat (first | apply Kd.N_alloc | apply Kd.N_drewN | apply Kd.N_drew)); exact HO211.out)) k_ hk_.2.1), (Kd.fresh' (Kd.N_lt (by (with_reducible repeat (first | apply Kd.N_alloc | apply Kd.N_drewN | apply Kd.N_drew)); exact HO220.out)) k_ hk_.2.1), (Kd.fresh' (Kd.R_lt (zR HO223.out)) k_ hk_.2.1)⟩)) (below_size (zB))); have n6_ := Aside0.mk (Kd.N_lower (Kd.N_mono (ok' := fun k_ => some k_ ≠ (v225 : Value).ownBlock ∧ some k_ ≠ (.slice Ao87 y191.length co87 : Value).ownBlock ∧ some k_ ≠ (.slice Ao111 y200.length co111 : Value).ownBlock ∧ some k_ ≠ (.slice Ao110 y209.length co110 : Value).ownBlock ∧ some k_ ≠ (.slice Ao112 y218.length co112 : Value).ownBlock ∧ some k_ ≠ (.slice Ao109 t221.length co109 : Value).ownBlock) (Kd.N_mono ho1 (fun k_ h_ => And.intro h_.1 (And.intro h_.2 trivial))) (fun k_ hk_ => ⟨hk_.1, (Kd.fresh' (Kd.R_lt (zR HO193.out)) k_ hk_.2.1), (Kd.fresh' (Kd.N_lt (by (with_reducible repeat (first | apply Kd.N_alloc | apply Kd.N_drewN | apply Kd.N_drew)); exact HO202.out)) k_ hk_.2.1), (Kd.fresh' (Kd.N_lt (by (with_reducible repeat (first | apply Kd.N_alloc | apply Kd.N_drewN | apply Kd.N_drew)); exact HO211.out)) k_ hk_.2.1), (Kd.fresh' (Kd.N_lt (by (with_reducible repeat (first | apply Kd.N_alloc | apply Kd.N_drewN | apply Kd.N_drew)); exact HO220.out)) k_ hk_.2.1), (Kd.fresh' (Kd.R_lt (zR HO223.out)) k_ hk_.2.1)⟩)) (below_size (zB))); have n7_ := Aside0.mk (below_step (zB) hb); clear HO193; clear HO202; clear HO211; clear HO220; clear HO223; clear HB; have HO193 := n0_; have HO202 := n1_; have HO211 := n2_; have HO220 := n3_; have HO223 := n4_; have HO226 := n5_; have HO229 := n6_; have HB := n7_; clear n0_ n1_ n2_ n3_ n4_ n5_ n6_ n7_; (try clear hb); (try clear hb2); (try clear hk); (try clear hi); (try clear ho0); (try clear ho1)) | ((with_reducible refine gate_dst (N := 3) rfl ?_); (try (refine gate_guard (by rfl) ?_; dsimp only)); refine box_event ?hg (N := 3) ?hd (cs := #[.slice none 0 0, .slice none 0 0]) (t := 36) ?hr ?_; (case hd => rfl); (case hg => rfl); (case hr => first | (go_simp; done) | (go_simp; rfl)); intro gb231 hg w114 hbox hb; have n0_ := Aside0.mk (Kd.R_below (zR HO193.out) hb); have n1_ := Aside0.mk (Kd.N_below (Kd.N_elderB (by (with_reducible repeat (first | apply Kd.N_alloc | apply Kd.N_drewN | apply Kd.N_drew)); exact HO202.out) gb231 (Nat.le_of_eq hg.symm)) hb); have n2_ := Aside0.mk (Kd.N_below (Kd.N_elderB (by (with_reducible repeat (first | apply Kd.N_alloc | apply Kd.N_drewN | apply Kd.N_drew)); exact HO211.out) gb231 (Nat.le_of_eq hg.symm)) hb); have n3_ := Aside0.mk (Kd.N_below (Kd.N_elderB (by (with_reducible repeat (first | apply Kd.N_alloc | apply Kd.N_drewN | apply Kd.N_drew)); exact HO220.out) gb231 (Nat.le_of_eq hg.symm)) hb); have n4_ := Aside0.mk (Kd.R_below (zR HO223.out) hb); have n5_ := Aside0.mk (Kd.N_below (Kd.N_elderB (by (with_reducible repeat (first | apply Kd.N_alloc | apply Kd.N_drewN | apply Kd.N_drew)); exact HO226.out) gb231 (Nat.le_of_eq hg.symm)) hb); have n6_ := Aside0.mk (Kd.N_below (Kd.N_elderB (by (with_reducible repeat (first | apply Kd.N_alloc | apply Kd.N_drewN | apply Kd.N_drew)); exact HO229.out) gb231 (Nat.le_of_eq hg.symm)) hb); have n7_ := Aside0.mk (below_step (zB) hb); have n8_ := Aside0.mk (hbox); have n9_ := Aside0.mk (zH hg : w.heap.size ≤ gb231); have n10_ := Aside0.mk ((by rw [hg]; exact (below_size (zB)) : w.heap.size ≤ gb231)); clear HO193; clear HO202; clear HO211; clear HO220; clear HO223; clear HO226; clear HO229; clear HB; have HO193 := n0_; have HO202 := n1_; have HO211 := n2_; have HO220 := n3_; have HO223 := n4_; have HO226 := n5_; have HO229 := n6_; have HB := n7_; have BK231 := n8_; have GW231 := n9_; have GE231 := n10_; clear n0_ n1_ n2_ n3_ n4_ n5_ n6_ n7_ n8_ n9_ n10_; clear hb hbox hg; obtain ⟨Ao115, co115, eo115⟩ := Kd.N_slice HO226.out; subst eo115; obtain ⟨hcz116_0, hcz116_1⟩ := zc2 BK231.out; obtain ⟨hfz116_0, hfz116_1⟩ := zf2 BK231.out; obtain ⟨Ao117, co117, eo117⟩ := Kd.N_slice HO229.out; subst eo117))
  go_ret
  exact ⟨zV, zG⟩
def balustradelaw18_inside.l0 : Nat → List Int → Int → List Int → Int → Option (List Int)
 | 0, _, _, _, _ => none
 | k + 1, x0, x1, x5, x6 => if x6 < (x0.length : Int) then (if 0 ≤ x6 then (if (rd x0 x6) ≥ 0 then (if (rd x0 x6) < x1 then (if x5.length < 17592186044416 then (balustradelaw18_inside.l0 k x0 x1 (x5 ++ [rd x0 x6]) (wrap64 (x6 + 1))) else (none)) else (balustradelaw18_inside.l0 k x0 x1 x5 (wrap64 (x6 + 1)))) else (balustradelaw18_inside.l0 k x0 x1 x5 (wrap64 (x6 + 1)))) else (none)) else (some x5)
def balustradelaw18_inside.f (k : Nat) (l0 : List Int) (a1 : Int) : Option (List Int) := balustradelaw18_inside.l0 k l0 a1 (([] : List Int)) 0
set_option maxHeartbeats 8000000 in
set_option maxRecDepth 100000 in
theorem balustradelaw18_inside.calls (k : Nat) (A0 : Option Addr) (c0 : Nat) (l0 : List Int) (a1 : Int) (r : List Int) (w : World) (hr0 : Kd.C (Kd.int .i64) w A0 l0.length l0) (hc0 : l0.length ≤ c0) (h : balustradelaw18_inside.f k l0 a1 = some r) :
  Calls Tryd.prog 25 #[.slice A0 l0.length c0, .int .i64 a1] w fun e w' => ∃ v0_ : Value, e = .returned (v0_) ∧ Kd.R (Kd.int .i64) 3 w' w.heap.size (fun _ => True) v0_ r ∧ Below w.heap.size w w' := by
 have HR0 := Aside0.mk hr0
 have HC0 := Aside0.mk hc0
 clear hr0 hc0
 have HB := Aside0.mk (Below.refl w.heap.size w)
 have H : (balustradelaw18_inside.l0 k l0 a1 (([] : List Int)) 0) = some r := h
 clear h
 obtain ⟨y240, hy240⟩ : ∃ y_ : List Int, y_ = (([] : List Int)) := ⟨_, rfl⟩
 replace H : (balustradelaw18_inside.l0 k l0 a1 y240 0) = some r := by first | (rw [hy240]; with_reducible exact H) | (have H2_ := (Option.bind_some _ _).symm.trans H; rw [hy240]; with_reducible exact H2_) | (have H2_ := (Option.bind_some _ _).symm.trans H; with_reducible exact H2_) | with_reducible exact H | (rw [hy240]; exact H) | exact H
 have Ny240 := Aside0.mk hy240
 clear hy240
 have H' := Aside0.mk H
 clear H
 go_enter Tryd.func25, Tryd.ntmps25
 go_wp2_with (first | ((with_reducible refine gate_dst (N := 7) rfl ?_); refine Kd.R_lit (Kd.int .i64) _ 3 ?hg (N := 7) ?hd (xs := ([] : List Int)) (inner := []) (ok := fun _ => True) (okp := fun _ => True) ?hr ?hp (fun _ hk => hk) trivial (Below.refl _ _) (Nat.le_refl _) (by simp) ?_; (case hd => rfl); (case hg => rfl); (case hr => first | (go_simp; done) | (go_simp; rfl)); (case hp => exact (Reps.none _ _)); intro v241 w3 ho4 hb hg_ hnew_; clear hg_ hnew_; (first | rw [← Ny240.out] at ho4 | (simp only [Int.reduceToNat] at ho4; rw [← Ny240.out] at ho4)); have n0_ := Aside0.mk (Kd.R_lower ho4 (below_size (zB))); have n1_ := Aside0.mk (below_step (zB) hb); clear HB; have HO242 := n0_; have HB := n1_; clear n0_ n1_; clear hb ho4))
 go_loopg [5, 6] k (fun kq v5 v6 w' => ∃ (x5_1 : List Int) (x6_1 : Int), v6 = .int .i64 x6_1 ∧ Aside0 (balustradelaw18_inside.l0 kq l0 a1 x5_1 x6_1 = some r) ∧ Aside0 (kq ≤ k) ∧ Aside0 (Kd.R (Kd.int .i64) 3 w' w.heap.size (fun _ => True) v5 x5_1) ∧ Aside0 (Below w.heap.size w w'))
 case atStart => exact ⟨(y240), (0), zQ, H', ⟨Nat.le_refl _⟩, ⟨zR HO242.out⟩, ⟨zB⟩⟩
 case round =>
  clear H'
  (try clear c2); (try clear p2)
  obtain ⟨x5_1, x6_1, rfl, HA, HK1, HO_5, HB⟩ := hrel
  cases gk with
  | zero => exact absurd HA.out (by simp [balustradelaw18_inside.l0])
  | succ k1 =>
   have H := HA.out
   clear HA
   simp only [balustradelaw18_inside.l0] at H
   by_cases c5 : x6_1 < (l0.length : Int)
   ·rw [if_pos c5] at H
    have c5b0 : decide (x6_1 < (l0.length : Int)) = true := decide_eq_true c5
    clear c5
    by_cases c6 : 0 ≤ x6_1
    ·rw [if_pos c6] at H
     have c6b0 : decide (0 ≤ x6_1) = true := decide_eq_true c6
     clear c6
     by_cases c7 : (rd l0 x6_1) ≥ 0
     ·rw [if_pos c7] at H
      have c7b0 : decide (0 ≤ (rd l0 x6_1)) = true := decide_eq_true c7
      clear c7
      by_cases c8 : (rd l0 x6_1) < a1
      ·rw [if_pos c8] at H
       have c8b0 : decide ((rd l0 x6_1) < a1) = true := decide_eq_true c8
       clear c8
       by_cases c9 : x5_1.length < 17592186044416
       ·rw [if_pos c9] at H
        have LMc9 := Aside0.mk c9
        clear c9
        obtain ⟨y246, hy246⟩ : ∃ y_ : List Int, y_ = (x5_1 ++ [rd l0 x6_1]) := ⟨_, rfl⟩
        replace H : (balustradelaw18_inside.l0 k1 l0 a1 y246 (wrap64 (x6_1 + 1))) = some r := by first | (rw [hy246]; with_reducible exact H) | (have H2_ := (Option.bind_some _ _).symm.trans H; rw [hy246]; with_reducible exact H2_) | (have H2_ := (Option.bind_some _ _).symm.trans H; with_reducible exact H2_) | with_reducible exact H | (rw [hy246]; exact H) | exact H
        have Ny246 := Aside0.mk hy246
        clear hy246
        have H' := Aside0.mk H
        clear H
        have p243 : 0 ≤ (x6_1 : Int) := zO
        have q243 : x6_1 < (l0.length : Int) := zO
        obtain ⟨ad243, e243, hx243_0⟩ := Kd.at_int HR0.out x6_1 p243 q243
        cases e243
        replace hx243_0 := pw_cell_below HB.out hx243_0
        replace p243 := eq_true p243
        replace q243 := eq_true q243
        have p244 : 0 ≤ (x6_1 : Int) := zO
        have q244 : x6_1 < (l0.length : Int) := zO
        obtain ⟨ad244, e244, hx244_0⟩ := Kd.at_int HR0.out x6_1 p244 q244
        obtain rfl : ad243 = ad244 := (by injection e244)
        replace hx244_0 := pw_cell_below HB.out hx244_0
        replace p244 := eq_true p244
        replace q244 := eq_true q244
        have p245 : 0 ≤ (x6_1 : Int) := zO
        have q245 : x6_1 < (l0.length : Int) := zO
        obtain ⟨ad245, e245, hx245_0⟩ := Kd.at_int HR0.out x6_1 p245 q245
        obtain rfl : ad243 = ad245 := (by injection e245)
        replace hx245_0 := pw_cell_below HB.out hx245_0
        replace p245 := eq_true p245
        replace q245 := eq_true q245
        go_wp2_with (first | ((with_reducible refine gate_builtin (b := .append) (xs := #[.tmp 27, .tmp 32]) rfl ?_); at_builtin; refine Kd.R_append (Kd.int .i64) (w0 := w) w.heap.size rfl (.tmp 27) (.tmp 32) 23 3 (.int .i64 0) 8 rfl Tryd.underlying23 info3 rfl (by decide) (by omega) u5 x5_1 (rd l0 x6_1) [.int .i64 (rd l0 x6_1)] (fun _ => True) (fun _ => False) rfl rfl ?aP (fun _ hk => hk.elim) ?aF ?aO ?aB ?aS ?aL ?_; (case aP => exact rfl); (case aB => exact (zB)); (case aF => exact (fun _ _ => trivial)); (case aO => exact (zR HO_5.out)); (case aS => exact (below_size (zB))); (case aL => have := LMc9.out; omega); intro v247 w10 ho hb hg hat; rw [← Ny246.out] at ho; have n0_ := Aside0.mk (hb); have n1_ := Aside0.mk (ho); clear HB; clear HO_5; have HB := n0_; have HO248 := n1_; clear n0_ n1_; clear ho hb hg hat))
        go_roundg k1
        case measure => have := HK1.out; omega
        case rel => exact ⟨(y246), (wrap64 (x6_1 + 1)), zQ, H', ⟨by have := HK1.out; omega⟩, ⟨zR HO248.out⟩, ⟨zB⟩⟩
       ·rw [if_neg c9] at H
        exact absurd H (by simp)
      ·rw [if_neg c8] at H
       have c8b0 : decide ((rd l0 x6_1) < a1) = false := decide_eq_false c8
       clear c8
       have H' := Aside0.mk H
       clear H
       have p243 : 0 ≤ (x6_1 : Int) := zO
       have q243 : x6_1 < (l0.length : Int) := zO
       obtain ⟨ad243, e243, hx243_0⟩ := Kd.at_int HR0.out x6_1 p243 q243
       cases e243
       replace hx243_0 := pw_cell_below HB.out hx243_0
       replace p243 := eq_true p243
       replace q243 := eq_true q243
       have p244 : 0 ≤ (x6_1 : Int) := zO
       have q244 : x6_1 < (l0.length : Int) := zO
       obtain ⟨ad244, e244, hx244_0⟩ := Kd.at_int HR0.out x6_1 p244 q244
       obtain rfl : ad243 = ad244 := (by injection e244)
       replace hx244_0 := pw_cell_below HB.out hx244_0
       replace p244 := eq_true p244
       replace q244 := eq_true q244
       go_wp2
       go_roundg k1
       case measure => have := HK1.out; omega
       case rel => exact ⟨(x5_1), (wrap64 (x6_1 + 1)), zQ, H', ⟨by have := HK1.out; omega⟩, ⟨zR HO_5.out⟩, ⟨zB⟩⟩
     ·rw [if_neg c7] at H
      have c7b0 : decide (0 ≤ (rd l0 x6_1)) = false := decide_eq_false c7
      clear c7
      have H' := Aside0.mk H
      clear H
      have p243 : 0 ≤ (x6_1 : Int) := zO
      have q243 : x6_1 < (l0.length : Int) := zO
      obtain ⟨ad243, e243, hx243_0⟩ := Kd.at_int HR0.out x6_1 p243 q243
      cases e243
      replace hx243_0 := pw_cell_below HB.out hx243_0
      replace p243 := eq_true p243
      replace q243 := eq_true q243
      go_wp2
      go_roundg k1
      case measure => have := HK1.out; omega
      case rel => exact ⟨(x5_1), (wrap64 (x6_1 + 1)), zQ, H', ⟨by have := HK1.out; omega⟩, ⟨zR HO_5.out⟩, ⟨zB⟩⟩
    ·rw [if_neg c6] at H
     exact absurd H (by simp)
   ·rw [if_neg c5] at H
    have c5b0 : decide (x6_1 < (l0.length : Int)) = false := decide_eq_false c5
    clear c5
    obtain rfl := Option.some.inj H
    go_wp2
    go_ret
    exact ⟨_, zV, zR HO_5.out, zB⟩
end Go.Proofs.YtanpghbakbebiaaDoor.P

/- A text of this claim, what is not used left out. -/
import Derived.Test.YtlhaopjdpkhogaaIwP0
namespace Go.Proofs.Ytlhaopjdpkhogaa.P
open Go.RowKit Go.Proofs.YtlhaopjdpkhogaaW.PrintWords Go.Proofs.YtlhaopjdpkhogaaW.PrintLast Go.Proofs.YtlhaopjdpkhogaaW.PrintMore
attribute [local go_sem] max2_int min2_int max_two min_two max_three min_three max_four min_four   
set_option linter.unusedVariables false
set_option linter.unusedSimpArgs false
def minTo (l : List Int) : Nat → Int
 | 0 => rd l 0
 | j + 1 => mn (minTo l j) (rd l ((j + 1 : Nat) : Int))
def slices_Min_int_int.f (l0 : List Int) : Option Int := if 0 < l0.length ∧ l0.length < 4611686018427387904 then some (minTo l0 (l0.length - 1)) else none
set_option maxHeartbeats 2000000 in
theorem slices_Min_int_int.calls (A0 : Option Addr) (c0 : Nat) (l0 : List Int) (r : Int) (w : World) (hr0 : Kd.C (Kd.int .i64) w A0 l0.length l0) (hc0 : l0.length ≤ c0) (h : slices_Min_int_int.f l0 = some r) :
  Calls Try.prog 48 #[.slice A0 l0.length c0] w fun e w' => e = .returned (.int .i64 r) ∧ Drawn0 w w' := by
 unfold slices_Min_int_int.f at h
 by_cases hl : 0 < l0.length ∧ l0.length < 4611686018427387904
 ·rw [if_pos hl] at h
  obtain rfl := Option.some.inj h
  have HL := Aside0.mk hl
  have HR := Aside0.mk hr0
  have t1 : decide ((l0.length : Int) < 1) = false := decide_eq_false (by omega)
  obtain ⟨ad, e, hx⟩ := Kd.at_int hr0 0 (by omega) (by omega)
  cases e
  replace hx : w.cell? ad = some (.int .i64 (rd l0 0)) := by simpa [Addr.add] using hx
  have q0 : (0 : Int) < (l0.length : Int) := by omega
  clear h hr0 hl
  go_enter Try.func48, Try.ntmps48
  go_wp2
  go_loopg [3, 4] (l0.length - 1) (fun kq v3 v4 w' => ∃ i : Nat, v3 = .int .i64 (minTo l0 (i - 1)) ∧ v4 = .int .i64 (i : Int) ∧ Aside0 (1 ≤ i ∧ i + kq = l0.length) ∧ w = w')
  case atStart => exact ⟨1, rfl, rfl, ⟨by omega, by have := HL.out; omega⟩, rfl⟩
  case round =>
   obtain ⟨i, rfl, rfl, HJ, rfl⟩ := hrel
   clear hx
   by_cases hlt : i < l0.length
   ·have p1 : (0 : Int) ≤ (i : Int) := by omega
    have p2 : (i : Int) < (l0.length : Int) := by omega
    obtain ⟨ad2, e, hx⟩ := Kd.at_int HR.out (i : Int) p1 p2
    cases e
    replace hx : w.cell? (ad.add i) = some (.int .i64 (rd l0 (i : Int))) := by simpa using hx
    obtain ⟨x, hxe⟩ : ∃ x, rd l0 (i : Int) = x := ⟨_, rfl⟩
    rw [hxe] at hx
    obtain ⟨m, hm⟩ : ∃ m, minTo l0 (i - 1) = m := ⟨_, rfl⟩
    rw [hm]
    have HM := Aside0.mk (show mn m x = minTo l0 (i + 1 - 1) by
     rw [← hm, ← hxe]
     obtain ⟨q, rfl⟩ : ∃ q, i = q + 1 := ⟨i - 1, by have := HJ.out; omega⟩
     rfl)
    have HLT := Aside0.mk hlt
    have HW := Aside0.mk (show wrap64 ((i : Int) + 1) = ((i + 1 : Nat) : Int) by have := HL.out; unfold wrap64; omega)
    clear hlt hxe hm
    go_wp2
    all_goals
     go_roundg (gk - 1)
     case measure => have := HJ.out; have := HLT.out; omega
     case rel => exact ⟨i + 1, by rw [← HM.out]; congr 1; unfold mn; split <;> omega, by rw [HW.out], ⟨by omega, by have := HJ.out; have := HLT.out; omega⟩, rfl⟩
   ·have hj : i = l0.length := by have := HJ.out; omega
    subst hj
    go_wp2
    go_ret
    exact ⟨rfl, Drawn0.refl _⟩
 ·rw [if_neg hl] at h
  cases h
end Go.Proofs.Ytlhaopjdpkhogaa.P

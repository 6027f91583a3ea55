/- A text of this claim, what is not used left out. -/
import Derived.Test.YtomopjomapkmjaaBaBBdH
set_option linter.unusedVariables false
set_option linter.unusedSimpArgs false
namespace Go.Proofs.Ytomopjomapkmjaa.B
open Go Go.RowKit Go.Proofs.YtomopjomapkmjaaW.PrintWords Go.Proofs.YtomopjomapkmjaaW.PrintLast Go.Proofs.YtomopjomapkmjaaW.PrintMore Go.Proofs.Ytomopjomapkmjaa.Pure
section
variable {base g : Nat} {ok : Nat → Prop} {w w0 w1 w2 W : World}
theorem any_true {l : List Int} {p : Int → Bool} {j : Nat} (hj : j < l.length) (h : p (l.getD j 0) = true) : l.any p = true := by
  rw [List.any_eq_true]
  refine ⟨l.getD j 0, ?_, h⟩
  rw [List.getD_eq_getElem?_getD, List.getElem?_eq_getElem hj]
  exact List.getElem_mem hj
theorem any_false {l : List Int} {p : Int → Bool} (h : ∀ j, j < l.length → p (l.getD j 0) = false) : l.any p = false := by
  rw [List.any_eq_false]
  intro y hy
  obtain ⟨j, hj, rfl⟩ := List.getElem_of_mem hy
  have := h j hj
  rw [List.getD_eq_getElem?_getD, List.getElem?_eq_getElem hj] at this
  simpa using this
set_option maxHeartbeats 1000000 in
theorem New1_at (k : Int) (w : World) : Calls Try.prog 42 #[.int .i64 k] w fun e w' => e = .returned (.bool (!kindB k)) ∧ w = w' := by
  have HK := Aside0.mk (kind_at k w)
  obtain ⟨o, eo⟩ : ∃ o, kindB k = o := ⟨_, rfl⟩
  rw [eo] at HK
  rw [eo]
  clear eo
  cases o
  all_goals
    go_enter Try.func42, Try.ntmps42
    go_wp2_with (go_at_call 40; ((with_reducible refine HK.out.mono ?_); rintro e w' ⟨rfl, rfl⟩))
    go_ret
    exact ⟨rfl, rfl⟩
set_option maxHeartbeats 1000000 in
theorem Func1_at (k : Int) (w : World) : Calls Try.prog 48 #[.int .i64 k] w fun e w' => e = .returned (.bool (!decide (k = 2))) ∧ w = w' := by
  by_cases h : k = 2
  · have t1 : decide (k = 2) = true := decide_eq_true h
    have t2 : (k == 2) = true := beq_iff_eq.mpr h
    have t3 : (k != 2) = false := by simp [h]
    rw [t1]
    clear h
    go_enter Try.func48, Try.ntmps48
    go_wp2
    go_ret
    exact ⟨rfl, rfl⟩
  · have t1 : decide (k = 2) = false := decide_eq_false h
    have t2 : (k == 2) = false := beq_eq_false_iff_ne.mpr h
    have t3 : (k != 2) = true := by simp [h]
    rw [t1]
    clear h
    go_enter Try.func48, Try.ntmps48
    go_wp2
    go_ret
    exact ⟨rfl, rfl⟩
set_option maxHeartbeats 2000000 in
theorem IndexNew (A : Option Addr) (c : Nat) (l : List Int) (w : World) (hC : (Kd.int .i64).C w A l.length l) (hc : l.length ≤ c) :
    Calls Try.prog 58 #[.slice A l.length c, .func (.func 42) #[] #[]] w fun e w' => (∃ r : Int, e = .returned (.int .i64 r) ∧ decide (0 ≤ r) = l.any (fun k => !kindB k)) ∧ w = w' := by
  have hm := hC.2.1
  have HC := Aside0.mk hC
  have HM := Aside0.mk hm
  clear hC hc
  go_enter Try.func58, Try.ntmps58
  go_wp2
  go_loop [8] (fun v8 => ∃ j : Nat, v8 = .int .i64 (j : Int) ∧ Aside0 (j ≤ l.length ∧ ∀ i, i < j → (fun k => !kindB k) (l.getD i 0) = false)) (fun v8 => l.length - (intOf v8).toNat)
  case atStart => exact ⟨0, rfl, ⟨Nat.zero_le _, fun i hi => absurd hi (Nat.not_lt_zero i)⟩⟩
  case round =>
    obtain ⟨j, rfl, HJ⟩ := hrel
    by_cases hlt : j < l.length
    · have HLT := Aside0.mk hlt
      have t1 : decide ((j : Int) < (l.length : Int)) = true := decide_eq_true (by omega)
      have t2 : decide (j < l.length) = true := decide_eq_true hlt
      have p1 : (0 : Int) ≤ (j : Int) := by omega
      have p2 : (j : Int) < (l.length : Int) := by omega
      have hwr : wrap64 ((j : Int) + 1) = ((j + 1 : Nat) : Int) := by have := HM.out; unfold wrap64; omega
      have HWR := Aside0.mk hwr
      clear hwr
      obtain ⟨q, eq_, cq⟩ := Kd.at_int HC.out (j : Int) p1 p2
      subst eq_
      have e0 : rd l (j : Int) = l.getD j 0 := rfl
      rw [e0] at cq
      (try simp only [Int.toNat_natCast] at cq)
      clear e0
      obtain ⟨y, hy⟩ : ∃ y, l.getD j 0 = y := ⟨_, rfl⟩
      rw [hy] at cq
      have HK := Aside0.mk (New1_at y w)
      obtain ⟨b, hb⟩ : ∃ b, (fun k => !kindB k) y = b := ⟨_, rfl⟩
      have hb' := hb
      dsimp only at hb'
      rw [hb'] at HK
      clear hb'
      cases b with
      | true =>
        have HA := Aside0.mk (any_true (p := (fun k => !kindB k)) hlt (by rw [hy]; exact hb))
        clear hb hy
        go_wp2_with (go_at_call 42; ((with_reducible refine HK.out.mono ?_); rintro e w' ⟨rfl, rfl⟩))
        go_ret
        exact ⟨⟨_, rfl, by rw [HA.out]; exact decide_eq_true (by omega)⟩, rfl⟩
      | false =>
        have HY : Aside0 ((fun k => !kindB k) (l.getD j 0) = false) := ⟨by rw [hy]; exact hb⟩
        clear hb hy
        go_wp2_with (go_at_call 42; ((with_reducible refine HK.out.mono ?_); rintro e w' ⟨rfl, rfl⟩))
        go_round
        case rel => exact ⟨j + 1, by first | (rw [HWR.out]; done) | (rw [HWR.out]) | go_num, ⟨by have := HLT.out; omega, fun i hi => by rcases Nat.lt_succ_iff_lt_or_eq.1 hi with h | rfl; exact HJ.out.2 i h; exact HY.out⟩⟩
        case measure => exact bd_meas _ _ _ (by first | exact HWR.out | omega) HLT.out
    have t1 : decide ((j : Int) < (l.length : Int)) = false := decide_eq_false (by omega)
    have t2 : decide (j < l.length) = false := decide_eq_false hlt
    have HA := Aside0.mk (any_false (p := (fun k => !kindB k)) (fun i hi => HJ.out.2 i (by omega)))
    go_wp2
    go_ret
    exact ⟨⟨_, rfl, by rw [HA.out]; rfl⟩, rfl⟩
set_option maxHeartbeats 1000000 in
theorem HasNew (A : Option Addr) (c : Nat) (l : List Int) (w : World) (hC : (Kd.int .i64).C w A l.length l) (hc : l.length ≤ c) :
    Calls Try.prog 41 #[.slice A l.length c, .func (.func 42) #[] #[]] w fun e w' => e = .returned (.bool (l.any (fun k => !kindB k))) ∧ w = w' := by
  have HI := Aside0.mk (IndexNew A c l w hC hc)
  obtain ⟨b, hb⟩ : ∃ b, l.any (fun k => !kindB k) = b := ⟨_, rfl⟩
  rw [hb] at HI
  rw [hb]
  clear hb hC hc
  go_enter Try.func41, Try.ntmps41
  go_wp2_with (go_at_call 58; ((with_reducible refine HI.out.mono ?_); rintro e w' ⟨⟨r, rfl, hr⟩, rfl⟩))
  go_ret
  exact ⟨by first | rfl | exact ret_b hr | exact ret_b rfl, rfl⟩
set_option maxHeartbeats 2000000 in
theorem IndexFunc (A : Option Addr) (c : Nat) (l : List Int) (w : World) (hC : (Kd.int .i64).C w A l.length l) (hc : l.length ≤ c) :
    Calls Try.prog 58 #[.slice A l.length c, .func (.func 48) #[] #[]] w fun e w' => (∃ r : Int, e = .returned (.int .i64 r) ∧ decide (0 ≤ r) = l.any (fun k => !decide (k = 2))) ∧ w = w' := by
  have hm := hC.2.1
  have HC := Aside0.mk hC
  have HM := Aside0.mk hm
  clear hC hc
  go_enter Try.func58, Try.ntmps58
  go_wp2
  go_loop [8] (fun v8 => ∃ j : Nat, v8 = .int .i64 (j : Int) ∧ Aside0 (j ≤ l.length ∧ ∀ i, i < j → (fun k => !decide (k = 2)) (l.getD i 0) = false)) (fun v8 => l.length - (intOf v8).toNat)
  case atStart => exact ⟨0, rfl, ⟨Nat.zero_le _, fun i hi => absurd hi (Nat.not_lt_zero i)⟩⟩
  case round =>
    obtain ⟨j, rfl, HJ⟩ := hrel
    by_cases hlt : j < l.length
    · have HLT := Aside0.mk hlt
      have t1 : decide ((j : Int) < (l.length : Int)) = true := decide_eq_true (by omega)
      have t2 : decide (j < l.length) = true := decide_eq_true hlt
      have p1 : (0 : Int) ≤ (j : Int) := by omega
      have p2 : (j : Int) < (l.length : Int) := by omega
      have hwr : wrap64 ((j : Int) + 1) = ((j + 1 : Nat) : Int) := by have := HM.out; unfold wrap64; omega
      have HWR := Aside0.mk hwr
      clear hwr
      obtain ⟨q, eq_, cq⟩ := Kd.at_int HC.out (j : Int) p1 p2
      subst eq_
      have e0 : rd l (j : Int) = l.getD j 0 := rfl
      rw [e0] at cq
      (try simp only [Int.toNat_natCast] at cq)
      clear e0
      obtain ⟨y, hy⟩ : ∃ y, l.getD j 0 = y := ⟨_, rfl⟩
      rw [hy] at cq
      have HK := Aside0.mk (Func1_at y w)
      obtain ⟨b, hb⟩ : ∃ b, (fun k => !decide (k = 2)) y = b := ⟨_, rfl⟩
      have hb' := hb
      dsimp only at hb'
      rw [hb'] at HK
      clear hb'
      cases b with
      | true =>
        have HA := Aside0.mk (any_true (p := (fun k => !decide (k = 2))) hlt (by rw [hy]; exact hb))
        clear hb hy
        go_wp2_with (go_at_call 48; ((with_reducible refine HK.out.mono ?_); rintro e w' ⟨rfl, rfl⟩))
        go_ret
        exact ⟨⟨_, rfl, by rw [HA.out]; exact decide_eq_true (by omega)⟩, rfl⟩
      | false =>
        have HY : Aside0 ((fun k => !decide (k = 2)) (l.getD j 0) = false) := ⟨by rw [hy]; exact hb⟩
        clear hb hy
        go_wp2_with (go_at_call 48; ((with_reducible refine HK.out.mono ?_); rintro e w' ⟨rfl, rfl⟩))
        go_round
        case rel => exact ⟨j + 1, by first | (rw [HWR.out]; done) | (rw [HWR.out]) | go_num, ⟨by have := HLT.out; omega, fun i hi => by rcases Nat.lt_succ_iff_lt_or_eq.1 hi with h | rfl; exact HJ.out.2 i h; exact HY.out⟩⟩
        case measure => exact bd_meas _ _ _ (by first | exact HWR.out | omega) HLT.out
    have t1 : decide ((j : Int) < (l.length : Int)) = false := decide_eq_false (by omega)
    have t2 : decide (j < l.length) = false := decide_eq_false hlt
    have HA := Aside0.mk (any_false (p := (fun k => !decide (k = 2))) (fun i hi => HJ.out.2 i (by omega)))
    go_wp2
    go_ret
    exact ⟨⟨_, rfl, by rw [HA.out]; rfl⟩, rfl⟩
set_option maxHeartbeats 1000000 in
theorem HasFunc (A : Option Addr) (c : Nat) (l : List Int) (w : World) (hC : (Kd.int .i64).C w A l.length l) (hc : l.length ≤ c) :
    Calls Try.prog 41 #[.slice A l.length c, .func (.func 48) #[] #[]] w fun e w' => e = .returned (.bool (l.any (fun k => !decide (k = 2)))) ∧ w = w' := by
  have HI := Aside0.mk (IndexFunc A c l w hC hc)
  obtain ⟨b, hb⟩ : ∃ b, l.any (fun k => !decide (k = 2)) = b := ⟨_, rfl⟩
  rw [hb] at HI
  rw [hb]
  clear hb hC hc
  go_enter Try.func41, Try.ntmps41
  go_wp2_with (go_at_call 58; ((with_reducible refine HI.out.mono ?_); rintro e w' ⟨⟨r, rfl, hr⟩, rfl⟩))
  go_ret
  exact ⟨by first | rfl | exact ret_b hr | exact ret_b rfl, rfl⟩
end
end Go.Proofs.Ytomopjomapkmjaa.B

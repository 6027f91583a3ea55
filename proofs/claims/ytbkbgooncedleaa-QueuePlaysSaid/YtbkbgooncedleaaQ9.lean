import Derived.Test.YtbkbgooncedleaaQ8
namespace Go.Proofs.YtbkbgooncedleaaQ
open Go Go.Conc Go.RowKit Go.Proofs.YtbkbgooncedleaaW.PrintWords Go.Proofs.YtbkbgooncedleaaW.PrintLast Go.Proofs.YtbkbgooncedleaaW.PrintMore Go.Proofs.YtbkbgooncedleaaSel
open Go.Proofs.Ytbkbgooncedleaa.P Go.Proofs.Ytbkbgooncedleaa.Pure
set_option linter.unusedVariables false
set_option maxHeartbeats 2000000 in
theorem refPut_no (n : Int) (A : Option Addr) (c : Nat) (l : List Int) (i : Int) (w : World) (hr : Kd.C (Kd.int .i64) w A l.length l) (hc : l.length ≤ c) (hl : l.length < 4611686018427387904) (h : ¬ (0 ≤ i ∧ i < n) ∨ i ∈ l) :
    Calls Try.prog 13 #[.int .i64 n, .slice A l.length c, .int .i64 i] w fun e w' => e = .returned (.tuple #[.slice A l.length c, .bool false]) ∧ Drawn0 w w' := by
  have HR := Aside0.mk hr
  have HH := Aside0.mk h
  clear hr h
  by_cases q0 : i < 0
  · have t1 : decide (i < 0) = true := decide_eq_true q0
    go_enter Try.func13, Try.ntmps13
    go_wp2
    go_ret2
    exact ⟨rfl, Drawn0.refl _⟩
  · have t1 : decide (i < 0) = false := decide_eq_false q0
    by_cases q1 : n ≤ i
    · have t2 : decide (n ≤ i) = true := decide_eq_true q1
      go_enter Try.func13, Try.ntmps13
      go_wp2
      go_ret2
      exact ⟨rfl, Drawn0.refl _⟩
    · have t2 : decide (n ≤ i) = false := decide_eq_false q1
      have hm : i ∈ l := by
        rcases HH.out with h | h
        · omega
        · exact h
      have T3 := Aside0.mk (decide_eq_true hm)
      clear hm
      go_enter Try.func13, Try.ntmps13
      go_wp2_with (go_at_call 14; refine (hasInt_c A c l i _ HR.out hc hl).mono ?_; rintro e w' ⟨rfl, hd⟩; rw [T3.out]; have HD := Aside0.mk hd; clear hd)
      go_ret2
      exact ⟨rfl, HD.out⟩
set_option maxHeartbeats 2000000 in
theorem refPut_yes (n : Int) (A : Option Addr) (c : Nat) (l : List Int) (i : Int) (w : World) (hr : Kd.C (Kd.int .i64) w A l.length l) (hc : l.length ≤ c) (hl : l.length < 1099511627776) (h0 : 0 ≤ i) (h1 : i < n) (hm : i ∉ l) :
    Calls Try.prog 13 #[.int .i64 n, .slice A l.length c, .int .i64 i] w fun e w' => ∃ v, e = .returned (.tuple #[v, .bool true]) ∧ Kd.R (Kd.int .i64) 3 w' w.heap.size (fun _ => True) v (l ++ [i]) ∧ Below w.heap.size w w' := by
  have HR := Aside0.mk hr
  have T3 := Aside0.mk (decide_eq_false hm)
  have HL := Aside0.mk hl
  clear hr hm
  have t1 : decide (i < 0) = false := decide_eq_false (by omega)
  have t2 : decide (n ≤ i) = false := decide_eq_false (by omega)
  go_enter Try.func13, Try.ntmps13
  go_wp2_with (first
    | (go_at_call 14; refine (hasInt_c A c l i _ HR.out hc (by have := HL.out; omega)).mono ?_; rintro e w' ⟨rfl, hd⟩; rw [T3.out]; have HD := Aside0.mk hd.below; have HC := Aside0.mk (Kd.C_below HR.out hd.below); clear hd)
    | (go_at_call 19; refine (balustradebase_Ints.calls A c l l _ HC.out hc (ints_val l (by have := HL.out; omega))).mono ?_; rintro e w' ⟨v, rfl, ho, hb⟩; have HO := Aside0.mk (Kd.R_lower ho (below_size HD.out)); have HB := Aside0.mk (below_step HD.out hb); clear ho hb)
    | ((with_reducible refine gate_builtin (b := .append) (xs := #[.tmp 22, .tmp 24]) rfl ?_); at_builtin; refine Kd.R_append (Kd.int .i64) (w0 := w) w.heap.size rfl (.tmp 22) (.tmp 24) 28 3 (.int .i64 0) 8 rfl Try.underlying28 info3 rfl (by decide) (by omega) v l i [.int .i64 i] (fun _ => True) (fun _ => False) rfl (by simp [Act.eval]) rfl (fun _ hk => hk.elim) (fun _ _ => trivial) HO.out HB.out (below_size HB.out) (by have := HL.out; omega) ?_; intro v1 w3 ho hb hg hat; have HO3 := Aside0.mk ho; have HB3 := Aside0.mk hb; clear ho hb hg hat))
  go_ret2
  exact ⟨_, rfl, HO3.out, HB3.out⟩
end Go.Proofs.YtbkbgooncedleaaQ

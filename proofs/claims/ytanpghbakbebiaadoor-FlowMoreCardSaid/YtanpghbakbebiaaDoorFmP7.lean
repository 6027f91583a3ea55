/- A part of it. -/
import Derived.Test.YtanpghbakbebiaaDoorFmP0
import Derived.Test.YtanpghbakbebiaaDoorFmFlowS3
namespace Go.Proofs.YtanpghbakbebiaaDoor.P
open Go.RowKit Go.Proofs.YtanpghbakbebiaaDoorW.PrintWords Go.Proofs.YtanpghbakbebiaaDoorW.PrintLast Go.Proofs.YtanpghbakbebiaaDoorW.PrintMore
attribute [local go_sem] max2_int min2_int max_two min_two max_three min_three max_four min_four   
set_option linter.unusedVariables false
set_option linter.unusedSimpArgs false
def flow_Solve.f (k : Nat) (l0_0 : List (List Int)) (a0_1 : Bool) (a0_2 : Bool) (a0_3 : Int) (l0_4 : List (List Int)) (l0_5 : List (List Int)) (l0_6 : List Int) : Option (List (List Int) × List (List Int) × Bool) := fs_f k l0_0 a0_1 a0_2 a0_3 l0_4 l0_5 l0_6
theorem flow_Solve.mono : ∀ a0 a1 a2 a3 a4 a5 a6 k, LeO (flow_Solve.f k a0 a1 a2 a3 a4 a5 a6) (flow_Solve.f (k + 1) a0 a1 a2 a3 a4 a5 a6) := fs_mono
theorem flow_Solve.calls (k : Nat) (A0_0 : Option Addr) (c0_0 : Nat) (l0_0 : List (List Int)) (a0_1 : Bool) (a0_2 : Bool) (a0_3 : Int) (A0_4 : Option Addr) (c0_4 : Nat) (l0_4 : List (List Int)) (A0_5 : Option Addr) (c0_5 : Nat) (l0_5 : List (List Int)) (A0_6 : Option Addr) (c0_6 : Nat) (l0_6 : List Int) (r1 r2 : List (List Int)) (r3 : Bool) (w : World) (hT : TabW w) (hr0_0 : Kd.C (Kd.slice 3 (Kd.int .i64)) w A0_0 l0_0.length l0_0) (hc0_0 : l0_0.length ≤ c0_0) (hr0_4 : Kd.C (Kd.slice 72 (Kd.int .u64)) w A0_4 l0_4.length l0_4) (hc0_4 : l0_4.length ≤ c0_4) (hr0_5 : Kd.C (Kd.slice 72 (Kd.int .u64)) w A0_5 l0_5.length l0_5) (hc0_5 : l0_5.length ≤ c0_5) (hr0_6 : Kd.C (Kd.int .u64) w A0_6 l0_6.length l0_6) (hc0_6 : l0_6.length ≤ c0_6) (h : flow_Solve.f k l0_0 a0_1 a0_2 a0_3 l0_4 l0_5 l0_6 = some (r1, r2, r3)) :
  Calls Tryd.prog 9 #[.agg #[.slice A0_0 l0_0.length c0_0, .bool a0_1, .bool a0_2, .int .i64 a0_3, .slice A0_4 l0_4.length c0_4, .slice A0_5 l0_5.length c0_5, .slice A0_6 l0_6.length c0_6]] w fun e w' => ∃ v0_ v1_ : Value, e = .returned (.tuple #[.agg #[v0_, v1_], .bool r3]) ∧ Kd.N (Kd.slice 72 (Kd.int .u64)) 30 w' w.heap.size (fun k_ => some k_ ≠ (v1_ : Value).ownBlock ∧ w.heap.size ≤ k_) v0_ r1 ∧ Kd.N (Kd.slice 72 (Kd.int .u64)) 30 w' w.heap.size (fun k_ => some k_ ≠ (v0_ : Value).ownBlock ∧ w.heap.size ≤ k_) v1_ r2 ∧ Below w.heap.size w w' :=
 fs_at ⟨A0_0, c0_0, l0_0, a0_1, a0_2, a0_3, A0_4, c0_4, l0_4, A0_5, c0_5, l0_5, A0_6, c0_6, l0_6⟩ k r1 r2 r3 w hT ⟨hr0_0, hc0_0, hr0_4, hc0_4, hr0_5, hc0_5, hr0_6, hc0_6⟩ h
end Go.Proofs.YtanpghbakbebiaaDoor.P

/- A part of it. -/
import Derived.Test.YtgbpkbfghonllaaFcP0
import Derived.Test.YtgbpkbfghonllaaFcP6
import Derived.Test.YtgbpkbfghonllaaFcP8
namespace Go.Proofs.Ytgbpkbfghonllaa.P
open Go.RowKit Go.Proofs.YtgbpkbfghonllaaW.PrintWords Go.Proofs.YtgbpkbfghonllaaW.PrintLast Go.Proofs.YtgbpkbfghonllaaW.PrintMore
attribute [local go_sem] max2_int min2_int max_two min_two max_three min_three max_four min_four   
set_option linter.unusedVariables false
set_option linter.unusedSimpArgs false
section
attribute [local go_sem] Oper.semAt_some
def UsKp (Bh Bp B0 : Nat) (W W' : World) : Prop := W'.cell? ⟨Bh, 0, none⟩ = W.cell? ⟨Bh, 0, none⟩ ∧ W'.cell? ⟨Bp, 0, none⟩ = W.cell? ⟨Bp, 0, none⟩ ∧ W'.cell? ⟨B0, 6, none⟩ = W.cell? ⟨B0, 6, none⟩ ∧ W'.cell? ⟨B0, 8, none⟩ = W.cell? ⟨B0, 8, none⟩
theorem usKp_t {Bh Bp B0 : Nat} {A B C : World} (h : UsKp Bh Bp B0 A B) (k : UsKp Bh Bp B0 B C) : UsKp Bh Bp B0 A C := ⟨k.1.trans h.1, k.2.1.trans h.2.1, k.2.2.1.trans h.2.2.1, k.2.2.2.trans h.2.2.2⟩
theorem us_putObj (W : World) (l : Nat) (o : Obj) (p : Addr) (h : p.block ≠ l) : (W.putObj l o).cell? p = W.cell? p := by
 unfold World.cell?
 rw [World.putObj_heap_other h]
theorem usKp_b {Bh Bp B0 : Nat} {w : World} (h1 : Bh < w.heap.size) (h2 : Bp < w.heap.size) (h3 : B0 < w.heap.size) (W : World) (l : Nat) (o o' : Obj) (hl : w.heap.size ≤ l) (_ : W.heap[l]? = some o) (_ : o.isCells = false) (_ : o.isWalk = false) : UsKp Bh Bp B0 W (W.putObj l o') :=
 ⟨us_putObj W l o' ⟨Bh, 0, none⟩ (by show Bh ≠ l; omega), us_putObj W l o' ⟨Bp, 0, none⟩ (by show Bp ≠ l; omega), us_putObj W l o' ⟨B0, 6, none⟩ (by show B0 ≠ l; omega), us_putObj W l o' ⟨B0, 8, none⟩ (by show B0 ≠ l; omega)⟩
def UsAt (Bh Bp B0 : Nat) (h m : Int) (A : Option Addr) (len cap : Nat) (W : World) : Prop := W.cell? ⟨Bh, 0, none⟩ = some (.int .i64 h) ∧ W.cell? ⟨Bp, 0, none⟩ = some (.pointer (some ⟨B0, 0, none⟩)) ∧ W.cell? ⟨B0, 6, none⟩ = some (.int .i64 m) ∧ W.cell? ⟨B0, 8, none⟩ = some (.slice A len cap)
theorem UsAt.kp {Bh Bp B0 : Nat} {h m : Int} {A : Option Addr} {len cap : Nat} {W W' : World} (k : UsAt Bh Bp B0 h m A len cap W) (hk : UsKp Bh Bp B0 W W') : UsAt Bh Bp B0 h m A len cap W' := ⟨hk.1.trans k.1, hk.2.1.trans k.2.1, hk.2.2.1.trans k.2.2.1, hk.2.2.2.trans k.2.2.2⟩
set_option maxRecDepth 100000 in
set_option maxHeartbeats 8000000 in
theorem us_seq_n {α : Type} (ad : α → Addr) (n : Nat) (hn : 1 ≤ n) (Bh Bp B0 : Nat) (h m : Int) (A : Option Addr) (len cap : Nat) (hle : len < 4611686018427387904) (ha : (Go.bits .and .i64 h 2 != 0) = false) (hb : (Go.bits .and .i64 h 4 != 0) = false) (hc : (Go.bits .and .i64 h 8 != 0) = false) (xt : List α) (hxt : xt.length = len) (hxa_ : ∀ (j : Nat) (hj : j < xt.length), ∃ q, A = some q ∧ ad xt[j] = q.add j) (w : World) (hw : UsAt Bh Bp B0 h m A len cap w) (h1 : Bh < w.heap.size) (h2 : Bp < w.heap.size) (h3 : B0 < w.heap.size) :
  SeqStopsK Fence.wide n Try.prog 92 #[.pointer (some ⟨Bh, 0, none⟩), .pointer (some ⟨Bp, 0, none⟩)] (fun x : α => #[Value.pointer (some (ad x))]) (UsKp Bh Bp B0) (fun ys => ys = ([] ++ xt)) (fun pre => pre <+: ([] ++ xt)) ([] ++ xt).length w := by
 intro l J Jx W hW hJ hJx hY h0
 have U : UsAt Bh Bp B0 h m A len cap W := ⟨(hW.cell (p := ⟨Bh, 0, none⟩) h1).trans hw.1, (hW.cell (p := ⟨Bp, 0, none⟩) h2).trans hw.2.1, (hW.cell (p := ⟨B0, 6, none⟩) h3).trans hw.2.2.1, (hW.cell (p := ⟨B0, 8, none⟩) h3).trans hw.2.2.2⟩
 clear hW hJ hJx hw h1 h2 h3
 have HY := Aside0.mk hY
 clear hY
 have HXT := Aside0.mk hxt
 clear hxt
 have HXA := Aside0.mk hxa_
 clear hxa_
 have U0 := U
 obtain ⟨u1, u2, u3, u4⟩ := U
 have UU0 := Aside0.mk U0
 clear U0
 refine callsIn_of_wp Try.func92 rfl trivial ?_ rfl
 simp only [Try.ntmps92, List.size_toArray, List.length_cons, List.length_nil, Nat.reduceAdd, Nat.reduceSub, Array.replicate_succ, Array.replicate_zero, List.push_toArray, List.append_toArray, List.nil_append, List.cons_append]
 have HJ0 := Aside0.mk h0
 clear h0
 gi_wp2
 (try (refine ⟨fun _ h => (by cases h), ?_⟩; gi_wp2))
 (try (refine ⟨fun _ h => (by cases h), ?_⟩; gi_wp2))
 (try (refine ⟨fun _ h => (by cases h), ?_⟩; gi_wp2))
 gi_loopw [55] (fun v wr => ∃ j : Nat, v = .int .i64 (j : Int) ∧ Aside0 (j ≤ len) ∧ Aside0 (J ([] ++ xt.take j) wr) ∧ Aside0 (UsAt Bh Bp B0 h m A len cap wr)) (fun v wr => len - (intOf v).toNat)
 case atStart => exact ⟨0, rfl, Aside0.mk (Nat.zero_le _), by simpa using HJ0, UU0⟩
 case round =>
 obtain ⟨j, rfl, Hj, HJ, HU⟩ := hrel
 obtain ⟨q1, q2, q3, q4⟩ := HU.out
 by_cases hlt : j < len
 ·have p1 : (0 : Int) ≤ (j : Int) := by omega
  have p2 : (j : Int) < (len : Int) := by omega
  have t1 : decide ((j : Int) < (len : Int)) = true := decide_eq_true p2
  have hjx : j < xt.length := by rw [HXT.out]; exact hlt
  obtain ⟨q, rfl, hq⟩ := HXA.out j hjx
  obtain ⟨fn, tmps, assign, body, hy, hR⟩ := HY.out _ xt[j] wr HJ.out (by simp; omega)
  (try dsimp only at hy)
  rw [hq] at hy
  have HQ := Aside0.mk hq
  clear hq
  gi_wp2
  refine hR.mono ?_
  rintro e W9 (⟨rfl, hJ9, hk9⟩ | ⟨rfl, hJx9⟩)
  ·have HU9 := Aside0.mk (HU.out.kp hk9)
   have HJ9 := Aside0.mk hJ9
   clear hJ9 hk9
   gi_wp2
   go_roundw
   case rel => exact ⟨j + 1, by go_num, Aside0.mk (by omega), Aside0.mk (by have := HJ9.out; rw [List.take_succ_eq_append_getElem hjx, ← List.append_assoc]; exact this), HU9⟩
   case measure => simp [intOf]; omega
  ·gi_wp2
   refine bodyPost_ret (results_none rfl _ _ _) rfl ?_
   refine ⟨⟨_, rfl⟩, .inr ⟨_, ⟨xt.drop (j + 1), ?_⟩, hJx9⟩⟩
   have e : xt.take j ++ xt[j] :: xt.drop (j + 1) = xt := by rw [List.getElem_cons_drop, List.take_append_drop]
   simp only [List.append_assoc, List.cons_append, List.nil_append, e]
 ·have t1 : decide ((j : Int) < (len : Int)) = false := decide_eq_false (by omega)
  gi_wp2
  go_end0
  refine ⟨⟨_, rfl⟩, .inl ⟨_, rfl, ?_⟩⟩
  have := HJ.out; have e := HXT.out; have := Hj.out; rw [List.take_of_length_le (by omega)] at *; assumption
set_option maxRecDepth 100000 in
set_option maxHeartbeats 8000000 in
theorem us_seq_a {α : Type} (ad : α → Addr) (n : Nat) (hn : 1 ≤ n) (Bh Bp B0 : Nat) (h m : Int) (A : Option Addr) (len cap : Nat) (hle : len < 4611686018427387904) (ha : (Go.bits .and .i64 h 2 != 0) = true) (hb : (Go.bits .and .i64 h 4 != 0) = false) (hc : (Go.bits .and .i64 h 8 != 0) = false) (xa : α) (hxa : ad xa = ⟨B0, 2, none⟩) (xt : List α) (hxt : xt.length = len) (hxa_ : ∀ (j : Nat) (hj : j < xt.length), ∃ q, A = some q ∧ ad xt[j] = q.add j) (w : World) (hw : UsAt Bh Bp B0 h m A len cap w) (h1 : Bh < w.heap.size) (h2 : Bp < w.heap.size) (h3 : B0 < w.heap.size) :
  SeqStopsK Fence.wide n Try.prog 92 #[.pointer (some ⟨Bh, 0, none⟩), .pointer (some ⟨Bp, 0, none⟩)] (fun x : α => #[Value.pointer (some (ad x))]) (UsKp Bh Bp B0) (fun ys => ys = ([xa] ++ xt)) (fun pre => pre <+: ([xa] ++ xt)) ([xa] ++ xt).length w := by
 intro l J Jx W hW hJ hJx hY h0
 have U : UsAt Bh Bp B0 h m A len cap W := ⟨(hW.cell (p := ⟨Bh, 0, none⟩) h1).trans hw.1, (hW.cell (p := ⟨Bp, 0, none⟩) h2).trans hw.2.1, (hW.cell (p := ⟨B0, 6, none⟩) h3).trans hw.2.2.1, (hW.cell (p := ⟨B0, 8, none⟩) h3).trans hw.2.2.2⟩
 clear hW hJ hJx hw h1 h2 h3
 have HY := Aside0.mk hY
 clear hY
 have HXT := Aside0.mk hxt
 clear hxt
 have HXA := Aside0.mk hxa_
 clear hxa_
 have Hxa := Aside0.mk hxa
 clear hxa
 have U0 := U
 obtain ⟨u1, u2, u3, u4⟩ := U
 have UU0 := Aside0.mk U0
 clear U0
 refine callsIn_of_wp Try.func92 rfl trivial ?_ rfl
 simp only [Try.ntmps92, List.size_toArray, List.length_cons, List.length_nil, Nat.reduceAdd, Nat.reduceSub, Array.replicate_succ, Array.replicate_zero, List.push_toArray, List.append_toArray, List.nil_append, List.cons_append]
 obtain ⟨fn0, tmps0, assign0, body0, hy, hR⟩ := HY.out [] xa W h0 (by simp)
 (try dsimp only at hy)
 rw [Hxa.out] at hy
 gi_wp2
 refine hR.mono ?_
 rintro e W1 (⟨rfl, hJ1, hk1⟩ | ⟨rfl, hJx1⟩)
 rotate_left
 ·gi_wp2
  refine bodyPost_ret (results_none rfl _ _ _) rfl ?_
  exact ⟨⟨_, rfl⟩, .inr ⟨[xa], ⟨[] ++ xt, by simp⟩, hJx1⟩⟩
 have UU1 := Aside0.mk (UU0.out.kp hk1)
 clear hy hR hk1
 obtain ⟨u1_1, u2_1, u3_1, u4_1⟩ := UU1.out
 have HJ0 := Aside0.mk hJ1
 clear hJ1
 gi_wp2
 (try (refine ⟨fun _ h => (by cases h), ?_⟩; gi_wp2))
 (try (refine ⟨fun _ h => (by cases h), ?_⟩; gi_wp2))
 gi_loopw [55] (fun v wr => ∃ j : Nat, v = .int .i64 (j : Int) ∧ Aside0 (j ≤ len) ∧ Aside0 (J ([xa] ++ xt.take j) wr) ∧ Aside0 (UsAt Bh Bp B0 h m A len cap wr)) (fun v wr => len - (intOf v).toNat)
 case atStart => exact ⟨0, rfl, Aside0.mk (Nat.zero_le _), by simpa using HJ0, UU1⟩
 case round =>
 obtain ⟨j, rfl, Hj, HJ, HU⟩ := hrel
 obtain ⟨q1, q2, q3, q4⟩ := HU.out
 by_cases hlt : j < len
 ·have p1 : (0 : Int) ≤ (j : Int) := by omega
  have p2 : (j : Int) < (len : Int) := by omega
  have t1 : decide ((j : Int) < (len : Int)) = true := decide_eq_true p2
  have hjx : j < xt.length := by rw [HXT.out]; exact hlt
  obtain ⟨q, rfl, hq⟩ := HXA.out j hjx
  obtain ⟨fn, tmps, assign, body, hy, hR⟩ := HY.out _ xt[j] wr HJ.out (by simp; omega)
  (try dsimp only at hy)
  rw [hq] at hy
  have HQ := Aside0.mk hq
  clear hq
  gi_wp2
  refine hR.mono ?_
  rintro e W9 (⟨rfl, hJ9, hk9⟩ | ⟨rfl, hJx9⟩)
  ·have HU9 := Aside0.mk (HU.out.kp hk9)
   have HJ9 := Aside0.mk hJ9
   clear hJ9 hk9
   gi_wp2
   go_roundw
   case rel => exact ⟨j + 1, by go_num, Aside0.mk (by omega), Aside0.mk (by have := HJ9.out; rw [List.take_succ_eq_append_getElem hjx, ← List.append_assoc]; exact this), HU9⟩
   case measure => simp [intOf]; omega
  ·gi_wp2
   refine bodyPost_ret (results_none rfl _ _ _) rfl ?_
   refine ⟨⟨_, rfl⟩, .inr ⟨_, ⟨xt.drop (j + 1), ?_⟩, hJx9⟩⟩
   have e : xt.take j ++ xt[j] :: xt.drop (j + 1) = xt := by rw [List.getElem_cons_drop, List.take_append_drop]
   simp only [List.append_assoc, List.cons_append, List.nil_append, e]
 ·have t1 : decide ((j : Int) < (len : Int)) = false := decide_eq_false (by omega)
  gi_wp2
  go_end0
  refine ⟨⟨_, rfl⟩, .inl ⟨_, rfl, ?_⟩⟩
  have := HJ.out; have e := HXT.out; have := Hj.out; rw [List.take_of_length_le (by omega)] at *; assumption
set_option maxRecDepth 100000 in
set_option maxHeartbeats 8000000 in
theorem us_seq_p {α : Type} (ad : α → Addr) (n : Nat) (hn : 1 ≤ n) (Bh Bp B0 : Nat) (h m : Int) (A : Option Addr) (len cap : Nat) (hle : len < 4611686018427387904) (ha : (Go.bits .and .i64 h 2 != 0) = true) (hb : (Go.bits .and .i64 h 4 != 0) = true) (hc : (Go.bits .and .i64 h 8 != 0) = false) (hrl : (Go.bits .and .i64 h 2048 == 0) = true) (xa : α) (hxa : ad xa = ⟨B0, 2, none⟩) (xb : α) (hxb : ad xb = ⟨B0, 3, none⟩) (xt : List α) (hxt : xt.length = len) (hxa_ : ∀ (j : Nat) (hj : j < xt.length), ∃ q, A = some q ∧ ad xt[j] = q.add j) (w : World) (hw : UsAt Bh Bp B0 h m A len cap w) (h1 : Bh < w.heap.size) (h2 : Bp < w.heap.size) (h3 : B0 < w.heap.size) :
  SeqStopsK Fence.wide n Try.prog 92 #[.pointer (some ⟨Bh, 0, none⟩), .pointer (some ⟨Bp, 0, none⟩)] (fun x : α => #[Value.pointer (some (ad x))]) (UsKp Bh Bp B0) (fun ys => ys = ([xa, xb] ++ xt)) (fun pre => pre <+: ([xa, xb] ++ xt)) ([xa, xb] ++ xt).length w := by
 intro l J Jx W hW hJ hJx hY h0
 have U : UsAt Bh Bp B0 h m A len cap W := ⟨(hW.cell (p := ⟨Bh, 0, none⟩) h1).trans hw.1, (hW.cell (p := ⟨Bp, 0, none⟩) h2).trans hw.2.1, (hW.cell (p := ⟨B0, 6, none⟩) h3).trans hw.2.2.1, (hW.cell (p := ⟨B0, 8, none⟩) h3).trans hw.2.2.2⟩
 clear hW hJ hJx hw h1 h2 h3
 have HY := Aside0.mk hY
 clear hY
 have HXT := Aside0.mk hxt
 clear hxt
 have HXA := Aside0.mk hxa_
 clear hxa_
 have Hxa := Aside0.mk hxa
 clear hxa
 have Hxb := Aside0.mk hxb
 clear hxb
 have U0 := U
 obtain ⟨u1, u2, u3, u4⟩ := U
 have UU0 := Aside0.mk U0
 clear U0
 refine callsIn_of_wp Try.func92 rfl trivial ?_ rfl
 simp only [Try.ntmps92, List.size_toArray, List.length_cons, List.length_nil, Nat.reduceAdd, Nat.reduceSub, Array.replicate_succ, Array.replicate_zero, List.push_toArray, List.append_toArray, List.nil_append, List.cons_append]
 obtain ⟨fn0, tmps0, assign0, body0, hy, hR⟩ := HY.out [] xa W h0 (by simp)
 (try dsimp only at hy)
 rw [Hxa.out] at hy
 gi_wp2
 refine hR.mono ?_
 rintro e W1 (⟨rfl, hJ1, hk1⟩ | ⟨rfl, hJx1⟩)
 rotate_left
 ·gi_wp2
  refine bodyPost_ret (results_none rfl _ _ _) rfl ?_
  exact ⟨⟨_, rfl⟩, .inr ⟨[xa], ⟨[xb] ++ xt, by simp⟩, hJx1⟩⟩
 have UU1 := Aside0.mk (UU0.out.kp hk1)
 clear hy hR hk1
 obtain ⟨u1_1, u2_1, u3_1, u4_1⟩ := UU1.out
 obtain ⟨fn1, tmps1, assign1, body1, hy, hR⟩ := HY.out [xa] xb W1 hJ1 (by simp)
 (try dsimp only at hy)
 rw [Hxb.out] at hy
 gi_wp2
 refine hR.mono ?_
 rintro e W2 (⟨rfl, hJ2, hk2⟩ | ⟨rfl, hJx2⟩)
 rotate_left
 ·gi_wp2
  refine bodyPost_ret (results_none rfl _ _ _) rfl ?_
  exact ⟨⟨_, rfl⟩, .inr ⟨[xa, xb], ⟨[] ++ xt, by simp⟩, hJx2⟩⟩
 have UU2 := Aside0.mk (UU1.out.kp hk2)
 clear hy hR hk2
 obtain ⟨u1_2, u2_2, u3_2, u4_2⟩ := UU2.out
 have HJ0 := Aside0.mk hJ2
 clear hJ2
 gi_wp2
 (try (refine ⟨fun _ h => (by cases h), ?_⟩; gi_wp2))
 gi_loopw [55] (fun v wr => ∃ j : Nat, v = .int .i64 (j : Int) ∧ Aside0 (j ≤ len) ∧ Aside0 (J ([xa, xb] ++ xt.take j) wr) ∧ Aside0 (UsAt Bh Bp B0 h m A len cap wr)) (fun v wr => len - (intOf v).toNat)
 case atStart => exact ⟨0, rfl, Aside0.mk (Nat.zero_le _), by simpa using HJ0, UU2⟩
 case round =>
 obtain ⟨j, rfl, Hj, HJ, HU⟩ := hrel
 obtain ⟨q1, q2, q3, q4⟩ := HU.out
 by_cases hlt : j < len
 ·have p1 : (0 : Int) ≤ (j : Int) := by omega
  have p2 : (j : Int) < (len : Int) := by omega
  have t1 : decide ((j : Int) < (len : Int)) = true := decide_eq_true p2
  have hjx : j < xt.length := by rw [HXT.out]; exact hlt
  obtain ⟨q, rfl, hq⟩ := HXA.out j hjx
  obtain ⟨fn, tmps, assign, body, hy, hR⟩ := HY.out _ xt[j] wr HJ.out (by simp; omega)
  (try dsimp only at hy)
  rw [hq] at hy
  have HQ := Aside0.mk hq
  clear hq
  gi_wp2
  refine hR.mono ?_
  rintro e W9 (⟨rfl, hJ9, hk9⟩ | ⟨rfl, hJx9⟩)
  ·have HU9 := Aside0.mk (HU.out.kp hk9)
   have HJ9 := Aside0.mk hJ9
   clear hJ9 hk9
   gi_wp2
   go_roundw
   case rel => exact ⟨j + 1, by go_num, Aside0.mk (by omega), Aside0.mk (by have := HJ9.out; rw [List.take_succ_eq_append_getElem hjx, ← List.append_assoc]; exact this), HU9⟩
   case measure => simp [intOf]; omega
  ·gi_wp2
   refine bodyPost_ret (results_none rfl _ _ _) rfl ?_
   refine ⟨⟨_, rfl⟩, .inr ⟨_, ⟨xt.drop (j + 1), ?_⟩, hJx9⟩⟩
   have e : xt.take j ++ xt[j] :: xt.drop (j + 1) = xt := by rw [List.getElem_cons_drop, List.take_append_drop]
   simp only [List.append_assoc, List.cons_append, List.nil_append, e]
 ·have t1 : decide ((j : Int) < (len : Int)) = false := decide_eq_false (by omega)
  gi_wp2
  go_end0
  refine ⟨⟨_, rfl⟩, .inl ⟨_, rfl, ?_⟩⟩
  have := HJ.out; have e := HXT.out; have := Hj.out; rw [List.take_of_length_le (by omega)] at *; assumption
set_option maxRecDepth 100000 in
set_option maxHeartbeats 8000000 in
theorem us_seq_s {α : Type} (ad : α → Addr) (n : Nat) (hn : 1 ≤ n) (Bh Bp B0 : Nat) (h m : Int) (A : Option Addr) (len cap : Nat) (hle : len < 4611686018427387904) (ha : (Go.bits .and .i64 h 2 != 0) = true) (hb : (Go.bits .and .i64 h 4 != 0) = true) (hc : (Go.bits .and .i64 h 8 != 0) = true) (hrl : (Go.bits .and .i64 h 2048 == 0) = true) (xa : α) (hxa : ad xa = ⟨B0, 2, none⟩) (xb : α) (hxb : ad xb = ⟨B0, 3, none⟩) (xc : α) (hxc : ad xc = ⟨B0, 4, none⟩) (xt : List α) (hxt : xt.length = len) (hxa_ : ∀ (j : Nat) (hj : j < xt.length), ∃ q, A = some q ∧ ad xt[j] = q.add j) (w : World) (hw : UsAt Bh Bp B0 h m A len cap w) (h1 : Bh < w.heap.size) (h2 : Bp < w.heap.size) (h3 : B0 < w.heap.size) :
  SeqStopsK Fence.wide n Try.prog 92 #[.pointer (some ⟨Bh, 0, none⟩), .pointer (some ⟨Bp, 0, none⟩)] (fun x : α => #[Value.pointer (some (ad x))]) (UsKp Bh Bp B0) (fun ys => ys = ([xa, xb, xc] ++ xt)) (fun pre => pre <+: ([xa, xb, xc] ++ xt)) ([xa, xb, xc] ++ xt).length w := by
 intro l J Jx W hW hJ hJx hY h0
 have U : UsAt Bh Bp B0 h m A len cap W := ⟨(hW.cell (p := ⟨Bh, 0, none⟩) h1).trans hw.1, (hW.cell (p := ⟨Bp, 0, none⟩) h2).trans hw.2.1, (hW.cell (p := ⟨B0, 6, none⟩) h3).trans hw.2.2.1, (hW.cell (p := ⟨B0, 8, none⟩) h3).trans hw.2.2.2⟩
 clear hW hJ hJx hw h1 h2 h3
 have HY := Aside0.mk hY
 clear hY
 have HXT := Aside0.mk hxt
 clear hxt
 have HXA := Aside0.mk hxa_
 clear hxa_
 have Hxa := Aside0.mk hxa
 clear hxa
 have Hxb := Aside0.mk hxb
 clear hxb
 have Hxc := Aside0.mk hxc
 clear hxc
 have U0 := U
 obtain ⟨u1, u2, u3, u4⟩ := U
 have UU0 := Aside0.mk U0
 clear U0
 refine callsIn_of_wp Try.func92 rfl trivial ?_ rfl
 simp only [Try.ntmps92, List.size_toArray, List.length_cons, List.length_nil, Nat.reduceAdd, Nat.reduceSub, Array.replicate_succ, Array.replicate_zero, List.push_toArray, List.append_toArray, List.nil_append, List.cons_append]
 obtain ⟨fn0, tmps0, assign0, body0, hy, hR⟩ := HY.out [] xa W h0 (by simp)
 (try dsimp only at hy)
 rw [Hxa.out] at hy
 gi_wp2
 refine hR.mono ?_
 rintro e W1 (⟨rfl, hJ1, hk1⟩ | ⟨rfl, hJx1⟩)
 rotate_left
 ·gi_wp2
  refine bodyPost_ret (results_none rfl _ _ _) rfl ?_
  exact ⟨⟨_, rfl⟩, .inr ⟨[xa], ⟨[xb, xc] ++ xt, by simp⟩, hJx1⟩⟩
 have UU1 := Aside0.mk (UU0.out.kp hk1)
 clear hy hR hk1
 obtain ⟨u1_1, u2_1, u3_1, u4_1⟩ := UU1.out
 obtain ⟨fn1, tmps1, assign1, body1, hy, hR⟩ := HY.out [xa] xb W1 hJ1 (by simp)
 (try dsimp only at hy)
 rw [Hxb.out] at hy
 gi_wp2
 refine hR.mono ?_
 rintro e W2 (⟨rfl, hJ2, hk2⟩ | ⟨rfl, hJx2⟩)
 rotate_left
 ·gi_wp2
  refine bodyPost_ret (results_none rfl _ _ _) rfl ?_
  exact ⟨⟨_, rfl⟩, .inr ⟨[xa, xb], ⟨[xc] ++ xt, by simp⟩, hJx2⟩⟩
 have UU2 := Aside0.mk (UU1.out.kp hk2)
 clear hy hR hk2
 obtain ⟨u1_2, u2_2, u3_2, u4_2⟩ := UU2.out
 obtain ⟨fn2, tmps2, assign2, body2, hy, hR⟩ := HY.out [xa, xb] xc W2 hJ2 (by simp)
 (try dsimp only at hy)
 rw [Hxc.out] at hy
 gi_wp2
 refine hR.mono ?_
 rintro e W3 (⟨rfl, hJ3, hk3⟩ | ⟨rfl, hJx3⟩)
 rotate_left
 ·gi_wp2
  refine bodyPost_ret (results_none rfl _ _ _) rfl ?_
  exact ⟨⟨_, rfl⟩, .inr ⟨[xa, xb, xc], ⟨[] ++ xt, by simp⟩, hJx3⟩⟩
 have UU3 := Aside0.mk (UU2.out.kp hk3)
 clear hy hR hk3
 obtain ⟨u1_3, u2_3, u3_3, u4_3⟩ := UU3.out
 have HJ0 := Aside0.mk hJ3
 clear hJ3
 gi_wp2
 gi_loopw [55] (fun v wr => ∃ j : Nat, v = .int .i64 (j : Int) ∧ Aside0 (j ≤ len) ∧ Aside0 (J ([xa, xb, xc] ++ xt.take j) wr) ∧ Aside0 (UsAt Bh Bp B0 h m A len cap wr)) (fun v wr => len - (intOf v).toNat)
 case atStart => exact ⟨0, rfl, Aside0.mk (Nat.zero_le _), by simpa using HJ0, UU3⟩
 case round =>
 obtain ⟨j, rfl, Hj, HJ, HU⟩ := hrel
 obtain ⟨q1, q2, q3, q4⟩ := HU.out
 by_cases hlt : j < len
 ·have p1 : (0 : Int) ≤ (j : Int) := by omega
  have p2 : (j : Int) < (len : Int) := by omega
  have t1 : decide ((j : Int) < (len : Int)) = true := decide_eq_true p2
  have hjx : j < xt.length := by rw [HXT.out]; exact hlt
  obtain ⟨q, rfl, hq⟩ := HXA.out j hjx
  obtain ⟨fn, tmps, assign, body, hy, hR⟩ := HY.out _ xt[j] wr HJ.out (by simp; omega)
  (try dsimp only at hy)
  rw [hq] at hy
  have HQ := Aside0.mk hq
  clear hq
  gi_wp2
  refine hR.mono ?_
  rintro e W9 (⟨rfl, hJ9, hk9⟩ | ⟨rfl, hJx9⟩)
  ·have HU9 := Aside0.mk (HU.out.kp hk9)
   have HJ9 := Aside0.mk hJ9
   clear hJ9 hk9
   gi_wp2
   go_roundw
   case rel => exact ⟨j + 1, by go_num, Aside0.mk (by omega), Aside0.mk (by have := HJ9.out; rw [List.take_succ_eq_append_getElem hjx, ← List.append_assoc]; exact this), HU9⟩
   case measure => simp [intOf]; omega
  ·gi_wp2
   refine bodyPost_ret (results_none rfl _ _ _) rfl ?_
   refine ⟨⟨_, rfl⟩, .inr ⟨_, ⟨xt.drop (j + 1), ?_⟩, hJx9⟩⟩
   have e : xt.take j ++ xt[j] :: xt.drop (j + 1) = xt := by rw [List.getElem_cons_drop, List.take_append_drop]
   simp only [List.append_assoc, List.cons_append, List.nil_append, e]
 ·have t1 : decide ((j : Int) < (len : Int)) = false := decide_eq_false (by omega)
  gi_wp2
  go_end0
  refine ⟨⟨_, rfl⟩, .inl ⟨_, rfl, ?_⟩⟩
  have := HJ.out; have e := HXT.out; have := Hj.out; rw [List.take_of_length_le (by omega)] at *; assumption
set_option maxRecDepth 100000 in
set_option maxHeartbeats 8000000 in
theorem us_seq_q {α : Type} (ad : α → Addr) (n : Nat) (hn : 1 ≤ n) (Bh Bp B0 : Nat) (h m : Int) (A : Option Addr) (len cap : Nat) (hle : len < 4611686018427387904) (ha : (Go.bits .and .i64 h 2 != 0) = true) (hb : (Go.bits .and .i64 h 4 != 0) = true) (hc : (Go.bits .and .i64 h 8 != 0) = false) (hrl : (Go.bits .and .i64 h 2048 == 0) = false) (hm : (m != 21) = true) (xa : α) (hxa : ad xa = ⟨B0, 2, none⟩) (xb : α) (hxb : ad xb = ⟨B0, 3, none⟩) (xt : List α) (hxt : xt.length = len) (hxa_ : ∀ (j : Nat) (hj : j < xt.length), ∃ q, A = some q ∧ ad xt[j] = q.add j) (w : World) (hw : UsAt Bh Bp B0 h m A len cap w) (h1 : Bh < w.heap.size) (h2 : Bp < w.heap.size) (h3 : B0 < w.heap.size) :
  SeqStopsK Fence.wide n Try.prog 92 #[.pointer (some ⟨Bh, 0, none⟩), .pointer (some ⟨Bp, 0, none⟩)] (fun x : α => #[Value.pointer (some (ad x))]) (UsKp Bh Bp B0) (fun ys => ys = ([xa, xb] ++ xt)) (fun pre => pre <+: ([xa, xb] ++ xt)) ([xa, xb] ++ xt).length w := by
 intro l J Jx W hW hJ hJx hY h0
 have U : UsAt Bh Bp B0 h m A len cap W := ⟨(hW.cell (p := ⟨Bh, 0, none⟩) h1).trans hw.1, (hW.cell (p := ⟨Bp, 0, none⟩) h2).trans hw.2.1, (hW.cell (p := ⟨B0, 6, none⟩) h3).trans hw.2.2.1, (hW.cell (p := ⟨B0, 8, none⟩) h3).trans hw.2.2.2⟩
 clear hW hJ hJx hw h1 h2 h3
 have HY := Aside0.mk hY
 clear hY
 have HXT := Aside0.mk hxt
 clear hxt
 have HXA := Aside0.mk hxa_
 clear hxa_
 have Hxa := Aside0.mk hxa
 clear hxa
 have Hxb := Aside0.mk hxb
 clear hxb
 have U0 := U
 obtain ⟨u1, u2, u3, u4⟩ := U
 have UU0 := Aside0.mk U0
 clear U0
 refine callsIn_of_wp Try.func92 rfl trivial ?_ rfl
 simp only [Try.ntmps92, List.size_toArray, List.length_cons, List.length_nil, Nat.reduceAdd, Nat.reduceSub, Array.replicate_succ, Array.replicate_zero, List.push_toArray, List.append_toArray, List.nil_append, List.cons_append]
 obtain ⟨fn0, tmps0, assign0, body0, hy, hR⟩ := HY.out [] xa W h0 (by simp)
 (try dsimp only at hy)
 rw [Hxa.out] at hy
 gi_wp2
 refine hR.mono ?_
 rintro e W1 (⟨rfl, hJ1, hk1⟩ | ⟨rfl, hJx1⟩)
 rotate_left
 ·gi_wp2
  refine bodyPost_ret (results_none rfl _ _ _) rfl ?_
  exact ⟨⟨_, rfl⟩, .inr ⟨[xa], ⟨[xb] ++ xt, by simp⟩, hJx1⟩⟩
 have UU1 := Aside0.mk (UU0.out.kp hk1)
 clear hy hR hk1
 obtain ⟨u1_1, u2_1, u3_1, u4_1⟩ := UU1.out
 obtain ⟨fn1, tmps1, assign1, body1, hy, hR⟩ := HY.out [xa] xb W1 hJ1 (by simp)
 (try dsimp only at hy)
 rw [Hxb.out] at hy
 gi_wp2
 refine hR.mono ?_
 rintro e W2 (⟨rfl, hJ2, hk2⟩ | ⟨rfl, hJx2⟩)
 rotate_left
 ·gi_wp2
  refine bodyPost_ret (results_none rfl _ _ _) rfl ?_
  exact ⟨⟨_, rfl⟩, .inr ⟨[xa, xb], ⟨[] ++ xt, by simp⟩, hJx2⟩⟩
 have UU2 := Aside0.mk (UU1.out.kp hk2)
 clear hy hR hk2
 obtain ⟨u1_2, u2_2, u3_2, u4_2⟩ := UU2.out
 have HJ0 := Aside0.mk hJ2
 clear hJ2
 gi_wp2
 (try (refine ⟨fun _ h => (by cases h), ?_⟩; gi_wp2))
 gi_loopw [55] (fun v wr => ∃ j : Nat, v = .int .i64 (j : Int) ∧ Aside0 (j ≤ len) ∧ Aside0 (J ([xa, xb] ++ xt.take j) wr) ∧ Aside0 (UsAt Bh Bp B0 h m A len cap wr)) (fun v wr => len - (intOf v).toNat)
 case atStart => exact ⟨0, rfl, Aside0.mk (Nat.zero_le _), by simpa using HJ0, UU2⟩
 case round =>
 obtain ⟨j, rfl, Hj, HJ, HU⟩ := hrel
 obtain ⟨q1, q2, q3, q4⟩ := HU.out
 by_cases hlt : j < len
 ·have p1 : (0 : Int) ≤ (j : Int) := by omega
  have p2 : (j : Int) < (len : Int) := by omega
  have t1 : decide ((j : Int) < (len : Int)) = true := decide_eq_true p2
  have hjx : j < xt.length := by rw [HXT.out]; exact hlt
  obtain ⟨q, rfl, hq⟩ := HXA.out j hjx
  obtain ⟨fn, tmps, assign, body, hy, hR⟩ := HY.out _ xt[j] wr HJ.out (by simp; omega)
  (try dsimp only at hy)
  rw [hq] at hy
  have HQ := Aside0.mk hq
  clear hq
  gi_wp2
  refine hR.mono ?_
  rintro e W9 (⟨rfl, hJ9, hk9⟩ | ⟨rfl, hJx9⟩)
  ·have HU9 := Aside0.mk (HU.out.kp hk9)
   have HJ9 := Aside0.mk hJ9
   clear hJ9 hk9
   gi_wp2
   go_roundw
   case rel => exact ⟨j + 1, by go_num, Aside0.mk (by omega), Aside0.mk (by have := HJ9.out; rw [List.take_succ_eq_append_getElem hjx, ← List.append_assoc]; exact this), HU9⟩
   case measure => simp [intOf]; omega
  ·gi_wp2
   refine bodyPost_ret (results_none rfl _ _ _) rfl ?_
   refine ⟨⟨_, rfl⟩, .inr ⟨_, ⟨xt.drop (j + 1), ?_⟩, hJx9⟩⟩
   have e : xt.take j ++ xt[j] :: xt.drop (j + 1) = xt := by rw [List.getElem_cons_drop, List.take_append_drop]
   simp only [List.append_assoc, List.cons_append, List.nil_append, e]
 ·have t1 : decide ((j : Int) < (len : Int)) = false := decide_eq_false (by omega)
  gi_wp2
  go_end0
  refine ⟨⟨_, rfl⟩, .inl ⟨_, rfl, ?_⟩⟩
  have := HJ.out; have e := HXT.out; have := Hj.out; rw [List.take_of_length_le (by omega)] at *; assumption
set_option maxRecDepth 100000 in
set_option maxHeartbeats 8000000 in
theorem us_seq_o {α : Type} (ad : α → Addr) (n : Nat) (hn : 1 ≤ n) (Bh Bp B0 : Nat) (h m : Int) (A : Option Addr) (len cap : Nat) (hle : len < 4611686018427387904) (ha : (Go.bits .and .i64 h 2 != 0) = true) (hb : (Go.bits .and .i64 h 4 != 0) = true) (hc : (Go.bits .and .i64 h 8 != 0) = false) (hrl : (Go.bits .and .i64 h 2048 == 0) = false) (hm : (m != 21) = false) (xa : α) (hxa : ad xa = ⟨B0, 2, none⟩) (xt : List α) (hxt : xt.length = len) (hxa_ : ∀ (j : Nat) (hj : j < xt.length), ∃ q, A = some q ∧ ad xt[j] = q.add j) (w : World) (hw : UsAt Bh Bp B0 h m A len cap w) (h1 : Bh < w.heap.size) (h2 : Bp < w.heap.size) (h3 : B0 < w.heap.size) :
  SeqStopsK Fence.wide n Try.prog 92 #[.pointer (some ⟨Bh, 0, none⟩), .pointer (some ⟨Bp, 0, none⟩)] (fun x : α => #[Value.pointer (some (ad x))]) (UsKp Bh Bp B0) (fun ys => ys = ([xa] ++ xt)) (fun pre => pre <+: ([xa] ++ xt)) ([xa] ++ xt).length w := by
 intro l J Jx W hW hJ hJx hY h0
 have U : UsAt Bh Bp B0 h m A len cap W := ⟨(hW.cell (p := ⟨Bh, 0, none⟩) h1).trans hw.1, (hW.cell (p := ⟨Bp, 0, none⟩) h2).trans hw.2.1, (hW.cell (p := ⟨B0, 6, none⟩) h3).trans hw.2.2.1, (hW.cell (p := ⟨B0, 8, none⟩) h3).trans hw.2.2.2⟩
 clear hW hJ hJx hw h1 h2 h3
 have HY := Aside0.mk hY
 clear hY
 have HXT := Aside0.mk hxt
 clear hxt
 have HXA := Aside0.mk hxa_
 clear hxa_
 have Hxa := Aside0.mk hxa
 clear hxa
 have U0 := U
 obtain ⟨u1, u2, u3, u4⟩ := U
 have UU0 := Aside0.mk U0
 clear U0
 refine callsIn_of_wp Try.func92 rfl trivial ?_ rfl
 simp only [Try.ntmps92, List.size_toArray, List.length_cons, List.length_nil, Nat.reduceAdd, Nat.reduceSub, Array.replicate_succ, Array.replicate_zero, List.push_toArray, List.append_toArray, List.nil_append, List.cons_append]
 obtain ⟨fn0, tmps0, assign0, body0, hy, hR⟩ := HY.out [] xa W h0 (by simp)
 (try dsimp only at hy)
 rw [Hxa.out] at hy
 gi_wp2
 refine hR.mono ?_
 rintro e W1 (⟨rfl, hJ1, hk1⟩ | ⟨rfl, hJx1⟩)
 rotate_left
 ·gi_wp2
  refine bodyPost_ret (results_none rfl _ _ _) rfl ?_
  exact ⟨⟨_, rfl⟩, .inr ⟨[xa], ⟨[] ++ xt, by simp⟩, hJx1⟩⟩
 have UU1 := Aside0.mk (UU0.out.kp hk1)
 clear hy hR hk1
 obtain ⟨u1_1, u2_1, u3_1, u4_1⟩ := UU1.out
 have HJ0 := Aside0.mk hJ1
 clear hJ1
 gi_wp2
 (try (refine ⟨fun _ h => (by cases h), ?_⟩; gi_wp2))
 (try (refine ⟨fun _ h => (by cases h), ?_⟩; gi_wp2))
 gi_loopw [55] (fun v wr => ∃ j : Nat, v = .int .i64 (j : Int) ∧ Aside0 (j ≤ len) ∧ Aside0 (J ([xa] ++ xt.take j) wr) ∧ Aside0 (UsAt Bh Bp B0 h m A len cap wr)) (fun v wr => len - (intOf v).toNat)
 case atStart => exact ⟨0, rfl, Aside0.mk (Nat.zero_le _), by simpa using HJ0, UU1⟩
 case round =>
 obtain ⟨j, rfl, Hj, HJ, HU⟩ := hrel
 obtain ⟨q1, q2, q3, q4⟩ := HU.out
 by_cases hlt : j < len
 ·have p1 : (0 : Int) ≤ (j : Int) := by omega
  have p2 : (j : Int) < (len : Int) := by omega
  have t1 : decide ((j : Int) < (len : Int)) = true := decide_eq_true p2
  have hjx : j < xt.length := by rw [HXT.out]; exact hlt
  obtain ⟨q, rfl, hq⟩ := HXA.out j hjx
  obtain ⟨fn, tmps, assign, body, hy, hR⟩ := HY.out _ xt[j] wr HJ.out (by simp; omega)
  (try dsimp only at hy)
  rw [hq] at hy
  have HQ := Aside0.mk hq
  clear hq
  gi_wp2
  refine hR.mono ?_
  rintro e W9 (⟨rfl, hJ9, hk9⟩ | ⟨rfl, hJx9⟩)
  ·have HU9 := Aside0.mk (HU.out.kp hk9)
   have HJ9 := Aside0.mk hJ9
   clear hJ9 hk9
   gi_wp2
   go_roundw
   case rel => exact ⟨j + 1, by go_num, Aside0.mk (by omega), Aside0.mk (by have := HJ9.out; rw [List.take_succ_eq_append_getElem hjx, ← List.append_assoc]; exact this), HU9⟩
   case measure => simp [intOf]; omega
  ·gi_wp2
   refine bodyPost_ret (results_none rfl _ _ _) rfl ?_
   refine ⟨⟨_, rfl⟩, .inr ⟨_, ⟨xt.drop (j + 1), ?_⟩, hJx9⟩⟩
   have e : xt.take j ++ xt[j] :: xt.drop (j + 1) = xt := by rw [List.getElem_cons_drop, List.take_append_drop]
   simp only [List.append_assoc, List.cons_append, List.nil_append, e]
 ·have t1 : decide ((j : Int) < (len : Int)) = false := decide_eq_false (by omega)
  gi_wp2
  go_end0
  refine ⟨⟨_, rfl⟩, .inl ⟨_, rfl, ?_⟩⟩
  have := HJ.out; have e := HXT.out; have := Hj.out; rw [List.take_of_length_le (by omega)] at *; assumption
end
def usV (op a b c m : Int) (l : List Int) : List Int := (if (Go.bits .and .i64 (hasV op) 2 != 0) then [a] else []) ++ (if ((Go.bits .and .i64 (hasV op) 4 != 0) && ((Go.bits .and .i64 (hasV op) 2048 == 0) || m != 21)) then [b] else []) ++ (if (Go.bits .and .i64 (hasV op) 8 != 0) then [c] else []) ++ l
def usL {α : Type} (op m : Int) (xa xb xc : α) (l : List α) : List α := (if (Go.bits .and .i64 (hasV op) 2 != 0) then [xa] else []) ++ (if ((Go.bits .and .i64 (hasV op) 4 != 0) && ((Go.bits .and .i64 (hasV op) 2048 == 0) || m != 21)) then [xb] else []) ++ (if (Go.bits .and .i64 (hasV op) 8 != 0) then [xc] else []) ++ l
theorem usL_map {α β : Type} (f : α → β) (op m : Int) (xa xb xc : α) (l : List α) : (usL op m xa xb xc l).map f = usL op m (f xa) (f xb) (f xc) (l.map f) := by
 unfold usL
 simp only [List.map_append]
 congr 1
 congr 1
 ·congr 1 <;> split <;> rfl
 ·split <;> rfl
theorem usL_len {α : Type} (op m : Int) (xa xb xc : α) (l : List α) : (usL op m xa xb xc l).length ≤ l.length + 3 := by
 unfold usL
 simp only [List.length_append]
 split <;> split <;> split <;> simp <;> omega
theorem us_has (op : Int) : hasV op ∈ ([0, 1, 2, 3, 7, 14, 17, 33, 64, 194, 258, 262, 577, 1537, 2055] : List Int) := by
 unfold hasV
 split
 ·decide
 ·split
  ·decide
  ·have key : ∀ x ∈ (0 :: hasTab.map (·.2)), x ∈ ([0, 1, 2, 3, 7, 14, 17, 33, 64, 194, 258, 262, 577, 1537, 2055] : List Int) := by decide
   apply key
   unfold assoc
   cases hf : hasTab.find? (fun p => p.1 == op) with
   | none => simp
   | some p => simpa using .inr ⟨p.1, List.mem_of_find?_eq_some hf⟩
theorem us_imp (h : Int) (hh : h ∈ ([0, 1, 2, 3, 7, 14, 17, 33, 64, 194, 258, 262, 577, 1537, 2055] : List Int)) : ((Go.bits .and .i64 h 4 != 0) = true → (Go.bits .and .i64 h 2 != 0) = true) ∧ ((Go.bits .and .i64 h 8 != 0) = true → (Go.bits .and .i64 h 4 != 0) = true ∧ (Go.bits .and .i64 h 2048 == 0) = true) := by
 simp only [List.mem_cons, List.not_mem_nil, or_false] at hh
 rcases hh with rfl | rfl | rfl | rfl | rfl | rfl | rfl | rfl | rfl | rfl | rfl | rfl | rfl | rfl | rfl <;> decide
theorem us_seq {α : Type} (ad : α → Addr) (n : Nat) (hn : 1 ≤ n) (Bh Bp B0 : Nat) (op m : Int) (A : Option Addr) (len cap : Nat) (hle : len < 4611686018427387904) (xa xb xc : α) (hxa : ad xa = ⟨B0, 2, none⟩) (hxb : ad xb = ⟨B0, 3, none⟩) (hxc : ad xc = ⟨B0, 4, none⟩) (xt : List α) (hxt : xt.length = len) (hxa_ : ∀ (j : Nat) (hj : j < xt.length), ∃ q, A = some q ∧ ad xt[j] = q.add j) (w : World) (hw : UsAt Bh Bp B0 (hasV op) m A len cap w) (h1 : Bh < w.heap.size) (h2 : Bp < w.heap.size) (h3 : B0 < w.heap.size) :
  SeqStopsK Fence.wide n Try.prog 92 #[.pointer (some ⟨Bh, 0, none⟩), .pointer (some ⟨Bp, 0, none⟩)] (fun x : α => #[Value.pointer (some (ad x))]) (UsKp Bh Bp B0) (fun ys => ys = usL op m xa xb xc xt) (fun pre => pre <+: usL op m xa xb xc xt) (usL op m xa xb xc xt).length w := by
 have key := us_imp _ (us_has op)
 obtain ⟨h, eh⟩ : ∃ h, hasV op = h := ⟨_, rfl⟩
 rw [eh] at key hw
 cases ha : (Go.bits .and .i64 h 2 != 0)
 ·cases hb : (Go.bits .and .i64 h 4 != 0)
  ·cases hc : (Go.bits .and .i64 h 8 != 0)
   ·have e : usL op m xa xb xc xt = ([] ++ xt) := by simp [usL, eh, ha, hb, hc]
    rw [e]
    exact us_seq_n ad n hn Bh Bp B0 h m A len cap hle ha hb hc xt hxt hxa_ w hw h1 h2 h3
   ·exact absurd (key.2 hc).1 (by simp [hb])
  ·exact absurd (key.1 hb) (by simp [ha])
 ·cases hb : (Go.bits .and .i64 h 4 != 0)
  ·cases hc : (Go.bits .and .i64 h 8 != 0)
   ·have e : usL op m xa xb xc xt = ([xa] ++ xt) := by simp [usL, eh, ha, hb, hc]
    rw [e]
    exact us_seq_a ad n hn Bh Bp B0 h m A len cap hle ha hb hc xa hxa xt hxt hxa_ w hw h1 h2 h3
   ·exact absurd (key.2 hc).1 (by simp [hb])
  ·cases hr : (Go.bits .and .i64 h 2048 == 0)
   ·cases hc : (Go.bits .and .i64 h 8 != 0)
    ·cases hm : (m != 21)
     ·have e : usL op m xa xb xc xt = ([xa] ++ xt) := by simp [usL, eh, ha, hb, hc, hr, hm]
      rw [e]
      exact us_seq_o ad n hn Bh Bp B0 h m A len cap hle ha hb hc hr hm xa hxa xt hxt hxa_ w hw h1 h2 h3
     ·have e : usL op m xa xb xc xt = ([xa, xb] ++ xt) := by simp [usL, eh, ha, hb, hc, hr, hm]
      rw [e]
      exact us_seq_q ad n hn Bh Bp B0 h m A len cap hle ha hb hc hr hm xa hxa xb hxb xt hxt hxa_ w hw h1 h2 h3
    ·exact absurd (key.2 hc).2 (by simp [hr])
   ·cases hc : (Go.bits .and .i64 h 8 != 0)
    ·have e : usL op m xa xb xc xt = ([xa, xb] ++ xt) := by simp [usL, eh, ha, hb, hc, hr]
     rw [e]
     exact us_seq_p ad n hn Bh Bp B0 h m A len cap hle ha hb hc hr xa hxa xb hxb xt hxt hxa_ w hw h1 h2 h3
    ·have e : usL op m xa xb xc xt = ([xa, xb, xc] ++ xt) := by simp [usL, eh, ha, hb, hc, hr]
     rw [e]
     exact us_seq_s ad n hn Bh Bp B0 h m A len cap hle ha hb hc hr xa hxa xb hxb xc hxc xt hxt hxa_ w hw h1 h2 h3
def UsReads (B0 : Nat) (op : Int) (w : World) (e : Ending) (w' : World) : Prop := ∃ Bh : Nat, e = .returned (.func (.func 92) #[] #[.pointer (some ⟨Bh, 0, none⟩), .pointer (some ⟨w.heap.size, 0, none⟩)]) ∧ w'.cell? ⟨Bh, 0, none⟩ = some (.int .i64 (hasV op)) ∧ w'.cell? ⟨w.heap.size, 0, none⟩ = some (.pointer (some ⟨B0, 0, none⟩)) ∧ Bh < w'.heap.size ∧ w.heap.size < Bh ∧ Below w.heap.size w w'
set_option maxHeartbeats 2000000 in
theorem us_reads (B0 : Nat) (op : Int) (w : World) (h0 : w.cell? ⟨B0, 0, none⟩ = some (.int .i64 op)) : Calls Try.prog 88 #[.pointer (some ⟨B0, 0, none⟩)] w (UsReads B0 op w) := by
 have hlt : B0 < w.heap.size := block_lt_of_cell h0
 have H0 := Aside0.mk h0
 have c0 : (w.alloc (.cells #[.pointer (some ⟨B0, 0, none⟩)] 102)).cell? ⟨B0, 0, none⟩ = some (.int .i64 op) := ((below_alloc (Below.refl w.heap.size w) _).cell (p := ⟨B0, 0, none⟩) hlt).trans h0
 have HB := Aside0.mk (below_alloc (Below.refl w.heap.size w) (.cells #[.pointer (some ⟨B0, 0, none⟩)] 102))
 clear h0 hlt
 go_enter Try.func88, Try.ntmps88
 go_wp2_with (first | (go_at_call 85; ((with_reducible refine (instr_has.calls op _ _ rfl).mono ?_); rintro e w' ⟨rfl, hb⟩; have HB2 := Aside0.mk (below_step HB.out hb); have HC := Aside0.mk hb; clear hb)))
 go_ret
 have hz : w.heap.size < w'.heap.size := by have := HC.out.size; simp at this; omega
 refine ⟨w'.heap.size, rfl, ?_, ?_, ?_, hz, ?_⟩
 ·exact blk_cell (blk_new _ _) 0
 ·exact blk_cell (blk_alloc (blk_below (blk_new w (.cells #[.pointer (some ⟨B0, 0, none⟩)] 102)) HC.out) _) 0
 ·simp only [World.size_alloc]; omega
 ·exact below_alloc HB2.out _
abbrev UsAd (W1 : World) (n₀ : Nat) := { x : Addr × Int // W1.cell? x.1 = some (.int .i64 x.2) ∧ x.1.block < n₀ }
theorem us_args (w W1 : World) (n₀ : Nat) (A : Option Addr) (l : List Int) (hr : Kd.C (Kd.int .i64) w A l.length l) (hb : Below w.heap.size w W1) (hn : w.heap.size ≤ n₀) :
  ∃ xt : List (UsAd W1 n₀), xt.length = l.length ∧ (∀ (j : Nat) (hj : j < xt.length), ∃ q, A = some q ∧ (xt[j]).1.1 = q.add j) ∧ xt.map (·.1.2) = l := by
 have hat : ∀ j : Nat, j < l.length → ∃ q, A = some q ∧ w.cell? (q.add j) = some (.int .i64 (rd l (j : Int))) := by
  intro j hj
  obtain ⟨ad, e, hx⟩ := Kd.at_int hr (j : Int) (by omega) (by omega)
  exact ⟨ad, e, by simpa using hx⟩
 cases A with
 | none =>
  have h0 : l = [] := by
   cases l with
   | nil => rfl
   | cons x t => obtain ⟨q, e, _⟩ := hat 0 (by simp); cases e
  subst h0
  exact ⟨[], rfl, fun j hj => absurd hj (by simp), rfl⟩
 | some q =>
  have hq : ∀ j : Nat, j < l.length → w.cell? (q.add j) = some (.int .i64 (rd l (j : Int))) := fun j hj => by obtain ⟨q', e, h⟩ := hat j hj; cases e; exact h
  have hq1 : ∀ j : Nat, j < l.length → W1.cell? (q.add j) = some (.int .i64 (rd l (j : Int))) ∧ (q.add j).block < n₀ := fun j hj => by
   have hlt := block_lt_of_cell (hq j hj)
   exact ⟨(hb.cell (p := q.add j) hlt).trans (hq j hj), by omega⟩
  refine ⟨List.ofFn (n := l.length) fun j => ⟨(q.add j, rd l ((j : Nat) : Int)), hq1 j j.2⟩, by simp, fun j hj => ⟨q, rfl, by simp⟩, ?_⟩
  apply List.ext_getElem
  ·simp
  ·intro j h1 h2
   simp at h1
   simp [rd, List.getD_eq_getElem?_getD, h2]
def UsPost (w : World) (l : List Int) (e : Ending) (w' : World) : Prop := ∃ v, e = .returned v ∧ Kd.R (Kd.int .i64) 3 w' w.heap.size (fun _ => True) v l ∧ Below w.heap.size w w'
theorem us_info : (Try.prog.info? 3).map (fun i => (i.zero, i.size, i.bytes)) = some (some (.int .i64 0), 1, 8) := by kernel_rfl
set_option maxRecDepth 100000 in
set_option maxHeartbeats 8000000 in
theorem us_no (k : Nat) (a0_0 a0_1 a0_2 a0_3 a0_4 a0_5 a0_6 a0_7 : Int) (A0_8 : Option Addr) (c0_8 : Nat) (l0_8 : List Int) (w : World) (hr0_8 : Kd.C (Kd.int .i64) w A0_8 l0_8.length l0_8) (hc0_8 : l0_8.length ≤ c0_8) (h : instr_Right.f k a0_0 a0_1 a0_2 a0_3 a0_4 a0_5 a0_6 a0_7 l0_8 = some false) :
  Calls Try.prog 75 #[.agg #[.int .i64 a0_0, .int .i64 a0_1, .int .i64 a0_2, .int .i64 a0_3, .int .i64 a0_4, .int .i64 a0_5, .int .i64 a0_6, .int .i64 a0_7, .slice A0_8 l0_8.length c0_8]] w (UsPost w []) := by
 have hu := Try.underlying42
 have HR := Aside0.mk (Kd.C_below hr0_8 (below_alloc (Below.refl w.heap.size w) (.cells #[.int .i64 a0_0, .int .i64 a0_1, .int .i64 a0_2, .int .i64 a0_3, .int .i64 a0_4, .int .i64 a0_5, .int .i64 a0_6, .int .i64 a0_7, .slice A0_8 l0_8.length c0_8] 42)))
 have HB := Aside0.mk (below_alloc (Below.refl w.heap.size w) (.cells #[.int .i64 a0_0, .int .i64 a0_1, .int .i64 a0_2, .int .i64 a0_3, .int .i64 a0_4, .int .i64 a0_5, .int .i64 a0_6, .int .i64 a0_7, .slice A0_8 l0_8.length c0_8] 42))
 have HC := Aside0.mk hc0_8
 have H := Aside0.mk h
 clear hr0_8 hc0_8 h
 go_enter Try.func75, Try.ntmps75
 go_wp2_with (first | (go_at_call 71; ((with_reducible refine (instr_Right.calls k a0_0 a0_1 a0_2 a0_3 a0_4 a0_5 a0_6 a0_7 A0_8 c0_8 l0_8 _ _ HR.out HC.out H.out).mono ?_); rintro e w' ⟨rfl, hb⟩; have HB2 := Aside0.mk (below_step HB.out hb); clear hb)))
 go_ret
 exact ⟨_, rfl, Kd.R_nil _ _ _ _ _, HB2.out⟩
theorem us_append {F : Fence} {n : Nat} {P : Program} {o : Oper} {a : Act} {w w1 : World} {K : Act → World → Prop} {Q : Exit → Act → World → Prop} {s x : Operand} {t : TypeId} {v v' y : Value}
  (hop : o.op = Op.call { callee := Callee.builtin Builtin.append, args := #[s, x], argTypes := #[t, t] }) (hs : a.eval s = v) (hx : a.eval x = y)
  (hrun : (Builtin.append_ #[t, t] o.type #[v, y]).run P w = .ok v' w1) (hk : K (a.put o.dst v') w1) : o.wpIn F n P a w K Q := by
 unfold Oper.wpIn
 refine ⟨?_, ?_⟩
 ·simp [Oper.about, hop, resolve, Target.leads, Sem.run_pure]
 ·rw [Oper.semAt_plain F _ _ (by rw [hop]; intro c hc'; cases hc')]
  simp [execOp, hop, resolve, invoke, builtin, hs, hx, hrun, Result.andThen]
  exact hk
theorem us_same {W w1 : World} {N B1 : Nat} {e : TypeId} {size n : Nat} {v v' : Value} {xs : List Value} {tmp : Obj} (hg : (W.alloc tmp).grownBy w1 v.ownBlock) (hr : W.ownsRow N e size v n xs) :
  ∀ k, k < N → k < W.heap.size → k ≠ B1 → (w1.setCell ⟨B1, 0, none⟩ v').heap[k]? = W.heap[k]? := by
 intro k h1 h2 h3
 rw [Below.heap_setCell _ _ _ k h3, hg.block k (by simp; omega) (fun e => by have := own_base hr k e.symm; omega)]
 exact Below.heap_alloc W tmp k h2
theorem us_kp {Bh Bp B0 : Nat} {W W' : World} (h1 : W'.heap[Bh]? = W.heap[Bh]?) (h2 : W'.heap[Bp]? = W.heap[Bp]?) (h3 : W'.heap[B0]? = W.heap[B0]?) : UsKp Bh Bp B0 W W' :=
 ⟨World.cell?_of_block (a := ⟨Bh, 0, none⟩) h1, World.cell?_of_block (a := ⟨Bp, 0, none⟩) h2, World.cell?_of_block (a := ⟨B0, 6, none⟩) h3, World.cell?_of_block (a := ⟨B0, 8, none⟩) h3⟩
section
attribute [local go_sem] Oper.semAt_some
set_option maxRecDepth 100000 in
set_option maxHeartbeats 8000000 in
theorem us_yes (k : Nat) (a0_0 a0_1 a0_2 a0_3 a0_4 a0_5 a0_6 a0_7 : Int) (A0_8 : Option Addr) (c0_8 : Nat) (l0_8 : List Int) (w : World) (hr0_8 : Kd.C (Kd.int .i64) w A0_8 l0_8.length l0_8) (hc0_8 : l0_8.length ≤ c0_8) (hl : l0_8.length < 17592186044413) (h : instr_Right.f k a0_0 a0_1 a0_2 a0_3 a0_4 a0_5 a0_6 a0_7 l0_8 = some true) :
  Calls Try.prog 75 #[.agg #[.int .i64 a0_0, .int .i64 a0_1, .int .i64 a0_2, .int .i64 a0_3, .int .i64 a0_4, .int .i64 a0_5, .int .i64 a0_6, .int .i64 a0_7, .slice A0_8 l0_8.length c0_8]] w (UsPost w (usV a0_0 a0_2 a0_3 a0_4 a0_6 l0_8)) := by
 have hu := Try.underlying42
 obtain ⟨i0, hi, hz0, hz1, hz2⟩ := info_parts us_info
 have hb1 := below_alloc (Below.refl w.heap.size w) (.cells #[.int .i64 a0_0, .int .i64 a0_1, .int .i64 a0_2, .int .i64 a0_3, .int .i64 a0_4, .int .i64 a0_5, .int .i64 a0_6, .int .i64 a0_7, .slice A0_8 l0_8.length c0_8] 42)
 have HR := Aside0.mk (Kd.C_below hr0_8 hb1)
 have BK := Aside0.mk (blk_new w (.cells #[.int .i64 a0_0, .int .i64 a0_1, .int .i64 a0_2, .int .i64 a0_3, .int .i64 a0_4, .int .i64 a0_5, .int .i64 a0_6, .int .i64 a0_7, .slice A0_8 l0_8.length c0_8] 42))
 have HB := Aside0.mk hb1
 have HC := Aside0.mk hc0_8
 have HL := Aside0.mk hl
 have H := Aside0.mk h
 obtain ⟨xt, hx1, hx2, hx3⟩ := us_args w (w.alloc (.cells #[.int .i64 a0_0, .int .i64 a0_1, .int .i64 a0_2, .int .i64 a0_3, .int .i64 a0_4, .int .i64 a0_5, .int .i64 a0_6, .int .i64 a0_7, .slice A0_8 l0_8.length c0_8] 42)) (w.heap.size + 1) A0_8 l0_8 hr0_8 hb1 (by omega)
 have HX1 := Aside0.mk hx1
 have HX2 := Aside0.mk hx2
 have HX3 := Aside0.mk hx3
 clear hr0_8 hc0_8 h hl hx1 hx2 hx3 hb1
 refine callsIn_wide.1 (callsIn_of_wp_marks (F := Fence.wide) (n := 6) Try.func75 rfl trivial ?_ rfl)
 simp only [Try.ntmps75, List.size_toArray, List.length_cons, List.length_nil, Nat.reduceAdd, Nat.reduceSub, Array.replicate_succ, Array.replicate_zero, List.push_toArray, List.append_toArray, List.nil_append, List.cons_append]
 refine wpIn_wide.2 ?_
 go_wp2_with (first
  | (go_at_call 71; ((with_reducible refine (instr_Right.calls k a0_0 a0_1 a0_2 a0_3 a0_4 a0_5 a0_6 a0_7 A0_8 c0_8 l0_8 _ _ HR.out HC.out H.out).mono ?_); rintro e w' ⟨rfl, hb⟩; have HBR := Aside0.mk hb; clear hb))
  | (go_at_call 88; ((with_reducible refine (us_reads w.heap.size a0_0 _ ?cc).mono ?_); rotate_left; rintro e w2 ⟨Bh, rfl, hc1, hc2, hlt1, hlt2, hb2⟩; have HC1 := Aside0.mk hc1; have HC2 := Aside0.mk hc2; have HT1 := Aside0.mk hlt1; have HT2 := Aside0.mk hlt2; have HB2 := Aside0.mk hb2; clear hc1 hc2 hlt1 hlt2 hb2)))
 rotate_left
 case cc => exact blk_cell (blk_alloc (blk_below BK.out HBR.out) _) 0
 have bO := blk_new w' (.cells #[.slice none 0 0] 36)
 have hzB : w.heap.size + 1 ≤ w'.heap.size := by have := HBR.out.size; simp at this; omega
 have hzW : w'.heap.size + 1 < w2.heap.size := by have := HB2.out.size; have := HT1.out; have := HT2.out; simp at *; omega
 have bO2 : Boxed w2 w'.heap.size 36 (.slice none 0 0) := blk_below bO HB2.out
 have hBW : Below w.heap.size w w2 := below_step (below_alloc (below_step HB.out HBR.out) (.cells #[.slice none 0 0] 36)) HB2.out
 have hBX : Below (w.heap.size + 1) (w.alloc (.cells #[.int .i64 a0_0, .int .i64 a0_1, .int .i64 a0_2, .int .i64 a0_3, .int .i64 a0_4, .int .i64 a0_5, .int .i64 a0_6, .int .i64 a0_7, .slice A0_8 l0_8.length c0_8] 42)) w2 := ((HBR.out.mono (by simp)).alloc hzB _).trans (HB2.out.mono (by simp; omega))
 have bK2 : w2.heap[w.heap.size]? = some (.cells #[.int .i64 a0_0, .int .i64 a0_1, .int .i64 a0_2, .int .i64 a0_3, .int .i64 a0_4, .int .i64 a0_5, .int .i64 a0_6, .int .i64 a0_7, .slice A0_8 l0_8.length c0_8] 42 (0, 0)) := (hBX.block w.heap.size (by omega)).trans BK.out
 have hUA : UsAt Bh (w'.heap.size + 1) w.heap.size (hasV a0_0) a0_6 A0_8 l0_8.length c0_8 w2 := ⟨HC1.out, by have := HC2.out; simpa using this, blk_cell bK2 6, blk_cell bK2 8⟩
 obtain ⟨N2, hN2⟩ : ∃ n, w2.heap.size = n := ⟨_, rfl⟩
 have hBh : Bh < N2 ∧ w'.heap.size < Bh := by have := HT1.out; have := HT2.out; simp at *; omega
 obtain ⟨xa, hxa⟩ : ∃ x : UsAd (w.alloc (.cells #[.int .i64 a0_0, .int .i64 a0_1, .int .i64 a0_2, .int .i64 a0_3, .int .i64 a0_4, .int .i64 a0_5, .int .i64 a0_6, .int .i64 a0_7, .slice A0_8 l0_8.length c0_8] 42)) (w.heap.size + 1), x.1 = (⟨w.heap.size, 2, none⟩, a0_2) := ⟨⟨(⟨w.heap.size, 2, none⟩, a0_2), blk_cell BK.out 2, by show w.heap.size < _; omega⟩, rfl⟩
 obtain ⟨xb, hxb⟩ : ∃ x : UsAd (w.alloc (.cells #[.int .i64 a0_0, .int .i64 a0_1, .int .i64 a0_2, .int .i64 a0_3, .int .i64 a0_4, .int .i64 a0_5, .int .i64 a0_6, .int .i64 a0_7, .slice A0_8 l0_8.length c0_8] 42)) (w.heap.size + 1), x.1 = (⟨w.heap.size, 3, none⟩, a0_3) := ⟨⟨(⟨w.heap.size, 3, none⟩, a0_3), blk_cell BK.out 3, by show w.heap.size < _; omega⟩, rfl⟩
 obtain ⟨xc, hxc⟩ : ∃ x : UsAd (w.alloc (.cells #[.int .i64 a0_0, .int .i64 a0_1, .int .i64 a0_2, .int .i64 a0_3, .int .i64 a0_4, .int .i64 a0_5, .int .i64 a0_6, .int .i64 a0_7, .slice A0_8 l0_8.length c0_8] 42)) (w.heap.size + 1), x.1 = (⟨w.heap.size, 4, none⟩, a0_4) := ⟨⟨(⟨w.heap.size, 4, none⟩, a0_4), blk_cell BK.out 4, by show w.heap.size < _; omega⟩, rfl⟩
 have hsq := us_seq (α := UsAd (w.alloc (.cells #[.int .i64 a0_0, .int .i64 a0_1, .int .i64 a0_2, .int .i64 a0_3, .int .i64 a0_4, .int .i64 a0_5, .int .i64 a0_6, .int .i64 a0_7, .slice A0_8 l0_8.length c0_8] 42)) (w.heap.size + 1)) (fun x => x.1.1) 5 (by omega) Bh (w'.heap.size + 1) w.heap.size a0_0 a0_6 A0_8 l0_8.length c0_8 (by have := HL.out; omega) xa xb xc (by simp only [hxa]) (by simp only [hxb]) (by simp only [hxc]) xt HX1.out HX2.out w2 hUA (by omega) (by omega) (by omega)
 have hlen := usL_len a0_0 a0_6 xa xb xc xt
 have hmp : (usL a0_0 a0_6 xa xb xc xt).map (·.1.2) = usV a0_0 a0_2 a0_3 a0_4 a0_6 l0_8 := by rw [usL_map, HX3.out, hxa, hxb, hxc]; rfl
 obtain ⟨XS, hXS⟩ : ∃ l, usL a0_0 a0_6 xa xb xc xt = l := ⟨_, rfl⟩
 rw [hXS] at hsq hlen hmp
 have HMP := Aside0.mk hmp
 have HLEN : Aside0 (XS.length < 17592186044416) := ⟨by have := HL.out; have := HX1.out; omega⟩
 have HN2 := Aside0.mk hN2
 have HBW := Aside0.mk hBW
 have HBX := Aside0.mk hBX
 have HBH := Aside0.mk hBh
 have HZB := Aside0.mk hzB
 have HZW := Aside0.mk hzW
 clear hlen hmp hXS hxa hxb hxc hUA bK2 hBX hBW bO HX1 HX2 HX3 HT1 HT2 HC1 HC2 HB2
 clear hBh
 refine (wpIn_wide (n := 6)).1 ?_
 refine wpIn_rangeFunc_ownG (F := Fence.wide) (n := 6) rfl (by omega) (gf := 92) (lb := #[.pointer (some ⟨Bh, 0, none⟩), .pointer (some ⟨w'.heap.size + 1, 0, none⟩)]) rfl trivial (enters_of Try.func92 (by kernel_rfl) rfl)
  hsq usKp_t (usKp_b (by have := HBH.out; omega) (by omega) (by omega)) (Below.refl _ _) (fun _ => rfl)
  (fun pre W => (∃ v, Boxed W w'.heap.size 36 v ∧ W.ownsRow N2 3 1 v pre.length (pre.map (fun x => Value.int .i64 x.1.2)) ∧ True) ∧ Below (w.heap.size + 1) (w.alloc (.cells #[.int .i64 a0_0, .int .i64 a0_1, .int .i64 a0_2, .int .i64 a0_3, .int .i64 a0_4, .int .i64 a0_5, .int .i64 a0_6, .int .i64 a0_7, .slice A0_8 l0_8.length c0_8] 42)) W ∧ N2 ≤ W.heap.size)
  (fun _ _ _ => False)
  (OwnFrom.and (Own.from (holdsRow_own N2 w'.heap.size 36 3 1 (fun (pre : List (UsAd (w.alloc (.cells #[.int .i64 a0_0, .int .i64 a0_1, .int .i64 a0_2, .int .i64 a0_3, .int .i64 a0_4, .int .i64 a0_5, .int .i64 a0_6, .int .i64 a0_7, .slice A0_8 l0_8.length c0_8] 42)) (w.heap.size + 1))) => pre.length) (fun pre => pre.map (fun x => Value.int .i64 x.1.2)) (fun _ _ => True)) _) (OwnFrom.and (ownFrom_below (by simp) (by have := HZW.out; omega)) (fun s W W' row hs hg hr => Nat.le_trans hs hg.size)))
  (fun _ _ _ _ _ hs _ _ => hs)
  ⟨⟨_, bO2, World.ownsRow_nil _ _ _ _, trivial⟩, HBX.out, by rw [HN2.out]; exact Nat.le_refl _⟩
  (fun x => { tmps := #[.agg #[.int .i64 a0_0, .int .i64 a0_1, .int .i64 a0_2, .int .i64 a0_3, .int .i64 a0_4, .int .i64 a0_5, .int .i64 a0_6, .int .i64 a0_7, .slice A0_8 l0_8.length c0_8], .pointer (some ⟨w.heap.size, 0, none⟩), .slice none 0 0, .pointer (some ⟨w'.heap.size, 0, none⟩), .pointer (some x.1.1), .agg #[.int .i64 a0_0, .int .i64 a0_1, .int .i64 a0_2, .int .i64 a0_3, .int .i64 a0_4, .int .i64 a0_5, .int .i64 a0_6, .int .i64 a0_7, .slice A0_8 l0_8.length c0_8], .bool true, .bool false, .func (.func 92) #[] #[.pointer (some ⟨Bh, 0, none⟩), .pointer (some ⟨w'.heap.size + 1, 0, none⟩)], .pointer (some x.1.1), undef, undef, undef, undef, undef, undef, undef], defers := [] }) ?assign ?body ?done ?stop
 case assign =>
  intro l x W K hK
  gi_wp2
  exact hK
 case body =>
  rintro l pre x W ⟨⟨v, hv, hrow, _⟩, hB, hN⟩ hlt
  have hc := hv.cell
  have hx : W.cell? x.1.1 = some (.int .i64 x.1.2) := (hB.cell (p := x.1.1) x.2.2).trans x.2.1
  have hlt2 : pre.length < 17592186044416 := by have := HLEN.out; omega
  have hrowd : W.drew.ownsRow N2 3 1 v pre.length (pre.map (fun x => Value.int .i64 x.1.2)) := hrow.drew
  obtain ⟨v', w1, hrun, hown', hgrow, _⟩ := run_append_own (P := Try.prog) (W.drew.alloc (.cells #[.int .i64 x.1.2] 3)) N2 36 36 3 i0 (.int .i64 0) 1 8 Try.underlying36 hi hz0 hz1 hz2 rfl (by decide) v pre.length _ (hrowd.alloc _) ⟨W.heap.size, 0, none⟩ 1 1 [.int .i64 x.1.2] rfl (cell_one_new W.drew _ _) (by simp [Value.oneCell']) (by unfold maxLen; omega) (by omega) (by show N2 ≤ (W.drew.alloc _).heap.size; rw [World.size_alloc]; show N2 ≤ W.heap.size + 1; omega)
  obtain ⟨g', cap', rfl⟩ := ownsRow_succ hown'
  have hvd : Boxed W.drew w'.heap.size 36 v := hv
  obtain ⟨hv1, hv2, _, hk2, hb2⟩ := hvd.appended (by decide) (own_weaken hrowd (show w.heap.size + 1 ≤ N2 by have := HZW.out; have := HZB.out; have := HN2.out; omega)) (by have := HZW.out; have := HZB.out; have := HN2.out; show _ ≤ W.heap.size; omega) HZB.out (own_weaken hown' (show w.heap.size + 1 ≤ N2 by have := HZW.out; have := HZB.out; have := HN2.out; omega)) hgrow
  have hr2 := hown'.kept (grownBy_setCell' w1 w'.heap.size (.slice (some ⟨g', 0, none⟩) (pre.length + 1) cap')) (.inr (hv1.not_row (by decide) hown').symm)
  have hsm := us_same (B1 := w'.heap.size) (v' := .slice (some ⟨g', 0, none⟩) (pre.length + 1) cap') hgrow hrowd
  have hc1 := hv1.cell
  have hf1 := hv1.frozen
  have hrun2 : (Builtin.append_ #[36, 36] 36 #[v, .slice (some ⟨W.heap.size, 0, none⟩) 1 1]).run Try.prog (W.alloc (.cells #[.int .i64 x.1.2] 3)).drew = .ok (.slice (some ⟨g', 0, none⟩) (pre.length + 1) cap') w1 := hrun
  have HO := Aside0.mk hown'
  have HG := Aside0.mk hgrow
  have HV2 := Aside0.mk hv2
  have HK2 := Aside0.mk hk2
  have HB2 := Aside0.mk hb2
  have HR2 := Aside0.mk hr2
  have HSM := Aside0.mk hsm
  have HB' := Aside0.mk hB
  have HN' := Aside0.mk hN
  clear hown' hgrow hv2 hk2 hb2 hr2 hsm hvd hrowd hB hN
  have hmx : Try.prog.follows .mixedOrders = true := by kernel_rfl
  have hce : ∀ (X : Value), (W.alloc (.cells #[X] 3)).cell? ⟨w'.heap.size, 0, none⟩ = some v := fun X => (hv.alloc _).cell
  gi_wp2
  refine wpIn_region_any hmx ?_
  try (change wpAnyIn _ _ _ _ _ _ _ _ _ (World.drew _))
  refine wpAnyIn_ready (rs := [0, 1]) (by kernel_rfl) (by simp) ?_
  refine AllReadyIn.cons rfl (fun K hK => ?_) (AllReadyIn.cons rfl (fun K hK => ?_) AllReadyIn.nil)
  ·
   go_simp
   refine hK _ _ ?_
   clear hK K
   refine wpAnyIn_ready (rs := [1]) (by kernel_rfl) (by simp) ?_
   refine AllReadyIn.cons rfl (fun K hK => ?_) AllReadyIn.nil
   go_simp
   refine hK _ _ ?_
   clear hK K
   refine wpAnyIn_ready (rs := [2]) (by kernel_rfl) (by simp) ?_
   refine AllReadyIn.cons rfl (fun K hK => ?_) AllReadyIn.nil
   go_simp
   refine hK _ _ ?_
   clear hK K
   refine wpAnyIn_ready (rs := [3]) (by kernel_rfl) (by simp) ?_
   refine AllReadyIn.cons rfl (fun K hK => ?_) AllReadyIn.nil
   go_simp
   refine hK _ _ ?_
   clear hK K
   refine wpAnyIn_ready (rs := [4]) (by kernel_rfl) (by simp) ?_
   refine AllReadyIn.cons rfl (fun K hK => ?_) AllReadyIn.nil
   go_simp
   refine hK _ _ ?_
   clear hK K
   refine wpAnyIn_ready (rs := [5]) (by kernel_rfl) (by simp) ?_
   refine AllReadyIn.cons rfl (fun K hK => ?_) AllReadyIn.nil
   rw [if_pos (by rfl)]
   refine us_append rfl rfl rfl hrun ?_
   (try simp only [Act.put, List.setIfInBounds_toArray, List.set_cons_zero, List.set_cons_succ])
   refine hK _ _ ?_
   clear hK K
   refine wpAnyIn_ready (rs := [6]) (by kernel_rfl) (by simp) ?_
   refine AllReadyIn.cons rfl (fun K hK => ?_) AllReadyIn.nil
   go_simp
   refine hK _ _ ?_
   clear hK K
   refine wpAnyIn_done (by kernel_rfl) ?_ _
   gi_wp2
   refine ⟨(KeepsOthers.mk (W := W) HK2.out.size (fun k o hk ho => HK2.out.same k o hk ho)).from _, ?_, ⟨_, HV2.out, by simpa using HR2.out, trivial⟩, (below_drew1 HB'.out).trans HB2.out, Nat.le_trans HN'.out HK2.out.size⟩
   exact us_kp (HSM.out Bh HBH.out.1 (by have := HBH.out; have := HN'.out; show _ < W.heap.size; omega) (by have := HBH.out; omega)) (HSM.out (w'.heap.size + 1) (by have := HZW.out; have := HN2.out; omega) (by have := HZW.out; have := HN2.out; have := HN'.out; show _ < W.heap.size; omega) (by omega)) (HSM.out w.heap.size (by have := HZW.out; have := HZB.out; have := HN2.out; omega) (by have := HZW.out; have := HZB.out; have := HN2.out; have := HN'.out; show _ < W.heap.size; omega) (by have := HZB.out; omega))
  ·
   go_simp
   refine hK _ _ ?_
   clear hK K
   refine wpAnyIn_ready (rs := [0, 2]) (by kernel_rfl) (by simp) ?_
   refine AllReadyIn.cons rfl (fun K hK => ?_) (AllReadyIn.cons rfl (fun K hK => ?_) AllReadyIn.nil)
   ·
    go_simp
    refine hK _ _ ?_
    clear hK K
    refine wpAnyIn_ready (rs := [2]) (by kernel_rfl) (by simp) ?_
    refine AllReadyIn.cons rfl (fun K hK => ?_) AllReadyIn.nil
    go_simp
    refine hK _ _ ?_
    clear hK K
    refine wpAnyIn_ready (rs := [3]) (by kernel_rfl) (by simp) ?_
    refine AllReadyIn.cons rfl (fun K hK => ?_) AllReadyIn.nil
    go_simp
    refine hK _ _ ?_
    clear hK K
    refine wpAnyIn_ready (rs := [4]) (by kernel_rfl) (by simp) ?_
    refine AllReadyIn.cons rfl (fun K hK => ?_) AllReadyIn.nil
    go_simp
    refine hK _ _ ?_
    clear hK K
    refine wpAnyIn_ready (rs := [5]) (by kernel_rfl) (by simp) ?_
    refine AllReadyIn.cons rfl (fun K hK => ?_) AllReadyIn.nil
    rw [if_pos (by rfl)]
    refine us_append rfl rfl rfl hrun ?_
    (try simp only [Act.put, List.setIfInBounds_toArray, List.set_cons_zero, List.set_cons_succ])
    refine hK _ _ ?_
    clear hK K
    refine wpAnyIn_ready (rs := [6]) (by kernel_rfl) (by simp) ?_
    refine AllReadyIn.cons rfl (fun K hK => ?_) AllReadyIn.nil
    go_simp
    refine hK _ _ ?_
    clear hK K
    refine wpAnyIn_done (by kernel_rfl) ?_ _
    gi_wp2
    refine ⟨(KeepsOthers.mk (W := W) HK2.out.size (fun k o hk ho => HK2.out.same k o hk ho)).from _, ?_, ⟨_, HV2.out, by simpa using HR2.out, trivial⟩, (below_drew1 HB'.out).trans HB2.out, Nat.le_trans HN'.out HK2.out.size⟩
    exact us_kp (HSM.out Bh HBH.out.1 (by have := HBH.out; have := HN'.out; show _ < W.heap.size; omega) (by have := HBH.out; omega)) (HSM.out (w'.heap.size + 1) (by have := HZW.out; have := HN2.out; omega) (by have := HZW.out; have := HN2.out; have := HN'.out; show _ < W.heap.size; omega) (by omega)) (HSM.out w.heap.size (by have := HZW.out; have := HZB.out; have := HN2.out; omega) (by have := HZW.out; have := HZB.out; have := HN2.out; have := HN'.out; show _ < W.heap.size; omega) (by have := HZB.out; omega))
   ·
    go_simp
    refine hK _ _ ?_
    clear hK K
    refine wpAnyIn_ready (rs := [0, 3]) (by kernel_rfl) (by simp) ?_
    refine AllReadyIn.cons rfl (fun K hK => ?_) (AllReadyIn.cons rfl (fun K hK => ?_) AllReadyIn.nil)
    ·
     go_simp
     refine hK _ _ ?_
     clear hK K
     refine wpAnyIn_ready (rs := [3]) (by kernel_rfl) (by simp) ?_
     refine AllReadyIn.cons rfl (fun K hK => ?_) AllReadyIn.nil
     go_simp
     refine hK _ _ ?_
     clear hK K
     refine wpAnyIn_ready (rs := [4]) (by kernel_rfl) (by simp) ?_
     refine AllReadyIn.cons rfl (fun K hK => ?_) AllReadyIn.nil
     go_simp
     refine hK _ _ ?_
     clear hK K
     refine wpAnyIn_ready (rs := [5]) (by kernel_rfl) (by simp) ?_
     refine AllReadyIn.cons rfl (fun K hK => ?_) AllReadyIn.nil
     rw [if_pos (by rfl)]
     refine us_append rfl rfl rfl hrun ?_
     (try simp only [Act.put, List.setIfInBounds_toArray, List.set_cons_zero, List.set_cons_succ])
     refine hK _ _ ?_
     clear hK K
     refine wpAnyIn_ready (rs := [6]) (by kernel_rfl) (by simp) ?_
     refine AllReadyIn.cons rfl (fun K hK => ?_) AllReadyIn.nil
     go_simp
     refine hK _ _ ?_
     clear hK K
     refine wpAnyIn_done (by kernel_rfl) ?_ _
     gi_wp2
     refine ⟨(KeepsOthers.mk (W := W) HK2.out.size (fun k o hk ho => HK2.out.same k o hk ho)).from _, ?_, ⟨_, HV2.out, by simpa using HR2.out, trivial⟩, (below_drew1 HB'.out).trans HB2.out, Nat.le_trans HN'.out HK2.out.size⟩
     exact us_kp (HSM.out Bh HBH.out.1 (by have := HBH.out; have := HN'.out; show _ < W.heap.size; omega) (by have := HBH.out; omega)) (HSM.out (w'.heap.size + 1) (by have := HZW.out; have := HN2.out; omega) (by have := HZW.out; have := HN2.out; have := HN'.out; show _ < W.heap.size; omega) (by omega)) (HSM.out w.heap.size (by have := HZW.out; have := HZB.out; have := HN2.out; omega) (by have := HZW.out; have := HZB.out; have := HN2.out; have := HN'.out; show _ < W.heap.size; omega) (by have := HZB.out; omega))
    ·
     go_simp
     refine hK _ _ ?_
     clear hK K
     refine wpAnyIn_ready (rs := [0, 4]) (by kernel_rfl) (by simp) ?_
     refine AllReadyIn.cons rfl (fun K hK => ?_) (AllReadyIn.cons rfl (fun K hK => ?_) AllReadyIn.nil)
     ·
      go_simp
      refine hK _ _ ?_
      clear hK K
      refine wpAnyIn_ready (rs := [4]) (by kernel_rfl) (by simp) ?_
      refine AllReadyIn.cons rfl (fun K hK => ?_) AllReadyIn.nil
      go_simp
      refine hK _ _ ?_
      clear hK K
      refine wpAnyIn_ready (rs := [5]) (by kernel_rfl) (by simp) ?_
      refine AllReadyIn.cons rfl (fun K hK => ?_) AllReadyIn.nil
      rw [if_pos (by rfl)]
      refine us_append rfl rfl rfl hrun ?_
      (try simp only [Act.put, List.setIfInBounds_toArray, List.set_cons_zero, List.set_cons_succ])
      refine hK _ _ ?_
      clear hK K
      refine wpAnyIn_ready (rs := [6]) (by kernel_rfl) (by simp) ?_
      refine AllReadyIn.cons rfl (fun K hK => ?_) AllReadyIn.nil
      go_simp
      refine hK _ _ ?_
      clear hK K
      refine wpAnyIn_done (by kernel_rfl) ?_ _
      gi_wp2
      refine ⟨(KeepsOthers.mk (W := W) HK2.out.size (fun k o hk ho => HK2.out.same k o hk ho)).from _, ?_, ⟨_, HV2.out, by simpa using HR2.out, trivial⟩, (below_drew1 HB'.out).trans HB2.out, Nat.le_trans HN'.out HK2.out.size⟩
      exact us_kp (HSM.out Bh HBH.out.1 (by have := HBH.out; have := HN'.out; show _ < W.heap.size; omega) (by have := HBH.out; omega)) (HSM.out (w'.heap.size + 1) (by have := HZW.out; have := HN2.out; omega) (by have := HZW.out; have := HN2.out; have := HN'.out; show _ < W.heap.size; omega) (by omega)) (HSM.out w.heap.size (by have := HZW.out; have := HZB.out; have := HN2.out; omega) (by have := HZW.out; have := HZB.out; have := HN2.out; have := HN'.out; show _ < W.heap.size; omega) (by have := HZB.out; omega))
     ·
      go_simp
      refine hK _ _ ?_
      clear hK K
      refine wpAnyIn_ready (rs := [0]) (by kernel_rfl) (by simp) ?_
      refine AllReadyIn.cons rfl (fun K hK => ?_) AllReadyIn.nil
      go_simp
      refine hK _ _ ?_
      clear hK K
      refine wpAnyIn_ready (rs := [5]) (by kernel_rfl) (by simp) ?_
      refine AllReadyIn.cons rfl (fun K hK => ?_) AllReadyIn.nil
      rw [if_pos (by rfl)]
      refine us_append rfl rfl rfl hrun ?_
      (try simp only [Act.put, List.setIfInBounds_toArray, List.set_cons_zero, List.set_cons_succ])
      refine hK _ _ ?_
      clear hK K
      refine wpAnyIn_ready (rs := [6]) (by kernel_rfl) (by simp) ?_
      refine AllReadyIn.cons rfl (fun K hK => ?_) AllReadyIn.nil
      go_simp
      refine hK _ _ ?_
      clear hK K
      refine wpAnyIn_done (by kernel_rfl) ?_ _
      gi_wp2
      refine ⟨(KeepsOthers.mk (W := W) HK2.out.size (fun k o hk ho => HK2.out.same k o hk ho)).from _, ?_, ⟨_, HV2.out, by simpa using HR2.out, trivial⟩, (below_drew1 HB'.out).trans HB2.out, Nat.le_trans HN'.out HK2.out.size⟩
      exact us_kp (HSM.out Bh HBH.out.1 (by have := HBH.out; have := HN'.out; show _ < W.heap.size; omega) (by have := HBH.out; omega)) (HSM.out (w'.heap.size + 1) (by have := HZW.out; have := HN2.out; omega) (by have := HZW.out; have := HN2.out; have := HN'.out; show _ < W.heap.size; omega) (by omega)) (HSM.out w.heap.size (by have := HZW.out; have := HZB.out; have := HN2.out; omega) (by have := HZW.out; have := HZB.out; have := HN2.out; have := HN'.out; show _ < W.heap.size; omega) (by have := HZB.out; omega))
 case done =>
  rintro D ys W hD rfl ⟨⟨v, hv, hrow, _⟩, hB, hN⟩ hK
  have hc := hv.cell
  go_wp2
  refine ⟨by simp, .inl ⟨_, _, rfl, run_takeDeferred hK, ?_⟩⟩
  refine ⟨_, results_tmp rfl _ _ _, v, rfl, ?_, ?_⟩
  ·rw [← HMP.out]; exact Kd.R_of_own (own_weaken (by simpa [encs, Function.comp_def] using ownsRow_putObj hrow _ hK rfl) (show w.heap.size ≤ N2 by have := HZW.out; have := HZB.out; have := HN2.out; omega)) (fun _ _ => trivial)
  ·exact (below_step HB.out ((hB.mono (by simp)).trans (belowK_b (w := w2) (n₀ := (w.alloc (.cells #[.int .i64 a0_0, .int .i64 a0_1, .int .i64 a0_2, .int .i64 a0_3, .int .i64 a0_4, .int .i64 a0_5, .int .i64 a0_6, .int .i64 a0_7, .slice A0_8 l0_8.length c0_8] 42)).heap.size) (by have := HZW.out; have := HZB.out; simp; omega) W D _ _ hD hK rfl rfl)))
 case stop =>
  rintro D c pre W _ _ h _
  exact h.elim
end
def instr_Uses.f (k : Nat) (a0_0 a0_1 a0_2 a0_3 a0_4 a0_5 a0_6 a0_7 : Int) (l0_8 : List Int) : Option (List Int) := if l0_8.length < 17592186044413 then ((instr_Right.f k a0_0 a0_1 a0_2 a0_3 a0_4 a0_5 a0_6 a0_7 l0_8).bind fun t => (if t = true then (some (usV a0_0 a0_2 a0_3 a0_4 a0_6 l0_8)) else (some []))) else none
theorem instr_Uses.calls (k : Nat) (a0_0 a0_1 a0_2 a0_3 a0_4 a0_5 a0_6 a0_7 : Int) (A0_8 : Option Addr) (c0_8 : Nat) (l0_8 : List Int) (r : List Int) (w : World) (hr0_8 : Kd.C (Kd.int .i64) w A0_8 l0_8.length l0_8) (hc0_8 : l0_8.length ≤ c0_8) (h : instr_Uses.f k a0_0 a0_1 a0_2 a0_3 a0_4 a0_5 a0_6 a0_7 l0_8 = some r) :
  Calls Try.prog 75 #[.agg #[.int .i64 a0_0, .int .i64 a0_1, .int .i64 a0_2, .int .i64 a0_3, .int .i64 a0_4, .int .i64 a0_5, .int .i64 a0_6, .int .i64 a0_7, .slice A0_8 l0_8.length c0_8]] w fun e w' => ∃ v0_ : Value, e = .returned (v0_) ∧ Kd.R (Kd.int .i64) 3 w' w.heap.size (fun _ => True) v0_ r ∧ Below w.heap.size w w' := by
 unfold instr_Uses.f at h
 by_cases hl : l0_8.length < 17592186044413
 ·rw [if_pos hl] at h
  obtain ⟨t, ht, h⟩ := Option.bind_eq_some_iff.mp h
  cases t with
  | true =>
   obtain rfl := Option.some.inj h
   exact us_yes k a0_0 a0_1 a0_2 a0_3 a0_4 a0_5 a0_6 a0_7 A0_8 c0_8 l0_8 w hr0_8 hc0_8 hl ht
  | false =>
   obtain rfl := Option.some.inj h
   exact us_no k a0_0 a0_1 a0_2 a0_3 a0_4 a0_5 a0_6 a0_7 A0_8 c0_8 l0_8 w hr0_8 hc0_8 ht
 ·rw [if_neg hl] at h
  cases h
end Go.Proofs.Ytgbpkbfghonllaa.P

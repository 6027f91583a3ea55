/- A part of it. -/
import Derived.Test.YtomopjomapkmjaaBpBBdU
import Derived.Test.YtomopjomapkmjaaBpBBdV
import Derived.Outline
import Derived.Test.YtomopjomapkmjaaBpZ
import Derived.Test.YtomopjomapkmjaaBpB6
import Derived.Test.YtomopjomapkmjaaBpB7
import Derived.Test.YtomopjomapkmjaaBpB12
import Derived.Test.YtomopjomapkmjaaBpB14
import Derived.OpenShut
set_option linter.unusedVariables false
set_option linter.unusedSimpArgs false
namespace Go.Proofs.Ytomopjomapkmjaa.B
open Go Go.RowKit Go.Proofs.YtomopjomapkmjaaW.PrintWords Go.Proofs.YtomopjomapkmjaaW.PrintLast Go.Proofs.YtomopjomapkmjaaW.PrintMore Go.Proofs.Ytomopjomapkmjaa.Pure
theorem told_at {w0 w : World} {base g gx N : Nat} {V : BV} {X : XV} (hB : Both w0 base w g gx V X) (hR : Rel V X) (hS : Small N V) (hN : N < 500) (hW : Below base w0 w) (hb0 : base = w0.heap.size) (dd n : Int) (x : S29) (A8 : Option Addr) (c8 : Nat) (hx8 : x.f8.length ≤ 20) (hC : (Kd.int .i64).C w0 A8 x.f8.length x.f8) (hc8 : x.f8.length ≤ c8) :
  Calls Try.prog 25 #[.pointer (some ⟨g, 0, none⟩), .pointer (some ⟨gx, 0, none⟩), .agg #[.int .i64 dd, .int .i64 n, .int .i64 x.f0, .int .i64 x.f1, .int .i64 x.f2, .int .i64 x.f3, .int .i64 x.f4, .int .i64 x.f5, .int .i64 x.f6, .int .i64 x.f7, .slice A8 x.f8.length c8]] w (ToldEnd w0 base g gx N) := by
 by_cases h0 : dd = 0
 ·exact told_reg hB hR hS hN hW hb0 dd n x A8 c8 hx8 hC hc8 h0
 by_cases h1 : dd = 1
 ·exact told_block hB hR hS hN hW hb0 dd n x A8 c8 hx8 hC hc8 h1
 by_cases h2 : dd = 2
 ·exact told_begin hB hR hS hN hW hb0 dd n x A8 c8 hx8 hC hc8 h2
 exact told_put hB hR hS hN hW hb0 dd n x A8 c8 hx8 hC hc8 ⟨h0, h1, h2⟩
abbrev AC := Int × Int × S29
def kA : Kd AC := Kd.pair (Kd.int .i64) (Kd.pair (Kd.int .i64) k29)
def zA : AC := (0, 0, z29)
def rdA (xs : List AC) (i : Nat) : AC := xs.getD i zA
theorem at_A {w : World} {A : Option Addr} {n : Nat} {xs : List AC} (h : Kd.C kA w A n xs) (i : Nat) (h1 : i < n) : ∃ ad A8 c8, A = some ad ∧ w.cell? (ad.add (i * 11)) = some (.int .i64 (rdA xs i).1) ∧ w.cell? ⟨(ad.add (i * 11)).block, (ad.add (i * 11)).off + 1, none⟩ = some (.int .i64 (rdA xs i).2.1) ∧ w.cell? ⟨(ad.add (i * 11)).block, (ad.add (i * 11)).off + 2, none⟩ = some (.int .i64 (rdA xs i).2.2.f0) ∧ w.cell? ⟨(ad.add (i * 11)).block, (ad.add (i * 11)).off + 3, none⟩ = some (.int .i64 (rdA xs i).2.2.f1) ∧ w.cell? ⟨(ad.add (i * 11)).block, (ad.add (i * 11)).off + 4, none⟩ = some (.int .i64 (rdA xs i).2.2.f2) ∧ w.cell? ⟨(ad.add (i * 11)).block, (ad.add (i * 11)).off + 5, none⟩ = some (.int .i64 (rdA xs i).2.2.f3) ∧ w.cell? ⟨(ad.add (i * 11)).block, (ad.add (i * 11)).off + 6, none⟩ = some (.int .i64 (rdA xs i).2.2.f4) ∧ w.cell? ⟨(ad.add (i * 11)).block, (ad.add (i * 11)).off + 7, none⟩ = some (.int .i64 (rdA xs i).2.2.f5) ∧ w.cell? ⟨(ad.add (i * 11)).block, (ad.add (i * 11)).off + 8, none⟩ = some (.int .i64 (rdA xs i).2.2.f6) ∧ w.cell? ⟨(ad.add (i * 11)).block, (ad.add (i * 11)).off + 9, none⟩ = some (.int .i64 (rdA xs i).2.2.f7) ∧ w.cell? ⟨(ad.add (i * 11)).block, (ad.add (i * 11)).off + 10, none⟩ = some (.slice A8 (rdA xs i).2.2.f8.length c8) ∧ (rdA xs i).2.2.f8.length ≤ c8 ∧ (Kd.int .i64).C w A8 (rdA xs i).2.2.f8.length (rdA xs i).2.2.f8 := by
 obtain ⟨ad, c, e, _, hK, hc0⟩ := Kd.C_get h zA (i : Int) (by omega) (by omega)
 rw [Int.toNat_natCast] at hK hc0
 have hc : ∀ j u, c[j]? = some u → w.cell? (ad.add (i * 11 + j)) = some u := hc0
 obtain ⟨_, _, rfl, rfl, ⟨_, _, rfl, rfl, hk⟩⟩ := hK
 obtain ⟨A8, c8, rfl, l8, g8⟩ := k29_open hk
 exact ⟨ad, A8, c8, e, hc 0 _ rfl, by rw [← add_field _ _ 1 (by omega)]; exact hc 1 _ rfl, by rw [← add_field _ _ 2 (by omega)]; exact hc 2 _ rfl, by rw [← add_field _ _ 3 (by omega)]; exact hc 3 _ rfl, by rw [← add_field _ _ 4 (by omega)]; exact hc 4 _ rfl, by rw [← add_field _ _ 5 (by omega)]; exact hc 5 _ rfl, by rw [← add_field _ _ 6 (by omega)]; exact hc 6 _ rfl, by rw [← add_field _ _ 7 (by omega)]; exact hc 7 _ rfl, by rw [← add_field _ _ 8 (by omega)]; exact hc 8 _ rfl, by rw [← add_field _ _ 9 (by omega)]; exact hc 9 _ rfl, by rw [← add_field _ _ 10 (by omega)]; exact hc 10 _ rfl, l8, g8⟩
end Go.Proofs.Ytomopjomapkmjaa.B
set_option linter.unusedVariables false
set_option linter.unusedSimpArgs false
namespace Go.Proofs.Ytomopjomapkmjaa.B
open Go Go.RowKit Go.Proofs.YtomopjomapkmjaaW.PrintWords Go.Proofs.YtomopjomapkmjaaW.PrintLast Go.Proofs.YtomopjomapkmjaaW.PrintMore Go.Proofs.Ytomopjomapkmjaa.Pure
theorem last_swap {P : Program} {md : Region.Mode} {ops : Array Oper} {Q : Exit → Act → World → Prop} {S' : World → Prop} {ds ds' : List Nat} : ∀ {fuel : Nat} {l : Array Bool} {a : Act} {w : World}, wpAnyLast P md ops Q S' ds' fuel l a w → wpAnyLast P md ops Q (fun _ => True) ds fuel l a w
 | 0, _, _, _, h => h
 | fuel + 1, _, _, _, h => ⟨h.1, fun i hi => wpOp_mono (fun a' w' h' => ⟨fun _ _ => trivial, last_swap h'.2⟩) (h.2 i hi)⟩
section
variable {base g : Nat} {w w0 w1 w2 W : World} {nm : ByteArray} {pa rt at_ : Int} {vr vb vs : Value} {rg : List Int}
theorem xt_new {okr : Nat → Prop} {B S : Nat} (h1 : base ≤ g) (hB1 : base ≤ B) (hS1 : base ≤ S)
  (hb : W.heap[g]? = some (.cells #[.string nm, .int .i64 pa, .int .i64 rt, vr, .slice (some ⟨B, 0, none⟩) 1 1, .slice (some ⟨S, 0, none⟩) 1 1, .int .i64 0] 52 (0, 0)))
  (hB : W.heap[B]? = some (.cells #[.slice none 0 0] 35 (0, 0))) (hS : W.heap[S]? = some (.cells #[.bool true] 4 (0, 0)))
  (hr : (Kd.int .i64).R 3 W base okr vr rg) (hn : ∀ k, okr k → base ≤ k ∧ k < W.heap.size ∧ k ≠ g ∧ k ≠ B ∧ k ≠ S) :
  XAt w0 base (fun k => okr k ∨ k = B ∨ k = S) W g ⟨nm, pa, rt, rg, [[]], [true], 0⟩ := by
 have gB : g ≠ B := blk_ne hb hB (by decide)
 have gS : g ≠ S := blk_ne hb hS (by decide)
 have BS : B ≠ S := blk_ne hB hS (by decide)
 refine ⟨h1, ?_, ?_, fun k => if k = B then 1 else if k = S then 2 else 0, vr, .slice (some ⟨B, 0, none⟩) 1 1, .slice (some ⟨S, 0, none⟩) 1 1, hb, ?_, ?_, ?_⟩
 ·rintro (h | h | h)
  ·exact (hn g h).2.2.1 rfl
  ·exact gB h
  ·exact gS h
 ·rintro k (h | h | h)
  ·exact ⟨(hn k h).1, (hn k h).2.1⟩
  ·subst h; exact ⟨hB1, blk_lt hB⟩
  ·subst h; exact ⟨hS1, blk_lt hS⟩
 ·exact Kd.R_mono hr (fun k hk => ⟨.inl hk, (if_neg (hn k hk).2.2.2.1).trans (if_neg (hn k hk).2.2.2.2)⟩)
 ·refine ⟨fun _ => 0, fun k hk => ?_, [.slice none 0 0], own_one hB1 hB, ⟨rfl, fun j p hj => ?_⟩⟩
  ·obtain rfl : B = k := by simpa [Value.ownBlock] using hk
   exact ⟨.inr (.inl rfl), if_pos rfl⟩
  ·obtain rfl : j = 0 := by
    have := (List.getElem?_eq_some_iff.1 hj).1
    simp at this
    omega
   obtain rfl : p = ([], 0) := by simpa using hj.symm
   exact ⟨_, rfl, Kd.R_nil _ _ _ _ _⟩
 ·refine ⟨fun k hk => ?_, [.bool true], own_one hS1 hS, ⟨rfl, fun j p hj => ?_⟩⟩
  ·obtain rfl : S = k := by simpa [Value.ownBlock] using hk
   exact ⟨.inr (.inr rfl), (if_neg (Ne.symm BS)).trans (if_pos rfl)⟩
  ·obtain rfl : j = 0 := by
    have := (List.getElem?_eq_some_iff.1 hj).1
    simp at this
    omega
   obtain rfl : p = true := by simpa using hj.symm
   exact rfl
theorem heap_three (w : World) (o1 o2 o3 : Obj) : (((w.alloc o1).alloc o2).alloc o3).heap[w.heap.size]? = some o1 ∧ (((w.alloc o1).alloc o2).alloc o3).heap[w.heap.size + 1]? = some o2 ∧ (((w.alloc o1).alloc o2).alloc o3).heap[w.heap.size + 1 + 1]? = some o3 :=
 ⟨blk_alloc (blk_alloc (blk_new w o1) o2) o3, blk_alloc (by simpa using blk_new (w.alloc o1) o2) o3, by simpa using blk_new ((w.alloc o1).alloc o2) o3⟩
theorem both_new {okb : Nat → Prop} {w3 w4 : World} {V : BV} {nm : ByteArray} {pa rt : Int} {Ap : Option Addr} {cp : Nat} {l1 : List Int} (hw : w0.heap.size ≤ w3.heap.size) (hb : BAt w0.heap.size okb w3 g V) (h34 : Below w3.heap.size w3 w4)
  (hr : (Kd.int .i64).R 3 w4 w3.heap.size (fun _ => True) (.slice Ap l1.length cp) l1) :
  Both w0 w0.heap.size (((w4.alloc (.cells #[.slice none 0 0] 35)).alloc (.cells #[.bool true] 4)).alloc (.cells #[.string nm, .int .i64 pa, .int .i64 rt, .slice Ap l1.length cp, .slice (some ⟨w4.heap.size, 0, none⟩) 1 1, .slice (some ⟨w4.heap.size + 1, 0, none⟩) 1 1, .int .i64 0] 52)) g (w4.heap.size + 1 + 1) V ⟨nm, pa, rt, l1, [[]], [true], 0⟩ := by
 obtain ⟨e1, e2, e3⟩ := heap_three w4 (.cells #[.slice none 0 0] 35) (.cells #[.bool true] 4) (.cells #[.string nm, .int .i64 pa, .int .i64 rt, .slice Ap l1.length cp, .slice (some ⟨w4.heap.size, 0, none⟩) 1 1, .slice (some ⟨w4.heap.size + 1, 0, none⟩) 1 1, .int .i64 0] 52)
 have hs := h34.size
 have hlt := hb.lt
 have h3 := hb.2.2.1
 refine ⟨okb, _, (hb.below h34).below (below_alloc (below_alloc (below_alloc (Below.refl _ _) _) _) _), xt_new (okr := fun k => w3.heap.size ≤ k ∧ k < w4.heap.size) (by omega) (by omega) (by omega) e3 e1 e2 (Kd.R_alloc (Kd.R_alloc (Kd.R_alloc (Kd.R_lower (Kd.R_mono (Kd.R_bound hr) (fun k hk => ⟨hk.2.1, hk.2.2.1⟩)) hw) _) _) _) (fun k hk => ⟨by omega, by simp; omega, by omega, by omega, by omega⟩), by omega, ?_, ?_, ?_⟩
 ·rintro (h | h | h) <;> omega
 ·intro h
  have := (h3 _ h).2
  omega
 ·rintro k hk (h | h | h) <;> (have := (h3 k hk).2; omega)
end
theorem rel_new (nm : ByteArray) (pa rt : Int) (l1 : List Int) : Rel ⟨nm, pa, rt, l1, [[]], [1], 0⟩ ⟨nm, pa, rt, l1, [[]], [true], 0⟩ :=
 ⟨rfl, rfl, rfl, rfl, rfl, rfl, rfl, rfl, Int.le_refl 0, by show (0 : Int) < ((1 : Nat) : Int); omega, rfl, fun i hi => by
  obtain rfl : i = 0 := by
   have : i < 1 := hi
   omega
  rfl, fun i hi h => by
  obtain rfl : i = 0 := by
   have : i < 1 := hi
   omega
  rfl⟩
theorem small_new (nm : ByteArray) (pa rt : Int) (l1 : List Int) (h : l1.length ≤ 8) : Small 8 ⟨nm, pa, rt, l1, [[]], [1], 0⟩ :=
 ⟨h, by show 1 ≤ 8; omega, fun l hl => by
  obtain rfl : l = [] := by simpa using hl
  exact ⟨Nat.zero_le _, fun x hx => by simp at hx⟩⟩
theorem Small.lens {N : Nat} {V : BV} (h : Small N V) (hN : N < 500) : V.rg.length < 1000000 ∧ V.bl.length < 1000000 ∧ ∀ l ∈ V.bl, l.length < 1000000 ∧ ∀ x ∈ l, x.f8.length < 1000000 :=
 ⟨by have := h.1; omega, by have := h.2.1; omega, fun l hl => ⟨by have := (h.2.2 l hl).1; omega, fun x hx => by have := (h.2.2 l hl).2 x hx; omega⟩⟩
end Go.Proofs.Ytomopjomapkmjaa.B
set_option linter.unusedVariables false
set_option linter.unusedSimpArgs false
namespace Go.Proofs.Ytomopjomapkmjaa.B
open Go Go.RowKit Go.Proofs.YtomopjomapkmjaaW.PrintWords Go.Proofs.YtomopjomapkmjaaW.PrintLast Go.Proofs.YtomopjomapkmjaaW.PrintMore Go.Proofs.Ytomopjomapkmjaa.Pure
set_option maxHeartbeats 16000000 in
set_option maxRecDepth 100000 in
theorem balustradelaw24_BuildPlays.walk (nm : ByteArray) (A1 : Option Addr) (c1 : Nat) (l1 : List Int) (ret : Int) (A3 : Option Addr) (c3 : Nat) (l3 : List AC) (w : World) (hr1 : Kd.C (Kd.int .i64) w A1 l1.length l1) (hc1 : l1.length ≤ c1) (hr3 : Kd.C kA w A3 l3.length l3) (hc3 : l3.length ≤ c3) :
  Calls Try.prog 6 #[.string nm, .slice A1 l1.length c1, .int .i64 ret, .slice A3 l3.length c3] w fun e w' => e = .returned (.bool true) ∧ Below w.heap.size w w' := by
 have HR1 := Aside0.mk hr1
 have HC1 := Aside0.mk hc1
 have HR3 := Aside0.mk hr3
 have HC3 := Aside0.mk hc3
 have HB := Aside0.mk (Below.refl w.heap.size w)
 clear hr1 hc1 hr3 hc3
 by_cases h60 : l3.length ≤ 60
 rotate_left
 ·have ta : decide ((60 : Int) < (l3.length : Int)) = true := decide_eq_true (by omega)
  have tb : decide (60 < l3.length) = true := decide_eq_true (by omega)
  clear h60
  go_enter Try.func6, Try.ntmps6
  go_wp2_with ((go_at_call 10; ((refine (works_at _).mono ?_); rintro e w' ⟨rfl, hb⟩; replace HB := Aside0.mk (below_step HB.out hb); clear hb)))
  go_ret
  exact ⟨rfl, HB.out⟩
 have ta : decide ((60 : Int) < (l3.length : Int)) = false := decide_eq_false (by omega)
 have tb : decide (60 < l3.length) = false := decide_eq_false (by omega)
 have H60_ := Aside0.mk h60
 clear h60
 by_cases h20 : l1.length ≤ 20
 rotate_left
 ·have ua : decide ((20 : Int) < (l1.length : Int)) = true := decide_eq_true (by omega)
  have ub : decide (20 < l1.length) = true := decide_eq_true (by omega)
  clear h20
  go_enter Try.func6, Try.ntmps6
  go_wp2_with ((go_at_call 10; ((refine (works_at _).mono ?_); rintro e w' ⟨rfl, hb⟩; replace HB := Aside0.mk (below_step HB.out hb); clear hb)))
  go_ret
  exact ⟨rfl, HB.out⟩
 have ua : decide ((20 : Int) < (l1.length : Int)) = false := decide_eq_false (by omega)
 have ub : decide (20 < l1.length) = false := decide_eq_false (by omega)
 have H20_ := Aside0.mk h20
 clear h20
 by_cases h100 : nm.size ≤ 100
 rotate_left
 ·have va : decide ((100 : Int) < (nm.size : Int)) = true := decide_eq_true (by omega)
  have vb : decide (100 < nm.size) = true := decide_eq_true (by omega)
  clear h100
  go_enter Try.func6, Try.ntmps6
  go_wp2_with ((go_at_call 10; ((refine (works_at _).mono ?_); rintro e w' ⟨rfl, hb⟩; replace HB := Aside0.mk (below_step HB.out hb); clear hb)))
  go_ret
  exact ⟨rfl, HB.out⟩
 have va : decide ((100 : Int) < (nm.size : Int)) = false := decide_eq_false (by omega)
 have vb : decide (100 < nm.size) = false := decide_eq_false (by omega)
 have H100_ := Aside0.mk h100
 clear h100
 obtain ⟨kP, hP⟩ := (kinds_ev l1 (by have := H20_.out; omega)).rounds
 obtain ⟨kR, hR⟩ := (kinds_ev [ret] (by show 1 < 4611686018427387904; omega)).rounds
 rw [kinds_one] at hR
 by_cases hn : newB l1 ret = true
 rotate_left
 ·have hnb : newB l1 ret = false := by simpa using hn
  have HNB := Aside0.mk hnb
  rw [new_same] at hnb
  clear hn
  by_cases h8 : l1.length ≤ 8
  rotate_left
  ·have xa : decide ((8 : Int) < (l1.length : Int)) = true := decide_eq_true (by omega)
   have xb : decide (8 < l1.length) = true := decide_eq_true (by omega)
   clear h8 hnb hP hR
   go_enter Try.func6, Try.ntmps6
   go_wp2_with (first | (go_at_call 11; ((with_reducible refine (New_bad A1 c1 nm l1 ret _ HR1.out HC1.out HNB.out).mono ?_); rintro e w1 ⟨rfl, rfl⟩)) | (go_at_call 10; ((refine (works_at _).mono ?_); rintro e w' ⟨rfl, hb⟩; replace HB := Aside0.mk (below_step HB.out hb); clear hb)))
   go_ret
   exact ⟨rfl, HB.out⟩
  have xa : decide ((8 : Int) < (l1.length : Int)) = false := decide_eq_false (by omega)
  have xb : decide (8 < l1.length) = false := decide_eq_false (by omega)
  rw [decide_eq_true h8, Bool.true_and] at hnb
  clear h8
  cases hk : l1.all kindB with
  | false =>
   rw [hk] at hP
   have HKP := Aside0.mk hP
   clear hnb hk hP hR
   go_enter Try.func6, Try.ntmps6
   go_wp2_with (first | (go_at_call 11; ((with_reducible refine (New_bad A1 c1 nm l1 ret _ HR1.out HC1.out HNB.out).mono ?_); rintro e w1 ⟨rfl, rfl⟩)) | (go_at_call 24; ((with_reducible refine (balustraderef24_Kinds.calls kP A1 c1 l1 _ _ (Kd.C_below HR1.out HB.out) HC1.out HKP.out).mono ?_); rintro e w2 ⟨rfl, hd⟩; have hb := hd.below; replace HB := Aside0.mk (below_step HB.out hb); clear hb hd)) | (go_at_call 10; ((refine (works_at _).mono ?_); rintro e w' ⟨rfl, hb⟩; replace HB := Aside0.mk (below_step HB.out hb); clear hb)))
   go_ret
   exact ⟨rfl, HB.out⟩
  | true =>
   rw [hk, Bool.and_true] at hnb
   rw [hk] at hP
   rw [hnb] at hR
   have HKP := Aside0.mk hP
   have HKR := Aside0.mk hR
   clear hnb hk hP hR
   go_enter Try.func6, Try.ntmps6
   go_wp2_with (first | (go_at_call 11; ((with_reducible refine (New_bad A1 c1 nm l1 ret _ HR1.out HC1.out HNB.out).mono ?_); rintro e w1 ⟨rfl, rfl⟩)) | (go_at_call 24; ((with_reducible refine (balustraderef24_Kinds.calls kP A1 c1 l1 _ _ (Kd.C_below HR1.out HB.out) HC1.out HKP.out).mono ?_); rintro e w2 ⟨rfl, hd⟩; have hb := hd.below; replace HB := Aside0.mk (below_step HB.out hb); clear hb hd)) | (go_at_call 24; ((refine (balustraderef24_Kinds.calls kR (some ⟨w2.heap.size, 0, none⟩) 1 [ret] _ _ (by simpa using C_one (blk_new w2 (.cells #[.int .i64 ret] 3))) (Nat.le_refl _) HKR.out).mono ?_); rintro e w3 ⟨rfl, hd⟩; have hb := below_step (below_alloc (Below.refl w2.heap.size w2) (.cells #[.int .i64 ret] 3)) hd.below; replace HB := Aside0.mk (below_step HB.out hb); clear hb hd)) | (go_at_call 10; ((refine (works_at _).mono ?_); rintro e w' ⟨rfl, hb⟩; replace HB := Aside0.mk (below_step HB.out hb); clear hb)))
   go_ret
   exact ⟨rfl, HB.out⟩
 have HNT := Aside0.mk hn
 rw [new_same] at hn
 simp only [Bool.and_eq_true, decide_eq_true_eq] at hn
 obtain ⟨h8, hk1, hk2⟩ := hn
 rw [hk2] at hP
 rw [hk1] at hR
 have HKP := Aside0.mk hP
 have HKR := Aside0.mk hR
 have xa : decide ((8 : Int) < (l1.length : Int)) = false := decide_eq_false (by omega)
 have xb : decide (8 < l1.length) = false := decide_eq_false (by omega)
 have H8 := Aside0.mk h8
 clear h8 hk1 hk2 hP hR
 go_enter Try.func6, Try.ntmps6
 go_upto_region 6 with (first | (go_at_call 11; ((refine (New_at A1 c1 nm l1 ret _ HR1.out HC1.out HNT.out).mono ?_); rintro e w1 ⟨g, ok, rfl, hBA, hb⟩; have HBA := Aside0.mk hBA; replace HB := Aside0.mk hb; clear hb hBA)) | (go_at_call 24; ((with_reducible refine (balustraderef24_Kinds.calls kP A1 c1 l1 _ _ (Kd.C_below HR1.out HB.out) HC1.out HKP.out).mono ?_); rintro e w2 ⟨rfl, hd⟩; have hb := hd.below; replace HB := Aside0.mk (below_step HB.out hb); replace HBA := Aside0.mk (HBA.out.below hb); clear hb hd)) | (go_at_call 24; ((refine (balustraderef24_Kinds.calls kR (some ⟨w2.heap.size, 0, none⟩) 1 [ret] _ _ (by simpa using C_one (blk_new w2 (.cells #[.int .i64 ret] 3))) (Nat.le_refl _) HKR.out).mono ?_); rintro e w3 ⟨rfl, hd⟩; have hb := below_step (below_alloc (Below.refl w2.heap.size w2) (.cells #[.int .i64 ret] 3)) hd.below; replace HB := Aside0.mk (below_step HB.out hb); replace HBA := Aside0.mk (HBA.out.below hb); clear hb hd)))
 clear xa xb ta tb ua ub va vb HKP HKR HNT
 have hin : balustradebase_Ints.f l1 = some l1 := by show (if ([] : List Int).length + l1.length < 17592186044416 then some ([] ++ l1) else none) = some l1; rw [if_pos (by have := H20_.out; simp; omega)]; rfl
 have HIN := Aside0.mk hin
 clear hin
 go_upto_region 7 with ((go_at_call 15; ((with_reducible refine (balustradebase_Ints.calls A1 c1 l1 l1 _ (Kd.C_below HR1.out HB.out) HC1.out HIN.out).mono ?_); rintro e w4 ⟨v_, rfl, hR, hb⟩; obtain ⟨Ap, cp, rfl⟩ := Kd.R_slice hR; have HRP := Aside0.mk hR; have H34 := Aside0.mk hb; have HB4 := Aside0.mk (below_step HB.out hb); clear hb hR)))
 have HBO := Aside0.mk (both_new (nm := nm) (pa := (l1.length : Int)) (rt := ret) HB.out.size HBA.out H34.out HRP.out)
 have HW0 := Aside0.mk (below_alloc (below_alloc (below_alloc HB4.out (.cells #[.slice none 0 0] 35)) (.cells #[.bool true] 4)) (.cells #[.string nm, .int .i64 (l1.length : Int), .int .i64 ret, .slice Ap l1.length cp, .slice (some ⟨w4.heap.size, 0, none⟩) 1 1, .slice (some ⟨w4.heap.size + 1, 0, none⟩) 1 1, .int .i64 0] 52))
 have HRL := Aside0.mk (rel_new nm (l1.length : Int) ret l1)
 have HSM := Aside0.mk (small_new nm (l1.length : Int) ret l1 H8.out)
 generalize (((w4.alloc (.cells #[.slice none 0 0] 35)).alloc (.cells #[.bool true] 4)).alloc (.cells #[.string nm, .int .i64 (l1.length : Int), .int .i64 ret, .slice Ap l1.length cp, .slice (some ⟨w4.heap.size, 0, none⟩) 1 1, .slice (some ⟨w4.heap.size + 1, 0, none⟩) 1 1, .int .i64 0] 52)) = W0 at HBO HW0 ⊢
 generalize w4.heap.size + 1 + 1 = gx at HBO ⊢
 clear HB HB4 H34 HRP HBA HR1 HC1 HIN H20_ H100_ H8
 go_wp2
 go_loopw [11] (fun v11 wr => ∃ (j : Nat) (V : BV) (X : XV), v11 = .int .i64 (j : Int) ∧ Aside0 (j ≤ l3.length) ∧ Aside0 (Rel V X) ∧ Aside0 (Small (8 + j) V) ∧ Aside0 (Both w w.heap.size wr g gx V X) ∧ Aside0 (Below w.heap.size w wr)) (fun v11 wr => l3.length - (intOf v11).toNat)
 case atStart => exact ⟨0, _, _, rfl, ⟨Nat.zero_le _⟩, HRL, HSM, HBO, HW0⟩
 case round =>
  clear HRL HSM HBO HW0
  obtain ⟨j, V, X, rfl, HJ, HRL, HSM, HBO, HB⟩ := hrel
  by_cases hlt : j < l3.length
  rotate_left
  ·have s1 : decide ((j : Int) < (l3.length : Int)) = false := decide_eq_false (by omega)
   have s2 : decide (j < l3.length) = false := decide_eq_false hlt
   go_wp2_with ((go_at_call 10; ((refine (works_at _).mono ?_); rintro e w' ⟨rfl, hb⟩; replace HB := Aside0.mk (below_step HB.out hb); clear hb)))
   go_ret
   exact ⟨rfl, HB.out⟩
  have HLT := Aside0.mk hlt
  have s1 : decide ((j : Int) < (l3.length : Int)) = true := decide_eq_true (by omega)
  have s2 : decide (j < l3.length) = true := decide_eq_true hlt
  have p1 : (0 : Int) ≤ (j : Int) := by omega
  have p2 : (j : Int) < (l3.length : Int) := by omega
  have hwr : wrap64 ((j : Int) + 1) = ((j + 1 : Nat) : Int) := by have := H60_.out; unfold wrap64; omega
  have HWR := Aside0.mk hwr
  have HN := Aside0.mk (show 8 + j < 500 by have := H60_.out; omega)
  clear hwr
  obtain ⟨ad, A8, c8, eA, y0, y1, y2, y3, y4, y5, y6, y7, y8, y9, y10, hc8, hC8⟩ := at_A HR3.out j hlt
  subst eA
  obtain ⟨⟨dd, n, x⟩, ex⟩ : ∃ p, rdA l3 j = p := ⟨_, rfl⟩
  rw [ex] at y0 y1 y2 y3 y4 y5 y6 y7 y8 y9 y10 hc8 hC8
  have HC8 := Aside0.mk (And.intro hC8 hc8)
  clear ex hc8 hC8 hlt
  replace y0 : wr.cell? (ad.add (j * 11)) = some (.int .i64 dd) := (HB.out.cell (block_lt_of_cell y0)).trans y0
  replace y1 : wr.cell? ⟨(ad.add (j * 11)).block, (ad.add (j * 11)).off + 1, none⟩ = some (.int .i64 n) := (HB.out.cell (block_lt_of_cell y1)).trans y1
  replace y2 : wr.cell? ⟨(ad.add (j * 11)).block, (ad.add (j * 11)).off + 2, none⟩ = some (.int .i64 x.f0) := (HB.out.cell (block_lt_of_cell y2)).trans y2
  replace y3 : wr.cell? ⟨(ad.add (j * 11)).block, (ad.add (j * 11)).off + 3, none⟩ = some (.int .i64 x.f1) := (HB.out.cell (block_lt_of_cell y3)).trans y3
  replace y4 : wr.cell? ⟨(ad.add (j * 11)).block, (ad.add (j * 11)).off + 4, none⟩ = some (.int .i64 x.f2) := (HB.out.cell (block_lt_of_cell y4)).trans y4
  replace y5 : wr.cell? ⟨(ad.add (j * 11)).block, (ad.add (j * 11)).off + 5, none⟩ = some (.int .i64 x.f3) := (HB.out.cell (block_lt_of_cell y5)).trans y5
  replace y6 : wr.cell? ⟨(ad.add (j * 11)).block, (ad.add (j * 11)).off + 6, none⟩ = some (.int .i64 x.f4) := (HB.out.cell (block_lt_of_cell y6)).trans y6
  replace y7 : wr.cell? ⟨(ad.add (j * 11)).block, (ad.add (j * 11)).off + 7, none⟩ = some (.int .i64 x.f5) := (HB.out.cell (block_lt_of_cell y7)).trans y7
  replace y8 : wr.cell? ⟨(ad.add (j * 11)).block, (ad.add (j * 11)).off + 8, none⟩ = some (.int .i64 x.f6) := (HB.out.cell (block_lt_of_cell y8)).trans y8
  replace y9 : wr.cell? ⟨(ad.add (j * 11)).block, (ad.add (j * 11)).off + 9, none⟩ = some (.int .i64 x.f7) := (HB.out.cell (block_lt_of_cell y9)).trans y9
  replace y10 : wr.cell? ⟨(ad.add (j * 11)).block, (ad.add (j * 11)).off + 10, none⟩ = some (.slice A8 x.f8.length c8) := (HB.out.cell (block_lt_of_cell y10)).trans y10
  have y10' : wr.cell? ⟨(ad.add (j * 11)).block, (ad.add (j * 11)).off + 2 + 8, none⟩ = some (.slice A8 x.f8.length c8) := y10
  by_cases h20 : x.f8.length ≤ 20
  rotate_left
  ·have r1 : decide ((20 : Int) < (x.f8.length : Int)) = true := decide_eq_true (by omega)
   have r2 : decide (20 < x.f8.length) = true := decide_eq_true (by omega)
   go_wp2_with ((go_at_call 10; ((refine (works_at _).mono ?_); rintro e w' ⟨rfl, hb⟩; replace HB := Aside0.mk (below_step HB.out hb); clear hb)))
   go_ret
   exact ⟨rfl, HB.out⟩
  have r1 : decide ((20 : Int) < (x.f8.length : Int)) = false := decide_eq_false (by omega)
  have r2 : decide (20 < x.f8.length) = false := decide_eq_false (by omega)
  have HX20 := Aside0.mk h20
  clear h20
  go_upto_region 12 with (fail)
  refine start_ (n := 17) (S := fun _ => True) (ds := []) #[false, false, false, false, false, false, false, false, false, false, false, false, false, false, false, false, false] (by kernel_rfl) rfl rfl trivial (fun hHeld => ?_)
  refine pT 0 (some 76) (zb 17 1) (h := ?_)
  refine pT 1 (some 77) (zb 17 3) (h := ?_)
  refine pT 2 (some 78) (zb 17 7) (h := ?_)
  refine pT 3 (some 79) (zb 17 15) (h := ?_)
  refine one_ (i := 4) (N := some 80) (zb 17 31) rfl rfl (by kernel_rfl) (by decide) (fun K hK => ?_)
  refine value_ (w1 := ?_) (v := ?_) (by rfl) rfl ?_ ?_
  rotate_left 2
  ·go_simp
   constructor
   ·rfl
   ·rfl
  refine hK.out _ _ trivial (fun hHeld => ?_)
  clear hK K
  refine norm_ (a' := ?_) ?_ ?_
  rotate_left
  ·show Act.put _ (some 80) _ = _
   simp only [Act.put, List.setIfInBounds_toArray, List.set_cons_zero, List.set_cons_succ, i64_w, i32_w]
   rfl
  refine one_ (i := 5) (N := some 81) (zb 17 63) rfl rfl (by kernel_rfl) (by decide) (fun K hK => ?_)
  refine goes_ Try.func25 (by kernel_rfl) rfl #[.pointer (some ⟨g, 0, none⟩), .pointer (some ⟨gx, 0, none⟩), .agg #[.int .i64 dd, .int .i64 n, .int .i64 x.f0, .int .i64 x.f1, .int .i64 x.f2, .int .i64 x.f3, .int .i64 x.f4, .int .i64 x.f5, .int .i64 x.f6, .int .i64 x.f7, .slice A8 x.f8.length c8]] (by rfl) rfl rfl (by simp only [List.map_toArray, List.map_cons, List.map_nil]; first | rfl | go_simp) ?_
  refine (told_at (N := 8 + j) (by exact HBO.out.below (below_drew (Below.refl _ _))) HRL.out HSM.out HN.out (by exact below_drew HB.out) rfl dd n x A8 c8 HX20.out HC8.out.1 HC8.out.2).mono ?_
  rintro e w5 ⟨V2, X2, rfl, hrl, hsm, hbo, hbe⟩
  refine ⟨_, rfl, ?_⟩
  have HRL2 := Aside0.mk hrl
  have HSM2 := Aside0.mk hsm
  have HBO2 := Aside0.mk hbo
  have HB2 := Aside0.mk hbe
  clear hrl hsm hbo hbe
  obtain ⟨okb, okx, hb_, hx_, d1, d2, d3, d4⟩ := HBO2.out
  obtain ⟨x1, x2, x3, f, vr, vb, vs, hxc, hxr, hxB, hxg⟩ := hx_
  obtain ⟨Ar, cr, rfl⟩ := Kd.R_slice hxr
  obtain ⟨Ab, cb, rfl⟩ := Kd.S_slice hxB
  obtain ⟨Ag, cg, rfl⟩ := Kd.R_slice hxg
  have HXC := Aside0.mk hxc
  have HC3 := Aside0.mk (And.intro (Kd.R_reads' hxr).2.2 (Kd.R_reads' hxr).2.1)
  have HC4 : Aside0 ((Kd.slice 29 k29).C _ Ab X2.bl.length X2.bl ∧ X2.bl.length ≤ cb) := ⟨⟨kX_C (Kd.S_reads' hxB).2.2 HB2.out, (Kd.S_reads' hxB).2.1⟩⟩
  have HC5 := Aside0.mk (And.intro (Kd.R_reads' hxg).2.2 (Kd.R_reads' hxg).2.1)
  have HBT := Aside0.mk hb_
  clear hb_ d1 d2 d3 d4 x1 x2 x3 hxc hxr hxB hxg
  have hp0 : 0 ≤ X2.at_ := by have := HRL2.out.p0; rw [HRL2.out.pl] at this; exact this
  have hp1 : X2.at_ < (X2.bl.length : Int) := by have := HRL2.out.p1; rw [HRL2.out.pl, HRL2.out.bl] at this; exact this
  have hrl : (X2.bl.getD X2.at_.toNat []).length < 4611686018427387904 := by have := (HSM2.out.row X2.at_.toNat).1; have := HN.out; rw [← HRL2.out.bl]; omega
  have hov := over_val X2.nm X2.pa X2.rt X2.rg X2.bl X2.bg X2.at_ X2.at_ hp0 hp1 hrl
  have hop := HRL2.out.open_
  obtain ⟨ov, eo⟩ : ∃ o, overB (X2.bl.getD X2.at_.toNat []) = o := ⟨_, rfl⟩
  rw [eo] at hov hop
  have HOV := Aside0.mk hov
  have HOP := Aside0.mk hop
  have n1 : ((!ov) != (!ov)) = false := by cases ov <;> rfl
  have n2 : ((!ov) == (!ov)) = true := by cases ov <;> rfl
  clear hov hop eo hp0 hp1 hrl
  refine hK.out _ _ trivial (fun hHeld => ?_)
  refine last_swap (S' := fun w' => w'.cell? ⟨gx, 0, none⟩ = some (.string X2.nm) ∧ w'.cell? ⟨gx, 1, none⟩ = some (.int .i64 X2.pa) ∧ w'.cell? ⟨gx, 2, none⟩ = some (.int .i64 X2.rt) ∧ w'.cell? ⟨gx, 3, none⟩ = some (.slice Ar X2.rg.length cr) ∧ w'.cell? ⟨gx, 4, none⟩ = some (.slice Ab X2.bl.length cb) ∧ w'.cell? ⟨gx, 5, none⟩ = some (.slice Ag X2.bg.length cg) ∧ w'.cell? ⟨gx, 6, none⟩ = some (.int .i64 X2.at_)) (ds' := []) ?_
  have hHeld : w5.cell? ⟨gx, 0, none⟩ = some (.string X2.nm) ∧ w5.cell? ⟨gx, 1, none⟩ = some (.int .i64 X2.pa) ∧ w5.cell? ⟨gx, 2, none⟩ = some (.int .i64 X2.rt) ∧ w5.cell? ⟨gx, 3, none⟩ = some (.slice Ar X2.rg.length cr) ∧ w5.cell? ⟨gx, 4, none⟩ = some (.slice Ab X2.bl.length cb) ∧ w5.cell? ⟨gx, 5, none⟩ = some (.slice Ag X2.bg.length cg) ∧ w5.cell? ⟨gx, 6, none⟩ = some (.int .i64 X2.at_) := ⟨(blk_cell HXC.out 0).trans rfl, (blk_cell HXC.out 1).trans rfl, (blk_cell HXC.out 2).trans rfl, (blk_cell HXC.out 3).trans rfl, (blk_cell HXC.out 4).trans rfl, (blk_cell HXC.out 5).trans rfl, (blk_cell HXC.out 6).trans rfl⟩
  clear hK K
  refine norm_ (a' := ?_) ?_ ?_
  rotate_left
  ·show Act.put _ (some 81) _ = _
   simp only [Act.put, List.setIfInBounds_toArray, List.set_cons_zero, List.set_cons_succ, i64_w, i32_w]
   rfl
  refine pT 6 (some 82) (zb 17 127) (h := ?_)
  refine pT 7 (some 83) (zb 17 255) (h := ?_)
  refine pT 8 (some 84) (zb 17 511) (h := ?_)
  refine pT 11 (some 87) (zb 17 2559) (h := ?_)
  refine take_ (i := 10) (N := some 86) (v := ?_) (a' := ?_) (zb 17 3583) rfl rfl (by kernel_rfl) (fun _ _ _ h => h) (Or.inl ⟨by rfl, ?_⟩) hHeld ?_ ?_
  rotate_left
  ·rintro w' ⟨s0, s1, s2, s3, s4, s5, s6⟩
   go_simp
   with_reducible rfl
  rotate_left
  ·simp only [Act.put, List.setIfInBounds_toArray, List.set_cons_zero, List.set_cons_succ, i64_w, i32_w]
   rfl
  refine take_ (i := 12) (N := some 88) (v := ?_) (a' := ?_) (zb 17 7679) rfl rfl (by kernel_rfl) (fun _ _ _ h => h) (Or.inl ⟨by rfl, ?_⟩) hHeld ?_ ?_
  rotate_left
  ·rintro w' ⟨s0, s1, s2, s3, s4, s5, s6⟩
   go_simp
   with_reducible rfl
  rotate_left
  ·simp only [Act.put, List.setIfInBounds_toArray, List.set_cons_zero, List.set_cons_succ, i64_w, i32_w]
   rfl
  refine one_ (i := 9) (N := some 85) (zb 17 8191) rfl rfl (by kernel_rfl) (by decide) (fun K hK => ?_)
  refine goes_ Try.func26 (by kernel_rfl) rfl #[.pointer (some ⟨g, 0, none⟩)] (by rfl) rfl rfl (by simp only [List.map_toArray, List.map_cons, List.map_nil]; first | rfl | go_simp) ?_
  with_reducible refine (Open_b (V := V2) HBT.out HRL2.out.fit HOP.out).mono ?_
  rintro e w6 ⟨rfl, hb⟩
  refine ⟨_, rfl, ?_⟩
  have HBO3 := Aside0.mk (HBO2.out.below hb)
  have HB3 := Aside0.mk (below_step HB2.out hb)
  have HXC3 := Aside0.mk (blk_below HXC.out hb)
  have HC33 : Aside0 (_ ∧ _) := ⟨Kd.C_below HC3.out.1 hb, HC3.out.2⟩
  have HC43 : Aside0 (_ ∧ _) := ⟨Kd.C_below HC4.out.1 hb, HC4.out.2⟩
  have HC53 : Aside0 (_ ∧ _) := ⟨Kd.C_below HC5.out.1 hb, HC5.out.2⟩
  clear hb
  refine hK.out _ _ ⟨(blk_cell HXC3.out 0).trans rfl, (blk_cell HXC3.out 1).trans rfl, (blk_cell HXC3.out 2).trans rfl, (blk_cell HXC3.out 3).trans rfl, (blk_cell HXC3.out 4).trans rfl, (blk_cell HXC3.out 5).trans rfl, (blk_cell HXC3.out 6).trans rfl⟩ (fun hHeld => ?_)
  clear hK K
  refine norm_ (a' := ?_) ?_ ?_
  rotate_left
  ·show Act.put _ (some 85) _ = _
   simp only [Act.put, List.setIfInBounds_toArray, List.set_cons_zero, List.set_cons_succ, i64_w, i32_w]
   rfl
  refine one_ (i := 13) (N := some 89) (zb 17 16383) rfl rfl (by kernel_rfl) (by decide) (fun K hK => ?_)
  refine goes_ Try.func27 (by kernel_rfl) rfl #[.agg #[.string X2.nm, .int .i64 X2.pa, .int .i64 X2.rt, .slice Ar X2.rg.length cr, .slice Ab X2.bl.length cb, .slice Ag X2.bg.length cg, .int .i64 X2.at_], .int .i64 X2.at_] (by rfl) rfl rfl (by simp only [List.map_toArray, List.map_cons, List.map_nil]; first | rfl | go_simp) ?_
  with_reducible refine (balustraderef24_Over.calls X2.nm X2.pa X2.rt Ar cr X2.rg Ab cb X2.bl Ag cg X2.bg X2.at_ X2.at_ ov _ HC33.out.1 HC33.out.2 HC43.out.1 HC43.out.2 HC53.out.1 HC53.out.2 HOV.out).mono ?_
  rintro e w7 ⟨rfl, hb⟩
  refine ⟨_, rfl, ?_⟩
  have HBO4 := Aside0.mk (HBO3.out.below hb)
  have HB4 := Aside0.mk (below_step HB3.out hb)
  have HXC4 := Aside0.mk (blk_below HXC3.out hb)
  clear hb
  refine hK.out _ _ ⟨(blk_cell HXC4.out 0).trans rfl, (blk_cell HXC4.out 1).trans rfl, (blk_cell HXC4.out 2).trans rfl, (blk_cell HXC4.out 3).trans rfl, (blk_cell HXC4.out 4).trans rfl, (blk_cell HXC4.out 5).trans rfl, (blk_cell HXC4.out 6).trans rfl⟩ (fun hHeld => ?_)
  clear hK K
  refine norm_ (a' := ?_) ?_ ?_
  rotate_left
  ·show Act.put _ (some 89) _ = _
   simp only [Act.put, List.setIfInBounds_toArray, List.set_cons_zero, List.set_cons_succ, i64_w, i32_w]
   rfl
  refine pT 14 (some 90) (zb 17 32767) (h := ?_)
  refine pT 15 (some 91) (zb 17 65535) (h := ?_)
  refine pT 16 (some 92) (zb 17 131071) (h := ?_)
  refine done_ (by kernel_rfl) ?_
  clear hHeld n1 n2 HOV HOP HC33 HC43 HC53 HXC3 HXC4 HBO3 HB3 HXC HC3 HC4 HC5 HBT HBO2 HB2 y0 y1 y2 y3 y4 y5 y6 y7 y8 y9 y10 y10' r1 r2 s1 s2 HX20 HC8
  have hlen := HSM2.out.lens (show 8 + j + 1 < 500 by have := H60_.out; have := HLT.out; omega)
  have HLEN := Aside0.mk hlen
  have hlx : X2.rg.length < 4611686018427387904 ∧ X2.bl.length < 4611686018427387904 ∧ ∀ l ∈ X2.bl, l.length < 4611686018427387904 ∧ ∀ x ∈ l, x.f8.length < 4611686018427387904 := by
   rw [← HRL2.out.rg, ← HRL2.out.bl]
   exact ⟨by have := hlen.1; omega, by have := hlen.2.1; omega, fun l hl => ⟨by have := (hlen.2.2 l hl).1; omega, fun x hx => by have := (hlen.2.2 l hl).2 x hx; omega⟩⟩
  obtain ⟨kD, hD⟩ := (done_ev X2.nm X2.pa X2.rt X2.rg X2.bl X2.bg X2.at_ (by rw [HRL2.out.nb, HRL2.out.bl]) hlx.2.1 (fun l hl => (hlx.2.2 l hl).1)).rounds
  obtain ⟨kF, hF⟩ := (sameFunc_ev X2.nm X2.pa X2.rt X2.rg X2.bl hlx.1 hlx.2.1 hlx.2.2).rounds
  obtain ⟨kZ, hZ⟩ := (sameFunc_ev ⟨#[]⟩ 0 0 [] [] (by show 0 < 4611686018427387904; omega) (by show 0 < 4611686018427387904; omega) (fun l hl => by simp at hl)).rounds
  have HSF := Aside0.mk hF
  have HSZ := Aside0.mk hZ
  have hdv : doneB V2 = doneX X2 := HRL2.out.done
  obtain ⟨dn, edn⟩ : ∃ b, doneX X2 = b := ⟨_, rfl⟩
  have HDN := Aside0.mk (hD.trans (congrArg some edn))
  rw [edn] at hdv
  have HDV := Aside0.mk hdv
  obtain ⟨okb, okx, hb_, _⟩ := HBO4.out
  have HBT := Aside0.mk hb_
  clear hlen hlx hD hF hZ hdv edn hb_
  cases dn with
  | false =>
   go_upto_region 15 with ((go_at_call 13; ((refine (Func_bad (V := V2) HBT.out HRL2.out.fit HDV.out).mono ?_); rintro e w8 ⟨rfl, hb⟩; have HBO5 := Aside0.mk (HBO4.out.below hb); have HB5 := Aside0.mk (below_step HB4.out hb); clear hb)))
   have BF := Aside0.mk (blk_new w8 (.cells #[.string ⟨#[]⟩, .int .i64 0, .int .i64 0, .slice none 0 0, .slice none 0 0] 32))
   have HBO6 := Aside0.mk (HBO5.out.below (below_alloc (Below.refl _ _) (.cells #[.string ⟨#[]⟩, .int .i64 0, .int .i64 0, .slice none 0 0, .slice none 0 0] 32)))
   have HB6 := Aside0.mk (below_alloc HB5.out (.cells #[.string ⟨#[]⟩, .int .i64 0, .int .i64 0, .slice none 0 0, .slice none 0 0] 32))
   skip
   generalize w8.alloc (.cells #[.string ⟨#[]⟩, .int .i64 0, .int .i64 0, .slice none 0 0, .slice none 0 0] 32) = W8 at BF HBO6 HB6  ⊢
   clear HBO5 HB5 HBO4 HB4
   obtain ⟨okb, okx, hb_, hx_, d1, d2, d3, d4⟩ := HBO6.out
   obtain ⟨x1, x2, x3, f, vr, vb, vs, hxc, hxr, hxB, hxg⟩ := hx_
   obtain ⟨Ar, cr, rfl⟩ := Kd.R_slice hxr
   obtain ⟨Ab, cb, rfl⟩ := Kd.S_slice hxB
   obtain ⟨Ag, cg, rfl⟩ := Kd.R_slice hxg
   have HXC := Aside0.mk hxc
   have HC3 := Aside0.mk (And.intro (Kd.R_reads' hxr).2.2 (Kd.R_reads' hxr).2.1)
   have HC4 : Aside0 ((Kd.slice 29 k29).C _ Ab X2.bl.length X2.bl ∧ X2.bl.length ≤ cb) := ⟨⟨kX_C (Kd.S_reads' hxB).2.2 HB6.out, (Kd.S_reads' hxB).2.1⟩⟩
   have HC5 := Aside0.mk (And.intro (Kd.R_reads' hxg).2.2 (Kd.R_reads' hxg).2.1)
   clear hb_ d1 d2 d3 d4 x1 x2 x3 hxc hxr hxB hxg
   have c0 := blk_cell HXC.out 0
   have c1 := blk_cell HXC.out 1
   have c2 := blk_cell HXC.out 2
   have c3 := blk_cell HXC.out 3
   have c4 := blk_cell HXC.out 4
   have c5 := blk_cell HXC.out 5
   have c6 := blk_cell HXC.out 6
   simp only [List.getElem?_toArray, List.getElem?_cons_zero, List.getElem?_cons_succ] at c0 c1 c2 c3 c4 c5 c6
   have b0 := blk_cell BF.out 0
   have b1 := blk_cell BF.out 1
   have b2 := blk_cell BF.out 2
   have b3 := blk_cell BF.out 3
   have b4 := blk_cell BF.out 4
   simp only [List.getElem?_toArray, List.getElem?_cons_zero, List.getElem?_cons_succ] at b0 b1 b2 b3 b4
   go_wp2_with (first | (go_at_call 28; ((refine (balustraderef24_Done.calls kD X2.nm X2.pa X2.rt Ar cr X2.rg Ab cb X2.bl Ag cg X2.bg X2.at_ _ _ HC3.out.1 HC3.out.2 HC4.out.1 HC4.out.2 HC5.out.1 HC5.out.2 HDN.out).mono ?_); rintro e w9 ⟨rfl, hb⟩; have HBO9 := Aside0.mk (HBO6.out.below hb); have HB9 := Aside0.mk (below_step HB6.out hb); have HXC9 := Aside0.mk (blk_below HXC.out hb); have BF9 := Aside0.mk (blk_below BF.out hb); clear hb c0 c1 c2 c3 c4 c5 c6 b0 b1 b2 b3 b4; have c0 := blk_cell HXC9.out 0; have c1 := blk_cell HXC9.out 1; have c2 := blk_cell HXC9.out 2; have c3 := blk_cell HXC9.out 3; have c4 := blk_cell HXC9.out 4; have c5 := blk_cell HXC9.out 5; have c6 := blk_cell HXC9.out 6; have b0 := blk_cell BF9.out 0; have b1 := blk_cell BF9.out 1; have b2 := blk_cell BF9.out 2; have b3 := blk_cell BF9.out 3; have b4 := blk_cell BF9.out 4; simp only [List.getElem?_toArray, List.getElem?_cons_zero, List.getElem?_cons_succ] at c0 c1 c2 c3 c4 c5 c6 b0 b1 b2 b3 b4)) | (go_at_call 29; ((refine (balustradebase_SameFunc.calls kZ ⟨#[]⟩ 0 0 none 0 [] none 0 [] ⟨#[]⟩ 0 0 none 0 [] none 0 [] true _ (Kd.C_nil _ _) (Nat.le_refl _) (Kd.C_nil _ _) (Nat.le_refl _) (Kd.C_nil _ _) (Nat.le_refl _) (Kd.C_nil _ _) (Nat.le_refl _) HSZ.out).mono ?_); rintro e w10 ⟨rfl, hb⟩; have HBOx := Aside0.mk (HBO9.out.below hb); have HBx := Aside0.mk (below_step HB9.out hb); clear hb)))
   go_roundw
   case rel => exact ⟨j + 1, V2, X2, by first | (rw [HWR.out]; done) | (rw [HWR.out]) | go_num, ⟨by have := HLT.out; omega⟩, HRL2, HSM2, HBOx, HBx⟩
   case measure => exact bd_meas _ _ _ (by first | exact HWR.out | omega) HLT.out
  | true =>
   go_upto_region 15 with ((go_at_call 13; ((refine (Func_at (V := V2) HBT.out HRL2.out.fit HDV.out HLEN.out).mono ?_); rintro e w8 ⟨vr2, vb2, sR, he, hr, hS, hb⟩; rw [HRL2.out.nm, HRL2.out.pa, HRL2.out.rt] at he; rw [HRL2.out.rg] at hr; rw [HRL2.out.bl] at hS; obtain ⟨Ar2, cr2, rfl⟩ := Kd.R_slice hr; obtain ⟨Ab2, cb2, rfl⟩ := Kd.S_slice hS; subst he; have HF3 := Aside0.mk (And.intro (Kd.R_reads' hr).2.2 (Kd.R_reads' hr).2.1); have HF4 : Aside0 ((Kd.slice 29 k29).C w8 Ab2 X2.bl.length X2.bl ∧ X2.bl.length ≤ cb2) := ⟨⟨(Kd.S_reads' hS).2.2, (Kd.S_reads' hS).2.1⟩⟩; have HBO5 := Aside0.mk (HBO4.out.below hb); have HB5 := Aside0.mk (below_step HB4.out hb); clear hb hr hS)))
   have BF := Aside0.mk (blk_new w8 (.cells #[.string X2.nm, .int .i64 X2.pa, .int .i64 X2.rt, .slice Ar2 X2.rg.length cr2, .slice Ab2 X2.bl.length cb2] 32))
   have HBO6 := Aside0.mk (HBO5.out.below (below_alloc (Below.refl _ _) (.cells #[.string X2.nm, .int .i64 X2.pa, .int .i64 X2.rt, .slice Ar2 X2.rg.length cr2, .slice Ab2 X2.bl.length cb2] 32)))
   have HB6 := Aside0.mk (below_alloc HB5.out (.cells #[.string X2.nm, .int .i64 X2.pa, .int .i64 X2.rt, .slice Ar2 X2.rg.length cr2, .slice Ab2 X2.bl.length cb2] 32))
   have HF33 := Aside0.mk (And.intro (Kd.C_alloc HF3.out.1 (.cells #[.string X2.nm, .int .i64 X2.pa, .int .i64 X2.rt, .slice Ar2 X2.rg.length cr2, .slice Ab2 X2.bl.length cb2] 32)) HF3.out.2)
   have HF43 : Aside0 ((Kd.slice 29 k29).C _ Ab2 X2.bl.length X2.bl ∧ X2.bl.length ≤ cb2) := ⟨⟨Kd.C_alloc HF4.out.1 (.cells #[.string X2.nm, .int .i64 X2.pa, .int .i64 X2.rt, .slice Ar2 X2.rg.length cr2, .slice Ab2 X2.bl.length cb2] 32), HF4.out.2⟩⟩
   clear HF3 HF4
   generalize w8.alloc (.cells #[.string X2.nm, .int .i64 X2.pa, .int .i64 X2.rt, .slice Ar2 X2.rg.length cr2, .slice Ab2 X2.bl.length cb2] 32) = W8 at BF HBO6 HB6 HF33 HF43 ⊢
   clear HBO5 HB5 HBO4 HB4
   obtain ⟨okb, okx, hb_, hx_, d1, d2, d3, d4⟩ := HBO6.out
   obtain ⟨x1, x2, x3, f, vr, vb, vs, hxc, hxr, hxB, hxg⟩ := hx_
   obtain ⟨Ar, cr, rfl⟩ := Kd.R_slice hxr
   obtain ⟨Ab, cb, rfl⟩ := Kd.S_slice hxB
   obtain ⟨Ag, cg, rfl⟩ := Kd.R_slice hxg
   have HXC := Aside0.mk hxc
   have HC3 := Aside0.mk (And.intro (Kd.R_reads' hxr).2.2 (Kd.R_reads' hxr).2.1)
   have HC4 : Aside0 ((Kd.slice 29 k29).C _ Ab X2.bl.length X2.bl ∧ X2.bl.length ≤ cb) := ⟨⟨kX_C (Kd.S_reads' hxB).2.2 HB6.out, (Kd.S_reads' hxB).2.1⟩⟩
   have HC5 := Aside0.mk (And.intro (Kd.R_reads' hxg).2.2 (Kd.R_reads' hxg).2.1)
   clear hb_ d1 d2 d3 d4 x1 x2 x3 hxc hxr hxB hxg
   have c0 := blk_cell HXC.out 0
   have c1 := blk_cell HXC.out 1
   have c2 := blk_cell HXC.out 2
   have c3 := blk_cell HXC.out 3
   have c4 := blk_cell HXC.out 4
   have c5 := blk_cell HXC.out 5
   have c6 := blk_cell HXC.out 6
   simp only [List.getElem?_toArray, List.getElem?_cons_zero, List.getElem?_cons_succ] at c0 c1 c2 c3 c4 c5 c6
   have b0 := blk_cell BF.out 0
   have b1 := blk_cell BF.out 1
   have b2 := blk_cell BF.out 2
   have b3 := blk_cell BF.out 3
   have b4 := blk_cell BF.out 4
   simp only [List.getElem?_toArray, List.getElem?_cons_zero, List.getElem?_cons_succ] at b0 b1 b2 b3 b4
   go_wp2_with (first | (go_at_call 28; ((refine (balustraderef24_Done.calls kD X2.nm X2.pa X2.rt Ar cr X2.rg Ab cb X2.bl Ag cg X2.bg X2.at_ _ _ HC3.out.1 HC3.out.2 HC4.out.1 HC4.out.2 HC5.out.1 HC5.out.2 HDN.out).mono ?_); rintro e w9 ⟨rfl, hb⟩; have HBO9 := Aside0.mk (HBO6.out.below hb); have HB9 := Aside0.mk (below_step HB6.out hb); have HXC9 := Aside0.mk (blk_below HXC.out hb); have BF9 := Aside0.mk (blk_below BF.out hb); have HC39 : Aside0 (_ ∧ _) := ⟨Kd.C_below HC3.out.1 hb, HC3.out.2⟩; have HC49 : Aside0 (_ ∧ _) := ⟨Kd.C_below HC4.out.1 hb, HC4.out.2⟩; have HF339 : Aside0 (_ ∧ _) := ⟨Kd.C_below HF33.out.1 hb, HF33.out.2⟩; have HF439 : Aside0 (_ ∧ _) := ⟨Kd.C_below HF43.out.1 hb, HF43.out.2⟩; clear hb c0 c1 c2 c3 c4 c5 c6 b0 b1 b2 b3 b4; have c0 := blk_cell HXC9.out 0; have c1 := blk_cell HXC9.out 1; have c2 := blk_cell HXC9.out 2; have c3 := blk_cell HXC9.out 3; have c4 := blk_cell HXC9.out 4; have c5 := blk_cell HXC9.out 5; have c6 := blk_cell HXC9.out 6; have b0 := blk_cell BF9.out 0; have b1 := blk_cell BF9.out 1; have b2 := blk_cell BF9.out 2; have b3 := blk_cell BF9.out 3; have b4 := blk_cell BF9.out 4; simp only [List.getElem?_toArray, List.getElem?_cons_zero, List.getElem?_cons_succ] at c0 c1 c2 c3 c4 c5 c6 b0 b1 b2 b3 b4)) | (go_at_call 29; ((refine (balustradebase_SameFunc.calls kF X2.nm X2.pa X2.rt Ar2 cr2 X2.rg Ab2 cb2 X2.bl X2.nm X2.pa X2.rt Ar cr X2.rg Ab cb X2.bl true _ HF339.out.1 HF339.out.2 HF439.out.1 HF439.out.2 HC39.out.1 HC39.out.2 HC49.out.1 HC49.out.2 HSF.out).mono ?_); rintro e w10 ⟨rfl, hb⟩; have HBOx := Aside0.mk (HBO9.out.below hb); have HBx := Aside0.mk (below_step HB9.out hb); clear hb)))
   go_roundw
   case rel => exact ⟨j + 1, V2, X2, by first | (rw [HWR.out]; done) | (rw [HWR.out]) | go_num, ⟨by have := HLT.out; omega⟩, HRL2, HSM2, HBOx, HBx⟩
   case measure => exact bd_meas _ _ _ (by first | exact HWR.out | omega) HLT.out
end Go.Proofs.Ytomopjomapkmjaa.B

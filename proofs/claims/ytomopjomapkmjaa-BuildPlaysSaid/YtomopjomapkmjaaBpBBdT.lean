/- A part of it. -/
import Derived.Test.YtomopjomapkmjaaBpZ
import Derived.Test.YtomopjomapkmjaaBpBBdS
import Derived.Test.YtomopjomapkmjaaBpB6
import Derived.Outline
set_option linter.unusedVariables false
set_option linter.unusedSimpArgs false
namespace Go.Proofs.Ytomopjomapkmjaa.B
open Go Go.RowKit Go.Proofs.YtomopjomapkmjaaW.PrintWords Go.Proofs.YtomopjomapkmjaaW.PrintLast Go.Proofs.YtomopjomapkmjaaW.PrintMore Go.Proofs.Ytomopjomapkmjaa.Pure
attribute [local go_sem] max2_int min2_int max_two min_two
def Both (w0 : World) (base : Nat) (W : World) (g gx : Nat) (V : BV) (X : XV) : Prop :=
 ∃ okb okx : Nat → Prop, BAt base okb W g V ∧ XAt w0 base okx W gx X ∧ g ≠ gx ∧ ¬ okx g ∧ ¬ okb gx ∧ ∀ k, okb k → ¬ okx k
section
variable {w0 w W w' : World} {base g gx : Nat} {okb okx : Nat → Prop} {V V' : BV} {X X' : XV}
theorem both_b (hb : BAt base okb W g V) (hx : XAt w0 base okx W gx X) (h1 : g ≠ gx) (h2 : ¬ okx g) (h3 : ¬ okb gx) (h4 : ∀ k, okb k → ¬ okx k) (ht : Turned base okb W w' g V') : Both w0 base w' g gx V' X := by
 obtain ⟨hk, ok', hok, hb'⟩ := ht
 have hlt := fun k hk' => (hx.2.2.1 k hk').2
 refine ⟨ok', okx, hb', hx.kept hk (fun h => ?_) (fun k hk' h => ?_), h1, h2, fun h => ?_, fun k h hk' => ?_⟩
 ·rcases h with h | h
  ·exact h1 h.symm
  ·exact h3 h
 ·rcases h with h | h
  ·exact h2 (h ▸ hk')
  ·exact h4 k h hk'
 ·rcases hok gx h with h | h
  ·exact h3 h
  ·have := hx.lt; omega
 ·rcases hok k h with h | h
  ·exact h4 k h hk'
  ·have := hlt k hk'; omega
theorem both_x (hb : BAt base okb W g V) (hx : XAt w0 base okx W gx X) (h1 : g ≠ gx) (h2 : ¬ okx g) (h3 : ¬ okb gx) (h4 : ∀ k, okb k → ¬ okx k) (ht : XTurned w0 base okx W w' gx X') : Both w0 base w' g gx V X' := by
 obtain ⟨hk, ok', hok, hx'⟩ := ht
 have hlt := fun k hk' => (hb.2.2.1 k hk').2
 refine ⟨okb, ok', hb.kept hk (fun h => ?_) (fun k hk' h => ?_), hx', h1, fun h => ?_, h3, fun k hk' h => ?_⟩
 ·rcases h with h | h
  ·exact h1 h
  ·exact h2 h
 ·rcases h with h | h
  ·exact h3 (h ▸ hk')
  ·exact h4 k hk' h
 ·rcases hok g h with h | h
  ·exact h2 h
  ·have := hb.lt; omega
 ·rcases hok k h with h | h
  ·exact h4 k hk' h
  ·have := hlt k hk'; omega
theorem Both.below (h : Both w0 base W g gx V X) (hb : Below W.heap.size W w') : Both w0 base w' g gx V X := by
 obtain ⟨okb, okx, h1, h2, h3⟩ := h
 exact ⟨okb, okx, h1.below hb, h2.below hb, h3⟩
end
def Small (N : Nat) (V : BV) : Prop := V.rg.length ≤ N ∧ V.bl.length ≤ N ∧ ∀ l ∈ V.bl, l.length ≤ N ∧ ∀ x ∈ l, x.f8.length ≤ 20
theorem Small.row {N : Nat} {V : BV} (h : Small N V) (i : Nat) : (V.bl.getD i []).length ≤ N ∧ ∀ x ∈ V.bl.getD i [], x.f8.length ≤ 20 := by
 by_cases hi : i < V.bl.length
 ·rw [List.getD_eq_getElem?_getD, List.getElem?_eq_getElem hi]
  exact h.2.2 _ (List.getElem_mem hi)
 ·rw [List.getD_eq_getElem?_getD, List.getElem?_eq_none (by omega)]
  exact ⟨Nat.zero_le _, fun x hx => by simp at hx⟩
theorem Small.up {N : Nat} {V : BV} (h : Small N V) : Small (N + 1) V := ⟨Nat.le_succ_of_le h.1, Nat.le_succ_of_le h.2.1, fun l hl => ⟨Nat.le_succ_of_le (h.2.2 l hl).1, (h.2.2 l hl).2⟩⟩
theorem Small.reg {N : Nat} {V : BV} (h : Small N V) (k : Int) : Small (N + 1) ⟨V.nm, V.pa, V.rt, V.rg ++ [k], V.bl, V.st, V.at_⟩ :=
 ⟨by have := h.1; simp; omega, h.up.2.1, h.up.2.2⟩
theorem Small.block {N : Nat} {V : BV} (h : Small N V) (s : List Int) : Small (N + 1) ⟨V.nm, V.pa, V.rt, V.rg, V.bl ++ [[]], s, V.at_⟩ :=
 ⟨h.up.1, by have := h.2.1; simp; omega, fun l hl => by
  rcases List.mem_append.1 hl with hl | hl
  ·exact h.up.2.2 l hl
  ·rw [List.mem_singleton] at hl
   subst hl
   exact ⟨Nat.zero_le _, fun x hx => by simp at hx⟩⟩
theorem Small.put {N : Nat} {V : BV} (h : Small N V) (x : S29) (hx : x.f8.length ≤ 20) (e : Bool) : Small (N + 1) (putV V x e) :=
 ⟨h.up.1, by show (V.bl.set _ _).length ≤ N + 1; rw [List.length_set]; exact h.up.2.1, fun l hl => by
  have hl' : l ∈ V.bl.set V.at_.toNat (V.bl.getD V.at_.toNat [] ++ [x]) := hl
  rcases List.mem_or_eq_of_mem_set hl' with hl | hl
  ·exact h.up.2.2 l hl
  ·subst hl
   have hr := h.row V.at_.toNat
   refine ⟨by rw [List.length_append, List.length_singleton]; exact Nat.succ_le_succ hr.1, fun y hy => ?_⟩
   rcases List.mem_append.1 hy with hy | hy
   ·exact hr.2 y hy
   ·rw [List.mem_singleton] at hy
    subst hy
    exact hx⟩
theorem info4 : (Try.prog.info? 4).map (fun i => (i.zero, i.size, i.bytes)) = some (some (.bool false), 1, 1) := by kernel_rfl
def ToldEnd (w0 : World) (base g gx N : Nat) (e : Ending) (w' : World) : Prop := ∃ V' X', e = .returned (.bool true) ∧ Rel V' X' ∧ Small (N + 1) V' ∧ Both w0 base w' g gx V' X' ∧ Below base w0 w'
set_option maxHeartbeats 16000000 in
set_option maxRecDepth 100000 in
theorem told_reg {w0 w : World} {base g gx N : Nat} {V : BV} {X : XV} (hB : Both w0 base w g gx V X) (hR : Rel V X) (hS : Small N V) (hN : N < 500) (hW : Below base w0 w) (hb0 : base = w0.heap.size) (dd n : Int) (x : S29) (A8 : Option Addr) (c8 : Nat) (hx8 : x.f8.length ≤ 20) (hC : (Kd.int .i64).C w0 A8 x.f8.length x.f8) (hc8 : x.f8.length ≤ c8) (hd : dd = 0) :
  Calls Try.prog 25 #[.pointer (some ⟨g, 0, none⟩), .pointer (some ⟨gx, 0, none⟩), .agg #[.int .i64 dd, .int .i64 n, .int .i64 x.f0, .int .i64 x.f1, .int .i64 x.f2, .int .i64 x.f3, .int .i64 x.f4, .int .i64 x.f5, .int .i64 x.f6, .int .i64 x.f7, .slice A8 x.f8.length c8]] w (ToldEnd w0 base g gx N) := by
 subst hb0
 have HBO := Aside0.mk (hB.below (below_alloc (Below.refl w.heap.size w) (.cells #[.int .i64 dd, .int .i64 n, .int .i64 x.f0, .int .i64 x.f1, .int .i64 x.f2, .int .i64 x.f3, .int .i64 x.f4, .int .i64 x.f5, .int .i64 x.f6, .int .i64 x.f7, .slice A8 x.f8.length c8] 54)))
 have BK := Aside0.mk (blk_new w (.cells #[.int .i64 dd, .int .i64 n, .int .i64 x.f0, .int .i64 x.f1, .int .i64 x.f2, .int .i64 x.f3, .int .i64 x.f4, .int .i64 x.f5, .int .i64 x.f6, .int .i64 x.f7, .slice A8 x.f8.length c8] 54))
 have HW := Aside0.mk (below_alloc hW (.cells #[.int .i64 dd, .int .i64 n, .int .i64 x.f0, .int .i64 x.f1, .int .i64 x.f2, .int .i64 x.f3, .int .i64 x.f4, .int .i64 x.f5, .int .i64 x.f6, .int .i64 x.f7, .slice A8 x.f8.length c8] 54))
 have HZ : Aside0 (w0.heap.size ≤ w.heap.size) := ⟨hW.size⟩
 have HRL := Aside0.mk hR
 have HSM := Aside0.mk hS
 have HNN := Aside0.mk hN
 have HC8 := Aside0.mk (And.intro hC (And.intro hc8 hx8))
 clear hB hR hS hN hW hC hc8 hx8
 subst hd
 obtain ⟨kK, hK⟩ := (kinds_ev [n] (by show 1 < 4611686018427387904; omega)).rounds
 rw [kinds_one] at hK
 have k0 := blk_cell BK.out 0
 have k1 := blk_cell BK.out 1
 simp only [List.getElem?_toArray, List.getElem?_cons_zero, List.getElem?_cons_succ] at k0 k1
 by_cases hk : kindB n = true
 ·rw [hk] at hK
  have HK := Aside0.mk hK
  have HKD := Aside0.mk hk
  clear hK hk
  go_enter Try.func25, Try.ntmps25
  go_upto_region 5 with ((go_at_call 24; ((refine (balustraderef24_Kinds.calls kK (some ⟨w.heap.size + 1, 0, none⟩) 1 [n] true _ (by simpa using C_one (blk_new (w.alloc (.cells #[.int .i64 0, .int .i64 n, .int .i64 x.f0, .int .i64 x.f1, .int .i64 x.f2, .int .i64 x.f3, .int .i64 x.f4, .int .i64 x.f5, .int .i64 x.f6, .int .i64 x.f7, .slice A8 x.f8.length c8] 54)) (.cells #[.int .i64 n] 3))) (Nat.le_refl _) HK.out).mono ?_); rintro e w2 ⟨rfl, hd⟩; have hb := below_step (below_alloc (Below.refl (w.alloc (.cells #[.int .i64 0, .int .i64 n, .int .i64 x.f0, .int .i64 x.f1, .int .i64 x.f2, .int .i64 x.f3, .int .i64 x.f4, .int .i64 x.f5, .int .i64 x.f6, .int .i64 x.f7, .slice A8 x.f8.length c8] 54)).heap.size (w.alloc (.cells #[.int .i64 0, .int .i64 n, .int .i64 x.f0, .int .i64 x.f1, .int .i64 x.f2, .int .i64 x.f3, .int .i64 x.f4, .int .i64 x.f5, .int .i64 x.f6, .int .i64 x.f7, .slice A8 x.f8.length c8] 54))) (.cells #[.int .i64 n] 3)) hd.below; replace HBO := Aside0.mk (HBO.out.below hb); replace BK := Aside0.mk (blk_below BK.out hb); replace HW := Aside0.mk (below_step HW.out hb); clear hd hb)))
  clear k0 k1
  obtain ⟨okb, okx, hb_, hx_, d1, d2, d3, d4⟩ := HBO.out
  have hx2 := hx_
  obtain ⟨x1, x2, x3, f, vr, vb, vs, hxc, hxr, hxB, hxg⟩ := hx2
  obtain ⟨Ar, cr, rfl⟩ := Kd.R_slice hxr
  have HE := Aside0.mk (fun (w1 : World) (v1 : Value) => xt_rg (w1 := w1) (v1 := v1) (x1 := X.rg ++ [n]) x1 x2 x3 hxc hxr hxB hxg)
  have HN1 : Aside0 (some gx ≠ (Value.slice Ar X.rg.length cr).ownBlock) := ⟨fun e => x2 (hxr.1 gx e.symm).1⟩
  have HN2 : Aside0 (∀ k, (Value.slice Ar X.rg.length cr).ownBlock = some k → k ≠ w.heap.size) := ⟨fun k e e2 => by subst e2; exact absurd (blk_ne (Kd.R_typed hxr _ e).choose_spec BK.out (by decide)) (fun h => h rfl)⟩
  have HXR := Aside0.mk hxr
  have HXC := Aside0.mk hxc
  have HBX := Aside0.mk (And.intro hb_ (And.intro hx_ (And.intro d1 (And.intro d2 (And.intro d3 d4)))))
  have HG := Aside0.mk x1
  have hln : X.rg.length < 1000000 := by have := HSM.out.1; have := HNN.out; rw [← HRL.out.rg]; omega
  have HLN := Aside0.mk hln
  have k0 := blk_cell BK.out 0
  have k1 := blk_cell BK.out 1
  simp only [List.getElem?_toArray, List.getElem?_cons_zero, List.getElem?_cons_succ] at k0 k1
  have c3 := blk_cell HXC.out 3
  simp only [List.getElem?_toArray, List.getElem?_cons_zero, List.getElem?_cons_succ] at c3
  clear hxr hxc hxB hxg hx_ hb_ d1 d2 d3 d4 x1 x2 x3 HBO hln
  go_upto_region 6 with (fail)
  refine start_ (n := 14) (S := fun w' => w'.cell? ⟨gx, 3, none⟩ = some (.slice Ar X.rg.length cr) ∧ w'.cell? ⟨w.heap.size, 1, none⟩ = some (.int .i64 n)) (ds := [13]) #[false, false, false, false, false, false, false, false, false, false, false, false, false, false] (by kernel_rfl) rfl rfl ⟨c3, k1⟩ (fun hHeld => ?_)
  refine pT 0 (some 24) (zb 14 1) (h := ?_)
  refine pT 1 (some 25) (zb 14 3) (h := ?_)
  refine pT 2 (some 26) (zb 14 7) (h := ?_)
  refine pT 3 (some 27) (zb 14 15) (h := ?_)
  refine pT 4 (some 28) (zb 14 31) (h := ?_)
  refine pT 6 (some 30) (zb 14 95) (h := ?_)
  refine take_ (i := 5) (N := some 29) (v := ?_) (a' := ?_) (zb 14 127) rfl rfl (by kernel_rfl) (fun _ _ _ h => h) (Or.inl ⟨by rfl, ?_⟩) hHeld ?_ ?_
  rotate_left
  ·rintro w' ⟨s0, s1⟩
   go_simp
   with_reducible rfl
  rotate_left
  ·simp only [Act.put, List.setIfInBounds_toArray, List.set_cons_zero, List.set_cons_succ, i64_w, i32_w]
   rfl
  refine take_ (i := 7) (N := some 31) (v := ?_) (a' := ?_) (zb 14 255) rfl rfl (by kernel_rfl) (fun _ _ _ h => h) (Or.inl ⟨by rfl, ?_⟩) hHeld ?_ ?_
  rotate_left
  ·rintro w' ⟨s0, s1⟩
   go_simp
   with_reducible rfl
  rotate_left
  ·simp only [Act.put, List.setIfInBounds_toArray, List.set_cons_zero, List.set_cons_succ, i64_w, i32_w]
   rfl
  refine one_ (i := 8) (N := some 32) (zb 14 511) rfl rfl (by kernel_rfl) (by decide) (fun K hK => ?_)
  refine value_ (w1 := ?_) (v := ?_) (by rfl) rfl ?_ ?_
  rotate_left 2
  ·go_simp
   constructor
   ·rfl
   ·rfl
  refine hK.out _ _ ⟨(blk_cell (blk_alloc HXC.out _) 3).trans rfl, (blk_cell (blk_alloc BK.out _) 1).trans rfl⟩ (fun hHeld => ?_)
  clear hK K
  refine norm_ (a' := ?_) ?_ ?_
  rotate_left
  ·show Act.put _ (some 32) _ = _
   simp only [Act.put, List.setIfInBounds_toArray, List.set_cons_zero, List.set_cons_succ, i64_w, i32_w]
   rfl
  refine one_ (i := 9) (N := some 33) (zb 14 1023) rfl rfl (by kernel_rfl) (by decide) (fun K hK => ?_)
  refine R_append_at (Kd.int .i64) (w0 := w0) w0.heap.size (by rfl) (.tmp 29) (.tmp 32) 22 3 (.int .i64 0) 8 (by rfl) Try.underlying22 info3 rfl (by decide) (by omega) (.slice Ar X.rg.length cr) X.rg n [.int .i64 n] (fun k => (okx k ∧ f k = 0) ∨ w2.heap.size ≤ k) (fun _ => False) (by rfl) _ (by rfl) (by repeat (first | (with_reducible exact blk_new _ _) | (with_reducible refine blk_drew ?_))) rfl (fun _ hk => hk.elim) (fun k hk => .inr (by first | exact hk | (simp at hk; omega))) (by exact Kd.R_alloc (Kd.R_mono HXR.out (fun _ hk => .inl hk)) _) (by repeat (first | (with_reducible exact HW.out) | (with_reducible refine below_alloc ?_ _) | (with_reducible refine below_drew ?_))) (by have := HW.out.size; first | exact this | (simp; omega)) (by have := HLN.out; omega) ?_
  intro v1 w5 ho hb hg hat
  obtain ⟨A1, c1_, rfl⟩ := Kd.R_slice ho
  have HGR : Aside0 (w2.grownBy w5 (Value.slice Ar X.rg.length cr).ownBlock) := ⟨(grown_of_below (by repeat (first | (with_reducible exact Below.refl _ _) | (with_reducible refine below_alloc ?_ _) | (with_reducible refine below_drew ?_))) _).trans hg⟩
  have HC5 : Aside0 (w5.heap[gx]? = some (.cells #[.string X.nm, .int .i64 X.pa, .int .i64 X.rt, .slice Ar X.rg.length cr, vb, vs, .int .i64 X.at_] 52 (0, 0))) := ⟨blk_grown (by exact blk_alloc HXC.out _) hg HN1.out⟩
  have BK5 : Aside0 (w5.heap[w.heap.size]? = some (.cells #[.int .i64 0, .int .i64 n, .int .i64 x.f0, .int .i64 x.f1, .int .i64 x.f2, .int .i64 x.f3, .int .i64 x.f4, .int .i64 x.f5, .int .i64 x.f6, .int .i64 x.f7, .slice A8 x.f8.length c8] 54 (0, 0))) := ⟨blk_grown (by exact blk_alloc BK.out _) hg (fun e => HN2.out _ e.symm rfl)⟩
  have HO5 := Aside0.mk ho
  have HB5 := Aside0.mk hb
  have z3 := blk_frozen HC5.out 3
  have c3_ := blk_cell HC5.out 3
  simp only [List.getElem?_toArray, List.getElem?_cons_zero, List.getElem?_cons_succ] at c3_
  clear ho hb hg hat
  refine hK.out _ _ ⟨(blk_cell HC5.out 3).trans rfl, (blk_cell BK5.out 1).trans rfl⟩ (fun hHeld => ?_)
  clear hK K
  refine norm_ (a' := ?_) ?_ ?_
  rotate_left
  ·show Act.put _ (some 33) _ = _
   simp only [Act.put, List.setIfInBounds_toArray, List.set_cons_zero, List.set_cons_succ, i64_w, i32_w]
   rfl
  refine pT 10 (some 34) (zb 14 2047) (h := ?_)
  refine pT 11 (some 35) (zb 14 4095) (h := ?_)
  refine pT 12 (some 36) (zb 14 8191) (h := ?_)
  refine last_ (i := 13) (N := none) (zb 14 16383) rfl rfl (by kernel_rfl) (by decide) (fun K hK => ?_)
  refine skip_ (w1 := ?_) (by rfl) rfl ?_ ?_
  rotate_left
  ·go_simp
   rfl
  refine hK.out _ _ ?_
  clear hK K
  refine done_ (by kernel_rfl) ?_
  have HT := Aside0.mk (HE.out w5 (.slice A1 (X.rg ++ [n]).length c1_) HO5.out HGR.out HGR.out.size)
  obtain ⟨row2, er2⟩ : ∃ r, X.rg ++ [n] = r := ⟨_, rfl⟩
  have HBO : Aside0 (Both w0 w0.heap.size (w5.setCell ⟨gx, 3, none⟩ (.slice A1 (X.rg ++ [n]).length c1_)) g gx V ⟨X.nm, X.pa, X.rt, X.rg ++ [n], X.bl, X.bg, X.at_⟩) := ⟨both_x HBX.out.1 HBX.out.2.1 HBX.out.2.2.1 HBX.out.2.2.2.1 HBX.out.2.2.2.2.1 HBX.out.2.2.2.2.2 HT.out⟩
  have BK6 : Aside0 ((w5.setCell ⟨gx, 3, none⟩ (.slice A1 (X.rg ++ [n]).length c1_)).heap[w.heap.size]? = some (.cells #[.int .i64 0, .int .i64 n, .int .i64 x.f0, .int .i64 x.f1, .int .i64 x.f2, .int .i64 x.f3, .int .i64 x.f4, .int .i64 x.f5, .int .i64 x.f6, .int .i64 x.f7, .slice A8 x.f8.length c8] 54 (0, 0))) := ⟨blk_far BK5.out (p := ⟨gx, 3, none⟩) (fun e => absurd (blk_ne HC5.out BK5.out (by decide)) (fun h => h e.symm)) _⟩
  have HW6 : Aside0 (Below w0.heap.size w0 (w5.setCell ⟨gx, 3, none⟩ (.slice A1 (X.rg ++ [n]).length c1_))) := ⟨HB5.out.setCell (by exact HG.out) _⟩
  simp only [List.length_append, List.length_singleton] at HBO BK6 HW6
  generalize w5.setCell ⟨gx, 3, none⟩ (.slice A1 (X.rg.length + 1) c1_) = W6 at HBO BK6 HW6 ⊢
  clear HT HO5 HGR HC5 BK5 HB5 z3 c3_ HXR HXC HBX HE HN1 HN2 k0 k1 c3 hHeld BK er2
  have k0 := blk_cell BK6.out 0
  have k1 := blk_cell BK6.out 1
  simp only [List.getElem?_toArray, List.getElem?_cons_zero, List.getElem?_cons_succ] at k0 k1
  obtain ⟨okb2, okx2, g1, g2, g3, g4, g5, g6⟩ := HBO.out
  have HBB := Aside0.mk (And.intro g1 (And.intro g2 (And.intro g3 (And.intro g4 (And.intro g5 g6)))))
  clear g1 g2 g3 g4 g5 g6
  go_wp2_with ((go_at_call 16; ((refine (Reg_at (V := V) HBB.out.1 HRL.out.fit HW6.out HW6.out.size (by have := HSM.out.1; have := HNN.out; omega) n HKD.out).mono ?_); rintro e w8 ⟨he, hb, ht⟩; obtain rfl : e = .returned (.int .i64 (X.rg.length : Int)) := (by rw [he, HRL.out.rg]); have HB8 := Aside0.mk hb; have HBO8 := Aside0.mk (both_b HBB.out.1 HBB.out.2.1 HBB.out.2.2.1 HBB.out.2.2.2.1 HBB.out.2.2.2.2.1 HBB.out.2.2.2.2.2 ht); clear hb ht he)))
  go_ret
  exact ⟨_, _, by first | rfl | exact ret_b (by simp), HRL.out.reg n, HSM.out.reg n, HBO8.out, HB8.out⟩
 have hk' : kindB n = false := by simpa using hk
 rw [hk'] at hK
 have HK := Aside0.mk hK
 have HKD := Aside0.mk hk'
 clear hK hk hk'
 go_enter Try.func25, Try.ntmps25
 go_upto_region 7 with ((go_at_call 24; ((refine (balustraderef24_Kinds.calls kK (some ⟨w.heap.size + 1, 0, none⟩) 1 [n] false _ (by simpa using C_one (blk_new (w.alloc (.cells #[.int .i64 0, .int .i64 n, .int .i64 x.f0, .int .i64 x.f1, .int .i64 x.f2, .int .i64 x.f3, .int .i64 x.f4, .int .i64 x.f5, .int .i64 x.f6, .int .i64 x.f7, .slice A8 x.f8.length c8] 54)) (.cells #[.int .i64 n] 3))) (Nat.le_refl _) HK.out).mono ?_); rintro e w2 ⟨rfl, hd⟩; have hb := below_step (below_alloc (Below.refl (w.alloc (.cells #[.int .i64 0, .int .i64 n, .int .i64 x.f0, .int .i64 x.f1, .int .i64 x.f2, .int .i64 x.f3, .int .i64 x.f4, .int .i64 x.f5, .int .i64 x.f6, .int .i64 x.f7, .slice A8 x.f8.length c8] 54)).heap.size (w.alloc (.cells #[.int .i64 0, .int .i64 n, .int .i64 x.f0, .int .i64 x.f1, .int .i64 x.f2, .int .i64 x.f3, .int .i64 x.f4, .int .i64 x.f5, .int .i64 x.f6, .int .i64 x.f7, .slice A8 x.f8.length c8] 54))) (.cells #[.int .i64 n] 3)) hd.below; replace HBO := Aside0.mk (HBO.out.below hb); replace BK := Aside0.mk (blk_below BK.out hb); replace HW := Aside0.mk (below_step HW.out hb); clear hd hb)))
 clear k0 k1
 have k0 := blk_cell BK.out 0
 have k1 := blk_cell BK.out 1
 simp only [List.getElem?_toArray, List.getElem?_cons_zero, List.getElem?_cons_succ] at k0 k1
 go_wp2_with ((go_at_call 16; ((refine (Reg_bad (V := V) HBO.out.choose_spec.choose_spec.1 HRL.out.fit n HKD.out).mono ?_); rintro e w8 ⟨rfl, rfl⟩)))
 go_ret
 exact ⟨_, _, by first | rfl | exact ret_b (by simp), HRL.out, HSM.out.up, HBO.out, HW.out⟩
set_option maxHeartbeats 16000000 in
set_option maxRecDepth 100000 in
theorem told_block {w0 w : World} {base g gx N : Nat} {V : BV} {X : XV} (hB : Both w0 base w g gx V X) (hR : Rel V X) (hS : Small N V) (hN : N < 500) (hW : Below base w0 w) (hb0 : base = w0.heap.size) (dd n : Int) (x : S29) (A8 : Option Addr) (c8 : Nat) (hx8 : x.f8.length ≤ 20) (hC : (Kd.int .i64).C w0 A8 x.f8.length x.f8) (hc8 : x.f8.length ≤ c8) (hd : dd = 1) :
  Calls Try.prog 25 #[.pointer (some ⟨g, 0, none⟩), .pointer (some ⟨gx, 0, none⟩), .agg #[.int .i64 dd, .int .i64 n, .int .i64 x.f0, .int .i64 x.f1, .int .i64 x.f2, .int .i64 x.f3, .int .i64 x.f4, .int .i64 x.f5, .int .i64 x.f6, .int .i64 x.f7, .slice A8 x.f8.length c8]] w (ToldEnd w0 base g gx N) := by
 subst hb0
 have HBO := Aside0.mk (hB.below (below_alloc (Below.refl w.heap.size w) (.cells #[.int .i64 dd, .int .i64 n, .int .i64 x.f0, .int .i64 x.f1, .int .i64 x.f2, .int .i64 x.f3, .int .i64 x.f4, .int .i64 x.f5, .int .i64 x.f6, .int .i64 x.f7, .slice A8 x.f8.length c8] 54)))
 have BK := Aside0.mk (blk_new w (.cells #[.int .i64 dd, .int .i64 n, .int .i64 x.f0, .int .i64 x.f1, .int .i64 x.f2, .int .i64 x.f3, .int .i64 x.f4, .int .i64 x.f5, .int .i64 x.f6, .int .i64 x.f7, .slice A8 x.f8.length c8] 54))
 have HW := Aside0.mk (below_alloc hW (.cells #[.int .i64 dd, .int .i64 n, .int .i64 x.f0, .int .i64 x.f1, .int .i64 x.f2, .int .i64 x.f3, .int .i64 x.f4, .int .i64 x.f5, .int .i64 x.f6, .int .i64 x.f7, .slice A8 x.f8.length c8] 54))
 have HZ : Aside0 (w0.heap.size ≤ w.heap.size) := ⟨hW.size⟩
 have HRL := Aside0.mk hR
 have HSM := Aside0.mk hS
 have HNN := Aside0.mk hN
 have HC8 := Aside0.mk (And.intro hC (And.intro hc8 hx8))
 clear hB hR hS hN hW hC hc8 hx8
 subst hd
 have hsz : (w.alloc (.cells #[.int .i64 1, .int .i64 n, .int .i64 x.f0, .int .i64 x.f1, .int .i64 x.f2, .int .i64 x.f3, .int .i64 x.f4, .int .i64 x.f5, .int .i64 x.f6, .int .i64 x.f7, .slice A8 x.f8.length c8] 54)).heap.size = w.heap.size + 1 := by simp
 have HZ1 := Aside0.mk hsz
 clear hsz
 have k0 := blk_cell BK.out 0
 have k1 := blk_cell BK.out 1
 simp only [List.getElem?_toArray, List.getElem?_cons_zero, List.getElem?_cons_succ] at k0 k1
 go_enter Try.func25, Try.ntmps25
 go_upto_region 9 with (fail)
 clear k0 k1
 generalize w.alloc (.cells #[.int .i64 1, .int .i64 n, .int .i64 x.f0, .int .i64 x.f1, .int .i64 x.f2, .int .i64 x.f3, .int .i64 x.f4, .int .i64 x.f5, .int .i64 x.f6, .int .i64 x.f7, .slice A8 x.f8.length c8] 54) = W1 at HBO BK HW HZ1 ⊢
 obtain ⟨okb, okx, hb_, hx_, d1, d2, d3, d4⟩ := HBO.out
 have hx2 := hx_
 obtain ⟨x1, x2, x3, f, vr, vb, vs, hxc, hxr, hxB, hxg⟩ := hx2
 try dsimp only at hxc hxr hxB hxg
 obtain ⟨Ab, cb, rfl⟩ := Kd.S_slice hxB
 have HE := Aside0.mk (fun (w1 : World) (v1 : Value) => xt_bl (w1 := w1) (v1 := v1) (x1 := X.bl ++ [[]]) x1 x2 x3 hxc hxr hxB hxg)
 have HN1 : Aside0 (some gx ≠ (Value.slice Ab X.bl.length cb).ownBlock) := ⟨fun e => x2 ((Kd.S_R hxB).1 gx e.symm).1⟩
 have HN2 : Aside0 (∀ k, (Value.slice Ab X.bl.length cb).ownBlock = some k → k ≠ w.heap.size) := ⟨fun k e e2 => by subst e2; exact absurd (blk_ne (Kd.S_typed hxB _ e).choose_spec BK.out (by decide)) (fun h => h rfl)⟩
 have HXB := Aside0.mk hxB
 have HXC := Aside0.mk hxc
 have HBX := Aside0.mk (And.intro hb_ (And.intro hx_ (And.intro d1 (And.intro d2 (And.intro d3 d4)))))
 have hln : X.bl.length < 1000000 := by have := HSM.out.2.1; have := HNN.out; rw [← HRL.out.bl]; omega
 have HLN := Aside0.mk hln
 have c4 := blk_cell HXC.out 4
 simp only [List.getElem?_toArray, List.getElem?_cons_zero, List.getElem?_cons_succ] at c4
 clear hxr hxc hxB hxg hx_ hb_ d1 d2 d3 d4 x1 x2 x3 HBO hln
 go_upto_region 10 with (((with_reducible refine gate_builtin (b := .append) (xs := #[.tmp 50, .tmp 51]) rfl ?_); (try (refine gate_guard (by rfl) ?_; dsimp only)); at_builtin; refine Kd.S_append (kX w0) (w0 := w0) w0.heap.size rfl (.tmp 50) (.tmp 51) 30 35 (.slice none 0 0) 24 rfl Try.underlying30 info35 rfl (by show 0 < 1; decide) (by omega) (.slice Ab X.bl.length cb) X.bl [] [.slice none 0 0] (fun k => (okx k ∧ f k = 1) ∨ W1.heap.size ≤ k) (fun _ => False) rfl rfl ?aP (fun _ hk => hk.elim) ?aF ?aO ?aB ?aS ?aL ?_; (case aP => exact ⟨_, rfl, Kd.R_nil _ _ _ _ _⟩); (case aB => exact HW.out); (case aF => exact fun k_ hk => .inr hk); (case aO => exact Kd.S_mono HXB.out (fun _ hk => ⟨.inl hk, fun q => q⟩)); (case aS => exact HW.out.size); (case aL => have := HLN.out; omega); intro v1 w5 ho hb hg hat; obtain ⟨B1, b1_, rfl⟩ := Kd.S_slice ho; have HGR : Aside0 (W1.grownBy w5 (Value.slice Ab X.bl.length cb).ownBlock) := ⟨hg⟩; have HC5 : Aside0 (w5.heap[gx]? = some (.cells #[.string X.nm, .int .i64 X.pa, .int .i64 X.rt, vr, .slice Ab X.bl.length cb, vs, .int .i64 X.at_] 52 (0, 0))) := ⟨blk_grown HXC.out hg HN1.out⟩; have BK5 : Aside0 (w5.heap[w.heap.size]? = some (.cells #[.int .i64 1, .int .i64 n, .int .i64 x.f0, .int .i64 x.f1, .int .i64 x.f2, .int .i64 x.f3, .int .i64 x.f4, .int .i64 x.f5, .int .i64 x.f6, .int .i64 x.f7, .slice A8 x.f8.length c8] 54 (0, 0))) := ⟨blk_grown BK.out hg (fun e => HN2.out _ e.symm rfl)⟩; have HO5 := Aside0.mk ho; have HB5 := Aside0.mk hb; have z4 := blk_frozen HC5.out 4; have c4_ := blk_cell HC5.out 4; simp only [List.getElem?_toArray, List.getElem?_cons_zero, List.getElem?_cons_succ] at c4_; clear ho hb hg hat))
 have HT := Aside0.mk (HE.out w5 (.slice B1 (X.bl ++ [[]]).length b1_) HO5.out HGR.out HGR.out.size)
 have HBO : Aside0 (Both w0 w0.heap.size (w5.setCell ⟨gx, 4, none⟩ (.slice B1 (X.bl ++ [[]]).length b1_)) g gx V ⟨X.nm, X.pa, X.rt, X.rg, X.bl ++ [[]], X.bg, X.at_⟩) := ⟨both_x HBX.out.1 HBX.out.2.1 HBX.out.2.2.1 HBX.out.2.2.2.1 HBX.out.2.2.2.2.1 HBX.out.2.2.2.2.2 HT.out⟩
 have BK6 : Aside0 ((w5.setCell ⟨gx, 4, none⟩ (.slice B1 (X.bl ++ [[]]).length b1_)).heap[w.heap.size]? = some (.cells #[.int .i64 1, .int .i64 n, .int .i64 x.f0, .int .i64 x.f1, .int .i64 x.f2, .int .i64 x.f3, .int .i64 x.f4, .int .i64 x.f5, .int .i64 x.f6, .int .i64 x.f7, .slice A8 x.f8.length c8] 54 (0, 0))) := ⟨blk_far BK5.out (p := ⟨gx, 4, none⟩) (fun e => absurd (blk_ne HC5.out BK5.out (by decide)) (fun h => h e.symm)) _⟩
 have HW6 : Aside0 (Below w0.heap.size w0 (w5.setCell ⟨gx, 4, none⟩ (.slice B1 (X.bl ++ [[]]).length b1_))) := ⟨HB5.out.setCell (by exact HBX.out.2.1.1) _⟩
 simp only [List.length_append, List.length_singleton] at HBO BK6 HW6
 generalize w5.setCell ⟨gx, 4, none⟩ (.slice B1 (X.bl.length + 1) b1_) = W6 at HBO BK6 HW6 ⊢
 clear HT HO5 HGR HC5 BK5 HB5 z4 c4_ HXB HXC HBX HE HN1 HN2 c4 BK HW
 have BK := BK6
 have HW := HW6
 clear BK6 HW6
 obtain ⟨okb, okx, hb_, hx_, d1, d2, d3, d4⟩ := HBO.out
 have hx2 := hx_
 obtain ⟨x1, x2, x3, f, vr, vb, vs, hxc, hxr, hxB, hxg⟩ := hx2
 try dsimp only at hxc hxr hxB hxg
 obtain ⟨Ag, cg, rfl⟩ := Kd.R_slice hxg
 have HE := Aside0.mk (fun (w1 : World) (v1 : Value) => xt_bg (w1 := w1) (v1 := v1) (x1 := X.bg ++ [false]) x1 x2 x3 hxc hxr hxB hxg)
 have HN1 : Aside0 (some gx ≠ (Value.slice Ag X.bg.length cg).ownBlock) := ⟨fun e => x2 (hxg.1 gx e.symm).1⟩
 have HN2 : Aside0 (∀ k, (Value.slice Ag X.bg.length cg).ownBlock = some k → k ≠ w.heap.size) := ⟨fun k e e2 => by subst e2; exact absurd (blk_ne (Kd.R_typed hxg _ e).choose_spec BK.out (by decide)) (fun h => h rfl)⟩
 have HXG := Aside0.mk hxg
 have HXC := Aside0.mk hxc
 have HBX := Aside0.mk (And.intro hb_ (And.intro hx_ (And.intro d1 (And.intro d2 (And.intro d3 d4)))))
 have hln2 : X.bg.length < 1000000 := by rw [HRL.out.nb, HRL.out.bl]; exact HLN.out
 have HLN2 := Aside0.mk hln2
 have c5 := blk_cell HXC.out 5
 simp only [List.getElem?_toArray, List.getElem?_cons_zero, List.getElem?_cons_succ] at c5
 clear hxr hxc hxB hxg hx_ hb_ d1 d2 d3 d4 x1 x2 x3 HBO hln2
 go_upto_region 11 with (((with_reducible refine gate_builtin (b := .append) (xs := #[.tmp 60, .tmp 61]) rfl ?_); (try (refine gate_guard (by rfl) ?_; dsimp only)); at_builtin; refine Kd.R_append Kd.bool (w0 := w0) w0.heap.size rfl (.tmp 60) (.tmp 61) 45 4 (.bool false) 1 rfl Try.underlying45 info4 rfl (by show 0 < 1; decide) (by omega) (.slice Ag X.bg.length cg) X.bg false [.bool false] (fun k => (okx k ∧ f k = 2) ∨ W6.heap.size ≤ k) (fun _ => False) rfl rfl ?aP (fun _ hk => hk.elim) ?aF ?aO ?aB ?aS ?aL ?_; (case aP => exact rfl); (case aB => exact HW.out); (case aF => exact fun k_ hk => .inr hk); (case aO => exact Kd.R_mono HXG.out (fun _ hk => .inl hk)); (case aS => exact HW.out.size); (case aL => have := HLN2.out; omega); intro v1 w5 ho hb hg hat; obtain ⟨B2, b2_, rfl⟩ := Kd.R_slice ho; have HGR : Aside0 (W6.grownBy w5 (Value.slice Ag X.bg.length cg).ownBlock) := ⟨hg⟩; have HC5 : Aside0 (w5.heap[gx]? = some (.cells #[.string X.nm, .int .i64 X.pa, .int .i64 X.rt, vr, vb, .slice Ag X.bg.length cg, .int .i64 X.at_] 52 (0, 0))) := ⟨blk_grown HXC.out hg HN1.out⟩; have BK5 : Aside0 (w5.heap[w.heap.size]? = some (.cells #[.int .i64 1, .int .i64 n, .int .i64 x.f0, .int .i64 x.f1, .int .i64 x.f2, .int .i64 x.f3, .int .i64 x.f4, .int .i64 x.f5, .int .i64 x.f6, .int .i64 x.f7, .slice A8 x.f8.length c8] 54 (0, 0))) := ⟨blk_grown BK.out hg (fun e => HN2.out _ e.symm rfl)⟩; have HO5 := Aside0.mk ho; have HB5 := Aside0.mk hb; have z5 := blk_frozen HC5.out 5; have c5_ := blk_cell HC5.out 5; simp only [List.getElem?_toArray, List.getElem?_cons_zero, List.getElem?_cons_succ] at c5_; clear ho hb hg hat))
 have HT := Aside0.mk (HE.out w5 (.slice B2 (X.bg ++ [false]).length b2_) HO5.out HGR.out HGR.out.size)
 have HBO : Aside0 (Both w0 w0.heap.size (w5.setCell ⟨gx, 5, none⟩ (.slice B2 (X.bg ++ [false]).length b2_)) g gx V ⟨X.nm, X.pa, X.rt, X.rg, X.bl ++ [[]], X.bg ++ [false], X.at_⟩) := ⟨both_x HBX.out.1 HBX.out.2.1 HBX.out.2.2.1 HBX.out.2.2.2.1 HBX.out.2.2.2.2.1 HBX.out.2.2.2.2.2 HT.out⟩
 have HW6 : Aside0 (Below w0.heap.size w0 (w5.setCell ⟨gx, 5, none⟩ (.slice B2 (X.bg ++ [false]).length b2_))) := ⟨HB5.out.setCell (by exact HBX.out.2.1.1) _⟩
 simp only [List.length_append, List.length_singleton] at HBO HW6
 generalize w5.setCell ⟨gx, 5, none⟩ (.slice B2 (X.bg.length + 1) b2_) = W7 at HBO HW6 ⊢
 clear HT HO5 HGR HC5 BK5 HB5 z5 c5_ HXG HXC HBX HE HN1 HN2 c5 BK HW
 obtain ⟨okb, okx, hb_, hx_, d1, d2, d3, d4⟩ := HBO.out
 have hx2 := hx_
 obtain ⟨x1, x2, x3, f, vr, vb, vs, hxc, hxr, hxB, hxg⟩ := hx2
 try dsimp only at hxc hxr hxB hxg
 obtain ⟨Ab2, cb2, rfl⟩ := Kd.S_slice hxB
 have HXC := Aside0.mk hxc
 have HBX := Aside0.mk (And.intro hb_ (And.intro hx_ (And.intro d1 (And.intro d2 (And.intro d3 d4)))))
 have c4 := blk_cell HXC.out 4
 simp only [List.getElem?_toArray, List.getElem?_cons_zero, List.getElem?_cons_succ, List.length_append, List.length_singleton] at c4
 clear hxr hxc hxB hxg hx_ hb_ d1 d2 d3 d4 x1 x2 x3 HBO
 have hln1 : (X.bl.length : Int) < 1000000 := by have := HLN.out; omega
 have hln0 : (0 : Int) ≤ (X.bl.length : Int) := by omega
 go_region_held3 (fun w' => w'.cell? ⟨gx, 4, none⟩ = some (.slice Ab2 (X.bl.length + 1) cb2)) (first | exact c4 | exact (blk_cell HC8_.out 4).trans (by simp) | go_keep) (first | (go_at_call 30; ((refine (Block_at (V := V) HBX.out.1 HRL.out.fit HW6.out (by have := HW6.out.size; first | exact this | (simp; exact this)) (by have := HLN.out; rw [HRL.out.bl]; omega)).mono ?_); rintro e w8 ⟨he, hb, ht⟩; obtain rfl : e = .returned (.int .i64 (X.bl.length : Int)) := (by rw [he, HRL.out.bl]); have HB8 := Aside0.mk hb; have HC8_ : Aside0 (w8.heap[gx]? = some _) := ⟨(ht.1.2 gx (blk_lt HXC.out) (fun h => h.elim (fun h => HBX.out.2.2.1 h.symm) HBX.out.2.2.2.2.1)).trans HXC.out⟩; have HBO8 := Aside0.mk (both_b HBX.out.1 HBX.out.2.1 HBX.out.2.2.1 HBX.out.2.2.2.1 HBX.out.2.2.2.2.1 HBX.out.2.2.2.2.2 ht); clear hb ht he)) | (go_at_call 30; ((refine (Block_at (V := V) (HBX.out.1.below (below_drew (Below.refl _ _))) HRL.out.fit (below_drew HW6.out) (by have := HW6.out.size; first | exact this | (simp; exact this)) (by have := HLN.out; rw [HRL.out.bl]; omega)).mono ?_); rintro e w8 ⟨he, hb, ht⟩; obtain rfl : e = .returned (.int .i64 (X.bl.length : Int)) := (by rw [he, HRL.out.bl]); have HB8 := Aside0.mk hb; have HC8_ : Aside0 (w8.heap[gx]? = some _) := ⟨(ht.1.2 gx (blk_lt (blk_drew HXC.out)) (fun h => h.elim (fun h => HBX.out.2.2.1 h.symm) HBX.out.2.2.2.2.1)).trans (blk_drew HXC.out)⟩; have HBO8 := Aside0.mk (both_b (HBX.out.1.below (below_drew (Below.refl _ _))) (HBX.out.2.1.below (below_drew (Below.refl _ _))) HBX.out.2.2.1 HBX.out.2.2.2.1 HBX.out.2.2.2.2.1 HBX.out.2.2.2.2.2 ht); clear hb ht he)))
 all_goals go_wp2
 all_goals go_ret
 all_goals exact ⟨_, _, by first | rfl | exact ret_b (by rw [IntKind.wrap_i64, beq_iff_eq]; omega) | exact ret_b (by simp), HRL.out.block, HSM.out.block _, HBO8.out, HB8.out⟩
end Go.Proofs.Ytomopjomapkmjaa.B

/- A part of it. -/
import Derived.Test.YtomopjomapkmjaaBpZ
import Derived.Test.YtomopjomapkmjaaBpBM2
import Derived.Test.YtomopjomapkmjaaBpB1
import Derived.Outline
import Derived.Test.YtomopjomapkmjaaBpB0
import Derived.Test.YtomopjomapkmjaaBpB5
import Derived.Test.YtomopjomapkmjaaBpB4
import Derived.Test.YtomopjomapkmjaaBpB8
import Derived.Test.YtomopjomapkmjaaBpB12
import Derived.Test.YtomopjomapkmjaaBpBInstrB
import Derived.Test.YtomopjomapkmjaaBpB6
set_option linter.unusedVariables false
set_option linter.unusedSimpArgs false
namespace Go.Proofs.Ytomopjomapkmjaa.B
open Go Go.RowKit Go.Proofs.YtomopjomapkmjaaW.PrintWords Go.Proofs.YtomopjomapkmjaaW.PrintLast Go.Proofs.YtomopjomapkmjaaW.PrintMore Go.Proofs.Ytomopjomapkmjaa.Pure
def flags {α : Type} (l : List α) (k : Nat) : List (α × Bool) := (l.take k).map (fun x => (x, true)) ++ (l.drop k).map (fun x => (x, false))
theorem flags_len {α : Type} (l : List α) (k : Nat) : (flags l k).length = l.length := by simp [flags]; omega
theorem flags_zero {α : Type} (l : List α) : flags l 0 = l.map (fun x => (x, false)) := by simp [flags]
theorem flags_all {α : Type} (l : List α) : flags l l.length = l.map (fun x => (x, true)) := by simp [flags]
theorem flags_get {α : Type} (l : List α) (k i : Nat) : (flags l k)[i]? = (l[i]?).map (fun x => (x, decide (i < k))) := by
 unfold flags
 by_cases h : i < k
 ·by_cases h2 : i < l.length
  ·rw [List.getElem?_append_left (by simp; omega), List.getElem?_map, List.getElem?_take, if_pos h]
   simp [h]
  ·rw [List.getElem?_eq_none (by simp; omega), List.getElem?_eq_none (by omega)]
   rfl
 ·by_cases h2 : i < l.length
  ·rw [List.getElem?_append_right (by simp; omega), List.getElem?_map, List.getElem?_drop]
   have e : (List.map (fun x => (x, true)) (l.take k)).length = k := by simp; omega
   rw [e, show k + (i - k) = i by omega]
   simp [h]
  ·rw [List.getElem?_eq_none (by simp; omega), List.getElem?_eq_none (by omega)]
   rfl
theorem flags_set {α : Type} (l : List α) (k : Nat) (x : α) (h : l[k]? = some x) : (flags l k).set k (x, true) = flags l (k + 1) := by
 apply List.ext_getElem?
 intro i
 rw [List.getElem?_set, flags_get, flags_get, flags_len]
 by_cases e : k = i
 ·subst e
  have : k < l.length := (List.getElem?_eq_some_iff.1 h).1
  rw [if_pos rfl, if_pos this, h]
  simp
 ·rw [if_neg e]
  congr 1
  funext y
  congr 1
  rw [decide_eq_decide]
  omega
def blks (bl : List (List S29)) (j : Nat) : List (List (S29 × Bool) × Bool) := (flags bl j).map (fun p => (p.1.map (fun x => (x, p.2)), p.2))
theorem blks_get (bl : List (List S29)) (j i : Nat) : (blks bl j)[i]? = (bl[i]?).map (fun l => (l.map (fun x => (x, decide (i < j))), decide (i < j))) := by
 unfold blks
 rw [List.getElem?_map, flags_get]
 cases bl[i]? <;> rfl
theorem blks_len (bl : List (List S29)) (j : Nat) : (blks bl j).length = bl.length := by simp [blks, flags_len]
theorem blks_zero (bl : List (List S29)) : blks bl 0 = (bl.map (fun l => l.map (fun x => (x, false)))).map (fun x => (x, false)) := by
 unfold blks
 rw [flags_zero]
 simp
theorem blks_all (bl : List (List S29)) : blks bl bl.length = (bl.map (fun l => l.map (fun x => (x, true)))).map (fun x => (x, true)) := by
 unfold blks
 rw [flags_all]
 simp
theorem blks_set (bl : List (List S29)) (j : Nat) (l : List S29) (h : bl[j]? = some l) : (blks bl j).set j (flags l l.length, true) = blks bl (j + 1) := by
 apply List.ext_getElem?
 intro i
 rw [List.getElem?_set, blks_get, blks_get, blks_len]
 by_cases e : j = i
 ·subst e
  have : j < bl.length := (List.getElem?_eq_some_iff.1 h).1
  rw [if_pos rfl, if_pos this, h, flags_all]
  simp
 ·rw [if_neg e]
  congr 1
  funext y
  have : decide (i < j) = decide (i < j + 1) := by rw [decide_eq_decide]; omega
  rw [this]
theorem S_rows {e base : Nat} {ok : Nat → Prop} {w0 W : World} {v : Value} {bl : List (List S29)} (h : Kd.S (Kd.slice 29 (kJ w0)) e W base ok v (bl.map (fun l => l.map (fun x => (x, true))))) : Kd.S kB e W base ok v bl := by
 obtain ⟨f, h0, inner, ho, hr⟩ := h
 rw [List.length_zipIdx, List.length_map] at ho
 refine ⟨f, h0, inner, ?_, ?_, fun j p hj => ?_⟩
 ·rw [List.length_zipIdx]; exact ho
 ·have := hr.1
  rw [List.length_zipIdx, List.length_map] at this
  rw [List.length_zipIdx]
  exact this
 ·rw [List.getElem?_zipIdx] at hj
  obtain ⟨y, hy, rfl⟩ := Option.map_eq_some_iff.1 hj
  obtain ⟨u, hu, hR⟩ := hr.2 j (y.map (fun x => (x, true)), 0 + j) (by rw [List.getElem?_zipIdx, List.getElem?_map, hy]; rfl)
  exact ⟨u, hu, R_all hR⟩
theorem told_blks {base : Nat} {ok : Nat → Prop} {w W : World} {v : Value} {bl : List (List S29)} (h : Kd.R (Kd.fixed kB w) 35 W base ok v bl) : Kd.S (kO w) 35 W base ok v (blks bl 0) := by
 obtain ⟨h0, inner, ho, hr⟩ := h
 rw [blks_zero]
 refine ⟨fun _ => 0, h0, inner, ?_, ?_, fun j p hj => ?_⟩
 ·rw [List.length_zipIdx, List.length_map, List.length_map]; exact ho
 ·rw [List.length_zipIdx, List.length_map, List.length_map]; exact hr.1
 ·rw [List.getElem?_zipIdx] at hj
  obtain ⟨y, hy, rfl⟩ := Option.map_eq_some_iff.1 hj
  rw [List.getElem?_map, List.getElem?_map] at hy
  obtain ⟨z, hz, rfl⟩ := Option.map_eq_some_iff.1 hy
  obtain ⟨t, ht, rfl⟩ := Option.map_eq_some_iff.1 hz
  have h2 := hr.2 j t ht
  refine .inr ⟨rfl, ?_⟩
  show kB.K w (List.map (fun x => x.1) (List.map (fun x => (x, false)) t)) _
  rw [List.map_map]
  have e : ((fun x : S29 × Bool => x.1) ∘ fun x => (x, false)) = id := rfl
  rw [e, List.map_id]
  exact h2
theorem told_row {base : Nat} {ok : Nat → Prop} {w W : World} {v : Value} {l : List S29} (h : Kd.R (Kd.fixed k29 w) 29 W base ok v l) : (kJ w).R 29 W base ok v (flags l 0) := by
 rw [flags_zero]
 exact R_told (d0 := Kd.fixed k29 w) rfl (fun h => h) h
structure FnI (w W : World) (b4 sR : Nat) (V : BV) (vr vb : Value) (Lb : List (List (S29 × Bool) × Bool)) : Prop where
 box : W.heap[b4]? = some (.cells #[.string V.nm, .int .i64 V.pa, .int .i64 V.rt, vr, vb] 32 (0, 0))
 zero : W.heap[w.heap.size]? = some (.cells #[.string ⟨#[]⟩, .int .i64 0, .int .i64 0, .slice none 0 0, .slice none 0 0] 32 (0, 0))
 regs : (Kd.int .i64).R 3 W (w.heap.size + 2) (fun k => k < sR) vr V.rg
 rows : Kd.S (kO w) 35 W (w.heap.size + 2) (fun k => sR ≤ k) vb Lb
 bel : Below w.heap.size w W
 num : b4 = w.heap.size + 1 ∧ w.heap.size + 2 ≤ sR ∧ sR ≤ W.heap.size
section
variable {w W W1 : World} {b4 sR : Nat} {V : BV} {vr vb : Value} {Lb : List (List (S29 × Bool) × Bool)}
theorem FnI.drew (h : FnI w W b4 sR V vr vb Lb) : FnI w W.drew b4 sR V vr vb Lb := ⟨h.box, h.zero, Kd.R_drew h.regs, Kd.S_drew h.rows, below_drew1 h.bel, h.num⟩
theorem FnI.step (h : FnI w W b4 sR V vr vb Lb) (hb : Below W.heap.size W W1) {p : Addr} (hp : w.heap.size + 2 ≤ p.block ∧ sR ≤ p.block) {u : Value} {L2 : List (List (S29 × Bool) × Bool)}
  (hS : Kd.S (kO w) 35 (W1.setCell p u) (w.heap.size + 2) (fun k => sR ≤ k ∨ W.heap.size ≤ k) vb L2) : FnI w (W1.setCell p u) b4 sR V vr vb L2 := by
 have n := h.num
 have hs := hb.size
 refine ⟨blk_far (blk_below h.box hb) (by omega) u, blk_far (blk_below h.zero hb) (by omega) u, Kd.R_far (Kd.R_below h.regs hb) (fun k hk => by omega) u, Kd.S_mono hS (fun k hk => ?_), (below_step h.bel hb).setCell (by omega) u, n.1, n.2.1, by simp; omega⟩
 rcases hk with hk | hk
 ·exact hk
 ·show sR ≤ k; omega
end
set_option maxHeartbeats 16000000 in
set_option maxRecDepth 100000 in
theorem Func_at {base g : Nat} {ok : Nat → Prop} {w : World} {V : BV} (h : BAt base ok w g V) (hf : Fit V) (hd : doneB V = true) (hL : V.rg.length < 1000000 ∧ V.bl.length < 1000000 ∧ ∀ l ∈ V.bl, l.length < 1000000 ∧ ∀ x ∈ l, x.f8.length < 1000000) :
  Calls Try.prog 13 #[.pointer (some ⟨g, 0, none⟩)] w fun e w' => ∃ vr vb sR, e = .returned (.tuple #[.agg #[.string V.nm, .int .i64 V.pa, .int .i64 V.rt, vr, vb], .bool true]) ∧ (Kd.int .i64).R 3 w' w.heap.size (fun k => k < sR) vr V.rg ∧ Kd.S kB 35 w' w.heap.size (fun k => sR ≤ k) vb V.bl ∧ Below w.heap.size w w' := by
 have hu := Try.underlying32
 obtain ⟨f0, f1, f2⟩ := hf
 obtain ⟨h1, h2, h3, f, vr, vb, vs, hc, hr, hB, ht⟩ := h
 obtain ⟨As, cs, rfl⟩ := Kd.R_slice ht
 obtain ⟨Ar, cr, rfl⟩ := Kd.R_slice hr
 obtain ⟨Ab, cb, rfl⟩ := Kd.S_slice hB
 have HM := Aside0.mk (made_at (blk_alloc hc (.cells #[.string ⟨#[]⟩, .int .i64 0, .int .i64 0, .slice none 0 0, .slice none 0 0] 32)) (show 0 < V.st.length by omega))
 have HH := Aside0.mk (HasFunc As cs V.st _ (Kd.C_alloc (Kd.R_reads' ht).2.2 (.cells #[.string ⟨#[]⟩, .int .i64 0, .int .i64 0, .slice none 0 0, .slice none 0 0] 32)) (Kd.R_reads' ht).2.1)
 have hd' : (V.st.any fun k => !decide (k = 2)) = false := by simpa [doneB] using hd
 rw [hd'] at HH
 have HCR := Aside0.mk (Kd.R_reads' hr).2.2
 have HCRl := Aside0.mk (Kd.R_reads' hr).2.1
 have HCB := Aside0.mk (Kd.S_reads' hB).2.2
 have HCBl := Aside0.mk (Kd.S_reads' hB).2.1
 have hbz : 0 < V.bl.length := by omega
 have hca := blk_alloc hc (.cells #[.string ⟨#[]⟩, .int .i64 0, .int .i64 0, .slice none 0 0, .slice none 0 0] 32)
 have c0 := blk_cell hca 0
 have c1 := blk_cell hca 1
 have c2 := blk_cell hca 2
 have c3 := blk_cell hca 3
 have c4 := blk_cell hca 4
 have c5 := blk_cell hca 5
 simp only [List.getElem?_toArray, List.getElem?_cons_zero, List.getElem?_cons_succ] at c0 c1 c2 c3 c4 c5
 clear h1 h2 h3 hc hr hB ht f0 f1 f2 hd hd' hca
 obtain ⟨rg, erg⟩ : ∃ r, V.rg = r := ⟨_, rfl⟩
 rw [erg] at c3 HCR HCRl hL
 rw [erg]
 obtain ⟨bl, ebl⟩ : ∃ r, V.bl = r := ⟨_, rfl⟩
 rw [ebl] at c4 HCB HCBl hL hbz
 rw [ebl]
 have ERG := Aside0.mk erg
 have HL := Aside0.mk hL
 have HBZ := Aside0.mk hbz
 have HCL : Aside0 (slices_Clone_int_int.f rg = some rg) := ⟨if_pos (by omega)⟩
 clear erg ebl hL hbz
 go_enter Try.func13, Try.ntmps13
 go_upto_region 4 with (first | (go_at_call 47; ((with_reducible refine HM.out.mono ?_); rintro e w' ⟨rfl, rfl⟩)) | (go_at_call 41; ((with_reducible refine HH.out.mono ?_); rintro e w' ⟨rfl, rfl⟩)))
 have BK4 : Aside0 (((w.alloc (.cells #[.string ⟨#[]⟩, .int .i64 0, .int .i64 0, .slice none 0 0, .slice none 0 0] 32)).alloc (.cells #[.string V.nm, .int .i64 V.pa, .int .i64 V.rt, .slice Ar rg.length cr, .slice Ab bl.length cb] 32)).heap[w.heap.size + 1]? = some (.cells #[.string V.nm, .int .i64 V.pa, .int .i64 V.rt, .slice Ar rg.length cr, .slice Ab bl.length cb] 32)) := ⟨blk_new1 w _ _⟩
 have BZ : Aside0 (((w.alloc (.cells #[.string ⟨#[]⟩, .int .i64 0, .int .i64 0, .slice none 0 0, .slice none 0 0] 32)).alloc (.cells #[.string V.nm, .int .i64 V.pa, .int .i64 V.rt, .slice Ar rg.length cr, .slice Ab bl.length cb] 32)).heap[w.heap.size]? = some (.cells #[.string ⟨#[]⟩, .int .i64 0, .int .i64 0, .slice none 0 0, .slice none 0 0] 32)) := ⟨blk_alloc (blk_new w _) _⟩
 have HB : Aside0 (Below w.heap.size w ((w.alloc (.cells #[.string ⟨#[]⟩, .int .i64 0, .int .i64 0, .slice none 0 0, .slice none 0 0] 32)).alloc (.cells #[.string V.nm, .int .i64 V.pa, .int .i64 V.rt, .slice Ar rg.length cr, .slice Ab bl.length cb] 32))) := ⟨below_alloc (below_alloc (Below.refl _ _) _) _⟩
 have HZ : Aside0 (((w.alloc (.cells #[.string ⟨#[]⟩, .int .i64 0, .int .i64 0, .slice none 0 0, .slice none 0 0] 32)).alloc (.cells #[.string V.nm, .int .i64 V.pa, .int .i64 V.rt, .slice Ar rg.length cr, .slice Ab bl.length cb] 32)).heap.size = w.heap.size + 2) := ⟨by simp⟩
 generalize (w.alloc (.cells #[.string ⟨#[]⟩, .int .i64 0, .int .i64 0, .slice none 0 0, .slice none 0 0] 32)).alloc (.cells #[.string V.nm, .int .i64 V.pa, .int .i64 V.rt, .slice Ar rg.length cr, .slice Ab bl.length cb] 32) = W0 at BK4 BZ HB HZ ⊢
 clear c0 c1 c2 c3 c4 c5
 have k3 := blk_cell BK4.out 3
 have k4 := blk_cell BK4.out 4
 simp only [List.getElem?_toArray, List.getElem?_cons_zero, List.getElem?_cons_succ] at k3 k4
 refine start_ (n := 10) (S := fun w' => w'.cell? ⟨w.heap.size + 1, 3, none⟩ = some (.slice Ar rg.length cr) ∧ w'.cell? ⟨w.heap.size + 1, 4, none⟩ = some (.slice Ab bl.length cb)) (ds := [7, 9]) #[false, false, false, false, false, false, false, false, false, false] (by kernel_rfl) rfl rfl ⟨k3, k4⟩ (fun hHeld => ?_)
 refine pT 0 (some 24) (zb 10 1) (h := ?_)
 refine pT 3 (some 27) (zb 10 9) (h := ?_)
 refine take_ (i := 1) (N := some 25) (v := ?_) (a' := ?_) (zb 10 11) rfl rfl (by kernel_rfl) (fun _ _ _ h => h) (Or.inl ⟨by rfl, ?_⟩) hHeld ?_ ?_
 rotate_left
 ·rintro w' ⟨s0, s1⟩
  go_simp
  with_reducible rfl
 rotate_left
 ·simp only [Act.put, List.setIfInBounds_toArray, List.set_cons_zero, List.set_cons_succ, i64_w, i32_w]
  rfl
 refine take_ (i := 4) (N := some 28) (v := ?_) (a' := ?_) (zb 10 27) rfl rfl (by kernel_rfl) (fun _ _ _ h => h) (Or.inl ⟨by rfl, ?_⟩) hHeld ?_ ?_
 rotate_left
 ·rintro w' ⟨s0, s1⟩
  go_simp
  with_reducible rfl
 rotate_left
 ·simp only [Act.put, List.setIfInBounds_toArray, List.set_cons_zero, List.set_cons_succ, i64_w, i32_w]
  rfl
 refine one_ (i := 2) (N := some 26) (zb 10 31) rfl rfl (by kernel_rfl) (by decide) (fun K hK => ?_)
 refine goes_ Try.func43 (by kernel_rfl) rfl #[.slice Ar rg.length cr] (by rfl) rfl rfl (by simp only [List.map_toArray, List.map_cons, List.map_nil]; rfl) ?_
 with_reducible refine (slices_Clone_int_int.calls Ar cr rg rg _ (Kd.C_below HCR.out (below_drew1 HB.out)) HCRl.out HCL.out).mono ?_
 rintro e w1 ⟨v_, rfl, hR_, hb⟩
 refine ⟨_, rfl, ?_⟩
 replace hb := below_step (below_drew (Below.refl W0.heap.size W0)) hb
 obtain ⟨Ar2, cr2, rfl⟩ := Kd.R_slice hR_
 have BK5 : Aside0 (w1.heap[w.heap.size + 1]? = some (.cells #[.string V.nm, .int .i64 V.pa, .int .i64 V.rt, .slice Ar rg.length cr, .slice Ab bl.length cb] 32)) := ⟨blk_below BK4.out hb⟩
 have BZ5 : Aside0 (w1.heap[w.heap.size]? = some (.cells #[.string ⟨#[]⟩, .int .i64 0, .int .i64 0, .slice none 0 0, .slice none 0 0] 32)) := ⟨blk_below BZ.out hb⟩
 have HB5 : Aside0 (Below w.heap.size w w1) := ⟨below_step HB.out hb⟩
 have HS5 : Aside0 (w.heap.size + 2 ≤ w1.heap.size) := ⟨by have := hb.size; have := HZ.out; simp at this ⊢; omega⟩
 have HRR : Aside0 ((Kd.int .i64).R 3 w1 (w.heap.size + 2) (fun k => k < w1.heap.size) (.slice Ar2 rg.length cr2) rg) := ⟨Kd.R_lower (Kd.R_mono (Kd.R_bound hR_) (fun k hk => hk.2.2.1)) (by have := HZ.out; show w.heap.size + 2 ≤ W0.heap.size; omega)⟩
 clear hb hR_
 refine hK.out _ _ ⟨(blk_cell BK5.out 3).trans rfl, (blk_cell BK5.out 4).trans rfl⟩ (fun hHeld => ?_)
 clear hK K
 refine norm_ (a' := ?_) ?_ ?_
 rotate_left
 ·show Act.put _ (some 26) _ = _
  simp only [Act.put, List.setIfInBounds_toArray, List.set_cons_zero, List.set_cons_succ, i64_w, i32_w]
  rfl
 refine pT 6 (some 30) (zb 10 95) (h := ?_)
 refine one_ (i := 5) (N := some 29) (zb 10 127) rfl rfl (by kernel_rfl) (by decide) (fun K hK => ?_)
 refine goes_ Try.func49 (by kernel_rfl) rfl #[.slice Ab bl.length cb] (by rfl) rfl rfl (by simp only [List.map_toArray, List.map_cons, List.map_nil]; rfl) ?_
 with_reducible refine (Clone_B Ab cb bl w _ HCB.out HB5.out HCBl.out HL.out.2.1).mono ?_
 rintro e w2 ⟨v_, rfl, hR_, hb⟩
 refine ⟨_, rfl, ?_⟩
 obtain ⟨q, cb2, rfl, hq1, hq2, cellsq, hq3⟩ := Kd.R_form hR_ HBZ.out
 have BK6 : Aside0 (w2.heap[w.heap.size + 1]? = some (.cells #[.string V.nm, .int .i64 V.pa, .int .i64 V.rt, .slice Ar rg.length cr, .slice Ab bl.length cb] 32)) := ⟨blk_below BK5.out hb⟩
 have BZ6 : Aside0 (w2.heap[w.heap.size]? = some (.cells #[.string ⟨#[]⟩, .int .i64 0, .int .i64 0, .slice none 0 0, .slice none 0 0] 32)) := ⟨blk_below BZ5.out hb⟩
 have HB6 : Aside0 (Below w.heap.size w w2) := ⟨below_step HB5.out hb⟩
 have HRR6 : Aside0 ((Kd.int .i64).R 3 w2 (w.heap.size + 2) (fun k => k < w1.heap.size) (.slice Ar2 rg.length cr2) rg) := ⟨Kd.R_below HRR.out hb⟩
 have HRO : Aside0 (Kd.S (kO w) 35 w2 (w.heap.size + 2) (fun k => w1.heap.size ≤ k) (.slice (some ⟨q, 0, none⟩) bl.length cb2) (blks bl 0)) := ⟨told_blks (Kd.R_lower (Kd.R_mono (Kd.R_bound hR_) (fun k hk => hk.2.1)) (by have := HS5.out; omega))⟩
 have HQ : Aside0 (w1.heap.size ≤ q ∧ w1.heap.size ≤ w2.heap.size) := ⟨hq1, hb.size⟩
 have z3 := blk_frozen BK6.out 3
 have z4 := blk_frozen BK6.out 4
 have m3 := blk_cell BK6.out 3
 have m4 := blk_cell BK6.out 4
 simp only [List.getElem?_toArray, List.getElem?_cons_zero, List.getElem?_cons_succ] at m3 m4
 clear hb hR_ hq1 hq2 hq3
 refine hK.out _ _ ⟨(blk_cell BK6.out 3).trans rfl, (blk_cell BK6.out 4).trans rfl⟩ (fun hHeld => ?_)
 clear hK K
 refine norm_ (a' := ?_) ?_ ?_
 rotate_left
 ·show Act.put _ (some 29) _ = _
  simp only [Act.put, List.setIfInBounds_toArray, List.set_cons_zero, List.set_cons_succ, i64_w, i32_w]
  rfl
 refine last_ (i := 7) (N := none) (zb 10 255) rfl rfl (by kernel_rfl) (by decide) (fun K hK => ?_)
 refine skip_ (w1 := ?_) (by rfl) rfl ?_ ?_
 rotate_left
 ·go_simp
  rfl
 refine hK.out _ _ ?_
 clear hK K
 refine pT 8 (some 31) (zb 10 511) (h := ?_)
 refine last_ (i := 9) (N := none) (zb 10 1023) rfl rfl (by kernel_rfl) (by decide) (fun K hK => ?_)
 refine skip_ (w1 := ?_) (by rfl) rfl ?_ ?_
 rotate_left
 ·go_simp
  rfl
 refine hK.out _ _ ?_
 clear hK K
 refine done_ (by kernel_rfl) ?_
 have HRR7 : Aside0 ((Kd.int .i64).R 3 w2 (w.heap.size + 2) (fun k => k < w1.heap.size ∧ w.heap.size + 2 ≤ k) (.slice Ar2 rg.length cr2) rg) := ⟨Kd.R_mono (Kd.R_bound HRR6.out) (fun k hk => ⟨hk.1, hk.2.1⟩)⟩
 have HI : Aside0 (FnI w ((w2.setCell ⟨w.heap.size + 1, 3, none⟩ (.slice Ar2 rg.length cr2)).setCell ⟨w.heap.size + 1, 4, none⟩ (.slice (some ⟨q, 0, none⟩) bl.length cb2)) (w.heap.size + 1) w1.heap.size V (.slice Ar2 rg.length cr2) (.slice (some ⟨q, 0, none⟩) bl.length cb2) (blks bl 0)) := ⟨⟨blk_put (blk_put BK6.out 3 _ rfl) 4 _ rfl, blk_far (blk_far BZ6.out (p := ⟨w.heap.size + 1, 3, none⟩) (by show w.heap.size ≠ w.heap.size + 1; omega) _) (p := ⟨w.heap.size + 1, 4, none⟩) (by show w.heap.size ≠ w.heap.size + 1; omega) _, by rw [ERG.out]; exact Kd.R_mono (Kd.R_far (Kd.R_far HRR7.out (p := ⟨w.heap.size + 1, 3, none⟩) (fun k hk => by show k ≠ w.heap.size + 1; omega) _) (p := ⟨w.heap.size + 1, 4, none⟩) (fun k hk => by show k ≠ w.heap.size + 1; omega) _) (fun k hk => hk.1), Kd.S_far (Kd.S_far HRO.out (p := ⟨w.heap.size + 1, 3, none⟩) (fun k hk => by have := HS5.out; show k ≠ w.heap.size + 1; omega) _) (p := ⟨w.heap.size + 1, 4, none⟩) (fun k hk => by have := HS5.out; show k ≠ w.heap.size + 1; omega) _, (HB6.out.setCell (by show w.heap.size ≤ w.heap.size + 1; omega) _).setCell (by show w.heap.size ≤ w.heap.size + 1; omega) _, ⟨rfl, HS5.out, by simpa using HQ.out.2⟩⟩⟩
 have HQ2 : Aside0 (w1.heap.size ≤ q ∧ w.heap.size + 2 ≤ q) := ⟨HQ.out.1, by have := HQ.out.1; have := HS5.out; omega⟩
 generalize ((w2.setCell ⟨w.heap.size + 1, 3, none⟩ (.slice Ar2 rg.length cr2)).setCell ⟨w.heap.size + 1, 4, none⟩ (.slice (some ⟨q, 0, none⟩) bl.length cb2)) = W4 at HI ⊢
 obtain ⟨sR, esR⟩ : ∃ s, w1.heap.size = s := ⟨_, rfl⟩
 rw [esR] at HI HQ2
 clear BK4 BZ HB HZ BK5 BZ5 HB5 HS5 HRR BK6 BZ6 HB6 HRR6 HRR7 HRO HQ z3 z4 m3 m4 k3 k4 hHeld esR HM HH HCR HCRl HCL
 have n4 := blk_cell HI.out.box 4
 simp only [List.getElem?_toArray, List.getElem?_cons_zero, List.getElem?_cons_succ] at n4
 go_wp2
 go_loopw [35] (fun v35 wr => ∃ j : Nat, v35 = .int .i64 (j : Int) ∧ Aside0 (j ≤ bl.length) ∧ Aside0 (FnI w wr (w.heap.size + 1) sR V (.slice Ar2 rg.length cr2) (.slice (some ⟨q, 0, none⟩) bl.length cb2) (blks bl j))) (fun v35 wr => bl.length - (intOf v35).toNat)
 case atStart => exact ⟨0, rfl, ⟨Nat.zero_le _⟩, ⟨HI.out⟩⟩
 case round =>
  clear HI n4
  obtain ⟨j, rfl, HJ, HI⟩ := hrel
  by_cases hlt : j < bl.length
  ·have HLT := Aside0.mk hlt
   have t1 : decide ((j : Int) < (bl.length : Int)) = true := decide_eq_true (by omega)
   have t2 : decide (j < bl.length) = true := decide_eq_true hlt
   have p1 : (0 : Int) ≤ (j : Int) := by omega
   have p2 : (j : Int) < (bl.length : Int) := by omega
   have hwr : wrap64 ((j : Int) + 1) = ((j + 1 : Nat) : Int) := by have := HL.out.2.1; unfold wrap64; omega
   have HWR := Aside0.mk hwr
   clear hwr
   obtain ⟨row, hrow⟩ : ∃ r, bl[j]? = some r := ⟨_, List.getElem?_eq_getElem hlt⟩
   have hrl := HL.out.2.2 row (List.mem_of_getElem? hrow)
   have hbj : (blks bl j)[j]? = some (row.map (fun x => (x, false)), false) := by rw [blks_get, hrow]; simp
   obtain ⟨Ak, ck, cj, hkl, hkC⟩ := fn_told HI.out.rows j hlt hbj
   rw [List.length_map] at cj hkl hkC
   have emap : List.map (fun x : S29 × Bool => x.1) (List.map (fun x => (x, false)) row) = row := by rw [List.map_map]; exact List.map_id row
   rw [emap] at hkC
   obtain ⟨_, fj⟩ := fn_cells HI.out.rows j hlt
   have HROW := Aside0.mk hrow
   have HRL := Aside0.mk hrl
   have HKC := Aside0.mk hkC
   have HKL := Aside0.mk hkl
   have CJ := Aside0.mk cj
   have FJ := Aside0.mk fj
   have n4 := blk_cell HI.out.box 4
   simp only [List.getElem?_toArray, List.getElem?_cons_zero, List.getElem?_cons_succ] at n4
   clear hrow hrl hbj hkl hkC fj emap
   go_upto_region 8 with (fail)
   refine start_ (n := 7) (S := fun w' => w'.cell? ⟨w.heap.size + 1, 4, none⟩ = some (.slice (some ⟨q, 0, none⟩) bl.length cb2)) (ds := [6]) #[false, false, false, false, false, false, false] (by kernel_rfl) rfl rfl (n4) (fun hHeld => ?_)
   refine pT 0 (some 40) #[true, false, false, false, false, false, false] (h := ?_)
   refine pT 2 (some 42) #[true, false, true, false, false, false, false] (h := ?_)
   refine pT 3 (some 43) #[true, false, true, true, false, false, false] (h := ?_)
   refine take_ (i := 1) (N := some 41) (v := ?_) (a' := ?_) #[true, true, true, true, false, false, false] rfl rfl (by kernel_rfl) (fun _ _ _ h => h) (Or.inl ⟨by rfl, ?_⟩) hHeld ?_ ?_
   rotate_left
   ·intro w' s0
    go_simp
    with_reducible rfl
   rotate_left
   ·simp only [Act.put, List.setIfInBounds_toArray, List.set_cons_zero, List.set_cons_succ, i64_w, i32_w]
    rfl
   refine one_ (i := 4) (N := some 44) #[true, true, true, true, true, false, false] rfl rfl (by kernel_rfl) (by decide) (fun K hK => ?_)
   refine goes_ Try.func50 (by kernel_rfl) rfl #[.slice Ak row.length ck] (by rfl) rfl rfl (by simp only [List.map_toArray, List.map_cons, List.map_nil]; rfl) ?_
   with_reducible refine (Clone_I Ak ck row w _ HKC.out (below_drew1 HI.out.bel) HKL.out HRL.out.1).mono ?_
   rintro e w5 ⟨v_, rfl, hR_, hb⟩
   refine ⟨_, rfl, ?_⟩
   replace hb := below_step (below_drew (Below.refl wr.heap.size wr)) hb
   obtain ⟨An, cn, rfl⟩ := Kd.R_slice hR_
   have hS1 := fn_row HI.out.rows j HLT.out hb (told_row (Kd.R_lower (Kd.R_mono (Kd.R_bound hR_) (fun k hk => hk.2.1)) (by have := HI.out.num; show w.heap.size + 2 ≤ wr.heap.size; omega)))
   have HI5 : Aside0 (FnI w (w5.setCell ⟨q, j, none⟩ (.slice An row.length cn)) (w.heap.size + 1) sR V (.slice Ar2 rg.length cr2) (.slice (some ⟨q, 0, none⟩) bl.length cb2) ((blks bl j).set j (flags row 0, true))) := ⟨FnI.step HI.out hb (p := ⟨q, j, none⟩) ⟨HQ2.out.2, HQ2.out.1⟩ hS1⟩
   have c5 : w5.cell? ⟨q, j, none⟩ = some (.slice Ak row.length ck) := (hb.cell (block_lt_of_cell CJ.out)).trans CJ.out
   have f5 : w5.frozen? ⟨q, j, none⟩ = false := (hb.frozen (block_lt_of_cell CJ.out)).trans FJ.out
   have BK8 : Aside0 (w5.heap[w.heap.size + 1]? = some (.cells #[.string V.nm, .int .i64 V.pa, .int .i64 V.rt, .slice Ar2 rg.length cr2, .slice (some ⟨q, 0, none⟩) bl.length cb2] 32 (0, 0))) := ⟨blk_below HI.out.box hb⟩
   clear hb hR_ hS1
   refine hK.out _ _ ((blk_cell BK8.out 4).trans rfl) (fun hHeld => ?_)
   clear hK K
   refine norm_ (a' := ?_) ?_ ?_
   rotate_left
   ·show Act.put _ (some 44) _ = _
    simp only [Act.put, List.setIfInBounds_toArray, List.set_cons_zero, List.set_cons_succ, i64_w, i32_w]
    rfl
   refine pT 5 (some 45) #[true, true, true, true, true, true, false] (h := ?_)
   refine last_ (i := 6) (N := none) #[true, true, true, true, true, true, true] rfl rfl (by kernel_rfl) (by decide) (fun K hK => ?_)
   refine skip_ (w1 := ?_) (by rfl) rfl ?_ ?_
   rotate_left
   ·go_simp
    rfl
   refine hK.out _ _ ?_
   clear hK K
   refine done_ (by kernel_rfl) ?_
   generalize w5.setCell ⟨q, j, none⟩ (.slice An row.length cn) = W6 at HI5 ⊢
   clear HI CJ FJ c5 f5 BK8 n4 hHeld cj
   go_wp2
   obtain ⟨W7, hW7⟩ : ∃ q, q = W6 := ⟨_, rfl⟩
   subst hW7
   go_loopw [48] (fun v48 wr => ∃ a : Nat, v48 = .int .i64 (a : Int) ∧ Aside0 (a ≤ row.length) ∧ Aside0 (FnI w wr (w.heap.size + 1) sR V (.slice Ar2 rg.length cr2) (.slice (some ⟨q, 0, none⟩) bl.length cb2) ((blks bl j).set j (flags row a, true)))) (fun v48 wr => row.length - (intOf v48).toNat)
   case atStart => exact ⟨0, rfl, ⟨Nat.zero_le _⟩, ⟨HI5.out⟩⟩
   case round =>
    clear HI5
    obtain ⟨a, rfl, HA, HI⟩ := hrel
    by_cases hat : a < row.length
    ·have HAT := Aside0.mk hat
     have s1 : decide ((a : Int) < (row.length : Int)) = true := decide_eq_true (by omega)
     have s2 : decide (a < row.length) = true := decide_eq_true hat
     have r1 : (0 : Int) ≤ (a : Int) := by omega
     have r2 : (a : Int) < (row.length : Int) := by omega
     have hwr : wrap64 ((a : Int) + 1) = ((a + 1 : Nat) : Int) := by have := HRL.out.1; unfold wrap64; omega
     have HWA := Aside0.mk hwr
     clear hwr
     obtain ⟨x, hx⟩ : ∃ x, row[a]? = some x := ⟨_, List.getElem?_eq_getElem hat⟩
     have hxl := HRL.out.2 x (List.mem_of_getElem? hx)
     have hbj : ((blks bl j).set j (flags row a, true))[j]? = some (flags row a, true) := by rw [List.getElem?_set, if_pos rfl, if_pos (by rw [blks_len]; exact HLT.out)]
     have hfa : (flags row a)[a]? = some (x, false) := by rw [flags_get, hx]; simp
     obtain ⟨qi, ci, cq, hq1, hq2, hq3, ⟨uo, cu⟩, fu, hnext⟩ := fn_args HI.out.rows j HLT.out hbj a hfa
     rw [flags_len] at cq
     rw [List.set_set, flags_set row a x hx] at hnext
     have erd : rd_T29 row (a : Int) = x := by simp [rd_T29, List.getD_eq_getElem?_getD, hx]
     obtain ⟨ad, A8, c8, eAd, _, _, _, _, _, _, _, _, cx8, hl8, hC8⟩ := at_T29 HKC.out (a : Int) r1 r2
     rw [erd] at cx8 hl8 hC8
     subst eAd
     (try simp only [Int.toNat_natCast] at cx8)
     have HNX := Aside0.mk (fun (W1 : World) (va : Value) => @hnext W1 va)
     have HCQ := Aside0.mk cq
     have HQI := Aside0.mk (And.intro hq1 (And.intro hq2 hq3))
     have HCU := Aside0.mk cu
     have HFU := Aside0.mk fu
     have HX8 := Aside0.mk ((HI.out.bel.cell (block_lt_of_cell cx8)).trans cx8)
     have HC8 := Aside0.mk hC8
     have HL8 := Aside0.mk hl8
     have HXL := Aside0.mk hxl
     have HCX : Aside0 (slices_Clone_int_int.f x.f8 = some x.f8) := ⟨if_pos (by omega)⟩
     have n4 := blk_cell HI.out.box 4
     simp only [List.getElem?_toArray, List.getElem?_cons_zero, List.getElem?_cons_succ] at n4
     clear hx hxl hbj hfa cq hq1 hq2 hq3 cu fu hnext erd cx8 hl8 hC8
     go_upto_region 12 with (fail)
     refine start_ (n := 15) (S := fun w' => w'.cell? ⟨w.heap.size + 1, 4, none⟩ = some (.slice (some ⟨q, 0, none⟩) bl.length cb2) ∧ w'.cell? ⟨q, j, none⟩ = some (.slice (some ⟨qi, 0, none⟩) row.length ci) ∧ w'.cell? ⟨(ad.add (a * 9)).block, (ad.add (a * 9)).off + 8, none⟩ = some (.slice A8 x.f8.length c8)) (ds := [14]) #[false, false, false, false, false, false, false, false, false, false, false, false, false, false, false] (by kernel_rfl) rfl rfl ⟨n4, HCQ.out, HX8.out⟩ (fun hHeld => ?_)
     refine pT 0 (some 51) (zb 15 1) (h := ?_)
     refine pT 2 (some 53) (zb 15 5) (h := ?_)
     refine pT 5 (some 56) (zb 15 37) (h := ?_)
     refine pT 6 (some 57) (zb 15 101) (h := ?_)
     refine pT 7 (some 58) (zb 15 229) (h := ?_)
     refine pT 8 (some 59) (zb 15 485) (h := ?_)
     refine pT 9 (some 60) (zb 15 997) (h := ?_)
     refine take_ (i := 1) (N := some 52) (v := ?_) (a' := ?_) (zb 15 999) rfl rfl (by kernel_rfl) (fun _ _ _ h => h) (Or.inl ⟨by rfl, ?_⟩) hHeld ?_ ?_
     rotate_left
     ·rintro w' ⟨s0, s1, s2⟩
      go_simp
      with_reducible rfl
     rotate_left
     ·simp only [Act.put, List.setIfInBounds_toArray, List.set_cons_zero, List.set_cons_succ, i64_w, i32_w]
      rfl
     refine pT 3 (some 54) (zb 15 1007) (h := ?_)
     refine take_ (i := 4) (N := some 55) (v := ?_) (a' := ?_) (zb 15 1023) rfl rfl (by kernel_rfl) (fun _ _ _ h => h) (Or.inl ⟨by rfl, ?_⟩) hHeld ?_ ?_
     rotate_left
     ·rintro w' ⟨s0, s1, s2⟩
      go_simp
      with_reducible rfl
     rotate_left
     ·simp only [Act.put, List.setIfInBounds_toArray, List.set_cons_zero, List.set_cons_succ, i64_w, i32_w]
      rfl
     refine take_ (i := 10) (N := some 61) (v := ?_) (a' := ?_) (zb 15 2047) rfl rfl (by kernel_rfl) (fun _ _ _ h => h) (Or.inl ⟨by rfl, ?_⟩) hHeld ?_ ?_
     rotate_left
     ·rintro w' ⟨s0, s1, s2⟩
      go_simp
      with_reducible rfl
     rotate_left
     ·simp only [Act.put, List.setIfInBounds_toArray, List.set_cons_zero, List.set_cons_succ, i64_w, i32_w]
      rfl
     refine one_ (i := 11) (N := some 62) (zb 15 4095) rfl rfl (by kernel_rfl) (by decide) (fun K hK => ?_)
     refine goes_ Try.func43 (by kernel_rfl) rfl #[.slice A8 x.f8.length c8] (by rfl) rfl rfl (by simp only [List.map_toArray, List.map_cons, List.map_nil]; rfl) ?_
     with_reducible refine (slices_Clone_int_int.calls A8 c8 x.f8 x.f8 _ (Kd.C_below HC8.out (below_drew1 HI.out.bel)) HL8.out HCX.out).mono ?_
     rintro e w8 ⟨v_, rfl, hR_, hb⟩
     refine ⟨_, rfl, ?_⟩
     replace hb := below_step (below_drew (Below.refl wr.heap.size wr)) hb
     obtain ⟨An2, cn2, rfl⟩ := Kd.R_slice hR_
     have hS1 := HNX.out w8 (.slice An2 x.f8.length cn2) hb (Kd.R_lower (Kd.R_mono (Kd.R_bound hR_) (fun k hk => hk.2.1)) (by have := HI.out.num; show w.heap.size + 2 ≤ wr.heap.size; omega))
     have HI8 : Aside0 (FnI w (w8.setCell ⟨qi, a * 9 + 8, none⟩ (.slice An2 x.f8.length cn2)) (w.heap.size + 1) sR V (.slice Ar2 rg.length cr2) (.slice (some ⟨q, 0, none⟩) bl.length cb2) ((blks bl j).set j (flags row (a + 1), true))) := ⟨FnI.step HI.out hb (p := ⟨qi, a * 9 + 8, none⟩) ⟨HQI.out.2.2, HQI.out.1⟩ hS1⟩
     have c8_ : w8.cell? ⟨qi, a * 9 + 8, none⟩ = some uo := (hb.cell (block_lt_of_cell HCU.out)).trans HCU.out
     have f8_ : w8.frozen? ⟨qi, a * 9 + 8, none⟩ = false := (hb.frozen (block_lt_of_cell HCU.out)).trans HFU.out
     have BK8 : Aside0 (w8.heap[w.heap.size + 1]? = some (.cells #[.string V.nm, .int .i64 V.pa, .int .i64 V.rt, .slice Ar2 rg.length cr2, .slice (some ⟨q, 0, none⟩) bl.length cb2] 32 (0, 0))) := ⟨blk_below HI.out.box hb⟩
     have g2 : w8.cell? ⟨q, j, none⟩ = some (.slice (some ⟨qi, 0, none⟩) row.length ci) := (hb.cell (block_lt_of_cell HCQ.out)).trans HCQ.out
     have g3 : w8.cell? ⟨(ad.add (a * 9)).block, (ad.add (a * 9)).off + 8, none⟩ = some (.slice A8 x.f8.length c8) := (hb.cell (block_lt_of_cell HX8.out)).trans HX8.out
     clear hb hR_ hS1
     refine hK.out _ _ ⟨(blk_cell BK8.out 4).trans rfl, g2, g3⟩ (fun hHeld => ?_)
     clear hK K
     refine norm_ (a' := ?_) ?_ ?_
     rotate_left
     ·show Act.put _ (some 62) _ = _
      simp only [Act.put, List.setIfInBounds_toArray, List.set_cons_zero, List.set_cons_succ, i64_w, i32_w]
      rfl
     refine pT 12 (some 63) (zb 15 8191) (h := ?_)
     refine pT 13 (some 64) (zb 15 16383) (h := ?_)
     refine last_ (i := 14) (N := none) (zb 15 32767) rfl rfl (by kernel_rfl) (by decide) (fun K hK => ?_)
     refine skip_ (w1 := ?_) (by rfl) rfl ?_ ?_
     rotate_left
     ·go_simp
      rfl
     refine hK.out _ _ ?_
     clear hK K
     refine done_ (by kernel_rfl) ?_
     generalize w8.setCell ⟨qi, a * 9 + 8, none⟩ (.slice An2 x.f8.length cn2) = W9 at HI8 ⊢
     go_wp2
     go_roundw
     case rel => exact ⟨a + 1, by first | (rw [HWA.out]; done) | (rw [HWA.out]) | go_num, ⟨by have := HAT.out; omega⟩, ⟨HI8.out⟩⟩
     case measure => exact bd_meas _ _ _ (by first | exact HWA.out | omega) HAT.out
    have s1 : decide ((a : Int) < (row.length : Int)) = false := decide_eq_false (by omega)
    have s2 : decide (a < row.length) = false := decide_eq_false hat
    obtain rfl : a = row.length := by have := HA.out; omega
    have HI2 : Aside0 (FnI w wr (w.heap.size + 1) sR V (.slice Ar2 rg.length cr2) (.slice (some ⟨q, 0, none⟩) bl.length cb2) (blks bl (j + 1))) := ⟨blks_set bl j row HROW.out ▸ HI.out⟩
    clear HI
    go_wp2
    go_roundw
    case rel => exact ⟨j + 1, by first | (rw [HWR.out]; done) | (rw [HWR.out]) | go_num, ⟨by have := HLT.out; omega⟩, ⟨HI2.out⟩⟩
    case measure => exact bd_meas _ _ _ (by first | exact HWR.out | omega) HLT.out
  have t1 : decide ((j : Int) < (bl.length : Int)) = false := decide_eq_false (by omega)
  have t2 : decide (j < bl.length) = false := decide_eq_false hlt
  obtain rfl : j = bl.length := by have := HJ.out; omega
  have hS9 : Kd.S kB 35 wr (w.heap.size + 2) (fun k => sR ≤ k) (.slice (some ⟨q, 0, none⟩) bl.length cb2) bl := S_rows (S_all (blks_all bl ▸ HI.out.rows))
  have n0 := blk_cell HI.out.box 0
  have y0 := blk_cell HI.out.zero 0
  have x0 := blk_frozen HI.out.zero 0
  have n1 := blk_cell HI.out.box 1
  have y1 := blk_cell HI.out.zero 1
  have x1 := blk_frozen HI.out.zero 1
  have n2 := blk_cell HI.out.box 2
  have y2 := blk_cell HI.out.zero 2
  have x2 := blk_frozen HI.out.zero 2
  have n3 := blk_cell HI.out.box 3
  have y3 := blk_cell HI.out.zero 3
  have x3 := blk_frozen HI.out.zero 3
  have n4 := blk_cell HI.out.box 4
  have y4 := blk_cell HI.out.zero 4
  have x4 := blk_frozen HI.out.zero 4
  simp only [List.getElem?_toArray, List.getElem?_cons_zero, List.getElem?_cons_succ] at n0 y0 n1 y1 n2 y2 n3 y3 n4 y4
  have HS9 := Aside0.mk hS9
  clear hS9
  go_wp2
  have hZ1 : (Kd.int .i64).R 3 wr (w.heap.size + 2) (fun k => k < sR ∧ w.heap.size + 2 ≤ k) (.slice Ar2 rg.length cr2) rg := Kd.R_mono (Kd.R_bound (ERG.out ▸ HI.out.regs)) (fun k hk => And.intro hk.1 hk.2.1)
  have hZ2 := Kd.R_far (Kd.R_far (Kd.R_far (Kd.R_far (Kd.R_far (hZ1) (p := ⟨w.heap.size, 0, none⟩) (fun k hk => by have := hk.2; show k ≠ w.heap.size; omega) (.string V.nm)) (p := ⟨w.heap.size, 1, none⟩) (fun k hk => by have := hk.2; show k ≠ w.heap.size; omega) (.int .i64 V.pa)) (p := ⟨w.heap.size, 2, none⟩) (fun k hk => by have := hk.2; show k ≠ w.heap.size; omega) (.int .i64 V.rt)) (p := ⟨w.heap.size, 3, none⟩) (fun k hk => by have := hk.2; show k ≠ w.heap.size; omega) (.slice Ar2 rg.length cr2)) (p := ⟨w.heap.size, 4, none⟩) (fun k hk => by have := hk.2; show k ≠ w.heap.size; omega) (.slice (some ⟨q, 0, none⟩) bl.length cb2)
  refine bodyPost_ret (results_ct rfl _ _ w.heap.size 32 #[.string V.nm, .int .i64 V.pa, .int .i64 V.rt, .slice Ar2 rg.length cr2, .slice (some ⟨q, 0, none⟩) bl.length cb2] (0, 0) _ rfl ?hg hu rfl (by kernel_rfl)) rfl ?_
  case hg => have h_ := blk_set (blk_set (blk_set (blk_set (blk_set (HI.out.zero) 0 (.string V.nm)) 1 (.int .i64 V.pa)) 2 (.int .i64 V.rt)) 3 (.slice Ar2 rg.length cr2)) 4 (.slice (some ⟨q, 0, none⟩) bl.length cb2); simpa using h_
  exact ⟨_, _, sR, rfl, Kd.R_lower (Kd.R_mono hZ2 (fun k hk => hk.1)) (by omega), Kd.S_lower (Kd.S_far (Kd.S_far (Kd.S_far (Kd.S_far (Kd.S_far (HS9.out) (p := ⟨w.heap.size, 0, none⟩) (fun k hk => by have := HI.out.num; show k ≠ w.heap.size; omega) (.string V.nm)) (p := ⟨w.heap.size, 1, none⟩) (fun k hk => by have := HI.out.num; show k ≠ w.heap.size; omega) (.int .i64 V.pa)) (p := ⟨w.heap.size, 2, none⟩) (fun k hk => by have := HI.out.num; show k ≠ w.heap.size; omega) (.int .i64 V.rt)) (p := ⟨w.heap.size, 3, none⟩) (fun k hk => by have := HI.out.num; show k ≠ w.heap.size; omega) (.slice Ar2 rg.length cr2)) (p := ⟨w.heap.size, 4, none⟩) (fun k hk => by have := HI.out.num; show k ≠ w.heap.size; omega) (.slice (some ⟨q, 0, none⟩) bl.length cb2)) (by omega), below_set (below_set (below_set (below_set (below_set (HI.out.bel) (Nat.le_refl _)) (Nat.le_refl _)) (Nat.le_refl _)) (Nat.le_refl _)) (Nat.le_refl _)⟩
end Go.Proofs.Ytomopjomapkmjaa.B
set_option linter.unusedVariables false
set_option linter.unusedSimpArgs false
namespace Go.Proofs.Ytomopjomapkmjaa.B
open Go Go.RowKit Go.Proofs.YtomopjomapkmjaaW.PrintWords Go.Proofs.YtomopjomapkmjaaW.PrintLast Go.Proofs.YtomopjomapkmjaaW.PrintMore Go.Proofs.Ytomopjomapkmjaa.Pure
theorem R_one {base B : Nat} {W : World} {x : Int} (hb : base ≤ B) (h : W.heap[B]? = some (.cells #[.int .i64 x] 3 (0, 0))) : (Kd.int .i64).R 3 W base (fun k => k = B) (.slice (some ⟨B, 0, none⟩) 1 1) [x] := by
 refine ⟨fun k hk => ?_, [.int .i64 x], own_one hb h, ⟨rfl, fun j p hj => ?_⟩⟩
 ·have : B = k := by simpa [Value.ownBlock] using hk
  exact this.symm
 ·obtain rfl : j = 0 := by
   have := (List.getElem?_eq_some_iff.1 hj).1
   simp at this
   omega
  obtain rfl : p = x := by simpa using hj.symm
  exact rfl
theorem C_one {B : Nat} {W : World} {x : Int} (h : W.heap[B]? = some (.cells #[.int .i64 x] 3 (0, 0))) : (Kd.int .i64).C W (some ⟨B, 0, none⟩) 1 [x] := (Kd.R_reads' (R_one (Nat.zero_le _) h)).2.2
def nmF : ByteArray := ⟨#[102]⟩
def x20 : S29 := ⟨20, 1, 0, 0, 0, 0, 0, 0, []⟩
def x43 : S29 := ⟨43, 0, 1, 0, 0, 0, 0, 0, []⟩
def V0 : BV := ⟨nmF, 1, 1, [3], [[]], [1], 0⟩
def V1 : BV := ⟨nmF, 1, 1, [3, 1], [[]], [1], 0⟩
def V2 : BV := ⟨nmF, 1, 1, [3, 1], [[x20]], [1], 0⟩
def V3 : BV := ⟨nmF, 1, 1, [3, 1], [[x20, x43]], [2], 0⟩
theorem p1 : putB V1 x20 = true := by kernel_rfl
theorem p2 : putB V2 x43 = true := by kernel_rfl
theorem e1 : instr_Ends.f x20.f0 = some false := by kernel_rfl
theorem e2 : instr_Ends.f x43.f0 = some true := by kernel_rfl
theorem q1 : putV V1 x20 false = V2 := rfl
theorem q2 : putV V2 x43 true = V3 := rfl
theorem d2 : doneB V2 = false := by kernel_rfl
theorem d3 : doneB V3 = true := by kernel_rfl
theorem o3 : openB V3 = false := by kernel_rfl
theorem n0 : newB [3] 1 = true := by kernel_rfl
theorem fit0 : Fit V0 := ⟨by decide, by decide, rfl⟩
theorem fit1 : Fit V1 := ⟨by decide, by decide, rfl⟩
theorem fit2 : Fit V2 := ⟨by decide, by decide, rfl⟩
theorem fit3 : Fit V3 := ⟨by decide, by decide, rfl⟩
theorem k1_ : kindB 1 = true := by kernel_rfl
set_option maxHeartbeats 8000000 in
set_option maxRecDepth 100000 in
theorem works_at (w : World) : Calls Try.prog 10 #[] w fun e w' => e = .returned (.bool true) ∧ Below w.heap.size w w' := by
 have HC := Aside0.mk (C_one (blk_new w (.cells #[.int .i64 3] 3)))
 have HB := Aside0.mk (below_alloc (Below.refl w.heap.size w) (.cells #[.int .i64 3] 3))
 have HS := Aside0.mk (show w.heap.size ≤ (w.alloc (.cells #[.int .i64 3] 3)).heap.size by simp)
 go_enter Try.func10, Try.ntmps10
 go_upto_region 2 with (go_at_call 11; ((refine (New_at (some ⟨w.heap.size, 0, none⟩) 1 nmF [3] 1 _ HC.out (Nat.le_refl _) n0).mono ?_); rintro e w1 ⟨g, ok, rfl, hBA, hb⟩; have HBA := Aside0.mk (BAt.lower (V := V0) hBA HS.out); have HB1 := Aside0.mk (below_step HB.out hb); clear hBA hb))
 go_upto_region 3 with (go_at_call 16; ((refine (Reg_at (V := V0) HBA.out fit0 HB1.out HB1.out.size (by decide) 1 k1_).mono ?_); rintro e w2 ⟨he, hb, hk, ok2, hok, hBA⟩; obtain rfl : e = .returned (.int .i64 1) := he; have HBA2 := Aside0.mk (show BAt w.heap.size ok2 w2 g V1 from hBA); have HB2 := Aside0.mk hb; clear hb hk hok hBA HBA HB1))
 go_upto_region 4 with (go_at_call 12; ((refine (Put_at (V := V1) HBA2.out fit1 (by decide) x20 none 0 (by decide) (Kd.C_nil _ _) (Nat.le_refl _) HB2.out HB2.out.size (by decide) p1 false e1).mono ?_); rintro e w3 ⟨rfl, hb, hk, ok3, hok, hBA⟩; have HBA3 := Aside0.mk (show BAt w.heap.size ok3 w3 g V2 from q1 ▸ hBA); have HB3 := Aside0.mk hb; clear hb hk hok hBA HBA2 HB2))
 go_upto_region 5 with (go_at_call 13; ((refine (Func_bad (V := V2) HBA3.out fit2 d2).mono ?_); rintro e w4 ⟨rfl, hb⟩; have HBA4 := Aside0.mk (HBA3.out.below hb); have HB4 := Aside0.mk (below_step HB3.out hb); clear hb HBA3 HB3))
 have HBA5 := Aside0.mk (HBA4.out.below (below_alloc (Below.refl _ _) (.cells #[.string ⟨#[]⟩, .int .i64 0, .int .i64 0, .slice none 0 0, .slice none 0 0] 32)))
 have HB5 := Aside0.mk (below_alloc HB4.out (.cells #[.string ⟨#[]⟩, .int .i64 0, .int .i64 0, .slice none 0 0, .slice none 0 0] 32))
 clear HBA4 HB4
 go_upto_region 6 with (go_at_call 12; ((refine (Put_at (V := V2) HBA5.out fit2 (by decide) x43 none 0 (by decide) (Kd.C_nil _ _) (Nat.le_refl _) HB5.out HB5.out.size (by decide) p2 true e2).mono ?_); rintro e w6 ⟨rfl, hb, hk, ok6, hok, hBA⟩; have HBA6 := Aside0.mk (show BAt w.heap.size ok6 w6 g V3 from q2 ▸ hBA); have HB6 := Aside0.mk hb; clear hb hk hok hBA HBA5 HB5))
 go_upto_region 7 with (go_at_call 13; ((refine (Func_at (V := V3) HBA6.out fit3 d3 (by decide)).mono ?_); rintro e w7 ⟨vr, vb, sR, he, hr, hS, hb⟩; obtain ⟨q, cb, rfl, hq1, hq2, cellsq, hq3⟩ := Kd.S_form hS (by decide); have HBA7 := Aside0.mk (HBA6.out.below hb); have HB7 := Aside0.mk (below_step HB6.out hb); have HSB := Aside0.mk hS; obtain ⟨Ar, cr, rfl⟩ := Kd.R_slice hr; obtain rfl : e = .returned (.tuple #[.agg #[.string ⟨#[102]⟩, .int .i64 1, .int .i64 1, .slice Ar 2 cr, .slice (some ⟨q, 0, none⟩) 1 cb], .bool true]) := he; clear hb hr hS HBA6 HB6))
 have HBA8 := Aside0.mk (HBA7.out.below (below_alloc (Below.refl _ _) (.cells #[.string ⟨#[102]⟩, .int .i64 1, .int .i64 1, .slice Ar 2 cr, .slice (some ⟨q, 0, none⟩) 1 cb] 32)))
 have HB8 := Aside0.mk (below_alloc HB7.out (.cells #[.string ⟨#[102]⟩, .int .i64 1, .int .i64 1, .slice Ar 2 cr, .slice (some ⟨q, 0, none⟩) 1 cb] 32))
 obtain ⟨ad, A0, c0, eA, hc0, _, _⟩ := at_L4 (Kd.S_reads' HSB.out).2.2 0 (by decide) (by decide)
 injection eA with eA
 subst eA
 have hc1 : w7.cell? ⟨q, 0, none⟩ = some (.slice A0 2 c0) := hc0
 clear hc0
 have hop := Open_b HBA8.out fit3 o3
 go_wp2_with (go_at_call 26; ((refine hop.mono ?_); rintro e w9 ⟨rfl, hb⟩; have HB9 := Aside0.mk (below_step HB8.out hb); clear hb))
 go_ret
 exact ⟨rfl, HB9.out⟩
end Go.Proofs.Ytomopjomapkmjaa.B
set_option linter.unusedVariables false
set_option linter.unusedSimpArgs false
namespace Go.Proofs.Ytomopjomapkmjaa.B
open Go Go.RowKit Go.Proofs.YtomopjomapkmjaaW.PrintWords Go.Proofs.YtomopjomapkmjaaW.PrintLast Go.Proofs.YtomopjomapkmjaaW.PrintMore Go.Proofs.Ytomopjomapkmjaa.Pure
section
variable (M : List Int) (h8 : M.length ≤ 8) (h3 : ∀ x ∈ M, 0 ≤ x ∧ x < 3)
end
theorem sameInts_ev (l : List Int) (hl : l.length < 4611686018427387904) : Ev (fun k => balustradebase_SameInts.f k l l) true := by
 have key : ∀ d i, l.length - i = d → i ≤ l.length → Ev (fun k => balustradebase_SameInts.l0 k l l (i : Int)) true := by
  intro d
  induction d with
  | zero =>
   intro i hd hi
   refine Ev.step (f := fun _ => some true) (fun k => ?_) (Ev.now _)
   rw [balustradebase_SameInts.l0, if_neg (by omega)]
  | succ d ih =>
   intro i hd hi
   refine Ev.step (f := fun k => balustradebase_SameInts.l0 k l l ((i + 1 : Nat) : Int)) (fun k => ?_) (ih (i + 1) (by omega) (by omega))
   rw [balustradebase_SameInts.l0, if_pos (by omega), if_pos (by omega), if_pos (by omega), if_pos rfl]
   have e : wrap64 ((i : Int) + 1) = ((i + 1 : Nat) : Int) := by unfold wrap64; omega
   rw [e]
 have h0 := key l.length 0 (by omega) (Nat.zero_le _)
 exact Ev.congr (fun k => by show (if (l.length : Int) = (l.length : Int) then _ else _) = _; rw [if_pos rfl]; rfl) h0
end Go.Proofs.Ytomopjomapkmjaa.B
set_option linter.unusedVariables false
set_option linter.unusedSimpArgs false
namespace Go.Proofs.Ytomopjomapkmjaa.B
open Go Go.RowKit Go.Proofs.YtomopjomapkmjaaW.PrintWords Go.Proofs.YtomopjomapkmjaaW.PrintLast Go.Proofs.YtomopjomapkmjaaW.PrintMore Go.Proofs.Ytomopjomapkmjaa.Pure
structure XV where
 nm : ByteArray
 pa : Int
 rt : Int
 rg : List Int
 bl : List (List S29)
 bg : List Bool
 at_ : Int
def kX (w0 : World) : Kd (List S29) := Kd.slice 29 (Kd.fixed k29 w0)
def XAt (w0 : World) (base : Nat) (ok : Nat → Prop) (w : World) (g : Nat) (V : XV) : Prop :=
 base ≤ g ∧ ¬ ok g ∧ (∀ k, ok k → base ≤ k ∧ k < w.heap.size) ∧ ∃ (f : Nat → Nat) (vr vb vs : Value),
  w.heap[g]? = some (.cells #[.string V.nm, .int .i64 V.pa, .int .i64 V.rt, vr, vb, vs, .int .i64 V.at_] 52 (0, 0)) ∧
  (Kd.int .i64).R 3 w base (fun k => ok k ∧ f k = 0) vr V.rg ∧
  Kd.S (kX w0) 35 w base (fun k => ok k ∧ f k = 1) vb V.bl ∧
  Kd.R Kd.bool 4 w base (fun k => ok k ∧ f k = 2) vs V.bg
section
variable {w0 w w1 W : World} {base g : Nat} {ok : Nat → Prop} {V : XV}
theorem XAt.lt (h : XAt w0 base ok w g V) : g < w.heap.size := by
 obtain ⟨_, _, _, f, vr, vb, vs, hb, _⟩ := h
 exact blk_lt hb
theorem XAt.step (h : XAt w0 base ok w g V) (hs : w.heap.size ≤ w1.heap.size) (hm : ∀ k, k = g ∨ ok k → k < w.heap.size → w1.heap[k]? = w.heap[k]?) : XAt w0 base ok w1 g V := by
 have hl := h.lt
 obtain ⟨h1, h2, h3, f, vr, vb, vs, hb, hr, hB, ht⟩ := h
 exact ⟨h1, h2, fun k hk => ⟨(h3 k hk).1, by have := (h3 k hk).2; omega⟩, f, vr, vb, vs, (hm g (.inl rfl) hl).trans hb, Kd.R_step hr (fun k hk hlt => hm k (.inr hk.1) hlt), Kd.S_step hB (fun k hk hlt => hm k (.inr hk.1) hlt), Kd.R_step ht (fun k hk hlt => hm k (.inr hk.1) hlt)⟩
theorem XAt.below (h : XAt w0 base ok w g V) (hb : Below w.heap.size w w1) : XAt w0 base ok w1 g V := h.step hb.size (fun k _ hk => hb.block k hk)
theorem XAt.kept {S : Nat → Prop} (h : XAt w0 base ok w g V) (hk : Kept w w1 S) (hg : ¬ S g) (hS : ∀ k, ok k → ¬ S k) : XAt w0 base ok w1 g V := h.step hk.1 (fun k h1 hlt => hk.2 k hlt (by rcases h1 with rfl | h1; exact hg; exact hS k h1))
end
def XTurned (w0 : World) (base : Nat) (ok : Nat → Prop) (w w' : World) (g : Nat) (V' : XV) : Prop :=
 Kept w w' (fun k => k = g ∨ ok k) ∧ ∃ ok', (∀ k, ok' k → ok k ∨ w.heap.size ≤ k) ∧ XAt w0 base ok' w' g V'
section
variable {w0 w w1 w2 W : World} {base g : Nat} {ok : Nat → Prop} {V V1 V2 : XV} {nm : ByteArray} {pa rt at_ : Int} {vr vb vs : Value} {rg : List Int} {st : List Bool} {bl : List (List S29)} {f : Nat → Nat}
theorem XTurned.then_ (h : XTurned w0 base ok w w1 g V1) (k : ∀ ok', XAt w0 base ok' w1 g V1 → XTurned w0 base ok' w1 w2 g V2) : XTurned w0 base ok w w2 g V2 := by
 obtain ⟨h1, ok1, h2, h3⟩ := h
 obtain ⟨k1, ok2, k2, k3⟩ := k ok1 h3
 refine ⟨h1.then_ k1 (fun k hk => ?_), ok2, fun k hk => ?_, k3⟩
 ·rcases hk with rfl | hk
  ·exact .inl (.inl rfl)
  ·rcases h2 k hk with h | h
   ·exact .inl (.inr h)
   ·exact .inr h
 ·rcases k2 k hk with h | h
  ·exact h2 k h
  ·have := h1.1; exact .inr (by omega)
theorem xt_rg (h1 : base ≤ g) (h2 : ¬ ok g) (h3 : ∀ k, ok k → base ≤ k ∧ k < w.heap.size)
  (hb : w.heap[g]? = some (.cells #[.string nm, .int .i64 pa, .int .i64 rt, vr, vb, vs, .int .i64 at_] 52 (0, 0)))
  (hr : (Kd.int .i64).R 3 w base (fun k => ok k ∧ f k = 0) vr rg) (hB : Kd.S (kX w0) 35 w base (fun k => ok k ∧ f k = 1) vb bl) (ht : Kd.R Kd.bool 4 w base (fun k => ok k ∧ f k = 2) vs st)
  {v1 : Value} {x1 : List Int} (ho : (Kd.int .i64).R 3 w1 base (fun k => (ok k ∧ f k = 0) ∨ w.heap.size ≤ k) v1 x1) (hg : w.grownBy w1 vr.ownBlock) (hs : w.heap.size ≤ w1.heap.size) :
  XTurned w0 base ok w (w1.setCell ⟨g, 3, none⟩ v1) g ⟨nm, pa, rt, x1, bl, st, at_⟩ := by
 have hl := blk_lt hb
 have hne : some g ≠ vr.ownBlock := fun e => h2 (hr.1 g e.symm).1
 refine ⟨((grown_kept hg hs (fun k e => .inr (hr.1 k e).1)).setCell (p := ⟨g, 3, none⟩) (.inl (.inl rfl)) v1), fun k => (ok k ∨ w.heap.size ≤ k) ∧ k < w1.heap.size, fun k hk => hk.1, h1, ?_, ?_, fun k => if k < w.heap.size then f k else 0, v1, vb, vs, ?_, ?_, ?_, ?_⟩
 ·rintro ⟨h | h, _⟩
  ·exact h2 h
  ·omega
 ·rintro k ⟨h | h, h'⟩
  ·exact ⟨(h3 k h).1, by simpa using h'⟩
  ·exact ⟨by omega, by simpa using h'⟩
 ·exact blk_put (blk_grown hb hg hne) 3 v1 rfl
 ·refine Kd.R_far (Kd.R_mono (Kd.R_bound ho) (fun k hk => ?_)) (fun k hk => ?_) v1
  ·rcases hk with ⟨h | h, h4, h5, _⟩
   ·exact ⟨⟨.inl h.1, h5⟩, (if_pos (h3 k h.1).2).trans h.2⟩
   ·exact ⟨⟨.inr h, h5⟩, if_neg (by omega)⟩
  ·rintro rfl
   rcases hk.1.1 with h | h
   ·exact h2 h
   ·omega
 ·refine Kd.S_far (Kd.S_mono (Kd.S_grown hB hg (fun k hk e => ?_)) (fun k hk => ?_)) (fun k hk => ?_) v1
  ·have := (hr.1 k e.symm).2; omega
  ·have := (h3 k hk.1).2; exact ⟨⟨.inl hk.1, by omega⟩, (if_pos this).trans hk.2⟩
  ·rintro rfl
   rcases hk.1.1 with h | h
   ·exact h2 h
   ·omega
 ·refine Kd.R_far (Kd.R_mono (Kd.R_grown ht hg (fun k hk e => ?_)) (fun k hk => ?_)) (fun k hk => ?_) v1
  ·have := (hr.1 k e.symm).2; omega
  ·have := (h3 k hk.1).2; exact ⟨⟨.inl hk.1, by omega⟩, (if_pos this).trans hk.2⟩
  ·rintro rfl
   rcases hk.1.1 with h | h
   ·exact h2 h
   ·omega
theorem xt_bl (h1 : base ≤ g) (h2 : ¬ ok g) (h3 : ∀ k, ok k → base ≤ k ∧ k < w.heap.size)
  (hb : w.heap[g]? = some (.cells #[.string nm, .int .i64 pa, .int .i64 rt, vr, vb, vs, .int .i64 at_] 52 (0, 0)))
  (hr : (Kd.int .i64).R 3 w base (fun k => ok k ∧ f k = 0) vr rg) (hB : Kd.S (kX w0) 35 w base (fun k => ok k ∧ f k = 1) vb bl) (ht : Kd.R Kd.bool 4 w base (fun k => ok k ∧ f k = 2) vs st)
  {v1 : Value} {x1 : List (List S29)} (ho : Kd.S (kX w0) 35 w1 base (fun k => (ok k ∧ f k = 1) ∨ w.heap.size ≤ k) v1 x1) (hg : w.grownBy w1 vb.ownBlock) (hs : w.heap.size ≤ w1.heap.size) :
  XTurned w0 base ok w (w1.setCell ⟨g, 4, none⟩ v1) g ⟨nm, pa, rt, rg, x1, st, at_⟩ := by
 have hl := blk_lt hb
 have hne : some g ≠ vb.ownBlock := fun e => h2 ((Kd.S_R hB).1 g e.symm).1
 refine ⟨((grown_kept hg hs (fun k e => .inr ((Kd.S_R hB).1 k e).1)).setCell (p := ⟨g, 4, none⟩) (.inl (.inl rfl)) v1), fun k => (ok k ∨ w.heap.size ≤ k) ∧ k < w1.heap.size, fun k hk => hk.1, h1, ?_, ?_, fun k => if k < w.heap.size then f k else 1, vr, v1, vs, ?_, ?_, ?_, ?_⟩
 ·rintro ⟨h | h, _⟩
  ·exact h2 h
  ·omega
 ·rintro k ⟨h | h, h'⟩
  ·exact ⟨(h3 k h).1, by simpa using h'⟩
  ·exact ⟨by omega, by simpa using h'⟩
 ·exact blk_put (blk_grown hb hg hne) 4 v1 rfl
 ·refine Kd.R_far (Kd.R_mono (Kd.R_grown hr hg (fun k hk e => ?_)) (fun k hk => ?_)) (fun k hk => ?_) v1
  ·have := ((Kd.S_R hB).1 k e.symm).2; have := hk.2; omega
  ·have := (h3 k hk.1).2; exact ⟨⟨.inl hk.1, by omega⟩, (if_pos this).trans hk.2⟩
  ·rintro rfl
   rcases hk.1.1 with h | h
   ·exact h2 h
   ·omega
 ·refine Kd.S_far (Kd.S_mono (Kd.S_bound ho) (fun k hk => ?_)) (fun k hk => ?_) v1
  ·rcases hk with ⟨h | h, h4, h5, _⟩
   ·exact ⟨⟨.inl h.1, h5⟩, (if_pos (h3 k h.1).2).trans h.2⟩
   ·exact ⟨⟨.inr h, h5⟩, if_neg (by omega)⟩
  ·rintro rfl
   rcases hk.1.1 with h | h
   ·exact h2 h
   ·omega
 ·refine Kd.R_far (Kd.R_mono (Kd.R_grown ht hg (fun k hk e => ?_)) (fun k hk => ?_)) (fun k hk => ?_) v1
  ·have := ((Kd.S_R hB).1 k e.symm).2; have := hk.2; omega
  ·have := (h3 k hk.1).2; exact ⟨⟨.inl hk.1, by omega⟩, (if_pos this).trans hk.2⟩
  ·rintro rfl
   rcases hk.1.1 with h | h
   ·exact h2 h
   ·omega
theorem xt_bg (h1 : base ≤ g) (h2 : ¬ ok g) (h3 : ∀ k, ok k → base ≤ k ∧ k < w.heap.size)
  (hb : w.heap[g]? = some (.cells #[.string nm, .int .i64 pa, .int .i64 rt, vr, vb, vs, .int .i64 at_] 52 (0, 0)))
  (hr : (Kd.int .i64).R 3 w base (fun k => ok k ∧ f k = 0) vr rg) (hB : Kd.S (kX w0) 35 w base (fun k => ok k ∧ f k = 1) vb bl) (ht : Kd.R Kd.bool 4 w base (fun k => ok k ∧ f k = 2) vs st)
  {v1 : Value} {x1 : List Bool} (ho : Kd.R Kd.bool 4 w1 base (fun k => (ok k ∧ f k = 2) ∨ w.heap.size ≤ k) v1 x1) (hg : w.grownBy w1 vs.ownBlock) (hs : w.heap.size ≤ w1.heap.size) :
  XTurned w0 base ok w (w1.setCell ⟨g, 5, none⟩ v1) g ⟨nm, pa, rt, rg, bl, x1, at_⟩ := by
 have hl := blk_lt hb
 have hne : some g ≠ vs.ownBlock := fun e => h2 (ht.1 g e.symm).1
 refine ⟨((grown_kept hg hs (fun k e => .inr (ht.1 k e).1)).setCell (p := ⟨g, 5, none⟩) (.inl (.inl rfl)) v1), fun k => (ok k ∨ w.heap.size ≤ k) ∧ k < w1.heap.size, fun k hk => hk.1, h1, ?_, ?_, fun k => if k < w.heap.size then f k else 2, vr, vb, v1, ?_, ?_, ?_, ?_⟩
 ·rintro ⟨h | h, _⟩
  ·exact h2 h
  ·omega
 ·rintro k ⟨h | h, h'⟩
  ·exact ⟨(h3 k h).1, by simpa using h'⟩
  ·exact ⟨by omega, by simpa using h'⟩
 ·exact blk_put (blk_grown hb hg hne) 5 v1 rfl
 ·refine Kd.R_far (Kd.R_mono (Kd.R_grown hr hg (fun k hk e => ?_)) (fun k hk => ?_)) (fun k hk => ?_) v1
  ·have := (ht.1 k e.symm).2; have := hk.2; omega
  ·have := (h3 k hk.1).2; exact ⟨⟨.inl hk.1, by omega⟩, (if_pos this).trans hk.2⟩
  ·rintro rfl
   rcases hk.1.1 with h | h
   ·exact h2 h
   ·omega
 ·refine Kd.S_far (Kd.S_mono (Kd.S_grown hB hg (fun k hk e => ?_)) (fun k hk => ?_)) (fun k hk => ?_) v1
  ·have := (ht.1 k e.symm).2; have := hk.2; omega
  ·have := (h3 k hk.1).2; exact ⟨⟨.inl hk.1, by omega⟩, (if_pos this).trans hk.2⟩
  ·rintro rfl
   rcases hk.1.1 with h | h
   ·exact h2 h
   ·omega
 ·refine Kd.R_far (Kd.R_mono (Kd.R_bound ho) (fun k hk => ?_)) (fun k hk => ?_) v1
  ·rcases hk with ⟨h | h, h4, h5, _⟩
   ·exact ⟨⟨.inl h.1, h5⟩, (if_pos (h3 k h.1).2).trans h.2⟩
   ·exact ⟨⟨.inr h, h5⟩, if_neg (by omega)⟩
  ·rintro rfl
   rcases hk.1.1 with h | h
   ·exact h2 h
   ·omega
theorem xt_st (h : XAt w0 base ok w g V) {s n c : Nat} (h5 : w.cell? ⟨g, 5, none⟩ = some (.slice (some ⟨s, 0, none⟩) n c)) (j : Nat) (x : Bool) :
  XTurned w0 base ok w (w.setCell ⟨s, j, none⟩ (.bool x)) g ⟨V.nm, V.pa, V.rt, V.rg, V.bl, V.bg.set j x, V.at_⟩ := by
 obtain ⟨h1, h2, h3, f, vr, vb, vs, hb, hr, hB, ht⟩ := h
 have c5 := blk_cell hb 5
 simp only [List.getElem?_toArray, List.getElem?_cons_zero, List.getElem?_cons_succ] at c5
 obtain rfl : vs = .slice (some ⟨s, 0, none⟩) n c := Option.some.inj (c5.symm.trans h5)
 have hs : ok s ∧ f s = 2 := ht.1 s rfl
 have hgs : g ≠ s := fun e => h2 (e ▸ hs.1)
 have hp := (Kd.R_putg ht (j : Int) x).1
 rw [Int.toNat_natCast] at hp
 refine ⟨(Kept.refl w _).setCell (p := ⟨s, j, none⟩) (.inl (.inr hs.1)) _, ok, fun k hk => .inl hk, h1, h2, fun k hk => ⟨(h3 k hk).1, by simpa using (h3 k hk).2⟩, f, vr, vb, .slice (some ⟨s, 0, none⟩) n c, ?_, ?_, ?_, hp⟩
 ·exact blk_far hb (p := ⟨s, j, none⟩) hgs _
 ·exact Kd.R_far hr (p := ⟨s, j, none⟩) (fun k hk e => by have h_ := hk.2; rw [show k = s from e, hs.2] at h_; omega) _
 ·exact Kd.S_far hB (p := ⟨s, j, none⟩) (fun k hk e => by have h_ := hk.2; rw [show k = s from e, hs.2] at h_; omega) _
theorem xt_at (h : XAt w0 base ok w g V) (x : Int) : XTurned w0 base ok w (w.setCell ⟨g, 6, none⟩ (.int .i64 x)) g ⟨V.nm, V.pa, V.rt, V.rg, V.bl, V.bg, x⟩ := by
 obtain ⟨h1, h2, h3, f, vr, vb, vs, hb, hr, hB, ht⟩ := h
 have far : ∀ k, ok k → k ≠ g := fun k hk e => h2 (e ▸ hk)
 exact ⟨(Kept.refl w _).setCell (p := ⟨g, 6, none⟩) (.inl (.inl rfl)) _, ok, fun k hk => .inl hk, h1, h2, fun k hk => ⟨(h3 k hk).1, by simpa using (h3 k hk).2⟩, f, vr, vb, vs, blk_put hb 6 _ rfl, Kd.R_far hr (p := ⟨g, 6, none⟩) (fun k hk => far k hk.1) _, Kd.S_far hB (p := ⟨g, 6, none⟩) (fun k hk => far k hk.1) _, Kd.R_far ht (p := ⟨g, 6, none⟩) (fun k hk => far k hk.1) _⟩
theorem xt_lend {q n cb : Nat} (h3 : ∀ k, ok k → base ≤ k ∧ k < w.heap.size) (hB : Kd.S (kX w0) 35 w base (fun k => ok k ∧ f k = 1) (.slice (some ⟨q, 0, none⟩) n cb) bl) (j : Nat) (hj : j < n) :
  ∃ (oki : Nat → Prop) (Ai : Option Addr) (ci : Nat), w.cell? ⟨q, j, none⟩ = some (.slice Ai (bl.getD j []).length ci) ∧ w.frozen? ⟨q, j, none⟩ = false ∧ (∀ k, oki k → (ok k ∧ f k = 1) ∧ k ≠ q) ∧
   Kd.R (Kd.fixed k29 w0) 29 w base oki (.slice Ai (bl.getD j []).length ci) (bl.getD j []) ∧
   ∀ {W w1 : World} {x : S29} {v1 : Value}, Below w.heap.size w W → W.grownBy w1 (Value.slice Ai (bl.getD j []).length ci).ownBlock → Kd.R (Kd.fixed k29 w0) 29 w1 base (fun k => oki k ∨ w.heap.size ≤ k) v1 (bl.getD j [] ++ [x]) →
    Kd.S (kX w0) 35 (w1.setCell ⟨q, j, none⟩ v1) base (fun k => (ok k ∧ f k = 1) ∨ w.heap.size ≤ k) (.slice (some ⟨q, 0, none⟩) n cb) (bl.set j (bl.getD j [] ++ [x])) := by
 have hB' : Kd.S (kX w0) 35 w base (fun k => (ok k ∧ f k = 1) ∨ w.heap.size ≤ k) (.slice (some ⟨q, 0, none⟩) n cb) bl := Kd.S_mono hB (fun _ hk => .inl hk)
 obtain ⟨oki, c, hcl, hM, hcc, hfr, hoki, hH⟩ := Kd.S_elem hB' [] (j : Int) (by omega) (by omega)
 rw [Int.toNat_natCast] at hM hcc hfr
 obtain ⟨ve, rfl, hRe⟩ := hM
 obtain ⟨Ai, ci, rfl⟩ := Kd.R_slice hRe
 have hRe' : Kd.R (Kd.fixed k29 w0) 29 w base oki (.slice Ai (bl.getD j []).length ci) (bl.getD j []) := hRe
 have hc0 := hcc 0 _ rfl
 have hf0 := hfr 0
 have hsz : (kX w0).sz = 1 := rfl
 rw [hsz] at hc0 hf0
 simp only [Nat.mul_one, Nat.add_zero] at hc0 hf0
 have hlt : ∀ k, oki k → k < w.heap.size → (ok k ∧ f k = 1) ∧ k ≠ q := fun k hk hl => by
  obtain ⟨h, h'⟩ := hoki k hk
  rcases h with h | h
  ·exact ⟨h, h'⟩
  ·omega
 refine ⟨fun k => oki k ∧ k < w.heap.size, Ai, ci, hc0, hf0, fun k hk => hlt k hk.1 hk.2, Kd.R_mono (Kd.R_bound hRe') (fun k hk => ⟨hk.1, hk.2.2.1⟩), ?_⟩
 intro W w1 x v1 hW hg ho
 have hH4 := Kd.H_grown (Kd.H_below (Kd.H_widen hH) hW) hg (fun k e => .inl (hRe'.1 k e))
 have hS := (Kd.S_seg0 hH4 (by omega) (by omega) (seg := [v1]) (j := 0) (x' := bl.getD j [] ++ [x]) (show 1 ≤ 1 from by decide) (Kd.M_row ho) (fun k hk => ?_)).1
 ·rw [hsz] at hS
  simp only [Nat.mul_one, Nat.add_zero, Int.toNat_natCast] at hS
  exact hS
 ·rcases hk with hk | hk
  ·exact .inl hk.1
  ·exact .inr ⟨.inr hk, hk⟩
theorem xt_put (h1 : base ≤ g) (h2 : ¬ ok g) (h3 : ∀ k, ok k → base ≤ k ∧ k < w.heap.size) {q n cb : Nat}
  (hb : w.heap[g]? = some (.cells #[.string nm, .int .i64 pa, .int .i64 rt, vr, .slice (some ⟨q, 0, none⟩) n cb, vs, .int .i64 at_] 52 (0, 0)))
  (hr : (Kd.int .i64).R 3 w base (fun k => ok k ∧ f k = 0) vr rg) (hB : Kd.S (kX w0) 35 w base (fun k => ok k ∧ f k = 1) (.slice (some ⟨q, 0, none⟩) n cb) bl) (ht : Kd.R Kd.bool 4 w base (fun k => ok k ∧ f k = 2) vs st)
  {oki : Nat → Prop} {v v1 : Value} {j : Nat} {b1 : List (List S29)} (hoki : ∀ k, oki k → (ok k ∧ f k = 1) ∧ k ≠ q) (hv : ∀ k, v.ownBlock = some k → oki k) (hW : Below w.heap.size w W) (hg : W.grownBy w1 v.ownBlock) (hs : W.heap.size ≤ w1.heap.size)
  (hS : Kd.S (kX w0) 35 (w1.setCell ⟨q, j, none⟩ v1) base (fun k => (ok k ∧ f k = 1) ∨ w.heap.size ≤ k) (.slice (some ⟨q, 0, none⟩) n cb) b1) :
  XTurned w0 base ok w (w1.setCell ⟨q, j, none⟩ v1) g ⟨nm, pa, rt, rg, b1, st, at_⟩ := by
 have hl := blk_lt hb
 have hq : ok q ∧ f q = 1 := (Kd.S_R hB).1 q rfl
 have hgq : g ≠ q := fun e => h2 (e ▸ hq.1)
 have hne : some g ≠ v.ownBlock := fun e => h2 (hoki g (hv g e.symm)).1.1
 have hsz := hW.size
 have hst : ∀ k, k < w.heap.size → (ok k → f k = 1 → False) → w1.heap[k]? = w.heap[k]? := fun k hk hn =>
  (hg.block k (by omega) (fun e => hn (hoki k (hv k e.symm)).1.1 (hoki k (hv k e.symm)).1.2)).trans (hW.block k hk)
 have k1 : Kept w w1 (fun k => k = g ∨ ok k) := (Kept.of_below hW _).then_ (grown_kept (S := fun k => v.ownBlock = some k) hg hs (fun k e => e)) (fun k e => .inl (.inr (hoki k (hv k e)).1.1))
 refine ⟨k1.setCell (p := ⟨q, j, none⟩) (.inl (.inr hq.1)) v1, fun k => (ok k ∨ w.heap.size ≤ k) ∧ k < w1.heap.size, fun k hk => hk.1, h1, ?_, ?_, fun k => if k < w.heap.size then f k else 1, vr, .slice (some ⟨q, 0, none⟩) n cb, vs, ?_, ?_, ?_, ?_⟩
 ·rintro ⟨h | h, _⟩
  ·exact h2 h
  ·omega
 ·rintro k ⟨h | h, h'⟩
  ·exact ⟨(h3 k h).1, by simpa using h'⟩
  ·exact ⟨by omega, by simpa using h'⟩
 ·exact blk_far (blk_grown (blk_below hb hW) hg hne) (p := ⟨q, j, none⟩) hgq _
 ·have h5 := Kd.R_far (Kd.R_step hr (w1 := w1) (fun k hk hlt => hst k hlt (fun _ e => by have := hk.2; omega))) (p := ⟨q, j, none⟩) (fun k hk e => by have h_ := hk.2; rw [show k = q from e, hq.2] at h_; omega) v1
  refine Kd.R_mono h5 (fun k hk => ?_)
  have := (h3 k hk.1).2
  exact ⟨⟨.inl hk.1, by omega⟩, (if_pos this).trans hk.2⟩
 ·refine Kd.S_mono (Kd.S_bound hS) (fun k hk => ?_)
  have hlt : k < w1.heap.size := by simpa using hk.2.2.1
  rcases hk.1 with h | h
  ·have := (h3 k h.1).2
   exact ⟨⟨.inl h.1, by omega⟩, (if_pos this).trans h.2⟩
  ·exact ⟨⟨.inr h, hlt⟩, if_neg (by omega)⟩
 ·have h5 := Kd.R_far (Kd.R_step ht (w1 := w1) (fun k hk hlt => hst k hlt (fun _ e => by have := hk.2; omega))) (p := ⟨q, j, none⟩) (fun k hk e => by have h_ := hk.2; rw [show k = q from e, hq.2] at h_; omega) v1
  refine Kd.R_mono h5 (fun k hk => ?_)
  have := (h3 k hk.1).2
  exact ⟨⟨.inl hk.1, by omega⟩, (if_pos this).trans hk.2⟩
theorem kX_C {A : Option Addr} {n : Nat} {xs : List (List S29)} (h : (kX w0).C W A n xs) (hb : Below w0.heap.size w0 W) : kB.C W A n xs := by
 obtain ⟨hl, hm, hn⟩ := h
 refine ⟨hl, hm, fun hp => ?_⟩
 obtain ⟨ad, rfl, hc⟩ := hn hp
 refine ⟨ad, rfl, fun j p hj => ?_⟩
 obtain ⟨c, hcl, ⟨A2, c2, rfl, hl2, hC2⟩, hcc⟩ := hc j p hj
 refine ⟨_, hcl, ⟨A2, c2, rfl, hl2, ?_⟩, hcc⟩
 obtain ⟨hl3, hm3, hn3⟩ := hC2
 refine ⟨hl3, hm3, fun hp3 => ?_⟩
 obtain ⟨ad3, e3, hc3⟩ := hn3 hp3
 refine ⟨ad3, e3, fun j3 p3 hj3 => ?_⟩
 obtain ⟨c3, hcl3, hK3, hcc3⟩ := hc3 j3 p3 hj3
 exact ⟨c3, hcl3, k29.K_below hb hK3, hcc3⟩
end
end Go.Proofs.Ytomopjomapkmjaa.B
set_option linter.unusedVariables false
set_option linter.unusedSimpArgs false
namespace Go.Proofs.Ytomopjomapkmjaa.B
open Go Go.RowKit Go.Proofs.YtomopjomapkmjaaW.PrintWords Go.Proofs.YtomopjomapkmjaaW.PrintLast Go.Proofs.YtomopjomapkmjaaW.PrintMore Go.Proofs.Ytomopjomapkmjaa.Pure
def endsB (op : Int) : Bool := decide (41 ≤ op) && decide (op ≤ 43)
theorem endsR (op : Int) : balustraderef15_Ends.f op = some (endsB op) := by
 unfold balustraderef15_Ends.f endsB
 by_cases h : op ≥ 41
 ·rw [if_pos h, decide_eq_true (show (41 : Int) ≤ op from h), Bool.true_and]
 ·rw [if_neg h, decide_eq_false (show ¬ (41 : Int) ≤ op from h), Bool.false_and]
theorem endsP (op : Int) : instr_Ends.f op = some (endsB op) := endsR op
def overB (l : List S29) : Bool := decide (0 < l.length) && endsB (l.getD (l.length - 1) z29).f0
theorem overB_nil : overB [] = false := rfl
theorem overB_snoc (l : List S29) (x : S29) : overB (l ++ [x]) = endsB x.f0 := by
 unfold overB
 have e : (l ++ [x]).getD ((l ++ [x]).length - 1) z29 = x := by
  rw [List.getD_eq_getElem?_getD, List.getElem?_append_right (by simp)]
  simp
 rw [e, decide_eq_true (by simp), Bool.true_and]
structure Rel (V : BV) (X : XV) : Prop where
 nm : V.nm = X.nm
 pa : V.pa = X.pa
 rt : V.rt = X.rt
 rg : V.rg = X.rg
 bl : V.bl = X.bl
 pl : V.at_ = X.at_
 ns : V.st.length = V.bl.length
 nb : X.bg.length = V.bl.length
 p0 : 0 ≤ V.at_
 p1 : V.at_ < (V.bl.length : Int)
 pb : X.bg.getD V.at_.toNat false = true
 st : ∀ i, i < V.bl.length → V.st.getD i 0 = (if X.bg.getD i false = true then (if overB (V.bl.getD i []) = true then 2 else 1) else 0)
 em : ∀ i, i < V.bl.length → X.bg.getD i false = false → V.bl.getD i [] = []
theorem Rel.fit {V : BV} {X : XV} (h : Rel V X) : Fit V := ⟨h.p0, by have := h.p1; have := h.ns; omega, h.ns⟩
theorem Rel.open_ {V : BV} {X : XV} (h : Rel V X) : openB V = !overB (X.bl.getD X.at_.toNat []) := by
 unfold openB
 have hp1 := h.p1
 have hp0 := h.p0
 have := h.st V.at_.toNat (by omega)
 rw [h.pb, if_pos rfl] at this
 rw [this, ← h.bl, ← h.pl]
 cases overB (V.bl.getD V.at_.toNat []) <;> rfl
theorem Rel.reg {V : BV} {X : XV} (h : Rel V X) (k : Int) : Rel ⟨V.nm, V.pa, V.rt, V.rg ++ [k], V.bl, V.st, V.at_⟩ ⟨X.nm, X.pa, X.rt, X.rg ++ [k], X.bl, X.bg, X.at_⟩ :=
 ⟨h.nm, h.pa, h.rt, by show V.rg ++ [k] = X.rg ++ [k]; rw [h.rg], h.bl, h.pl, h.ns, h.nb, h.p0, h.p1, h.pb, h.st, h.em⟩
theorem getD_snoc {α : Type} (l : List α) (x z : α) (i : Nat) : (l ++ [x]).getD i z = if i < l.length then l.getD i z else if i = l.length then x else z := by
 simp only [List.getD_eq_getElem?_getD]
 by_cases h : i < l.length
 ·rw [if_pos h, List.getElem?_append_left h]
 ·rw [if_neg h, List.getElem?_append_right (by omega)]
  by_cases e : i = l.length
  ·subst e; simp
  ·rw [if_neg e, List.getElem?_eq_none (by simp; omega)]
   rfl
theorem getD_set {α : Type} (l : List α) (j i : Nat) (x z : α) (hj : j < l.length) : (l.set j x).getD i z = if i = j then x else l.getD i z := by
 simp only [List.getD_eq_getElem?_getD]
 by_cases e : i = j
 ·subst e
  rw [if_pos rfl, List.getElem?_set, if_pos rfl, if_pos hj]
  rfl
 ·rw [if_neg e, List.getElem?_set, if_neg (fun h => e h.symm)]
theorem Rel.block {V : BV} {X : XV} (h : Rel V X) : Rel ⟨V.nm, V.pa, V.rt, V.rg, V.bl ++ [[]], V.st ++ [0], V.at_⟩ ⟨X.nm, X.pa, X.rt, X.rg, X.bl ++ [[]], X.bg ++ [false], X.at_⟩ := by
 have hns := h.ns
 have hnb := h.nb
 have hp0 := h.p0
 have hp1 := h.p1
 refine ⟨h.nm, h.pa, h.rt, h.rg, by show V.bl ++ [[]] = X.bl ++ [[]]; rw [h.bl], h.pl, by simp [hns], by simp [hnb], hp0, by show V.at_ < ((V.bl ++ [[]]).length : Int); simp; omega, ?_, ?_, ?_⟩
 ·show (X.bg ++ [false]).getD V.at_.toNat false = true
  rw [getD_snoc, if_pos (by omega)]
  exact h.pb
 ·intro i hi
  have hi' : i < V.bl.length + 1 := by simpa using hi
  show (V.st ++ [0]).getD i 0 = (if (X.bg ++ [false]).getD i false = true then (if overB ((V.bl ++ [[]]).getD i []) = true then 2 else 1) else 0)
  have e1 := getD_snoc V.st 0 0 i
  have e2 := getD_snoc X.bg false false i
  have e3 := getD_snoc V.bl [] [] i
  rw [e1, e2, e3]
  by_cases e : i < V.bl.length
  ·rw [if_pos (show i < V.st.length by omega), if_pos (show i < X.bg.length by omega), if_pos e]
   exact h.st i e
  ·rw [if_neg (show ¬ i < V.st.length by omega), if_pos (show i = V.st.length by omega), if_neg (show ¬ i < X.bg.length by omega), if_pos (show i = X.bg.length by omega)]
   simp
 ·intro i hi hb
  have hi' : i < V.bl.length + 1 := by simpa using hi
  show (V.bl ++ [[]]).getD i [] = []
  have hb' : (X.bg ++ [false]).getD i false = false := hb
  rw [getD_snoc] at hb' ⊢
  by_cases e : i < V.bl.length
  ·rw [if_pos e]
   rw [if_pos (by omega)] at hb'
   exact h.em i e hb'
  ·rw [if_neg e, if_pos (by omega)]
def beginX (X : XV) (n : Int) : Bool := overB (X.bl.getD X.at_.toNat []) && (decide (0 ≤ n) && (decide (n < (X.bg.length : Int)) && !X.bg.getD n.toNat false))
theorem Rel.mayBegin {V : BV} {X : XV} (h : Rel V X) (n : Int) : beginB V n = beginX X n := by
 unfold beginB beginX
 rw [h.open_, Bool.not_not]
 have hns := h.ns
 have hnb := h.nb
 congr 1
 by_cases h0 : 0 ≤ n
 ·rw [decide_eq_true h0, Bool.true_and, Bool.true_and]
  by_cases h1 : n < (V.bl.length : Int)
  ·rw [decide_eq_true (show n < (V.st.length : Int) by omega), decide_eq_true (show n < (X.bg.length : Int) by omega), Bool.true_and, Bool.true_and, h.st n.toNat (by omega)]
   cases X.bg.getD n.toNat false
   ·rfl
   ·cases overB (V.bl.getD n.toNat []) <;> rfl
  ·rw [decide_eq_false (show ¬ n < (V.st.length : Int) by omega), decide_eq_false (show ¬ n < (X.bg.length : Int) by omega), Bool.false_and, Bool.false_and]
 ·rw [decide_eq_false h0, Bool.false_and, Bool.false_and]
theorem Rel.begin_ {V : BV} {X : XV} (h : Rel V X) (n : Int) (hn : beginX X n = true) : Rel ⟨V.nm, V.pa, V.rt, V.rg, V.bl, V.st.set n.toNat 1, n⟩ ⟨X.nm, X.pa, X.rt, X.rg, X.bl, X.bg.set n.toNat true, n⟩ := by
 have hns := h.ns
 have hnb := h.nb
 unfold beginX at hn
 simp only [Bool.and_eq_true, decide_eq_true_eq, Bool.not_eq_true'] at hn
 obtain ⟨_, h0, h1, h2⟩ := hn
 have hlt : n.toNat < V.bl.length := by omega
 refine ⟨h.nm, h.pa, h.rt, h.rg, h.bl, rfl, by simp [hns], by simp [hnb], h0, by show n < (V.bl.length : Int); omega, ?_, ?_, ?_⟩
 ·show (X.bg.set n.toNat true).getD n.toNat false = true
  rw [getD_set _ _ _ _ _ (by omega), if_pos rfl]
 ·intro i hi
  have hi' : i < V.bl.length := hi
  show (V.st.set n.toNat 1).getD i 0 = (if (X.bg.set n.toNat true).getD i false = true then (if overB (V.bl.getD i []) = true then 2 else 1) else 0)
  rw [getD_set _ _ _ _ _ (by omega), getD_set _ _ _ _ _ (by omega)]
  by_cases e : i = n.toNat
  ·rw [if_pos e, if_pos e, if_pos rfl, e, h.em n.toNat hlt h2, overB_nil]
   rfl
  ·rw [if_neg e, if_neg e]
   exact h.st i hi'
 ·intro i hi hb
  have hi' : i < V.bl.length := hi
  have hb' : (X.bg.set n.toNat true).getD i false = false := hb
  rw [getD_set _ _ _ _ _ (by omega)] at hb'
  by_cases e : i = n.toNat
  ·rw [if_pos e] at hb'; cases hb'
  ·rw [if_neg e] at hb'
   exact h.em i hi' hb'
def putX (X : XV) (x : S29) : Bool := !overB (X.bl.getD X.at_.toNat []) && (rr_rightV x.f0 x.f1 x.f2 x.f3 x.f4 x.f5 x.f6 x.f7 x.f8 && (!decide (44 ≤ x.f0) && (!decide ((X.rg.length : Int) ≤ defV x.f0 x.f1 x.f2 x.f3 x.f4 x.f5 x.f6 x.f7 x.f8) &&
 ((usesV x.f0 x.f1 x.f2 x.f3 x.f4 x.f5 x.f6 x.f7 x.f8).all (fun r => !decide ((X.rg.length : Int) ≤ r)) && (targetsV x.f0 x.f1 x.f2 x.f3 x.f4 x.f5 x.f6 x.f7 x.f8).all (fun t => !decide (t < 1) && !decide ((X.bl.length : Int) ≤ t))))))
theorem right_le {op dst a b c n m site : Int} {l : List Int} (h : rr_rightV op dst a b c n m site l = true) : op ≤ 45 := by
 unfold rr_rightV at h
 simp only [Bool.and_eq_true, decide_eq_true_eq] at h
 exact h.1.1.1.1.1.1.1.2.1
theorem right_jump {op dst a b c n m site : Int} {l : List Int} (h : rr_rightV op dst a b c n m site l = true) : (op = 41 → 0 ≤ n) ∧ (op = 42 → 0 ≤ n ∧ 0 ≤ m) := by
 unfold rr_rightV at h
 simp only [Bool.and_eq_true] at h
 have ht := h.2
 unfold rr_tailV at ht
 refine ⟨fun e => ?_, fun e => ?_⟩
 ·subst e
  simp at ht
  omega
 ·subst e
  simp at ht
  omega
theorem Rel.mayPut {V : BV} {X : XV} (h : Rel V X) (x : S29) : putB V x = putX X x := by
 unfold putB putX
 rw [h.open_]
 congr 1
 cases hr : rr_rightV x.f0 x.f1 x.f2 x.f3 x.f4 x.f5 x.f6 x.f7 x.f8 with
 | false => rfl
 | true =>
  have hle := right_le hr
  have hj := right_jump hr
  rw [Bool.true_and, Bool.true_and]
  have e44 : (!decide (x.f0 = 44) && (!decide (x.f0 = 45) && thereB V x)) = (!decide (44 ≤ x.f0) && thereB V x) := by
   by_cases h1 : 44 ≤ x.f0
   ·rw [decide_eq_true h1]
    by_cases h2 : x.f0 = 44
    ·rw [decide_eq_true h2]; rfl
    ·rw [decide_eq_true (show x.f0 = 45 by omega)]; simp
   ·rw [decide_eq_false h1, decide_eq_false (show ¬ x.f0 = 44 by omega), decide_eq_false (show ¬ x.f0 = 45 by omega)]; simp
  rw [e44]
  congr 1
  unfold thereB regsOf blksOf
  rw [h.rg, h.bl, List.all_append]
  have e1 : ∀ l : List Int, (l.all fun r => decide (r < (X.rg.length : Int))) = l.all fun r => !decide ((X.rg.length : Int) ≤ r) := fun l => by
   congr 1
   funext r
   rw [← decide_not, decide_eq_decide]
   omega
  have e2 : ((targetsV x.f0 x.f1 x.f2 x.f3 x.f4 x.f5 x.f6 x.f7 x.f8).all fun t => !decide (t = 0) && decide (t < (X.bl.length : Int))) = (targetsV x.f0 x.f1 x.f2 x.f3 x.f4 x.f5 x.f6 x.f7 x.f8).all (fun t => !decide (t < 1) && !decide ((X.bl.length : Int) ≤ t)) := by
   have key : ∀ t : Int, 0 ≤ t → (!decide (t = 0) && decide (t < (X.bl.length : Int))) = (!decide (t < 1) && !decide ((X.bl.length : Int) ≤ t)) := fun t ht => by
    rw [Bool.eq_iff_iff]
    simp
    omega
   unfold targetsV
   rw [if_pos hr]
   by_cases h1 : x.f0 = 41
   ·rw [if_pos h1, List.all_cons, List.all_cons, key _ (hj.1 h1)]; rfl
   ·rw [if_neg h1]
    by_cases h2 : x.f0 = 42
    ·rw [if_pos h2, List.all_cons, List.all_cons, List.all_cons, List.all_cons, key _ (hj.2 h2).1, key _ (hj.2 h2).2]; rfl
    ·rw [if_neg h2]; rfl
  rw [e1, e1, e2, List.all_cons, List.all_nil, Bool.and_true]
  cases (usesV x.f0 x.f1 x.f2 x.f3 x.f4 x.f5 x.f6 x.f7 x.f8).all fun r => !decide ((X.rg.length : Int) ≤ r) <;> cases decide ((X.rg.length : Int) ≤ defV x.f0 x.f1 x.f2 x.f3 x.f4 x.f5 x.f6 x.f7 x.f8) <;> rfl
theorem Rel.put {V : BV} {X : XV} (h : Rel V X) (x : S29) (hp : putX X x = true) : Rel (putV V x (endsB x.f0)) ⟨X.nm, X.pa, X.rt, X.rg, X.bl.set X.at_.toNat (X.bl.getD X.at_.toNat [] ++ [x]), X.bg, X.at_⟩ := by
 have hns := h.ns
 have hnb := h.nb
 have hp0 := h.p0
 have hp1 := h.p1
 have ho : overB (V.bl.getD V.at_.toNat []) = false := by
  unfold putX at hp
  simp only [Bool.and_eq_true, Bool.not_eq_true'] at hp
  rw [h.bl, h.pl]
  exact hp.1
 have hlt : V.at_.toNat < V.bl.length := by omega
 unfold putV
 refine ⟨h.nm, h.pa, h.rt, h.rg, by show V.bl.set _ _ = X.bl.set _ _; rw [h.bl, h.pl], h.pl, ?_, by simp [hnb], hp0, by show V.at_ < ((V.bl.set _ _).length : Int); simp; omega, h.pb, ?_, ?_⟩
 ·show (if endsB x.f0 = true then V.st.set V.at_.toNat 2 else V.st).length = (V.bl.set _ _).length
  split <;> simp [hns]
 ·intro i hi
  have hi' : i < V.bl.length := by simpa using hi
  show (if endsB x.f0 = true then V.st.set V.at_.toNat 2 else V.st).getD i 0 = (if X.bg.getD i false = true then (if overB ((V.bl.set V.at_.toNat (V.bl.getD V.at_.toNat [] ++ [x])).getD i []) = true then 2 else 1) else 0)
  rw [getD_set _ _ _ _ _ hlt]
  by_cases e : i = V.at_.toNat
  ·subst e
   rw [if_pos rfl, overB_snoc, h.pb, if_pos rfl]
   cases endsB x.f0
   ·show V.st.getD V.at_.toNat 0 = 1
    rw [h.st _ hlt, h.pb, if_pos rfl, ho]
    rfl
   ·show (V.st.set V.at_.toNat 2).getD V.at_.toNat 0 = 2
    rw [getD_set _ _ _ _ _ (by omega), if_pos rfl]
  ·rw [if_neg e, ← h.st i hi']
   split
   ·rw [getD_set _ _ _ _ _ (by omega), if_neg e]
   ·rfl
 ·intro i hi hb
  have hi' : i < V.bl.length := by simpa using hi
  show (V.bl.set V.at_.toNat (V.bl.getD V.at_.toNat [] ++ [x])).getD i [] = []
  have hb' : X.bg.getD i false = false := hb
  rw [getD_set _ _ _ _ _ hlt]
  by_cases e : i = V.at_.toNat
  ·subst e
   rw [h.pb] at hb'
   cases hb'
  ·rw [if_neg e]
   exact h.em i hi' hb'
def doneX (X : XV) : Bool := (List.range X.bl.length).all (fun i => X.bg.getD i false && overB (X.bl.getD i []))
theorem Rel.done {V : BV} {X : XV} (h : Rel V X) : doneB V = doneX X := by
 have hns := h.ns
 unfold doneB doneX
 rw [Bool.eq_iff_iff, Bool.not_eq_true', List.any_eq_false, List.all_eq_true]
 constructor
 ·intro hv i hi
  have hi' : i < V.bl.length := by rw [h.bl]; exact List.mem_range.1 hi
  have h1 := hv (V.st.getD i 0) (by rw [List.getD_eq_getElem?_getD, List.getElem?_eq_getElem (by omega)]; exact List.getElem_mem _)
  rw [h.st i hi'] at h1
  rw [← h.bl]
  revert h1
  cases X.bg.getD i false
  ·intro h1; exact absurd rfl h1
  ·cases overB (V.bl.getD i [])
   ·intro h1; exact absurd rfl h1
   ·intro _; rfl
 ·intro hx y hy
  obtain ⟨i, hi, rfl⟩ := List.getElem_of_mem hy
  have h1 := hx i (List.mem_range.2 (by rw [← h.bl]; omega))
  have h2 := h.st i (by omega)
  rw [List.getD_eq_getElem?_getD, List.getElem?_eq_getElem hi] at h2
  simp only [Option.getD_some] at h2
  rw [Bool.and_eq_true] at h1
  rw [h2, h1.1, if_pos rfl, h.bl, h1.2]
  simp
end Go.Proofs.Ytomopjomapkmjaa.B

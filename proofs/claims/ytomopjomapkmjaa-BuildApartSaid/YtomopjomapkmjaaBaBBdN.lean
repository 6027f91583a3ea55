/- A text of this claim, what is not used left out. -/
import Derived.Test.YtomopjomapkmjaaBaBBdM
import Derived.Test.YtomopjomapkmjaaBaB1
import Derived.Outline
set_option linter.unusedVariables false
set_option linter.unusedSimpArgs false
namespace Go.Proofs.Ytomopjomapkmjaa.B
open Go Go.RowKit Go.Proofs.YtomopjomapkmjaaW.PrintWords Go.Proofs.YtomopjomapkmjaaW.PrintLast Go.Proofs.YtomopjomapkmjaaW.PrintMore Go.Proofs.Ytomopjomapkmjaa.Pure
def flags {α : Type} (l : List α) (k : Nat) : List (α × Bool) := (l.take k).map (fun x => (x, true)) ++ (l.drop k).map (fun x => (x, false))
theorem flags_len {α : Type} (l : List α) (k : Nat) : (flags l k).length = l.length := by simp [flags]; omega
theorem flags_zero {α : Type} (l : List α) : flags l 0 = l.map (fun x => (x, false)) := by simp [flags]
theorem flags_all {α : Type} (l : List α) : flags l l.length = l.map (fun x => (x, true)) := by simp [flags]
theorem flags_get {α : Type} (l : List α) (k i : Nat) : (flags l k)[i]? = (l[i]?).map (fun x => (x, decide (i < k))) := by
  unfold flags
  by_cases h : i < k
  · by_cases h2 : i < l.length
    · rw [List.getElem?_append_left (by simp; omega), List.getElem?_map, List.getElem?_take, if_pos h]
      simp [h]
    · rw [List.getElem?_eq_none (by simp; omega), List.getElem?_eq_none (by omega)]
      rfl
  · by_cases h2 : i < l.length
    · rw [List.getElem?_append_right (by simp; omega), List.getElem?_map, List.getElem?_drop]
      have e : (List.map (fun x => (x, true)) (l.take k)).length = k := by simp; omega
      rw [e, show k + (i - k) = i by omega]
      simp [h]
    · rw [List.getElem?_eq_none (by simp; omega), List.getElem?_eq_none (by omega)]
      rfl
theorem flags_set {α : Type} (l : List α) (k : Nat) (x : α) (h : l[k]? = some x) : (flags l k).set k (x, true) = flags l (k + 1) := by
  apply List.ext_getElem?
  intro i
  rw [List.getElem?_set, flags_get, flags_get, flags_len]
  by_cases e : k = i
  · subst e
    have : k < l.length := (List.getElem?_eq_some_iff.1 h).1
    rw [if_pos rfl, if_pos this, h]
    simp
  · rw [if_neg e]
    congr 1
    funext y
    congr 1
    rw [decide_eq_decide]
    omega
def blks (bl : List (List S29)) (j : Nat) : List (List (S29 × Bool) × Bool) := (flags bl j).map (fun p => (p.1.map (fun x => (x, p.2)), p.2))
theorem blks_get (bl : List (List S29)) (j i : Nat) : (blks bl j)[i]? = (bl[i]?).map (fun l => (l.map (fun x => (x, decide (i < j))), decide (i < j))) := by
  unfold blks
  rw [List.getElem?_map, flags_get]
  cases bl[i]? <;> rfl
theorem blks_len (bl : List (List S29)) (j : Nat) : (blks bl j).length = bl.length := by simp [blks, flags_len]
theorem blks_zero (bl : List (List S29)) : blks bl 0 = (bl.map (fun l => l.map (fun x => (x, false)))).map (fun x => (x, false)) := by
  unfold blks
  rw [flags_zero]
  simp
theorem blks_all (bl : List (List S29)) : blks bl bl.length = (bl.map (fun l => l.map (fun x => (x, true)))).map (fun x => (x, true)) := by
  unfold blks
  rw [flags_all]
  simp
theorem blks_set (bl : List (List S29)) (j : Nat) (l : List S29) (h : bl[j]? = some l) : (blks bl j).set j (flags l l.length, true) = blks bl (j + 1) := by
  apply List.ext_getElem?
  intro i
  rw [List.getElem?_set, blks_get, blks_get, blks_len]
  by_cases e : j = i
  · subst e
    have : j < bl.length := (List.getElem?_eq_some_iff.1 h).1
    rw [if_pos rfl, if_pos this, h, flags_all]
    simp
  · rw [if_neg e]
    congr 1
    funext y
    have : decide (i < j) = decide (i < j + 1) := by rw [decide_eq_decide]; omega
    rw [this]
theorem S_rows {e base : Nat} {ok : Nat → Prop} {w0 W : World} {v : Value} {bl : List (List S29)} (h : Kd.S (Kd.slice 29 (kJ w0)) e W base ok v (bl.map (fun l => l.map (fun x => (x, true))))) : Kd.S kB e W base ok v bl := by
  obtain ⟨f, h0, inner, ho, hr⟩ := h
  rw [List.length_zipIdx, List.length_map] at ho
  refine ⟨f, h0, inner, ?_, ?_, fun j p hj => ?_⟩
  · rw [List.length_zipIdx]; exact ho
  · have := hr.1
    rw [List.length_zipIdx, List.length_map] at this
    rw [List.length_zipIdx]
    exact this
  · rw [List.getElem?_zipIdx] at hj
    obtain ⟨y, hy, rfl⟩ := Option.map_eq_some_iff.1 hj
    obtain ⟨u, hu, hR⟩ := hr.2 j (y.map (fun x => (x, true)), 0 + j) (by rw [List.getElem?_zipIdx, List.getElem?_map, hy]; rfl)
    exact ⟨u, hu, R_all hR⟩
theorem told_blks {base : Nat} {ok : Nat → Prop} {w W : World} {v : Value} {bl : List (List S29)} (h : Kd.R (Kd.fixed kB w) 35 W base ok v bl) : Kd.S (kO w) 35 W base ok v (blks bl 0) := by
  obtain ⟨h0, inner, ho, hr⟩ := h
  rw [blks_zero]
  refine ⟨fun _ => 0, h0, inner, ?_, ?_, fun j p hj => ?_⟩
  · rw [List.length_zipIdx, List.length_map, List.length_map]; exact ho
  · rw [List.length_zipIdx, List.length_map, List.length_map]; exact hr.1
  · rw [List.getElem?_zipIdx] at hj
    obtain ⟨y, hy, rfl⟩ := Option.map_eq_some_iff.1 hj
    rw [List.getElem?_map, List.getElem?_map] at hy
    obtain ⟨z, hz, rfl⟩ := Option.map_eq_some_iff.1 hy
    obtain ⟨t, ht, rfl⟩ := Option.map_eq_some_iff.1 hz
    have h2 := hr.2 j t ht
    refine .inr ⟨rfl, ?_⟩
    show kB.K w (List.map (fun x => x.1) (List.map (fun x => (x, false)) t)) _
    rw [List.map_map]
    have e : ((fun x : S29 × Bool => x.1) ∘ fun x => (x, false)) = id := rfl
    rw [e, List.map_id]
    exact h2
theorem told_row {base : Nat} {ok : Nat → Prop} {w W : World} {v : Value} {l : List S29} (h : Kd.R (Kd.fixed k29 w) 29 W base ok v l) : (kJ w).R 29 W base ok v (flags l 0) := by
  rw [flags_zero]
  exact R_told (d0 := Kd.fixed k29 w) rfl (fun h => h) h
structure FnI (w W : World) (b4 sR : Nat) (V : BV) (vr vb : Value) (Lb : List (List (S29 × Bool) × Bool)) : Prop where
  box : W.heap[b4]? = some (.cells #[.string V.nm, .int .i64 V.pa, .int .i64 V.rt, vr, vb] 32 (0, 0))
  zero : W.heap[w.heap.size]? = some (.cells #[.string ⟨#[]⟩, .int .i64 0, .int .i64 0, .slice none 0 0, .slice none 0 0] 32 (0, 0))
  regs : (Kd.int .i64).R 3 W (w.heap.size + 2) (fun k => k < sR) vr V.rg
  rows : Kd.S (kO w) 35 W (w.heap.size + 2) (fun k => sR ≤ k) vb Lb
  bel : Below w.heap.size w W
  num : b4 = w.heap.size + 1 ∧ w.heap.size + 2 ≤ sR ∧ sR ≤ W.heap.size
section
variable {w W W1 : World} {b4 sR : Nat} {V : BV} {vr vb : Value} {Lb : List (List (S29 × Bool) × Bool)}
theorem FnI.step (h : FnI w W b4 sR V vr vb Lb) (hb : Below W.heap.size W W1) {p : Addr} (hp : w.heap.size + 2 ≤ p.block ∧ sR ≤ p.block) {u : Value} {L2 : List (List (S29 × Bool) × Bool)}
    (hS : Kd.S (kO w) 35 (W1.setCell p u) (w.heap.size + 2) (fun k => sR ≤ k ∨ W.heap.size ≤ k) vb L2) : FnI w (W1.setCell p u) b4 sR V vr vb L2 := by
  have n := h.num
  have hs := hb.size
  refine ⟨blk_far (blk_below h.box hb) (by omega) u, blk_far (blk_below h.zero hb) (by omega) u, Kd.R_far (Kd.R_below h.regs hb) (fun k hk => by omega) u, Kd.S_mono hS (fun k hk => ?_), (below_step h.bel hb).setCell (by omega) u, n.1, n.2.1, by simp; omega⟩
  rcases hk with hk | hk
  · exact hk
  · show sR ≤ k; omega
end
set_option maxHeartbeats 16000000 in
set_option maxRecDepth 100000 in
theorem Func_at {base g : Nat} {ok : Nat → Prop} {w : World} {V : BV} (h : BAt base ok w g V) (hf : Fit V) (hd : doneB V = true) (hL : V.rg.length < 1000000 ∧ V.bl.length < 1000000 ∧ ∀ l ∈ V.bl, l.length < 1000000 ∧ ∀ x ∈ l, x.f8.length < 1000000) :
    Calls Try.prog 13 #[.pointer (some ⟨g, 0, none⟩)] w fun e w' => ∃ vr vb sR, e = .returned (.tuple #[.agg #[.string V.nm, .int .i64 V.pa, .int .i64 V.rt, vr, vb], .bool true]) ∧ (Kd.int .i64).R 3 w' w.heap.size (fun k => k < sR) vr V.rg ∧ Kd.S kB 35 w' w.heap.size (fun k => sR ≤ k) vb V.bl ∧ Below w.heap.size w w' := by
  have hu := Try.underlying32
  obtain ⟨f0, f1, f2⟩ := hf
  obtain ⟨h1, h2, h3, f, vr, vb, vs, hc, hr, hB, ht⟩ := h
  obtain ⟨As, cs, rfl⟩ := Kd.R_slice ht
  obtain ⟨Ar, cr, rfl⟩ := Kd.R_slice hr
  obtain ⟨Ab, cb, rfl⟩ := Kd.S_slice hB
  have HM := Aside0.mk (made_at (blk_alloc hc (.cells #[.string ⟨#[]⟩, .int .i64 0, .int .i64 0, .slice none 0 0, .slice none 0 0] 32)) (show 0 < V.st.length by omega))
  have HH := Aside0.mk (HasFunc As cs V.st _ (Kd.C_alloc (Kd.R_reads' ht).2.2 (.cells #[.string ⟨#[]⟩, .int .i64 0, .int .i64 0, .slice none 0 0, .slice none 0 0] 32)) (Kd.R_reads' ht).2.1)
  have hd' : (V.st.any fun k => !decide (k = 2)) = false := by simpa [doneB] using hd
  rw [hd'] at HH
  have HCR := Aside0.mk (Kd.R_reads' hr).2.2
  have HCRl := Aside0.mk (Kd.R_reads' hr).2.1
  have HCB := Aside0.mk (Kd.S_reads' hB).2.2
  have HCBl := Aside0.mk (Kd.S_reads' hB).2.1
  have hbz : 0 < V.bl.length := by omega
  have hca := blk_alloc hc (.cells #[.string ⟨#[]⟩, .int .i64 0, .int .i64 0, .slice none 0 0, .slice none 0 0] 32)
  have c0 := blk_cell hca 0
  have c1 := blk_cell hca 1
  have c2 := blk_cell hca 2
  have c3 := blk_cell hca 3
  have c4 := blk_cell hca 4
  have c5 := blk_cell hca 5
  simp only [List.getElem?_toArray, List.getElem?_cons_zero, List.getElem?_cons_succ] at c0 c1 c2 c3 c4 c5
  clear h1 h2 h3 hc hr hB ht f0 f1 f2 hd hd' hca
  obtain ⟨rg, erg⟩ : ∃ r, V.rg = r := ⟨_, rfl⟩
  rw [erg] at c3 HCR HCRl hL
  rw [erg]
  obtain ⟨bl, ebl⟩ : ∃ r, V.bl = r := ⟨_, rfl⟩
  rw [ebl] at c4 HCB HCBl hL hbz
  rw [ebl]
  have ERG := Aside0.mk erg
  have HL := Aside0.mk hL
  have HBZ := Aside0.mk hbz
  have HCL : Aside0 (slices_Clone_int_int.f rg = some rg) := ⟨if_pos (by omega)⟩
  clear erg ebl hL hbz
  go_enter Try.func13, Try.ntmps13
  go_upto_region 4 with (first | (go_at_call 47; ((with_reducible refine HM.out.mono ?_); rintro e w' ⟨rfl, rfl⟩)) | (go_at_call 41; ((with_reducible refine HH.out.mono ?_); rintro e w' ⟨rfl, rfl⟩)))
  have BK4 : Aside0 (((w.alloc (.cells #[.string ⟨#[]⟩, .int .i64 0, .int .i64 0, .slice none 0 0, .slice none 0 0] 32)).alloc (.cells #[.string V.nm, .int .i64 V.pa, .int .i64 V.rt, .slice Ar rg.length cr, .slice Ab bl.length cb] 32)).heap[w.heap.size + 1]? = some (.cells #[.string V.nm, .int .i64 V.pa, .int .i64 V.rt, .slice Ar rg.length cr, .slice Ab bl.length cb] 32)) := ⟨blk_new1 w _ _⟩
  have BZ : Aside0 (((w.alloc (.cells #[.string ⟨#[]⟩, .int .i64 0, .int .i64 0, .slice none 0 0, .slice none 0 0] 32)).alloc (.cells #[.string V.nm, .int .i64 V.pa, .int .i64 V.rt, .slice Ar rg.length cr, .slice Ab bl.length cb] 32)).heap[w.heap.size]? = some (.cells #[.string ⟨#[]⟩, .int .i64 0, .int .i64 0, .slice none 0 0, .slice none 0 0] 32)) := ⟨blk_alloc (blk_new w _) _⟩
  have HB : Aside0 (Below w.heap.size w ((w.alloc (.cells #[.string ⟨#[]⟩, .int .i64 0, .int .i64 0, .slice none 0 0, .slice none 0 0] 32)).alloc (.cells #[.string V.nm, .int .i64 V.pa, .int .i64 V.rt, .slice Ar rg.length cr, .slice Ab bl.length cb] 32))) := ⟨below_alloc (below_alloc (Below.refl _ _) _) _⟩
  have HZ : Aside0 (((w.alloc (.cells #[.string ⟨#[]⟩, .int .i64 0, .int .i64 0, .slice none 0 0, .slice none 0 0] 32)).alloc (.cells #[.string V.nm, .int .i64 V.pa, .int .i64 V.rt, .slice Ar rg.length cr, .slice Ab bl.length cb] 32)).heap.size = w.heap.size + 2) := ⟨by simp⟩
  generalize (w.alloc (.cells #[.string ⟨#[]⟩, .int .i64 0, .int .i64 0, .slice none 0 0, .slice none 0 0] 32)).alloc (.cells #[.string V.nm, .int .i64 V.pa, .int .i64 V.rt, .slice Ar rg.length cr, .slice Ab bl.length cb] 32) = W0 at BK4 BZ HB HZ ⊢
  clear c0 c1 c2 c3 c4 c5
  have k3 := blk_cell BK4.out 3
  have k4 := blk_cell BK4.out 4
  simp only [List.getElem?_toArray, List.getElem?_cons_zero, List.getElem?_cons_succ] at k3 k4
  refine start_ (n := 10) (S := fun w' => w'.cell? ⟨w.heap.size + 1, 3, none⟩ = some (.slice Ar rg.length cr) ∧ w'.cell? ⟨w.heap.size + 1, 4, none⟩ = some (.slice Ab bl.length cb)) (ds := [7, 9]) #[false, false, false, false, false, false, false, false, false, false] (by kernel_rfl) rfl rfl ⟨k3, k4⟩ (fun hHeld => ?_)
  refine pure_ (i := 0) (N := some 24) (v := ?_) (a' := ?_) #[true, false, false, false, false, false, false, false, false, false] rfl rfl (by kernel_rfl) (fun _ _ _ h => h) (Or.inl ⟨by rfl, ?_⟩) ?_ ?_
  rotate_left
  · intro w'
    go_simp
    with_reducible rfl
  rotate_left
  · simp only [Act.put, List.setIfInBounds_toArray, List.set_cons_zero, List.set_cons_succ, i64_w, i32_w]
    rfl
  refine pure_ (i := 3) (N := some 27) (v := ?_) (a' := ?_) #[true, false, false, true, false, false, false, false, false, false] rfl rfl (by kernel_rfl) (fun _ _ _ h => h) (Or.inl ⟨by rfl, ?_⟩) ?_ ?_
  rotate_left
  · intro w'
    go_simp
    with_reducible rfl
  rotate_left
  · simp only [Act.put, List.setIfInBounds_toArray, List.set_cons_zero, List.set_cons_succ, i64_w, i32_w]
    rfl
  refine take_ (i := 1) (N := some 25) (v := ?_) (a' := ?_) #[true, true, false, true, false, false, false, false, false, false] rfl rfl (by kernel_rfl) (fun _ _ _ h => h) (Or.inl ⟨by rfl, ?_⟩) hHeld ?_ ?_
  rotate_left
  · rintro w' ⟨s0, s1⟩
    go_simp
    with_reducible rfl
  rotate_left
  · simp only [Act.put, List.setIfInBounds_toArray, List.set_cons_zero, List.set_cons_succ, i64_w, i32_w]
    rfl
  refine take_ (i := 4) (N := some 28) (v := ?_) (a' := ?_) #[true, true, false, true, true, false, false, false, false, false] rfl rfl (by kernel_rfl) (fun _ _ _ h => h) (Or.inl ⟨by rfl, ?_⟩) hHeld ?_ ?_
  rotate_left
  · rintro w' ⟨s0, s1⟩
    go_simp
    with_reducible rfl
  rotate_left
  · simp only [Act.put, List.setIfInBounds_toArray, List.set_cons_zero, List.set_cons_succ, i64_w, i32_w]
    rfl
  refine one_ (i := 2) (N := some 26) #[true, true, true, true, true, false, false, false, false, false] rfl rfl (by kernel_rfl) (by decide) (fun K hK => ?_)
  refine goes_ Try.func43 (by kernel_rfl) rfl #[.slice Ar rg.length cr] (by rfl) rfl rfl (by simp only [List.map_toArray, List.map_cons, List.map_nil]; rfl) ?_
  with_reducible refine (slices_Clone_int_int.calls Ar cr rg rg _ (Kd.C_below HCR.out (below_drew1 HB.out)) HCRl.out HCL.out).mono ?_
  rintro e w1 ⟨v_, rfl, hR_, hb⟩
  refine ⟨_, rfl, ?_⟩
  replace hb := below_step (below_drew (Below.refl W0.heap.size W0)) hb
  obtain ⟨Ar2, cr2, rfl⟩ := Kd.R_slice hR_
  have BK5 : Aside0 (w1.heap[w.heap.size + 1]? = some (.cells #[.string V.nm, .int .i64 V.pa, .int .i64 V.rt, .slice Ar rg.length cr, .slice Ab bl.length cb] 32)) := ⟨blk_below BK4.out hb⟩
  have BZ5 : Aside0 (w1.heap[w.heap.size]? = some (.cells #[.string ⟨#[]⟩, .int .i64 0, .int .i64 0, .slice none 0 0, .slice none 0 0] 32)) := ⟨blk_below BZ.out hb⟩
  have HB5 : Aside0 (Below w.heap.size w w1) := ⟨below_step HB.out hb⟩
  have HS5 : Aside0 (w.heap.size + 2 ≤ w1.heap.size) := ⟨by have := hb.size; have := HZ.out; simp at this ⊢; omega⟩
  have HRR : Aside0 ((Kd.int .i64).R 3 w1 (w.heap.size + 2) (fun k => k < w1.heap.size) (.slice Ar2 rg.length cr2) rg) := ⟨Kd.R_lower (Kd.R_mono (Kd.R_bound hR_) (fun k hk => hk.2.2.1)) (by have := HZ.out; show w.heap.size + 2 ≤ W0.heap.size; omega)⟩
  clear hb hR_
  refine hK.out _ _ ⟨(blk_cell BK5.out 3).trans rfl, (blk_cell BK5.out 4).trans rfl⟩ (fun hHeld => ?_)
  clear hK K
  refine norm_ (a' := ?_) ?_ ?_
  rotate_left
  · show Act.put _ (some 26) _ = _
    simp only [Act.put, List.setIfInBounds_toArray, List.set_cons_zero, List.set_cons_succ, i64_w, i32_w]
    rfl
  refine pure_ (i := 6) (N := some 30) (v := ?_) (a' := ?_) #[true, true, true, true, true, false, true, false, false, false] rfl rfl (by kernel_rfl) (fun _ _ _ h => h) (Or.inl ⟨by rfl, ?_⟩) ?_ ?_
  rotate_left
  · intro w'
    go_simp
    with_reducible rfl
  rotate_left
  · simp only [Act.put, List.setIfInBounds_toArray, List.set_cons_zero, List.set_cons_succ, i64_w, i32_w]
    rfl
  refine one_ (i := 5) (N := some 29) #[true, true, true, true, true, true, true, false, false, false] rfl rfl (by kernel_rfl) (by decide) (fun K hK => ?_)
  refine goes_ Try.func49 (by kernel_rfl) rfl #[.slice Ab bl.length cb] (by rfl) rfl rfl (by simp only [List.map_toArray, List.map_cons, List.map_nil]; rfl) ?_
  with_reducible refine (Clone_B Ab cb bl w _ HCB.out HB5.out HCBl.out HL.out.2.1).mono ?_
  rintro e w2 ⟨v_, rfl, hR_, hb⟩
  refine ⟨_, rfl, ?_⟩
  obtain ⟨q, cb2, rfl, hq1, hq2, cellsq, hq3⟩ := Kd.R_form hR_ HBZ.out
  have BK6 : Aside0 (w2.heap[w.heap.size + 1]? = some (.cells #[.string V.nm, .int .i64 V.pa, .int .i64 V.rt, .slice Ar rg.length cr, .slice Ab bl.length cb] 32)) := ⟨blk_below BK5.out hb⟩
  have BZ6 : Aside0 (w2.heap[w.heap.size]? = some (.cells #[.string ⟨#[]⟩, .int .i64 0, .int .i64 0, .slice none 0 0, .slice none 0 0] 32)) := ⟨blk_below BZ5.out hb⟩
  have HB6 : Aside0 (Below w.heap.size w w2) := ⟨below_step HB5.out hb⟩
  have HRR6 : Aside0 ((Kd.int .i64).R 3 w2 (w.heap.size + 2) (fun k => k < w1.heap.size) (.slice Ar2 rg.length cr2) rg) := ⟨Kd.R_below HRR.out hb⟩
  have HRO : Aside0 (Kd.S (kO w) 35 w2 (w.heap.size + 2) (fun k => w1.heap.size ≤ k) (.slice (some ⟨q, 0, none⟩) bl.length cb2) (blks bl 0)) := ⟨told_blks (Kd.R_lower (Kd.R_mono (Kd.R_bound hR_) (fun k hk => hk.2.1)) (by have := HS5.out; omega))⟩
  have HQ : Aside0 (w1.heap.size ≤ q ∧ w1.heap.size ≤ w2.heap.size) := ⟨hq1, hb.size⟩
  have z3 := blk_frozen BK6.out 3
  have z4 := blk_frozen BK6.out 4
  have m3 := blk_cell BK6.out 3
  have m4 := blk_cell BK6.out 4
  simp only [List.getElem?_toArray, List.getElem?_cons_zero, List.getElem?_cons_succ] at m3 m4
  clear hb hR_ hq1 hq2 hq3
  refine hK.out _ _ ⟨(blk_cell BK6.out 3).trans rfl, (blk_cell BK6.out 4).trans rfl⟩ (fun hHeld => ?_)
  clear hK K
  refine norm_ (a' := ?_) ?_ ?_
  rotate_left
  · show Act.put _ (some 29) _ = _
    simp only [Act.put, List.setIfInBounds_toArray, List.set_cons_zero, List.set_cons_succ, i64_w, i32_w]
    rfl
  refine last_ (i := 7) (N := none) #[true, true, true, true, true, true, true, true, false, false] rfl rfl (by kernel_rfl) (by decide) (fun K hK => ?_)
  refine skip_ (w1 := ?_) (by rfl) rfl ?_ ?_
  rotate_left
  · go_simp
    rfl
  refine hK.out _ _ ?_
  clear hK K
  refine pure_ (i := 8) (N := some 31) (v := ?_) (a' := ?_) #[true, true, true, true, true, true, true, true, true, false] rfl rfl (by kernel_rfl) (fun _ _ _ h => h) (Or.inl ⟨by rfl, ?_⟩) ?_ ?_
  rotate_left
  · intro w'
    go_simp
    with_reducible rfl
  rotate_left
  · simp only [Act.put, List.setIfInBounds_toArray, List.set_cons_zero, List.set_cons_succ, i64_w, i32_w]
    rfl
  refine last_ (i := 9) (N := none) #[true, true, true, true, true, true, true, true, true, true] rfl rfl (by kernel_rfl) (by decide) (fun K hK => ?_)
  refine skip_ (w1 := ?_) (by rfl) rfl ?_ ?_
  rotate_left
  · go_simp
    rfl
  refine hK.out _ _ ?_
  clear hK K
  refine done_ (by kernel_rfl) ?_
  have HRR7 : Aside0 ((Kd.int .i64).R 3 w2 (w.heap.size + 2) (fun k => k < w1.heap.size ∧ w.heap.size + 2 ≤ k) (.slice Ar2 rg.length cr2) rg) := ⟨Kd.R_mono (Kd.R_bound HRR6.out) (fun k hk => ⟨hk.1, hk.2.1⟩)⟩
  have HI : Aside0 (FnI w ((w2.setCell ⟨w.heap.size + 1, 3, none⟩ (.slice Ar2 rg.length cr2)).setCell ⟨w.heap.size + 1, 4, none⟩ (.slice (some ⟨q, 0, none⟩) bl.length cb2)) (w.heap.size + 1) w1.heap.size V (.slice Ar2 rg.length cr2) (.slice (some ⟨q, 0, none⟩) bl.length cb2) (blks bl 0)) := ⟨⟨blk_put (blk_put BK6.out 3 _ rfl) 4 _ rfl, blk_far (blk_far BZ6.out (p := ⟨w.heap.size + 1, 3, none⟩) (by show w.heap.size ≠ w.heap.size + 1; omega) _) (p := ⟨w.heap.size + 1, 4, none⟩) (by show w.heap.size ≠ w.heap.size + 1; omega) _, by rw [ERG.out]; exact Kd.R_mono (Kd.R_far (Kd.R_far HRR7.out (p := ⟨w.heap.size + 1, 3, none⟩) (fun k hk => by show k ≠ w.heap.size + 1; omega) _) (p := ⟨w.heap.size + 1, 4, none⟩) (fun k hk => by show k ≠ w.heap.size + 1; omega) _) (fun k hk => hk.1), Kd.S_far (Kd.S_far HRO.out (p := ⟨w.heap.size + 1, 3, none⟩) (fun k hk => by have := HS5.out; show k ≠ w.heap.size + 1; omega) _) (p := ⟨w.heap.size + 1, 4, none⟩) (fun k hk => by have := HS5.out; show k ≠ w.heap.size + 1; omega) _, (HB6.out.setCell (by show w.heap.size ≤ w.heap.size + 1; omega) _).setCell (by show w.heap.size ≤ w.heap.size + 1; omega) _, ⟨rfl, HS5.out, by simpa using HQ.out.2⟩⟩⟩
  have HQ2 : Aside0 (w1.heap.size ≤ q ∧ w.heap.size + 2 ≤ q) := ⟨HQ.out.1, by have := HQ.out.1; have := HS5.out; omega⟩
  generalize ((w2.setCell ⟨w.heap.size + 1, 3, none⟩ (.slice Ar2 rg.length cr2)).setCell ⟨w.heap.size + 1, 4, none⟩ (.slice (some ⟨q, 0, none⟩) bl.length cb2)) = W4 at HI ⊢
  obtain ⟨sR, esR⟩ : ∃ s, w1.heap.size = s := ⟨_, rfl⟩
  rw [esR] at HI HQ2
  clear BK4 BZ HB HZ BK5 BZ5 HB5 HS5 HRR BK6 BZ6 HB6 HRR6 HRR7 HRO HQ z3 z4 m3 m4 k3 k4 hHeld esR HM HH HCR HCRl HCL
  have n4 := blk_cell HI.out.box 4
  simp only [List.getElem?_toArray, List.getElem?_cons_zero, List.getElem?_cons_succ] at n4
  go_wp2
  go_loopw [35] (fun v35 wr => ∃ j : Nat, v35 = .int .i64 (j : Int) ∧ Aside0 (j ≤ bl.length) ∧ Aside0 (FnI w wr (w.heap.size + 1) sR V (.slice Ar2 rg.length cr2) (.slice (some ⟨q, 0, none⟩) bl.length cb2) (blks bl j))) (fun v35 wr => bl.length - (intOf v35).toNat)
  case atStart => exact ⟨0, rfl, ⟨Nat.zero_le _⟩, ⟨HI.out⟩⟩
  case round =>
    clear HI n4
    obtain ⟨j, rfl, HJ, HI⟩ := hrel
    by_cases hlt : j < bl.length
    · have HLT := Aside0.mk hlt
      have t1 : decide ((j : Int) < (bl.length : Int)) = true := decide_eq_true (by omega)
      have t2 : decide (j < bl.length) = true := decide_eq_true hlt
      have p1 : (0 : Int) ≤ (j : Int) := by omega
      have p2 : (j : Int) < (bl.length : Int) := by omega
      have hwr : wrap64 ((j : Int) + 1) = ((j + 1 : Nat) : Int) := by have := HL.out.2.1; unfold wrap64; omega
      have HWR := Aside0.mk hwr
      clear hwr
      obtain ⟨row, hrow⟩ : ∃ r, bl[j]? = some r := ⟨_, List.getElem?_eq_getElem hlt⟩
      have hrl := HL.out.2.2 row (List.mem_of_getElem? hrow)
      have hbj : (blks bl j)[j]? = some (row.map (fun x => (x, false)), false) := by rw [blks_get, hrow]; simp
      obtain ⟨Ak, ck, cj, hkl, hkC⟩ := fn_told HI.out.rows j hlt hbj
      rw [List.length_map] at cj hkl hkC
      have emap : List.map (fun x : S29 × Bool => x.1) (List.map (fun x => (x, false)) row) = row := by rw [List.map_map]; exact List.map_id row
      rw [emap] at hkC
      obtain ⟨_, fj⟩ := fn_cells HI.out.rows j hlt
      have HROW := Aside0.mk hrow
      have HRL := Aside0.mk hrl
      have HKC := Aside0.mk hkC
      have HKL := Aside0.mk hkl
      have CJ := Aside0.mk cj
      have FJ := Aside0.mk fj
      have n4 := blk_cell HI.out.box 4
      simp only [List.getElem?_toArray, List.getElem?_cons_zero, List.getElem?_cons_succ] at n4
      clear hrow hrl hbj hkl hkC fj emap
      go_upto_region 8 with (fail)
      refine start_ (n := 7) (S := fun w' => w'.cell? ⟨w.heap.size + 1, 4, none⟩ = some (.slice (some ⟨q, 0, none⟩) bl.length cb2)) (ds := [6]) #[false, false, false, false, false, false, false] (by kernel_rfl) rfl rfl (n4) (fun hHeld => ?_)
      refine pure_ (i := 0) (N := some 40) (v := ?_) (a' := ?_) #[true, false, false, false, false, false, false] rfl rfl (by kernel_rfl) (fun _ _ _ h => h) (Or.inl ⟨by rfl, ?_⟩) ?_ ?_
      rotate_left
      · intro w'
        go_simp
        with_reducible rfl
      rotate_left
      · simp only [Act.put, List.setIfInBounds_toArray, List.set_cons_zero, List.set_cons_succ, i64_w, i32_w]
        rfl
      refine pure_ (i := 2) (N := some 42) (v := ?_) (a' := ?_) #[true, false, true, false, false, false, false] rfl rfl (by kernel_rfl) (fun _ _ _ h => h) (Or.inl ⟨by rfl, ?_⟩) ?_ ?_
      rotate_left
      · intro w'
        go_simp
        with_reducible rfl
      rotate_left
      · simp only [Act.put, List.setIfInBounds_toArray, List.set_cons_zero, List.set_cons_succ, i64_w, i32_w]
        rfl
      refine pure_ (i := 3) (N := some 43) (v := ?_) (a' := ?_) #[true, false, true, true, false, false, false] rfl rfl (by kernel_rfl) (fun _ _ _ h => h) (Or.inl ⟨by rfl, ?_⟩) ?_ ?_
      rotate_left
      · intro w'
        go_simp
        with_reducible rfl
      rotate_left
      · simp only [Act.put, List.setIfInBounds_toArray, List.set_cons_zero, List.set_cons_succ, i64_w, i32_w]
        rfl
      refine take_ (i := 1) (N := some 41) (v := ?_) (a' := ?_) #[true, true, true, true, false, false, false] rfl rfl (by kernel_rfl) (fun _ _ _ h => h) (Or.inl ⟨by rfl, ?_⟩) hHeld ?_ ?_
      rotate_left
      · intro w' s0
        go_simp
        with_reducible rfl
      rotate_left
      · simp only [Act.put, List.setIfInBounds_toArray, List.set_cons_zero, List.set_cons_succ, i64_w, i32_w]
        rfl
      refine one_ (i := 4) (N := some 44) #[true, true, true, true, true, false, false] rfl rfl (by kernel_rfl) (by decide) (fun K hK => ?_)
      refine goes_ Try.func50 (by kernel_rfl) rfl #[.slice Ak row.length ck] (by rfl) rfl rfl (by simp only [List.map_toArray, List.map_cons, List.map_nil]; rfl) ?_
      with_reducible refine (Clone_I Ak ck row w _ HKC.out (below_drew1 HI.out.bel) HKL.out HRL.out.1).mono ?_
      rintro e w5 ⟨v_, rfl, hR_, hb⟩
      refine ⟨_, rfl, ?_⟩
      replace hb := below_step (below_drew (Below.refl wr.heap.size wr)) hb
      obtain ⟨An, cn, rfl⟩ := Kd.R_slice hR_
      have hS1 := fn_row HI.out.rows j HLT.out hb (told_row (Kd.R_lower (Kd.R_mono (Kd.R_bound hR_) (fun k hk => hk.2.1)) (by have := HI.out.num; show w.heap.size + 2 ≤ wr.heap.size; omega)))
      have HI5 : Aside0 (FnI w (w5.setCell ⟨q, j, none⟩ (.slice An row.length cn)) (w.heap.size + 1) sR V (.slice Ar2 rg.length cr2) (.slice (some ⟨q, 0, none⟩) bl.length cb2) ((blks bl j).set j (flags row 0, true))) := ⟨FnI.step HI.out hb (p := ⟨q, j, none⟩) ⟨HQ2.out.2, HQ2.out.1⟩ hS1⟩
      have c5 : w5.cell? ⟨q, j, none⟩ = some (.slice Ak row.length ck) := (hb.cell (block_lt_of_cell CJ.out)).trans CJ.out
      have f5 : w5.frozen? ⟨q, j, none⟩ = false := (hb.frozen (block_lt_of_cell CJ.out)).trans FJ.out
      have BK8 : Aside0 (w5.heap[w.heap.size + 1]? = some (.cells #[.string V.nm, .int .i64 V.pa, .int .i64 V.rt, .slice Ar2 rg.length cr2, .slice (some ⟨q, 0, none⟩) bl.length cb2] 32 (0, 0))) := ⟨blk_below HI.out.box hb⟩
      clear hb hR_ hS1
      refine hK.out _ _ ((blk_cell BK8.out 4).trans rfl) (fun hHeld => ?_)
      clear hK K
      refine norm_ (a' := ?_) ?_ ?_
      rotate_left
      · show Act.put _ (some 44) _ = _
        simp only [Act.put, List.setIfInBounds_toArray, List.set_cons_zero, List.set_cons_succ, i64_w, i32_w]
        rfl
      refine pure_ (i := 5) (N := some 45) (v := ?_) (a' := ?_) #[true, true, true, true, true, true, false] rfl rfl (by kernel_rfl) (fun _ _ _ h => h) (Or.inl ⟨by rfl, ?_⟩) ?_ ?_
      rotate_left
      · intro w'
        go_simp
        with_reducible rfl
      rotate_left
      · simp only [Act.put, List.setIfInBounds_toArray, List.set_cons_zero, List.set_cons_succ, i64_w, i32_w]
        rfl
      refine last_ (i := 6) (N := none) #[true, true, true, true, true, true, true] rfl rfl (by kernel_rfl) (by decide) (fun K hK => ?_)
      refine skip_ (w1 := ?_) (by rfl) rfl ?_ ?_
      rotate_left
      · go_simp
        rfl
      refine hK.out _ _ ?_
      clear hK K
      refine done_ (by kernel_rfl) ?_
      generalize w5.setCell ⟨q, j, none⟩ (.slice An row.length cn) = W6 at HI5 ⊢
      clear HI CJ FJ c5 f5 BK8 n4 hHeld cj
      go_wp2
      obtain ⟨W7, hW7⟩ : ∃ q, q = W6 := ⟨_, rfl⟩
      subst hW7
      go_loopw [48] (fun v48 wr => ∃ a : Nat, v48 = .int .i64 (a : Int) ∧ Aside0 (a ≤ row.length) ∧ Aside0 (FnI w wr (w.heap.size + 1) sR V (.slice Ar2 rg.length cr2) (.slice (some ⟨q, 0, none⟩) bl.length cb2) ((blks bl j).set j (flags row a, true)))) (fun v48 wr => row.length - (intOf v48).toNat)
      case atStart => exact ⟨0, rfl, ⟨Nat.zero_le _⟩, ⟨HI5.out⟩⟩
      case round =>
        clear HI5
        obtain ⟨a, rfl, HA, HI⟩ := hrel
        by_cases hat : a < row.length
        · have HAT := Aside0.mk hat
          have s1 : decide ((a : Int) < (row.length : Int)) = true := decide_eq_true (by omega)
          have s2 : decide (a < row.length) = true := decide_eq_true hat
          have r1 : (0 : Int) ≤ (a : Int) := by omega
          have r2 : (a : Int) < (row.length : Int) := by omega
          have hwr : wrap64 ((a : Int) + 1) = ((a + 1 : Nat) : Int) := by have := HRL.out.1; unfold wrap64; omega
          have HWA := Aside0.mk hwr
          clear hwr
          obtain ⟨x, hx⟩ : ∃ x, row[a]? = some x := ⟨_, List.getElem?_eq_getElem hat⟩
          have hxl := HRL.out.2 x (List.mem_of_getElem? hx)
          have hbj : ((blks bl j).set j (flags row a, true))[j]? = some (flags row a, true) := by rw [List.getElem?_set, if_pos rfl, if_pos (by rw [blks_len]; exact HLT.out)]
          have hfa : (flags row a)[a]? = some (x, false) := by rw [flags_get, hx]; simp
          obtain ⟨qi, ci, cq, hq1, hq2, hq3, ⟨uo, cu⟩, fu, hnext⟩ := fn_args HI.out.rows j HLT.out hbj a hfa
          rw [flags_len] at cq
          rw [List.set_set, flags_set row a x hx] at hnext
          have erd : rd_T29 row (a : Int) = x := by simp [rd_T29, List.getD_eq_getElem?_getD, hx]
          obtain ⟨ad, A8, c8, eAd, _, _, _, _, _, _, _, _, cx8, hl8, hC8⟩ := at_T29 HKC.out (a : Int) r1 r2
          rw [erd] at cx8 hl8 hC8
          subst eAd
          (try simp only [Int.toNat_natCast] at cx8)
          have HNX := Aside0.mk (fun (W1 : World) (va : Value) => @hnext W1 va)
          have HCQ := Aside0.mk cq
          have HQI := Aside0.mk (And.intro hq1 (And.intro hq2 hq3))
          have HCU := Aside0.mk cu
          have HFU := Aside0.mk fu
          have HX8 := Aside0.mk ((HI.out.bel.cell (block_lt_of_cell cx8)).trans cx8)
          have HC8 := Aside0.mk hC8
          have HL8 := Aside0.mk hl8
          have HXL := Aside0.mk hxl
          have HCX : Aside0 (slices_Clone_int_int.f x.f8 = some x.f8) := ⟨if_pos (by omega)⟩
          have n4 := blk_cell HI.out.box 4
          simp only [List.getElem?_toArray, List.getElem?_cons_zero, List.getElem?_cons_succ] at n4
          clear hx hxl hbj hfa cq hq1 hq2 hq3 cu fu hnext erd cx8 hl8 hC8
          go_upto_region 12 with (fail)
          refine start_ (n := 15) (S := fun w' => w'.cell? ⟨w.heap.size + 1, 4, none⟩ = some (.slice (some ⟨q, 0, none⟩) bl.length cb2) ∧ w'.cell? ⟨q, j, none⟩ = some (.slice (some ⟨qi, 0, none⟩) row.length ci) ∧ w'.cell? ⟨(ad.add (a * 9)).block, (ad.add (a * 9)).off + 8, none⟩ = some (.slice A8 x.f8.length c8)) (ds := [14]) #[false, false, false, false, false, false, false, false, false, false, false, false, false, false, false] (by kernel_rfl) rfl rfl ⟨n4, HCQ.out, HX8.out⟩ (fun hHeld => ?_)
          refine pure_ (i := 0) (N := some 51) (v := ?_) (a' := ?_) #[true, false, false, false, false, false, false, false, false, false, false, false, false, false, false] rfl rfl (by kernel_rfl) (fun _ _ _ h => h) (Or.inl ⟨by rfl, ?_⟩) ?_ ?_
          rotate_left
          · intro w'
            go_simp
            with_reducible rfl
          rotate_left
          · simp only [Act.put, List.setIfInBounds_toArray, List.set_cons_zero, List.set_cons_succ, i64_w, i32_w]
            rfl
          refine pure_ (i := 2) (N := some 53) (v := ?_) (a' := ?_) #[true, false, true, false, false, false, false, false, false, false, false, false, false, false, false] rfl rfl (by kernel_rfl) (fun _ _ _ h => h) (Or.inl ⟨by rfl, ?_⟩) ?_ ?_
          rotate_left
          · intro w'
            go_simp
            with_reducible rfl
          rotate_left
          · simp only [Act.put, List.setIfInBounds_toArray, List.set_cons_zero, List.set_cons_succ, i64_w, i32_w]
            rfl
          refine pure_ (i := 5) (N := some 56) (v := ?_) (a' := ?_) #[true, false, true, false, false, true, false, false, false, false, false, false, false, false, false] rfl rfl (by kernel_rfl) (fun _ _ _ h => h) (Or.inl ⟨by rfl, ?_⟩) ?_ ?_
          rotate_left
          · intro w'
            go_simp
            with_reducible rfl
          rotate_left
          · simp only [Act.put, List.setIfInBounds_toArray, List.set_cons_zero, List.set_cons_succ, i64_w, i32_w]
            rfl
          refine pure_ (i := 6) (N := some 57) (v := ?_) (a' := ?_) #[true, false, true, false, false, true, true, false, false, false, false, false, false, false, false] rfl rfl (by kernel_rfl) (fun _ _ _ h => h) (Or.inl ⟨by rfl, ?_⟩) ?_ ?_
          rotate_left
          · intro w'
            go_simp
            with_reducible rfl
          rotate_left
          · simp only [Act.put, List.setIfInBounds_toArray, List.set_cons_zero, List.set_cons_succ, i64_w, i32_w]
            rfl
          refine pure_ (i := 7) (N := some 58) (v := ?_) (a' := ?_) #[true, false, true, false, false, true, true, true, false, false, false, false, false, false, false] rfl rfl (by kernel_rfl) (fun _ _ _ h => h) (Or.inl ⟨by rfl, ?_⟩) ?_ ?_
          rotate_left
          · intro w'
            go_simp
            with_reducible rfl
          rotate_left
          · simp only [Act.put, List.setIfInBounds_toArray, List.set_cons_zero, List.set_cons_succ, i64_w, i32_w]
            rfl
          refine pure_ (i := 8) (N := some 59) (v := ?_) (a' := ?_) #[true, false, true, false, false, true, true, true, true, false, false, false, false, false, false] rfl rfl (by kernel_rfl) (fun _ _ _ h => h) (Or.inl ⟨by rfl, ?_⟩) ?_ ?_
          rotate_left
          · intro w'
            go_simp
            with_reducible rfl
          rotate_left
          · simp only [Act.put, List.setIfInBounds_toArray, List.set_cons_zero, List.set_cons_succ, i64_w, i32_w]
            rfl
          refine pure_ (i := 9) (N := some 60) (v := ?_) (a' := ?_) #[true, false, true, false, false, true, true, true, true, true, false, false, false, false, false] rfl rfl (by kernel_rfl) (fun _ _ _ h => h) (Or.inl ⟨by rfl, ?_⟩) ?_ ?_
          rotate_left
          · intro w'
            go_simp
            with_reducible rfl
          rotate_left
          · simp only [Act.put, List.setIfInBounds_toArray, List.set_cons_zero, List.set_cons_succ, i64_w, i32_w]
            rfl
          refine take_ (i := 1) (N := some 52) (v := ?_) (a' := ?_) #[true, true, true, false, false, true, true, true, true, true, false, false, false, false, false] rfl rfl (by kernel_rfl) (fun _ _ _ h => h) (Or.inl ⟨by rfl, ?_⟩) hHeld ?_ ?_
          rotate_left
          · rintro w' ⟨s0, s1, s2⟩
            go_simp
            with_reducible rfl
          rotate_left
          · simp only [Act.put, List.setIfInBounds_toArray, List.set_cons_zero, List.set_cons_succ, i64_w, i32_w]
            rfl
          refine pure_ (i := 3) (N := some 54) (v := ?_) (a' := ?_) #[true, true, true, true, false, true, true, true, true, true, false, false, false, false, false] rfl rfl (by kernel_rfl) (fun _ _ _ h => h) (Or.inl ⟨by rfl, ?_⟩) ?_ ?_
          rotate_left
          · intro w'
            go_simp
            with_reducible rfl
          rotate_left
          · simp only [Act.put, List.setIfInBounds_toArray, List.set_cons_zero, List.set_cons_succ, i64_w, i32_w]
            rfl
          refine take_ (i := 4) (N := some 55) (v := ?_) (a' := ?_) #[true, true, true, true, true, true, true, true, true, true, false, false, false, false, false] rfl rfl (by kernel_rfl) (fun _ _ _ h => h) (Or.inl ⟨by rfl, ?_⟩) hHeld ?_ ?_
          rotate_left
          · rintro w' ⟨s0, s1, s2⟩
            go_simp
            with_reducible rfl
          rotate_left
          · simp only [Act.put, List.setIfInBounds_toArray, List.set_cons_zero, List.set_cons_succ, i64_w, i32_w]
            rfl
          refine take_ (i := 10) (N := some 61) (v := ?_) (a' := ?_) #[true, true, true, true, true, true, true, true, true, true, true, false, false, false, false] rfl rfl (by kernel_rfl) (fun _ _ _ h => h) (Or.inl ⟨by rfl, ?_⟩) hHeld ?_ ?_
          rotate_left
          · rintro w' ⟨s0, s1, s2⟩
            go_simp
            with_reducible rfl
          rotate_left
          · simp only [Act.put, List.setIfInBounds_toArray, List.set_cons_zero, List.set_cons_succ, i64_w, i32_w]
            rfl
          refine one_ (i := 11) (N := some 62) #[true, true, true, true, true, true, true, true, true, true, true, true, false, false, false] rfl rfl (by kernel_rfl) (by decide) (fun K hK => ?_)
          refine goes_ Try.func43 (by kernel_rfl) rfl #[.slice A8 x.f8.length c8] (by rfl) rfl rfl (by simp only [List.map_toArray, List.map_cons, List.map_nil]; rfl) ?_
          with_reducible refine (slices_Clone_int_int.calls A8 c8 x.f8 x.f8 _ (Kd.C_below HC8.out (below_drew1 HI.out.bel)) HL8.out HCX.out).mono ?_
          rintro e w8 ⟨v_, rfl, hR_, hb⟩
          refine ⟨_, rfl, ?_⟩
          replace hb := below_step (below_drew (Below.refl wr.heap.size wr)) hb
          obtain ⟨An2, cn2, rfl⟩ := Kd.R_slice hR_
          have hS1 := HNX.out w8 (.slice An2 x.f8.length cn2) hb (Kd.R_lower (Kd.R_mono (Kd.R_bound hR_) (fun k hk => hk.2.1)) (by have := HI.out.num; show w.heap.size + 2 ≤ wr.heap.size; omega))
          have HI8 : Aside0 (FnI w (w8.setCell ⟨qi, a * 9 + 8, none⟩ (.slice An2 x.f8.length cn2)) (w.heap.size + 1) sR V (.slice Ar2 rg.length cr2) (.slice (some ⟨q, 0, none⟩) bl.length cb2) ((blks bl j).set j (flags row (a + 1), true))) := ⟨FnI.step HI.out hb (p := ⟨qi, a * 9 + 8, none⟩) ⟨HQI.out.2.2, HQI.out.1⟩ hS1⟩
          have c8_ : w8.cell? ⟨qi, a * 9 + 8, none⟩ = some uo := (hb.cell (block_lt_of_cell HCU.out)).trans HCU.out
          have f8_ : w8.frozen? ⟨qi, a * 9 + 8, none⟩ = false := (hb.frozen (block_lt_of_cell HCU.out)).trans HFU.out
          have BK8 : Aside0 (w8.heap[w.heap.size + 1]? = some (.cells #[.string V.nm, .int .i64 V.pa, .int .i64 V.rt, .slice Ar2 rg.length cr2, .slice (some ⟨q, 0, none⟩) bl.length cb2] 32 (0, 0))) := ⟨blk_below HI.out.box hb⟩
          have g2 : w8.cell? ⟨q, j, none⟩ = some (.slice (some ⟨qi, 0, none⟩) row.length ci) := (hb.cell (block_lt_of_cell HCQ.out)).trans HCQ.out
          have g3 : w8.cell? ⟨(ad.add (a * 9)).block, (ad.add (a * 9)).off + 8, none⟩ = some (.slice A8 x.f8.length c8) := (hb.cell (block_lt_of_cell HX8.out)).trans HX8.out
          clear hb hR_ hS1
          refine hK.out _ _ ⟨(blk_cell BK8.out 4).trans rfl, g2, g3⟩ (fun hHeld => ?_)
          clear hK K
          refine norm_ (a' := ?_) ?_ ?_
          rotate_left
          · show Act.put _ (some 62) _ = _
            simp only [Act.put, List.setIfInBounds_toArray, List.set_cons_zero, List.set_cons_succ, i64_w, i32_w]
            rfl
          refine pure_ (i := 12) (N := some 63) (v := ?_) (a' := ?_) #[true, true, true, true, true, true, true, true, true, true, true, true, true, false, false] rfl rfl (by kernel_rfl) (fun _ _ _ h => h) (Or.inl ⟨by rfl, ?_⟩) ?_ ?_
          rotate_left
          · intro w'
            go_simp
            with_reducible rfl
          rotate_left
          · simp only [Act.put, List.setIfInBounds_toArray, List.set_cons_zero, List.set_cons_succ, i64_w, i32_w]
            rfl
          refine pure_ (i := 13) (N := some 64) (v := ?_) (a' := ?_) #[true, true, true, true, true, true, true, true, true, true, true, true, true, true, false] rfl rfl (by kernel_rfl) (fun _ _ _ h => h) (Or.inl ⟨by rfl, ?_⟩) ?_ ?_
          rotate_left
          · intro w'
            go_simp
            with_reducible rfl
          rotate_left
          · simp only [Act.put, List.setIfInBounds_toArray, List.set_cons_zero, List.set_cons_succ, i64_w, i32_w]
            rfl
          refine last_ (i := 14) (N := none) #[true, true, true, true, true, true, true, true, true, true, true, true, true, true, true] rfl rfl (by kernel_rfl) (by decide) (fun K hK => ?_)
          refine skip_ (w1 := ?_) (by rfl) rfl ?_ ?_
          rotate_left
          · go_simp
            rfl
          refine hK.out _ _ ?_
          clear hK K
          refine done_ (by kernel_rfl) ?_
          generalize w8.setCell ⟨qi, a * 9 + 8, none⟩ (.slice An2 x.f8.length cn2) = W9 at HI8 ⊢
          go_wp2
          go_roundw
          case rel => exact ⟨a + 1, by first | (rw [HWA.out]; done) | (rw [HWA.out]) | go_num, ⟨by have := HAT.out; omega⟩, ⟨HI8.out⟩⟩
          case measure => exact bd_meas _ _ _ (by first | exact HWA.out | omega) HAT.out
        have s1 : decide ((a : Int) < (row.length : Int)) = false := decide_eq_false (by omega)
        have s2 : decide (a < row.length) = false := decide_eq_false hat
        obtain rfl : a = row.length := by have := HA.out; omega
        have HI2 : Aside0 (FnI w wr (w.heap.size + 1) sR V (.slice Ar2 rg.length cr2) (.slice (some ⟨q, 0, none⟩) bl.length cb2) (blks bl (j + 1))) := ⟨blks_set bl j row HROW.out ▸ HI.out⟩
        clear HI
        go_wp2
        go_roundw
        case rel => exact ⟨j + 1, by first | (rw [HWR.out]; done) | (rw [HWR.out]) | go_num, ⟨by have := HLT.out; omega⟩, ⟨HI2.out⟩⟩
        case measure => exact bd_meas _ _ _ (by first | exact HWR.out | omega) HLT.out
    have t1 : decide ((j : Int) < (bl.length : Int)) = false := decide_eq_false (by omega)
    have t2 : decide (j < bl.length) = false := decide_eq_false hlt
    obtain rfl : j = bl.length := by have := HJ.out; omega
    have hS9 : Kd.S kB 35 wr (w.heap.size + 2) (fun k => sR ≤ k) (.slice (some ⟨q, 0, none⟩) bl.length cb2) bl := S_rows (S_all (blks_all bl ▸ HI.out.rows))
    have n0 := blk_cell HI.out.box 0
    have y0 := blk_cell HI.out.zero 0
    have x0 := blk_frozen HI.out.zero 0
    have n1 := blk_cell HI.out.box 1
    have y1 := blk_cell HI.out.zero 1
    have x1 := blk_frozen HI.out.zero 1
    have n2 := blk_cell HI.out.box 2
    have y2 := blk_cell HI.out.zero 2
    have x2 := blk_frozen HI.out.zero 2
    have n3 := blk_cell HI.out.box 3
    have y3 := blk_cell HI.out.zero 3
    have x3 := blk_frozen HI.out.zero 3
    have n4 := blk_cell HI.out.box 4
    have y4 := blk_cell HI.out.zero 4
    have x4 := blk_frozen HI.out.zero 4
    simp only [List.getElem?_toArray, List.getElem?_cons_zero, List.getElem?_cons_succ] at n0 y0 n1 y1 n2 y2 n3 y3 n4 y4
    have HS9 := Aside0.mk hS9
    clear hS9
    go_wp2
    have hZ1 : (Kd.int .i64).R 3 wr (w.heap.size + 2) (fun k => k < sR ∧ w.heap.size + 2 ≤ k) (.slice Ar2 rg.length cr2) rg := Kd.R_mono (Kd.R_bound (ERG.out ▸ HI.out.regs)) (fun k hk => And.intro hk.1 hk.2.1)
    have hZ2 := Kd.R_far (Kd.R_far (Kd.R_far (Kd.R_far (Kd.R_far (hZ1) (p := ⟨w.heap.size, 0, none⟩) (fun k hk => by have := hk.2; show k ≠ w.heap.size; omega) (.string V.nm)) (p := ⟨w.heap.size, 1, none⟩) (fun k hk => by have := hk.2; show k ≠ w.heap.size; omega) (.int .i64 V.pa)) (p := ⟨w.heap.size, 2, none⟩) (fun k hk => by have := hk.2; show k ≠ w.heap.size; omega) (.int .i64 V.rt)) (p := ⟨w.heap.size, 3, none⟩) (fun k hk => by have := hk.2; show k ≠ w.heap.size; omega) (.slice Ar2 rg.length cr2)) (p := ⟨w.heap.size, 4, none⟩) (fun k hk => by have := hk.2; show k ≠ w.heap.size; omega) (.slice (some ⟨q, 0, none⟩) bl.length cb2)
    refine bodyPost_ret (results_ct rfl _ _ w.heap.size 32 #[.string V.nm, .int .i64 V.pa, .int .i64 V.rt, .slice Ar2 rg.length cr2, .slice (some ⟨q, 0, none⟩) bl.length cb2] (0, 0) _ rfl ?hg hu rfl (by kernel_rfl)) rfl ?_
    case hg => have h_ := blk_set (blk_set (blk_set (blk_set (blk_set (HI.out.zero) 0 (.string V.nm)) 1 (.int .i64 V.pa)) 2 (.int .i64 V.rt)) 3 (.slice Ar2 rg.length cr2)) 4 (.slice (some ⟨q, 0, none⟩) bl.length cb2); simpa using h_
    exact ⟨_, _, sR, rfl, Kd.R_lower (Kd.R_mono hZ2 (fun k hk => hk.1)) (by omega), Kd.S_lower (Kd.S_far (Kd.S_far (Kd.S_far (Kd.S_far (Kd.S_far (HS9.out) (p := ⟨w.heap.size, 0, none⟩) (fun k hk => by have := HI.out.num; show k ≠ w.heap.size; omega) (.string V.nm)) (p := ⟨w.heap.size, 1, none⟩) (fun k hk => by have := HI.out.num; show k ≠ w.heap.size; omega) (.int .i64 V.pa)) (p := ⟨w.heap.size, 2, none⟩) (fun k hk => by have := HI.out.num; show k ≠ w.heap.size; omega) (.int .i64 V.rt)) (p := ⟨w.heap.size, 3, none⟩) (fun k hk => by have := HI.out.num; show k ≠ w.heap.size; omega) (.slice Ar2 rg.length cr2)) (p := ⟨w.heap.size, 4, none⟩) (fun k hk => by have := HI.out.num; show k ≠ w.heap.size; omega) (.slice (some ⟨q, 0, none⟩) bl.length cb2)) (by omega), below_set (below_set (below_set (below_set (below_set (HI.out.bel) (Nat.le_refl _)) (Nat.le_refl _)) (Nat.le_refl _)) (Nat.le_refl _)) (Nat.le_refl _)⟩
end Go.Proofs.Ytomopjomapkmjaa.B

/- A text of this claim, what is not used left out. -/
import Derived.Test.YtomopjomapkmjaaBaBBdF
set_option linter.unusedVariables false
set_option linter.unusedSimpArgs false
namespace Go.Proofs.Ytomopjomapkmjaa.B
open Go Go.RowKit Go.Proofs.YtomopjomapkmjaaW.PrintWords Go.Proofs.YtomopjomapkmjaaW.PrintLast Go.Proofs.YtomopjomapkmjaaW.PrintMore Go.Proofs.Ytomopjomapkmjaa.Pure
section
variable {base g : Nat} {ok : Nat → Prop} {w w0 w1 w2 W : World} {V V1 V2 : BV} {nm : ByteArray} {pa rt at_ : Int} {vr vb vs : Value} {rg st : List Int} {bl : List (List S29)} {f : Nat → Nat}
theorem Turned.then_ (h : Turned base ok w w1 g V1) (k : ∀ ok', BAt base ok' w1 g V1 → Turned base ok' w1 w2 g V2) : Turned base ok w w2 g V2 := by
  obtain ⟨h1, ok1, h2, h3⟩ := h
  obtain ⟨k1, ok2, k2, k3⟩ := k ok1 h3
  refine ⟨h1.then_ k1 (fun k hk => ?_), ok2, fun k hk => ?_, k3⟩
  · rcases hk with rfl | hk
    · exact .inl (.inl rfl)
    · rcases h2 k hk with h | h
      · exact .inl (.inr h)
      · exact .inr h
  · rcases k2 k hk with h | h
    · exact h2 k h
    · have := h1.1; exact .inr (by omega)
theorem bt_st (h : BAt base ok w g V) {s n c : Nat} (h5 : w.cell? ⟨g, 5, none⟩ = some (.slice (some ⟨s, 0, none⟩) n c)) (j : Nat) (x : Int) :
    Turned base ok w (w.setCell ⟨s, j, none⟩ (.int .i64 x)) g ⟨V.nm, V.pa, V.rt, V.rg, V.bl, V.st.set j x, V.at_⟩ := by
  obtain ⟨h1, h2, h3, f, vr, vb, vs, hb, hr, hB, ht⟩ := h
  have c5 := blk_cell hb 5
  simp only [List.getElem?_toArray, List.getElem?_cons_zero, List.getElem?_cons_succ] at c5
  obtain rfl : vs = .slice (some ⟨s, 0, none⟩) n c := Option.some.inj (c5.symm.trans h5)
  have hs : ok s ∧ f s = 2 := ht.1 s rfl
  have hgs : g ≠ s := fun e => h2 (e ▸ hs.1)
  have hp := (Kd.R_putg ht (j : Int) x).1
  rw [Int.toNat_natCast] at hp
  refine ⟨(Kept.refl w _).setCell (p := ⟨s, j, none⟩) (.inl (.inr hs.1)) _, ok, fun k hk => .inl hk, h1, h2, fun k hk => ⟨(h3 k hk).1, by simpa using (h3 k hk).2⟩, f, vr, vb, .slice (some ⟨s, 0, none⟩) n c, ?_, ?_, ?_, hp⟩
  · exact blk_far hb (p := ⟨s, j, none⟩) hgs _
  · exact Kd.R_far hr (p := ⟨s, j, none⟩) (fun k hk e => by have h_ := hk.2; rw [show k = s from e, hs.2] at h_; omega) _
  · exact Kd.S_far hB (p := ⟨s, j, none⟩) (fun k hk e => by have h_ := hk.2; rw [show k = s from e, hs.2] at h_; omega) _
theorem bt_lend {q n cb : Nat} (h3 : ∀ k, ok k → base ≤ k ∧ k < w.heap.size) (hB : Kd.S kB 35 w base (fun k => ok k ∧ f k = 1) (.slice (some ⟨q, 0, none⟩) n cb) bl) (j : Nat) (hj : j < n) :
    ∃ (oki : Nat → Prop) (Ai : Option Addr) (ci : Nat), w.cell? ⟨q, j, none⟩ = some (.slice Ai (bl.getD j []).length ci) ∧ w.frozen? ⟨q, j, none⟩ = false ∧ (∀ k, oki k → (ok k ∧ f k = 1) ∧ k ≠ q) ∧
      k29.R 29 w base oki (.slice Ai (bl.getD j []).length ci) (bl.getD j []) ∧
      ∀ {W w1 : World} {x : S29} {v1 : Value}, Below w.heap.size w W → W.grownBy w1 (Value.slice Ai (bl.getD j []).length ci).ownBlock → k29.R 29 w1 base (fun k => oki k ∨ w.heap.size ≤ k) v1 (bl.getD j [] ++ [x]) →
        Kd.S kB 35 (w1.setCell ⟨q, j, none⟩ v1) base (fun k => (ok k ∧ f k = 1) ∨ w.heap.size ≤ k) (.slice (some ⟨q, 0, none⟩) n cb) (bl.set j (bl.getD j [] ++ [x])) := by
  have hB' : Kd.S kB 35 w base (fun k => (ok k ∧ f k = 1) ∨ w.heap.size ≤ k) (.slice (some ⟨q, 0, none⟩) n cb) bl := Kd.S_mono hB (fun _ hk => .inl hk)
  obtain ⟨oki, c, hcl, hM, hcc, hfr, hoki, hH⟩ := Kd.S_elem hB' [] (j : Int) (by omega) (by omega)
  rw [Int.toNat_natCast] at hM hcc hfr
  obtain ⟨ve, rfl, hRe⟩ := hM
  obtain ⟨Ai, ci, rfl⟩ := Kd.R_slice hRe
  have hRe' : k29.R 29 w base oki (.slice Ai (bl.getD j []).length ci) (bl.getD j []) := hRe
  have hc0 := hcc 0 _ rfl
  have hf0 := hfr 0
  have hsz : kB.sz = 1 := rfl
  rw [hsz] at hc0 hf0
  simp only [Nat.mul_one, Nat.add_zero] at hc0 hf0
  have hlt : ∀ k, oki k → k < w.heap.size → (ok k ∧ f k = 1) ∧ k ≠ q := fun k hk hl => by
    obtain ⟨h, h'⟩ := hoki k hk
    rcases h with h | h
    · exact ⟨h, h'⟩
    · omega
  refine ⟨fun k => oki k ∧ k < w.heap.size, Ai, ci, hc0, hf0, fun k hk => hlt k hk.1 hk.2, Kd.R_mono (Kd.R_bound hRe') (fun k hk => ⟨hk.1, hk.2.2.1⟩), ?_⟩
  intro W w1 x v1 hW hg ho
  have hH4 := Kd.H_grown (Kd.H_below (Kd.H_widen hH) hW) hg (fun k e => .inl (hRe'.1 k e))
  have hS := (Kd.S_seg0 hH4 (by omega) (by omega) (seg := [v1]) (j := 0) (x' := bl.getD j [] ++ [x]) (show 1 ≤ 1 from by decide) (Kd.M_row ho) (fun k hk => ?_)).1
  · rw [hsz] at hS
    simp only [Nat.mul_one, Nat.add_zero, Int.toNat_natCast] at hS
    exact hS
  · rcases hk with hk | hk
    · exact .inl hk.1
    · exact .inr ⟨.inr hk, hk⟩
theorem bt_put (h1 : base ≤ g) (h2 : ¬ ok g) (h3 : ∀ k, ok k → base ≤ k ∧ k < w.heap.size) {q n cb : Nat}
    (hb : w.heap[g]? = some (.cells #[.string nm, .int .i64 pa, .int .i64 rt, vr, .slice (some ⟨q, 0, none⟩) n cb, vs, .int .i64 at_] 64 (0, 0)))
    (hr : (Kd.int .i64).R 3 w base (fun k => ok k ∧ f k = 0) vr rg) (hB : Kd.S kB 35 w base (fun k => ok k ∧ f k = 1) (.slice (some ⟨q, 0, none⟩) n cb) bl) (ht : (Kd.int .i64).R 3 w base (fun k => ok k ∧ f k = 2) vs st)
    {oki : Nat → Prop} {v v1 : Value} {j : Nat} {b1 : List (List S29)} (hoki : ∀ k, oki k → (ok k ∧ f k = 1) ∧ k ≠ q) (hv : ∀ k, v.ownBlock = some k → oki k) (hW : Below w.heap.size w W) (hg : W.grownBy w1 v.ownBlock) (hs : W.heap.size ≤ w1.heap.size)
    (hS : Kd.S kB 35 (w1.setCell ⟨q, j, none⟩ v1) base (fun k => (ok k ∧ f k = 1) ∨ w.heap.size ≤ k) (.slice (some ⟨q, 0, none⟩) n cb) b1) :
    Turned base ok w (w1.setCell ⟨q, j, none⟩ v1) g ⟨nm, pa, rt, rg, b1, st, at_⟩ := by
  have hl := blk_lt hb
  have hq : ok q ∧ f q = 1 := (Kd.S_R hB).1 q rfl
  have hgq : g ≠ q := fun e => h2 (e ▸ hq.1)
  have hne : some g ≠ v.ownBlock := fun e => h2 (hoki g (hv g e.symm)).1.1
  have hsz := hW.size
  have hst : ∀ k, k < w.heap.size → (ok k → f k = 1 → False) → w1.heap[k]? = w.heap[k]? := fun k hk hn =>
    (hg.block k (by omega) (fun e => hn (hoki k (hv k e.symm)).1.1 (hoki k (hv k e.symm)).1.2)).trans (hW.block k hk)
  have k1 : Kept w w1 (fun k => k = g ∨ ok k) := (Kept.of_below hW _).then_ (grown_kept (S := fun k => v.ownBlock = some k) hg hs (fun k e => e)) (fun k e => .inl (.inr (hoki k (hv k e)).1.1))
  refine ⟨k1.setCell (p := ⟨q, j, none⟩) (.inl (.inr hq.1)) v1, fun k => (ok k ∨ w.heap.size ≤ k) ∧ k < w1.heap.size, fun k hk => hk.1, h1, ?_, ?_, fun k => if k < w.heap.size then f k else 1, vr, .slice (some ⟨q, 0, none⟩) n cb, vs, ?_, ?_, ?_, ?_⟩
  · rintro ⟨h | h, _⟩
    · exact h2 h
    · omega
  · rintro k ⟨h | h, h'⟩
    · exact ⟨(h3 k h).1, by simpa using h'⟩
    · exact ⟨by omega, by simpa using h'⟩
  · exact blk_far (blk_grown (blk_below hb hW) hg hne) (p := ⟨q, j, none⟩) hgq _
  · have h5 := Kd.R_far (Kd.R_step hr (w1 := w1) (fun k hk hlt => hst k hlt (fun _ e => by have := hk.2; omega))) (p := ⟨q, j, none⟩) (fun k hk e => by have h_ := hk.2; rw [show k = q from e, hq.2] at h_; omega) v1
    refine Kd.R_mono h5 (fun k hk => ?_)
    have := (h3 k hk.1).2
    exact ⟨⟨.inl hk.1, by omega⟩, (if_pos this).trans hk.2⟩
  · refine Kd.S_mono (Kd.S_bound hS) (fun k hk => ?_)
    have hlt : k < w1.heap.size := by simpa using hk.2.2.1
    rcases hk.1 with h | h
    · have := (h3 k h.1).2
      exact ⟨⟨.inl h.1, by omega⟩, (if_pos this).trans h.2⟩
    · exact ⟨⟨.inr h, hlt⟩, if_neg (by omega)⟩
  · have h5 := Kd.R_far (Kd.R_step ht (w1 := w1) (fun k hk hlt => hst k hlt (fun _ e => by have := hk.2; omega))) (p := ⟨q, j, none⟩) (fun k hk e => by have h_ := hk.2; rw [show k = q from e, hq.2] at h_; omega) v1
    refine Kd.R_mono h5 (fun k hk => ?_)
    have := (h3 k hk.1).2
    exact ⟨⟨.inl hk.1, by omega⟩, (if_pos this).trans hk.2⟩
end
end Go.Proofs.Ytomopjomapkmjaa.B

/- A text of this claim, what is not used left out. -/
import Derived.Test.YtomopjomapkmjaaBaBBdJ
set_option linter.unusedVariables false
set_option linter.unusedSimpArgs false
namespace Go.Proofs.Ytomopjomapkmjaa.B
open Go Go.RowKit Go.Proofs.YtomopjomapkmjaaW.PrintWords Go.Proofs.YtomopjomapkmjaaW.PrintLast Go.Proofs.YtomopjomapkmjaaW.PrintMore Go.Proofs.Ytomopjomapkmjaa.Pure
def flagg {α : Type} (d : Kd α) (Q : α → List Value → Prop) (hQ : ∀ x cs, Q x cs → cs.length = d.sz ∧ ∀ u ∈ cs, u.oneCell' = true) : Kd (α × Bool) where
  sz := d.sz
  E := d.E
  K := fun w x cs => (x.2 = true ∧ d.K w x.1 cs) ∨ (x.2 = false ∧ Q x.1 cs)
  M := fun w base ok x cs => (x.2 = true ∧ d.M w base ok x.1 cs) ∨ (x.2 = false ∧ Q x.1 cs)
  K_len := fun h => h.elim (fun h => d.K_len h.2) (fun h => (hQ _ _ h.2).1)
  K_one := fun h => h.elim (fun h => d.K_one h.2) (fun h => (hQ _ _ h.2).2)
  K_below := fun hb h => h.imp (fun h => ⟨h.1, d.K_below hb h.2⟩) (fun h => h)
  K_of_M := fun h => h.imp (fun h => ⟨h.1, d.K_of_M h.2⟩) (fun h => h)
  M_mono := fun hok h => h.imp (fun h => ⟨h.1, d.M_mono hok h.2⟩) (fun h => h)
  M_bound := fun h => h.imp (fun h => ⟨h.1, d.M_bound h.2⟩) (fun h => h)
  M_move := fun hm h => h.imp (fun h => ⟨h.1, d.M_move hm h.2⟩) (fun h => h)
  M_lower := fun hb h => h.imp (fun h => ⟨h.1, d.M_lower hb h.2⟩) (fun h => h)
section
variable {α : Type} {d : Kd α} {Q : α → List Value → Prop} {hQ : ∀ x cs, Q x cs → cs.length = d.sz ∧ ∀ u ∈ cs, u.oneCell' = true} {e base : Nat} {ok : Nat → Prop} {w W : World} {v : Value} {xs : List α}
theorem flagg_own {x : α} {cs : List Value} (h : d.M w base ok x cs) : (flagg d Q hQ).M w base ok (x, true) cs := .inl ⟨rfl, h⟩
theorem flagg_told {x : α} {cs : List Value} (h : Q x cs) : (flagg d Q hQ).M w base ok (x, false) cs := .inr ⟨rfl, h⟩
theorem flagg_owned {x : α} {cs : List Value} (h : (flagg d Q hQ).M w base ok (x, true) cs) : d.M w base ok x cs := h.elim (fun h => h.2) (fun h => absurd h.1 (by simp))
theorem flagg_was {x : α} {cs : List Value} (h : (flagg d Q hQ).M w base ok (x, false) cs) : Q x cs := h.elim (fun h => absurd h.1 (by simp)) (fun h => h.2)
theorem R_all (h : (flagg d Q hQ).R e w base ok v (xs.map fun x => (x, true))) : d.R e w base ok v xs := by
  obtain ⟨h0, inner, ho, hr⟩ := h
  rw [List.length_map] at ho
  refine ⟨h0, inner, ho, ?_, fun j p hj => ?_⟩
  · have := hr.1
    rw [List.length_map] at this
    exact this
  · exact flagg_owned (hr.2 j (p, true) (by rw [List.getElem?_map, hj]; rfl))
theorem S_all (h : Kd.S (flagg d Q hQ) e w base ok v (xs.map fun x => (x, true))) : Kd.S d e w base ok v xs := by
  obtain ⟨f, h0, inner, ho, hr⟩ := h
  rw [List.length_zipIdx, List.length_map] at ho
  refine ⟨f, h0, inner, ?_, ?_, fun j p hj => ?_⟩
  · rw [List.length_zipIdx]; exact ho
  · have := hr.1
    rw [List.length_zipIdx, List.length_map] at this
    rw [List.length_zipIdx]
    exact this
  · rw [List.getElem?_zipIdx] at hj
    obtain ⟨y, hy, rfl⟩ := Option.map_eq_some_iff.1 hj
    exact show d.M w base (fun k => (ok k ∧ some k ≠ v.ownBlock) ∧ f k = 0 + j) y _ from flagg_owned (hQ := hQ) (hr.2 j ((y, true), 0 + j) (by rw [List.getElem?_zipIdx, List.getElem?_map, hy]; rfl))
theorem R_told {d0 : Kd α} (hs : d0.sz = d.sz) (hM : ∀ {W : World} {ok' : Nat → Prop} {x : α} {cs : List Value}, d0.M W base ok' x cs → Q x cs) (h : d0.R e w base ok v xs) : (flagg d Q hQ).R e w base ok v (xs.map fun x => (x, false)) := by
  obtain ⟨h0, inner, ho, hr⟩ := h
  have hs' : (flagg d Q hQ).sz = d0.sz := hs.symm
  refine ⟨h0, inner, ?_, ?_, fun j p hj => ?_⟩
  · rw [List.length_map, hs']; exact ho
  · rw [List.length_map, hs']; exact hr.1
  · rw [List.getElem?_map] at hj
    obtain ⟨y, hy, rfl⟩ := Option.map_eq_some_iff.1 hj
    rw [hs']
    exact flagg_told (hM (hr.2 j y hy))
theorem reads_told {A : Option Addr} {n : Nat} (h : d.C w A n xs) (hb : Below w.heap.size w W) : ReadsRow (d.K w) d.sz W A n xs := by
  obtain ⟨hl, hm, hn⟩ := h
  refine ⟨hl, hm, fun hp => ?_⟩
  obtain ⟨ad, rfl, hc⟩ := hn hp
  refine ⟨ad, rfl, fun j p hj => ?_⟩
  obtain ⟨c, hcl, hK, hcc⟩ := hc j p hj
  exact ⟨c, hcl, hK, fun i u hu => (hb.cell (block_lt_of_cell (hcc i u hu))).trans (hcc i u hu)⟩
end
def kJ (w0 : World) : Kd (S29 × Bool) := flagg k29 (fun x cs => k29.K w0 x cs) (fun _ _ h => ⟨k29.K_len h, k29.K_one h⟩)
def kO (w0 : World) : Kd (List (S29 × Bool) × Bool) := flagg (Kd.slice 29 (kJ w0)) (fun l cs => kB.K w0 (l.map (·.1)) cs) (fun _ _ h => ⟨kB.K_len h, kB.K_one h⟩)
section
variable {base q n cb : Nat} {okF : Nat → Prop} {w0 W : World} {L : List (List (S29 × Bool) × Bool)}
theorem fn_row (hS : Kd.S (kO w0) 35 W base okF (.slice (some ⟨q, 0, none⟩) n cb) L) (j : Nat) (hj : j < n) {W1 : World} {v1 : Value} {l' : List (S29 × Bool)} (hW : Below W.heap.size W W1) (ho : (kJ w0).R 29 W1 base (fun k => W.heap.size ≤ k) v1 l') :
    Kd.S (kO w0) 35 (W1.setCell ⟨q, j, none⟩ v1) base (fun k => okF k ∨ W.heap.size ≤ k) (.slice (some ⟨q, 0, none⟩) n cb) (L.set j (l', true)) := by
  have hS' : Kd.S (kO w0) 35 W base (fun k => okF k ∨ W.heap.size ≤ k) (.slice (some ⟨q, 0, none⟩) n cb) L := Kd.S_mono hS (fun _ hk => .inl hk)
  obtain ⟨oki, c, hcl, hM, hcc, hfr, hoki, hH⟩ := Kd.S_elem hS' ([], false) (j : Int) (by omega) (by omega)
  have h1 : c.length = 1 := hcl
  obtain ⟨u, rfl⟩ : ∃ u, c = [u] := by
    cases c with
    | nil => simp at h1
    | cons u t =>
      cases t with
      | nil => exact ⟨u, rfl⟩
      | cons _ _ => simp at h1
  have hH4 := Kd.H_below (Kd.H_widen hH) hW
  have hsz : (kO w0).sz = 1 := rfl
  have hS2 := (Kd.S_seg0 hH4 (by omega) (by omega) (seg := [v1]) (j := 0) (x' := (l', true)) (show 1 ≤ 1 from by decide) (flagg_own (Kd.M_row ho)) (fun k hk => .inr ⟨.inr hk, hk⟩)).1
  rw [hsz] at hS2
  simp only [Nat.mul_one, Nat.add_zero, Int.toNat_natCast] at hS2
  exact hS2
theorem fn_cells (hS : Kd.S (kO w0) 35 W base okF (.slice (some ⟨q, 0, none⟩) n cb) L) (j : Nat) (hj : j < n) : (∃ u, W.cell? ⟨q, j, none⟩ = some u) ∧ W.frozen? ⟨q, j, none⟩ = false := by
  obtain ⟨oki, c, hcl, hM, hcc, hfr, hoki, hH⟩ := Kd.S_elem hS ([], false) (j : Int) (by omega) (by omega)
  have h1 : c.length = 1 := hcl
  have hc0 := hcc 0 _ (List.getElem?_eq_getElem (by omega))
  have hf0 := hfr 0
  have hsz : (kO w0).sz = 1 := rfl
  rw [hsz] at hc0 hf0
  simp only [Nat.mul_one, Nat.add_zero, Int.toNat_natCast] at hc0 hf0
  exact ⟨⟨_, hc0⟩, hf0⟩
theorem getD_at {α : Type} {l : List α} {i : Nat} {x z : α} (h : l[i]? = some x) : l.getD i z = x := by rw [List.getD_eq_getElem?_getD, h]; rfl
theorem fn_told (hS : Kd.S (kO w0) 35 W base okF (.slice (some ⟨q, 0, none⟩) n cb) L) (j : Nat) (hj : j < n) {l : List (S29 × Bool)} (hl : L[j]? = some (l, false)) :
    ∃ Ak ck, W.cell? ⟨q, j, none⟩ = some (.slice Ak l.length ck) ∧ l.length ≤ ck ∧ k29.C w0 Ak l.length (l.map (·.1)) := by
  obtain ⟨oki, c, hcl, hM, hcc, hfr, hoki, hH⟩ := Kd.S_elem hS ([], false) (j : Int) (by omega) (by omega)
  rw [Int.toNat_natCast, getD_at hl] at hM
  obtain ⟨A, cc, hc, hlc, hC⟩ := flagg_was hM
  subst hc
  have hc0 := hcc 0 _ rfl
  have hsz : (kO w0).sz = 1 := rfl
  rw [hsz] at hc0
  simp only [Nat.mul_one, Nat.add_zero, Int.toNat_natCast] at hc0
  rw [List.length_map] at hc0 hlc hC
  exact ⟨A, cc, hc0, hlc, hC⟩
theorem fn_args (hS : Kd.S (kO w0) 35 W base okF (.slice (some ⟨q, 0, none⟩) n cb) L) (j : Nat) (hj : j < n) {l : List (S29 × Bool)} (hl : L[j]? = some (l, true)) (a : Nat) {x : S29} (ha : l[a]? = some (x, false)) :
    ∃ qi ci, W.cell? ⟨q, j, none⟩ = some (.slice (some ⟨qi, 0, none⟩) l.length ci) ∧ okF qi ∧ qi ≠ q ∧ base ≤ qi ∧ (∃ u, W.cell? ⟨qi, a * 9 + 8, none⟩ = some u) ∧ W.frozen? ⟨qi, a * 9 + 8, none⟩ = false ∧
      ∀ {W1 : World} {va : Value}, Below W.heap.size W W1 → (Kd.int .i64).R 3 W1 base (fun k => W.heap.size ≤ k) va x.f8 →
        Kd.S (kO w0) 35 (W1.setCell ⟨qi, a * 9 + 8, none⟩ va) base (fun k => okF k ∨ W.heap.size ≤ k) (.slice (some ⟨q, 0, none⟩) n cb) (L.set j (l.set a (x, true), true)) := by
  have hal : a < l.length := (List.getElem?_eq_some_iff.1 ha).1
  have hS' : Kd.S (kO w0) 35 W base (fun k => okF k ∨ W.heap.size ≤ k) (.slice (some ⟨q, 0, none⟩) n cb) L := Kd.S_mono hS (fun _ hk => .inl hk)
  obtain ⟨oki, c, hcl, hM, hcc, hfr, hoki, hH⟩ := Kd.S_elem hS' ([], false) (j : Int) (by omega) (by omega)
  rw [Int.toNat_natCast, getD_at hl] at hM
  obtain ⟨vi, hc, hRi⟩ := flagg_owned hM
  subst hc
  have hRi' : (kJ w0).R 29 W base oki vi l := hRi
  obtain ⟨qi, ci, rfl, hqb, hql, _⟩ := Kd.R_form hRi' (by omega)
  have hc0 := hcc 0 _ rfl
  have hsz : (kO w0).sz = 1 := rfl
  rw [hsz] at hc0
  simp only [Nat.mul_one, Nat.add_zero, Int.toNat_natCast] at hc0
  obtain ⟨c, hcl2, hM2, hcc2, hfr2⟩ := Kd.R_elem hRi' (x, false) (a : Int) (by omega) (by omega)
  have hsz9 : (kJ w0).sz = 9 := rfl
  rw [Int.toNat_natCast, getD_at ha] at hM2
  rw [hsz9, Int.toNat_natCast] at hcc2 hfr2
  rw [hsz9] at hcl2
  obtain ⟨A8, c8, hc8, _, _⟩ := k29_open (flagg_was hM2)
  have hoq := hoki qi (hRi'.1 qi rfl)
  have hq1 : okF qi := by
    rcases hoq.1 with h | h
    · exact h
    · omega
  refine ⟨qi, ci, hc0, hq1, hoq.2, hqb, ⟨_, hcc2 8 _ (List.getElem?_eq_getElem (by omega))⟩, hfr2 8, ?_⟩
  intro W1 va hW ho
  have hR1 : (kJ w0).R 29 W1 base (fun k => oki k ∨ (okF k ∨ W.heap.size ≤ k) ∧ W.heap.size ≤ k) (.slice (some ⟨qi, 0, none⟩) l.length ci) l := Kd.R_below (Kd.R_mono hRi' (fun _ hk => .inl hk)) hW
  have hcc3 : ∀ i u, c[i]? = some u → W1.cell? ⟨qi, (a : Int).toNat * (kJ w0).sz + i, none⟩ = some u := fun i u hu => (hW.cell (block_lt_of_cell (hcc2 i u hu))).trans (hcc2 i u hu)
  have hM3 : (kJ w0).M W1 base (fun k => W.heap.size ≤ k) (x, true) (c.take 8 ++ [va] ++ c.drop (8 + [va].length)) := by
    subst hc8
    exact flagg_own (k29_mkM _ base _ x ho)
  obtain ⟨hR2, hg⟩ := Kd.R_seg hR1 (a : Int) (by omega) (by omega) (c := c) (seg := [va]) (j := 8) (x' := (x, true)) (by rw [hsz9]; exact hcl2) hcc3 (show 8 + 1 ≤ 9 from by decide) hM3 (fun k hk => ⟨.inr ⟨.inr hk, hk⟩, fun e => by omega⟩)
  rw [hsz9] at hR2 hg
  simp only [Int.toNat_natCast] at hR2 hg
  have hR2' : (kJ w0).R 29 (W1.setCell ⟨qi, a * 9 + 8, none⟩ va) base (fun k => oki k ∨ (okF k ∨ W.heap.size ≤ k) ∧ W.heap.size ≤ k) (.slice (some ⟨qi, 0, none⟩) l.length ci) (l.set a (x, true)) := hR2
  have hg' : W1.grownBy (W1.setCell ⟨qi, a * 9 + 8, none⟩ va) (some qi) := hg
  have hH2 := Kd.H_grown (Kd.H_below (Kd.H_widen hH) hW) hg' (fun k e => by injection e with e; subst e; exact .inl (hRi'.1 _ rfl))
  have hS2 := Kd.H_back hH2 (x' := (l.set a (x, true), true)) (okp := fun k => oki k ∨ (okF k ∨ W.heap.size ≤ k) ∧ W.heap.size ≤ k) (flagg_own ⟨_, rfl, hR2'⟩) (fun _ hk => hk)
  rw [Int.toNat_natCast] at hS2
  exact hS2
end
end Go.Proofs.Ytomopjomapkmjaa.B

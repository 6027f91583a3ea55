/- A part of it. -/
import Derived.Test.YtomopjomapkmjaaBpBM1
import Derived.Test.YtomopjomapkmjaaBpZ
import Derived.Test.YtomopjomapkmjaaBpBInstrB
import Derived.Test.YtomopjomapkmjaaBpB1
import Derived.Test.YtomopjomapkmjaaBpB3
import Derived.Test.YtomopjomapkmjaaBpB5
import Derived.Test.YtomopjomapkmjaaBpB8
import Derived.Outline
set_option linter.unusedVariables false
set_option linter.unusedSimpArgs false
namespace Go.Proofs.Ytomopjomapkmjaa.B
open Go Go.RowKit Go.Proofs.YtomopjomapkmjaaW.PrintWords Go.Proofs.YtomopjomapkmjaaW.PrintLast Go.Proofs.YtomopjomapkmjaaW.PrintMore Go.Proofs.Ytomopjomapkmjaa.Pure
section
variable {base g : Nat} {ok : Nat → Prop} {w w0 w1 w2 W : World} {V V1 V2 : BV} {nm : ByteArray} {pa rt at_ : Int} {vr vb vs : Value} {rg st : List Int} {bl : List (List S29)} {f : Nat → Nat}
theorem Turned.then_ (h : Turned base ok w w1 g V1) (k : ∀ ok', BAt base ok' w1 g V1 → Turned base ok' w1 w2 g V2) : Turned base ok w w2 g V2 := by
 obtain ⟨h1, ok1, h2, h3⟩ := h
 obtain ⟨k1, ok2, k2, k3⟩ := k ok1 h3
 refine ⟨h1.then_ k1 (fun k hk => ?_), ok2, fun k hk => ?_, k3⟩
 ·rcases hk with rfl | hk
  ·exact .inl (.inl rfl)
  ·rcases h2 k hk with h | h
   ·exact .inl (.inr h)
   ·exact .inr h
 ·rcases k2 k hk with h | h
  ·exact h2 k h
  ·have := h1.1; exact .inr (by omega)
theorem bt_st (h : BAt base ok w g V) {s n c : Nat} (h5 : w.cell? ⟨g, 5, none⟩ = some (.slice (some ⟨s, 0, none⟩) n c)) (j : Nat) (x : Int) :
  Turned base ok w (w.setCell ⟨s, j, none⟩ (.int .i64 x)) g ⟨V.nm, V.pa, V.rt, V.rg, V.bl, V.st.set j x, V.at_⟩ := by
 obtain ⟨h1, h2, h3, f, vr, vb, vs, hb, hr, hB, ht⟩ := h
 have c5 := blk_cell hb 5
 simp only [List.getElem?_toArray, List.getElem?_cons_zero, List.getElem?_cons_succ] at c5
 obtain rfl : vs = .slice (some ⟨s, 0, none⟩) n c := Option.some.inj (c5.symm.trans h5)
 have hs : ok s ∧ f s = 2 := ht.1 s rfl
 have hgs : g ≠ s := fun e => h2 (e ▸ hs.1)
 have hp := (Kd.R_putg ht (j : Int) x).1
 rw [Int.toNat_natCast] at hp
 refine ⟨(Kept.refl w _).setCell (p := ⟨s, j, none⟩) (.inl (.inr hs.1)) _, ok, fun k hk => .inl hk, h1, h2, fun k hk => ⟨(h3 k hk).1, by simpa using (h3 k hk).2⟩, f, vr, vb, .slice (some ⟨s, 0, none⟩) n c, ?_, ?_, ?_, hp⟩
 ·exact blk_far hb (p := ⟨s, j, none⟩) hgs _
 ·exact Kd.R_far hr (p := ⟨s, j, none⟩) (fun k hk e => by have h_ := hk.2; rw [show k = s from e, hs.2] at h_; omega) _
 ·exact Kd.S_far hB (p := ⟨s, j, none⟩) (fun k hk e => by have h_ := hk.2; rw [show k = s from e, hs.2] at h_; omega) _
theorem bt_lend {q n cb : Nat} (h3 : ∀ k, ok k → base ≤ k ∧ k < w.heap.size) (hB : Kd.S kB 35 w base (fun k => ok k ∧ f k = 1) (.slice (some ⟨q, 0, none⟩) n cb) bl) (j : Nat) (hj : j < n) :
  ∃ (oki : Nat → Prop) (Ai : Option Addr) (ci : Nat), w.cell? ⟨q, j, none⟩ = some (.slice Ai (bl.getD j []).length ci) ∧ w.frozen? ⟨q, j, none⟩ = false ∧ (∀ k, oki k → (ok k ∧ f k = 1) ∧ k ≠ q) ∧
   k29.R 29 w base oki (.slice Ai (bl.getD j []).length ci) (bl.getD j []) ∧
   ∀ {W w1 : World} {x : S29} {v1 : Value}, Below w.heap.size w W → W.grownBy w1 (Value.slice Ai (bl.getD j []).length ci).ownBlock → k29.R 29 w1 base (fun k => oki k ∨ w.heap.size ≤ k) v1 (bl.getD j [] ++ [x]) →
    Kd.S kB 35 (w1.setCell ⟨q, j, none⟩ v1) base (fun k => (ok k ∧ f k = 1) ∨ w.heap.size ≤ k) (.slice (some ⟨q, 0, none⟩) n cb) (bl.set j (bl.getD j [] ++ [x])) := by
 have hB' : Kd.S kB 35 w base (fun k => (ok k ∧ f k = 1) ∨ w.heap.size ≤ k) (.slice (some ⟨q, 0, none⟩) n cb) bl := Kd.S_mono hB (fun _ hk => .inl hk)
 obtain ⟨oki, c, hcl, hM, hcc, hfr, hoki, hH⟩ := Kd.S_elem hB' [] (j : Int) (by omega) (by omega)
 rw [Int.toNat_natCast] at hM hcc hfr
 obtain ⟨ve, rfl, hRe⟩ := hM
 obtain ⟨Ai, ci, rfl⟩ := Kd.R_slice hRe
 have hRe' : k29.R 29 w base oki (.slice Ai (bl.getD j []).length ci) (bl.getD j []) := hRe
 have hc0 := hcc 0 _ rfl
 have hf0 := hfr 0
 have hsz : kB.sz = 1 := rfl
 rw [hsz] at hc0 hf0
 simp only [Nat.mul_one, Nat.add_zero] at hc0 hf0
 have hlt : ∀ k, oki k → k < w.heap.size → (ok k ∧ f k = 1) ∧ k ≠ q := fun k hk hl => by
  obtain ⟨h, h'⟩ := hoki k hk
  rcases h with h | h
  ·exact ⟨h, h'⟩
  ·omega
 refine ⟨fun k => oki k ∧ k < w.heap.size, Ai, ci, hc0, hf0, fun k hk => hlt k hk.1 hk.2, Kd.R_mono (Kd.R_bound hRe') (fun k hk => ⟨hk.1, hk.2.2.1⟩), ?_⟩
 intro W w1 x v1 hW hg ho
 have hH4 := Kd.H_grown (Kd.H_below (Kd.H_widen hH) hW) hg (fun k e => .inl (hRe'.1 k e))
 have hS := (Kd.S_seg0 hH4 (by omega) (by omega) (seg := [v1]) (j := 0) (x' := bl.getD j [] ++ [x]) (show 1 ≤ 1 from by decide) (Kd.M_row ho) (fun k hk => ?_)).1
 ·rw [hsz] at hS
  simp only [Nat.mul_one, Nat.add_zero, Int.toNat_natCast] at hS
  exact hS
 ·rcases hk with hk | hk
  ·exact .inl hk.1
  ·exact .inr ⟨.inr hk, hk⟩
theorem bt_put (h1 : base ≤ g) (h2 : ¬ ok g) (h3 : ∀ k, ok k → base ≤ k ∧ k < w.heap.size) {q n cb : Nat}
  (hb : w.heap[g]? = some (.cells #[.string nm, .int .i64 pa, .int .i64 rt, vr, .slice (some ⟨q, 0, none⟩) n cb, vs, .int .i64 at_] 64 (0, 0)))
  (hr : (Kd.int .i64).R 3 w base (fun k => ok k ∧ f k = 0) vr rg) (hB : Kd.S kB 35 w base (fun k => ok k ∧ f k = 1) (.slice (some ⟨q, 0, none⟩) n cb) bl) (ht : (Kd.int .i64).R 3 w base (fun k => ok k ∧ f k = 2) vs st)
  {oki : Nat → Prop} {v v1 : Value} {j : Nat} {b1 : List (List S29)} (hoki : ∀ k, oki k → (ok k ∧ f k = 1) ∧ k ≠ q) (hv : ∀ k, v.ownBlock = some k → oki k) (hW : Below w.heap.size w W) (hg : W.grownBy w1 v.ownBlock) (hs : W.heap.size ≤ w1.heap.size)
  (hS : Kd.S kB 35 (w1.setCell ⟨q, j, none⟩ v1) base (fun k => (ok k ∧ f k = 1) ∨ w.heap.size ≤ k) (.slice (some ⟨q, 0, none⟩) n cb) b1) :
  Turned base ok w (w1.setCell ⟨q, j, none⟩ v1) g ⟨nm, pa, rt, rg, b1, st, at_⟩ := by
 have hl := blk_lt hb
 have hq : ok q ∧ f q = 1 := (Kd.S_R hB).1 q rfl
 have hgq : g ≠ q := fun e => h2 (e ▸ hq.1)
 have hne : some g ≠ v.ownBlock := fun e => h2 (hoki g (hv g e.symm)).1.1
 have hsz := hW.size
 have hst : ∀ k, k < w.heap.size → (ok k → f k = 1 → False) → w1.heap[k]? = w.heap[k]? := fun k hk hn =>
  (hg.block k (by omega) (fun e => hn (hoki k (hv k e.symm)).1.1 (hoki k (hv k e.symm)).1.2)).trans (hW.block k hk)
 have k1 : Kept w w1 (fun k => k = g ∨ ok k) := (Kept.of_below hW _).then_ (grown_kept (S := fun k => v.ownBlock = some k) hg hs (fun k e => e)) (fun k e => .inl (.inr (hoki k (hv k e)).1.1))
 refine ⟨k1.setCell (p := ⟨q, j, none⟩) (.inl (.inr hq.1)) v1, fun k => (ok k ∨ w.heap.size ≤ k) ∧ k < w1.heap.size, fun k hk => hk.1, h1, ?_, ?_, fun k => if k < w.heap.size then f k else 1, vr, .slice (some ⟨q, 0, none⟩) n cb, vs, ?_, ?_, ?_, ?_⟩
 ·rintro ⟨h | h, _⟩
  ·exact h2 h
  ·omega
 ·rintro k ⟨h | h, h'⟩
  ·exact ⟨(h3 k h).1, by simpa using h'⟩
  ·exact ⟨by omega, by simpa using h'⟩
 ·exact blk_far (blk_grown (blk_below hb hW) hg hne) (p := ⟨q, j, none⟩) hgq _
 ·have h5 := Kd.R_far (Kd.R_step hr (w1 := w1) (fun k hk hlt => hst k hlt (fun _ e => by have := hk.2; omega))) (p := ⟨q, j, none⟩) (fun k hk e => by have h_ := hk.2; rw [show k = q from e, hq.2] at h_; omega) v1
  refine Kd.R_mono h5 (fun k hk => ?_)
  have := (h3 k hk.1).2
  exact ⟨⟨.inl hk.1, by omega⟩, (if_pos this).trans hk.2⟩
 ·refine Kd.S_mono (Kd.S_bound hS) (fun k hk => ?_)
  have hlt : k < w1.heap.size := by simpa using hk.2.2.1
  rcases hk.1 with h | h
  ·have := (h3 k h.1).2
   exact ⟨⟨.inl h.1, by omega⟩, (if_pos this).trans h.2⟩
  ·exact ⟨⟨.inr h, hlt⟩, if_neg (by omega)⟩
 ·have h5 := Kd.R_far (Kd.R_step ht (w1 := w1) (fun k hk hlt => hst k hlt (fun _ e => by have := hk.2; omega))) (p := ⟨q, j, none⟩) (fun k hk e => by have h_ := hk.2; rw [show k = q from e, hq.2] at h_; omega) v1
  refine Kd.R_mono h5 (fun k hk => ?_)
  have := (h3 k hk.1).2
  exact ⟨⟨.inl hk.1, by omega⟩, (if_pos this).trans hk.2⟩
end
end Go.Proofs.Ytomopjomapkmjaa.B
set_option linter.unusedVariables false
set_option linter.unusedSimpArgs false
namespace Go.Proofs.Ytomopjomapkmjaa.B
open Go Go.RowKit Go.Proofs.YtomopjomapkmjaaW.PrintWords Go.Proofs.YtomopjomapkmjaaW.PrintLast Go.Proofs.YtomopjomapkmjaaW.PrintMore Go.Proofs.Ytomopjomapkmjaa.Pure
section
variable {base g : Nat} {ok : Nat → Prop} {w w0 w1 w2 W : World} {V : BV} {nm : ByteArray} {pa rt at_ : Int} {vr vb vs : Value} {rg st : List Int} {bl : List (List S29)} {f : Nat → Nat}
def putB (V : BV) (x : S29) : Bool := openB V && (rr_rightV x.f0 x.f1 x.f2 x.f3 x.f4 x.f5 x.f6 x.f7 x.f8 && (!decide (x.f0 = 44) && (!decide (x.f0 = 45) && thereB V x)))
theorem Open_b (h : BAt base ok w g V) (hf : Fit V) {o : Bool} (ho : openB V = o) : Calls Try.prog 26 #[.pointer (some ⟨g, 0, none⟩)] w fun e w' => e = .returned (.bool o) ∧ Below w.heap.size w w' :=
 (Open_at h hf).mono fun e w' ⟨he, hd⟩ => ⟨ho ▸ he, hd.below⟩
theorem there_b (h : BAt base ok w g V) (hL : V.rg.length < 1000000 ∧ V.bl.length < 1000000) (x : S29) (A8 : Option Addr) (c8 : Nat) (hl : x.f8.length ≤ 1000) (hC : (Kd.int .i64).C w A8 x.f8.length x.f8) (hc8 : x.f8.length ≤ c8) {o : Bool} (ho : thereB V x = o) :
  Calls Try.prog 45 #[.pointer (some ⟨g, 0, none⟩), .agg #[.int .i64 x.f0, .int .i64 x.f1, .int .i64 x.f2, .int .i64 x.f3, .int .i64 x.f4, .int .i64 x.f5, .int .i64 x.f6, .int .i64 x.f7, .slice A8 x.f8.length c8]] w fun e w' => e = .returned (.bool o) ∧ Below w.heap.size w w' :=
 (there_at h hL x A8 c8 hl hC hc8).mono fun e w' ⟨he, hd⟩ => ⟨ho ▸ he, hd⟩
set_option maxHeartbeats 4000000 in
theorem Put_bad (h : BAt base ok w g V) (hf : Fit V) (hL : V.rg.length < 1000000 ∧ V.bl.length < 1000000) (x : S29) (A8 : Option Addr) (c8 : Nat) (hl : x.f8.length ≤ 1000) (hC : (Kd.int .i64).C w A8 x.f8.length x.f8) (hc8 : x.f8.length ≤ c8) (hp : putB V x = false) : Calls Try.prog 12 #[.pointer (some ⟨g, 0, none⟩), .agg #[.int .i64 x.f0, .int .i64 x.f1, .int .i64 x.f2, .int .i64 x.f3, .int .i64 x.f4, .int .i64 x.f5, .int .i64 x.f6, .int .i64 x.f7, .slice A8 x.f8.length c8]] w fun e w' => e = .returned (.bool false) ∧ Below w.heap.size w w' := by
 obtain ⟨kR, hR⟩ := (instrRight_ev x.f0 x.f1 x.f2 x.f3 x.f4 x.f5 x.f6 x.f7 x.f8 (by omega)).rounds
 have HF := Aside0.mk hf
 have HL := Aside0.mk hL
 have HX := Aside0.mk hl
 have HC8 := Aside0.mk hc8
 have HBA := Aside0.mk (h.below (below_alloc (Below.refl w.heap.size w) (.cells #[.int .i64 x.f0, .int .i64 x.f1, .int .i64 x.f2, .int .i64 x.f3, .int .i64 x.f4, .int .i64 x.f5, .int .i64 x.f6, .int .i64 x.f7, .slice A8 x.f8.length c8] 29)))
 have BK := Aside0.mk (blk_new w (.cells #[.int .i64 x.f0, .int .i64 x.f1, .int .i64 x.f2, .int .i64 x.f3, .int .i64 x.f4, .int .i64 x.f5, .int .i64 x.f6, .int .i64 x.f7, .slice A8 x.f8.length c8] 29))
 have HR8 := Aside0.mk (Kd.C_alloc hC (.cells #[.int .i64 x.f0, .int .i64 x.f1, .int .i64 x.f2, .int .i64 x.f3, .int .i64 x.f4, .int .i64 x.f5, .int .i64 x.f6, .int .i64 x.f7, .slice A8 x.f8.length c8] 29))
 have HB := Aside0.mk (below_alloc (Below.refl w.heap.size w) (.cells #[.int .i64 x.f0, .int .i64 x.f1, .int .i64 x.f2, .int .i64 x.f3, .int .i64 x.f4, .int .i64 x.f5, .int .i64 x.f6, .int .i64 x.f7, .slice A8 x.f8.length c8] 29))
 unfold putB at hp
 clear h hC hc8 hl hL hf
 obtain ⟨o, eo⟩ : ∃ o, openB V = o := ⟨_, rfl⟩
 obtain ⟨r, er⟩ : ∃ o, rr_rightV x.f0 x.f1 x.f2 x.f3 x.f4 x.f5 x.f6 x.f7 x.f8 = o := ⟨_, rfl⟩
 obtain ⟨t, et⟩ : ∃ o, thereB V x = o := ⟨_, rfl⟩
 rw [eo, er, et] at hp
 rw [er] at hR
 have HO := Aside0.mk eo
 have HR := Aside0.mk hR
 have HTH := Aside0.mk et
 clear eo er et hR
 cases o with
 | false =>
  clear hp
  go_enter Try.func12, Try.ntmps12
  go_wp2_with (first | (go_at_call 26; ((with_reducible refine (Open_b HBA.out HF.out HO.out).mono ?_); rintro e w' ⟨rfl, hb⟩; replace BK := Aside0.mk (blk_below BK.out hb); replace HBA := Aside0.mk (BAt.below HBA.out hb); replace HR8 := Aside0.mk (Kd.C_below HR8.out hb); replace HB := Aside0.mk (below_step HB.out hb); have ko0 := blk_cell BK.out 0; have ko1 := blk_cell BK.out 1; have ko2 := blk_cell BK.out 2; have ko3 := blk_cell BK.out 3; have ko4 := blk_cell BK.out 4; have ko5 := blk_cell BK.out 5; have ko6 := blk_cell BK.out 6; have ko7 := blk_cell BK.out 7; have ko8 := blk_cell BK.out 8; simp only [List.getElem?_toArray, List.getElem?_cons_zero, List.getElem?_cons_succ] at ko0 ko1 ko2 ko3 ko4 ko5 ko6 ko7 ko8; clear hb)) | (go_at_call 44; ((with_reducible refine (instr_Right.calls kR x.f0 x.f1 x.f2 x.f3 x.f4 x.f5 x.f6 x.f7 A8 c8 x.f8 _ _ HR8.out HC8.out HR.out).mono ?_); rintro e w' ⟨rfl, hb⟩; replace BK := Aside0.mk (blk_below BK.out hb); replace HBA := Aside0.mk (BAt.below HBA.out hb); replace HR8 := Aside0.mk (Kd.C_below HR8.out hb); replace HB := Aside0.mk (below_step HB.out hb); have kr0 := blk_cell BK.out 0; have kr1 := blk_cell BK.out 1; have kr2 := blk_cell BK.out 2; have kr3 := blk_cell BK.out 3; have kr4 := blk_cell BK.out 4; have kr5 := blk_cell BK.out 5; have kr6 := blk_cell BK.out 6; have kr7 := blk_cell BK.out 7; have kr8 := blk_cell BK.out 8; simp only [List.getElem?_toArray, List.getElem?_cons_zero, List.getElem?_cons_succ] at kr0 kr1 kr2 kr3 kr4 kr5 kr6 kr7 kr8; clear hb)) | (go_at_call 45; ((with_reducible refine (there_b HBA.out HL.out x A8 c8 HX.out HR8.out HC8.out HTH.out).mono ?_); rintro e w' ⟨rfl, hb⟩; replace BK := Aside0.mk (blk_below BK.out hb); replace HBA := Aside0.mk (BAt.below HBA.out hb); replace HR8 := Aside0.mk (Kd.C_below HR8.out hb); replace HB := Aside0.mk (below_step HB.out hb); have kt0 := blk_cell BK.out 0; have kt1 := blk_cell BK.out 1; have kt2 := blk_cell BK.out 2; have kt3 := blk_cell BK.out 3; have kt4 := blk_cell BK.out 4; have kt5 := blk_cell BK.out 5; have kt6 := blk_cell BK.out 6; have kt7 := blk_cell BK.out 7; have kt8 := blk_cell BK.out 8; simp only [List.getElem?_toArray, List.getElem?_cons_zero, List.getElem?_cons_succ] at kt0 kt1 kt2 kt3 kt4 kt5 kt6 kt7 kt8; clear hb)))
  go_ret
  exact ⟨rfl, HB.out⟩
 | true =>
  rw [Bool.true_and] at hp
  cases r with
  | false =>
   clear hp
   go_enter Try.func12, Try.ntmps12
   go_wp2_with (first | (go_at_call 26; ((with_reducible refine (Open_b HBA.out HF.out HO.out).mono ?_); rintro e w' ⟨rfl, hb⟩; replace BK := Aside0.mk (blk_below BK.out hb); replace HBA := Aside0.mk (BAt.below HBA.out hb); replace HR8 := Aside0.mk (Kd.C_below HR8.out hb); replace HB := Aside0.mk (below_step HB.out hb); have ko0 := blk_cell BK.out 0; have ko1 := blk_cell BK.out 1; have ko2 := blk_cell BK.out 2; have ko3 := blk_cell BK.out 3; have ko4 := blk_cell BK.out 4; have ko5 := blk_cell BK.out 5; have ko6 := blk_cell BK.out 6; have ko7 := blk_cell BK.out 7; have ko8 := blk_cell BK.out 8; simp only [List.getElem?_toArray, List.getElem?_cons_zero, List.getElem?_cons_succ] at ko0 ko1 ko2 ko3 ko4 ko5 ko6 ko7 ko8; clear hb)) | (go_at_call 44; ((with_reducible refine (instr_Right.calls kR x.f0 x.f1 x.f2 x.f3 x.f4 x.f5 x.f6 x.f7 A8 c8 x.f8 _ _ HR8.out HC8.out HR.out).mono ?_); rintro e w' ⟨rfl, hb⟩; replace BK := Aside0.mk (blk_below BK.out hb); replace HBA := Aside0.mk (BAt.below HBA.out hb); replace HR8 := Aside0.mk (Kd.C_below HR8.out hb); replace HB := Aside0.mk (below_step HB.out hb); have kr0 := blk_cell BK.out 0; have kr1 := blk_cell BK.out 1; have kr2 := blk_cell BK.out 2; have kr3 := blk_cell BK.out 3; have kr4 := blk_cell BK.out 4; have kr5 := blk_cell BK.out 5; have kr6 := blk_cell BK.out 6; have kr7 := blk_cell BK.out 7; have kr8 := blk_cell BK.out 8; simp only [List.getElem?_toArray, List.getElem?_cons_zero, List.getElem?_cons_succ] at kr0 kr1 kr2 kr3 kr4 kr5 kr6 kr7 kr8; clear hb)) | (go_at_call 45; ((with_reducible refine (there_b HBA.out HL.out x A8 c8 HX.out HR8.out HC8.out HTH.out).mono ?_); rintro e w' ⟨rfl, hb⟩; replace BK := Aside0.mk (blk_below BK.out hb); replace HBA := Aside0.mk (BAt.below HBA.out hb); replace HR8 := Aside0.mk (Kd.C_below HR8.out hb); replace HB := Aside0.mk (below_step HB.out hb); have kt0 := blk_cell BK.out 0; have kt1 := blk_cell BK.out 1; have kt2 := blk_cell BK.out 2; have kt3 := blk_cell BK.out 3; have kt4 := blk_cell BK.out 4; have kt5 := blk_cell BK.out 5; have kt6 := blk_cell BK.out 6; have kt7 := blk_cell BK.out 7; have kt8 := blk_cell BK.out 8; simp only [List.getElem?_toArray, List.getElem?_cons_zero, List.getElem?_cons_succ] at kt0 kt1 kt2 kt3 kt4 kt5 kt6 kt7 kt8; clear hb)))
   go_ret
   exact ⟨rfl, HB.out⟩
  | true =>
   rw [Bool.true_and] at hp
   by_cases h4 : x.f0 = 44
   ·have t1 : decide (x.f0 = 44) = true := decide_eq_true h4
    have t2 : (x.f0 == 44) = true := beq_iff_eq.mpr h4
    clear hp h4
    go_enter Try.func12, Try.ntmps12
    go_wp2_with (first | (go_at_call 26; ((with_reducible refine (Open_b HBA.out HF.out HO.out).mono ?_); rintro e w' ⟨rfl, hb⟩; replace BK := Aside0.mk (blk_below BK.out hb); replace HBA := Aside0.mk (BAt.below HBA.out hb); replace HR8 := Aside0.mk (Kd.C_below HR8.out hb); replace HB := Aside0.mk (below_step HB.out hb); have ko0 := blk_cell BK.out 0; have ko1 := blk_cell BK.out 1; have ko2 := blk_cell BK.out 2; have ko3 := blk_cell BK.out 3; have ko4 := blk_cell BK.out 4; have ko5 := blk_cell BK.out 5; have ko6 := blk_cell BK.out 6; have ko7 := blk_cell BK.out 7; have ko8 := blk_cell BK.out 8; simp only [List.getElem?_toArray, List.getElem?_cons_zero, List.getElem?_cons_succ] at ko0 ko1 ko2 ko3 ko4 ko5 ko6 ko7 ko8; clear hb)) | (go_at_call 44; ((with_reducible refine (instr_Right.calls kR x.f0 x.f1 x.f2 x.f3 x.f4 x.f5 x.f6 x.f7 A8 c8 x.f8 _ _ HR8.out HC8.out HR.out).mono ?_); rintro e w' ⟨rfl, hb⟩; replace BK := Aside0.mk (blk_below BK.out hb); replace HBA := Aside0.mk (BAt.below HBA.out hb); replace HR8 := Aside0.mk (Kd.C_below HR8.out hb); replace HB := Aside0.mk (below_step HB.out hb); have kr0 := blk_cell BK.out 0; have kr1 := blk_cell BK.out 1; have kr2 := blk_cell BK.out 2; have kr3 := blk_cell BK.out 3; have kr4 := blk_cell BK.out 4; have kr5 := blk_cell BK.out 5; have kr6 := blk_cell BK.out 6; have kr7 := blk_cell BK.out 7; have kr8 := blk_cell BK.out 8; simp only [List.getElem?_toArray, List.getElem?_cons_zero, List.getElem?_cons_succ] at kr0 kr1 kr2 kr3 kr4 kr5 kr6 kr7 kr8; clear hb)) | (go_at_call 45; ((with_reducible refine (there_b HBA.out HL.out x A8 c8 HX.out HR8.out HC8.out HTH.out).mono ?_); rintro e w' ⟨rfl, hb⟩; replace BK := Aside0.mk (blk_below BK.out hb); replace HBA := Aside0.mk (BAt.below HBA.out hb); replace HR8 := Aside0.mk (Kd.C_below HR8.out hb); replace HB := Aside0.mk (below_step HB.out hb); have kt0 := blk_cell BK.out 0; have kt1 := blk_cell BK.out 1; have kt2 := blk_cell BK.out 2; have kt3 := blk_cell BK.out 3; have kt4 := blk_cell BK.out 4; have kt5 := blk_cell BK.out 5; have kt6 := blk_cell BK.out 6; have kt7 := blk_cell BK.out 7; have kt8 := blk_cell BK.out 8; simp only [List.getElem?_toArray, List.getElem?_cons_zero, List.getElem?_cons_succ] at kt0 kt1 kt2 kt3 kt4 kt5 kt6 kt7 kt8; clear hb)))
    go_ret
    exact ⟨rfl, HB.out⟩
   have t1 : decide (x.f0 = 44) = false := decide_eq_false h4
   have t2 : (x.f0 == 44) = false := beq_eq_false_iff_ne.mpr h4
   rw [t1, Bool.not_false, Bool.true_and] at hp
   by_cases h5 : x.f0 = 45
   ·have t3 : decide (x.f0 = 45) = true := decide_eq_true h5
    have t4 : (x.f0 == 45) = true := beq_iff_eq.mpr h5
    clear hp h4 h5
    go_enter Try.func12, Try.ntmps12
    go_wp2_with (first | (go_at_call 26; ((with_reducible refine (Open_b HBA.out HF.out HO.out).mono ?_); rintro e w' ⟨rfl, hb⟩; replace BK := Aside0.mk (blk_below BK.out hb); replace HBA := Aside0.mk (BAt.below HBA.out hb); replace HR8 := Aside0.mk (Kd.C_below HR8.out hb); replace HB := Aside0.mk (below_step HB.out hb); have ko0 := blk_cell BK.out 0; have ko1 := blk_cell BK.out 1; have ko2 := blk_cell BK.out 2; have ko3 := blk_cell BK.out 3; have ko4 := blk_cell BK.out 4; have ko5 := blk_cell BK.out 5; have ko6 := blk_cell BK.out 6; have ko7 := blk_cell BK.out 7; have ko8 := blk_cell BK.out 8; simp only [List.getElem?_toArray, List.getElem?_cons_zero, List.getElem?_cons_succ] at ko0 ko1 ko2 ko3 ko4 ko5 ko6 ko7 ko8; clear hb)) | (go_at_call 44; ((with_reducible refine (instr_Right.calls kR x.f0 x.f1 x.f2 x.f3 x.f4 x.f5 x.f6 x.f7 A8 c8 x.f8 _ _ HR8.out HC8.out HR.out).mono ?_); rintro e w' ⟨rfl, hb⟩; replace BK := Aside0.mk (blk_below BK.out hb); replace HBA := Aside0.mk (BAt.below HBA.out hb); replace HR8 := Aside0.mk (Kd.C_below HR8.out hb); replace HB := Aside0.mk (below_step HB.out hb); have kr0 := blk_cell BK.out 0; have kr1 := blk_cell BK.out 1; have kr2 := blk_cell BK.out 2; have kr3 := blk_cell BK.out 3; have kr4 := blk_cell BK.out 4; have kr5 := blk_cell BK.out 5; have kr6 := blk_cell BK.out 6; have kr7 := blk_cell BK.out 7; have kr8 := blk_cell BK.out 8; simp only [List.getElem?_toArray, List.getElem?_cons_zero, List.getElem?_cons_succ] at kr0 kr1 kr2 kr3 kr4 kr5 kr6 kr7 kr8; clear hb)) | (go_at_call 45; ((with_reducible refine (there_b HBA.out HL.out x A8 c8 HX.out HR8.out HC8.out HTH.out).mono ?_); rintro e w' ⟨rfl, hb⟩; replace BK := Aside0.mk (blk_below BK.out hb); replace HBA := Aside0.mk (BAt.below HBA.out hb); replace HR8 := Aside0.mk (Kd.C_below HR8.out hb); replace HB := Aside0.mk (below_step HB.out hb); have kt0 := blk_cell BK.out 0; have kt1 := blk_cell BK.out 1; have kt2 := blk_cell BK.out 2; have kt3 := blk_cell BK.out 3; have kt4 := blk_cell BK.out 4; have kt5 := blk_cell BK.out 5; have kt6 := blk_cell BK.out 6; have kt7 := blk_cell BK.out 7; have kt8 := blk_cell BK.out 8; simp only [List.getElem?_toArray, List.getElem?_cons_zero, List.getElem?_cons_succ] at kt0 kt1 kt2 kt3 kt4 kt5 kt6 kt7 kt8; clear hb)))
    go_ret
    exact ⟨rfl, HB.out⟩
   have t3 : decide (x.f0 = 45) = false := decide_eq_false h5
   have t4 : (x.f0 == 45) = false := beq_eq_false_iff_ne.mpr h5
   rw [t3, Bool.not_false, Bool.true_and] at hp
   subst hp
   clear h4 h5
   go_enter Try.func12, Try.ntmps12
   go_wp2_with (first | (go_at_call 26; ((with_reducible refine (Open_b HBA.out HF.out HO.out).mono ?_); rintro e w' ⟨rfl, hb⟩; replace BK := Aside0.mk (blk_below BK.out hb); replace HBA := Aside0.mk (BAt.below HBA.out hb); replace HR8 := Aside0.mk (Kd.C_below HR8.out hb); replace HB := Aside0.mk (below_step HB.out hb); have ko0 := blk_cell BK.out 0; have ko1 := blk_cell BK.out 1; have ko2 := blk_cell BK.out 2; have ko3 := blk_cell BK.out 3; have ko4 := blk_cell BK.out 4; have ko5 := blk_cell BK.out 5; have ko6 := blk_cell BK.out 6; have ko7 := blk_cell BK.out 7; have ko8 := blk_cell BK.out 8; simp only [List.getElem?_toArray, List.getElem?_cons_zero, List.getElem?_cons_succ] at ko0 ko1 ko2 ko3 ko4 ko5 ko6 ko7 ko8; clear hb)) | (go_at_call 44; ((with_reducible refine (instr_Right.calls kR x.f0 x.f1 x.f2 x.f3 x.f4 x.f5 x.f6 x.f7 A8 c8 x.f8 _ _ HR8.out HC8.out HR.out).mono ?_); rintro e w' ⟨rfl, hb⟩; replace BK := Aside0.mk (blk_below BK.out hb); replace HBA := Aside0.mk (BAt.below HBA.out hb); replace HR8 := Aside0.mk (Kd.C_below HR8.out hb); replace HB := Aside0.mk (below_step HB.out hb); have kr0 := blk_cell BK.out 0; have kr1 := blk_cell BK.out 1; have kr2 := blk_cell BK.out 2; have kr3 := blk_cell BK.out 3; have kr4 := blk_cell BK.out 4; have kr5 := blk_cell BK.out 5; have kr6 := blk_cell BK.out 6; have kr7 := blk_cell BK.out 7; have kr8 := blk_cell BK.out 8; simp only [List.getElem?_toArray, List.getElem?_cons_zero, List.getElem?_cons_succ] at kr0 kr1 kr2 kr3 kr4 kr5 kr6 kr7 kr8; clear hb)) | (go_at_call 45; ((with_reducible refine (there_b HBA.out HL.out x A8 c8 HX.out HR8.out HC8.out HTH.out).mono ?_); rintro e w' ⟨rfl, hb⟩; replace BK := Aside0.mk (blk_below BK.out hb); replace HBA := Aside0.mk (BAt.below HBA.out hb); replace HR8 := Aside0.mk (Kd.C_below HR8.out hb); replace HB := Aside0.mk (below_step HB.out hb); have kt0 := blk_cell BK.out 0; have kt1 := blk_cell BK.out 1; have kt2 := blk_cell BK.out 2; have kt3 := blk_cell BK.out 3; have kt4 := blk_cell BK.out 4; have kt5 := blk_cell BK.out 5; have kt6 := blk_cell BK.out 6; have kt7 := blk_cell BK.out 7; have kt8 := blk_cell BK.out 8; simp only [List.getElem?_toArray, List.getElem?_cons_zero, List.getElem?_cons_succ] at kt0 kt1 kt2 kt3 kt4 kt5 kt6 kt7 kt8; clear hb)))
   go_ret
   exact ⟨rfl, HB.out⟩
theorem Turned.drewN (h : Turned base ok w w1 g V) (n : Nat) : Turned base ok w (w1.drewN n) g V := by
 obtain ⟨h1, ok', h2, h3⟩ := h
 exact ⟨h1.drewN n, ok', h2, h3.drewN n⟩
theorem info29 : (Try.prog.info? 29).map (fun i => (i.zero, i.size, i.bytes)) = some (some (.agg #[.int .i64 0, .int .i64 0, .int .i64 0, .int .i64 0, .int .i64 0, .int .i64 0, .int .i64 0, .int .i64 0, .slice none 0 0]), 9, 88) := by kernel_rfl
def putV (V : BV) (x : S29) (e : Bool) : BV := ⟨V.nm, V.pa, V.rt, V.rg, V.bl.set V.at_.toNat (V.bl.getD V.at_.toNat [] ++ [x]), if e then V.st.set V.at_.toNat 2 else V.st, V.at_⟩
set_option maxHeartbeats 16000000 in
set_option maxRecDepth 100000 in
theorem Put_at (h : BAt base ok w g V) (hf : Fit V) (hL : V.rg.length < 1000000 ∧ V.bl.length < 1000000) (x : S29) (A8 : Option Addr) (c8 : Nat) (hl : x.f8.length ≤ 1000) (hC : (Kd.int .i64).C w A8 x.f8.length x.f8) (hc8 : x.f8.length ≤ c8) (hb0 : Below base w0 w) (hbs : base ≤ w.heap.size) (hrow : (V.bl.getD V.at_.toNat []).length < 1000000) (hp : putB V x = true) (e_ : Bool) (he : instr_Ends.f x.f0 = some e_) :
  Calls Try.prog 12 #[.pointer (some ⟨g, 0, none⟩), .agg #[.int .i64 x.f0, .int .i64 x.f1, .int .i64 x.f2, .int .i64 x.f3, .int .i64 x.f4, .int .i64 x.f5, .int .i64 x.f6, .int .i64 x.f7, .slice A8 x.f8.length c8]] w fun e w' => e = .returned (.bool true) ∧ Below base w0 w' ∧ Turned base ok w w' g (putV V x e_) := by
 obtain ⟨kR, hR⟩ := (instrRight_ev x.f0 x.f1 x.f2 x.f3 x.f4 x.f5 x.f6 x.f7 x.f8 (by omega)).rounds
 have HF := Aside0.mk hf
 have HL := Aside0.mk hL
 have HX := Aside0.mk hl
 have HC8 := Aside0.mk hc8
 have HBA := Aside0.mk (h.below (below_alloc (Below.refl w.heap.size w) (.cells #[.int .i64 x.f0, .int .i64 x.f1, .int .i64 x.f2, .int .i64 x.f3, .int .i64 x.f4, .int .i64 x.f5, .int .i64 x.f6, .int .i64 x.f7, .slice A8 x.f8.length c8] 29)))
 have BK := Aside0.mk (blk_new w (.cells #[.int .i64 x.f0, .int .i64 x.f1, .int .i64 x.f2, .int .i64 x.f3, .int .i64 x.f4, .int .i64 x.f5, .int .i64 x.f6, .int .i64 x.f7, .slice A8 x.f8.length c8] 29))
 have HR8 := Aside0.mk (Kd.C_alloc hC (.cells #[.int .i64 x.f0, .int .i64 x.f1, .int .i64 x.f2, .int .i64 x.f3, .int .i64 x.f4, .int .i64 x.f5, .int .i64 x.f6, .int .i64 x.f7, .slice A8 x.f8.length c8] 29))
 have HB := Aside0.mk (below_alloc (Below.refl w.heap.size w) (.cells #[.int .i64 x.f0, .int .i64 x.f1, .int .i64 x.f2, .int .i64 x.f3, .int .i64 x.f4, .int .i64 x.f5, .int .i64 x.f6, .int .i64 x.f7, .slice A8 x.f8.length c8] 29))
 unfold putB at hp
 simp only [Bool.and_eq_true, Bool.not_eq_true', decide_eq_false_iff_not] at hp
 obtain ⟨ho, hr', h4, h5, ht'⟩ := hp
 have t1 : decide (x.f0 = 44) = false := decide_eq_false h4
 have t2 : (x.f0 == 44) = false := beq_eq_false_iff_ne.mpr h4
 have t3 : decide (x.f0 = 45) = false := decide_eq_false h5
 have t4 : (x.f0 == 45) = false := beq_eq_false_iff_ne.mpr h5
 rw [hr'] at hR
 have HO := Aside0.mk ho
 have HR := Aside0.mk hR
 have HTH := Aside0.mk ht'
 have HE := Aside0.mk he
 have HCL : Aside0 (slices_Clone_int_int.f x.f8 = some x.f8) := ⟨if_pos (by omega)⟩
 obtain ⟨f0, f1, f2⟩ := hf
 obtain ⟨j, hj⟩ : ∃ j : Nat, V.at_ = (j : Int) := ⟨V.at_.toNat, by omega⟩
 obtain ⟨h1, h2, h3, f, vr, vb, vs, hc, hr, hB, ht⟩ := h
 obtain ⟨q, cb, rfl, hq, hq2, cellsq, hq3⟩ := Kd.S_form hB (by omega)
 obtain ⟨s, cs, rfl, hs, hs2, cellss, hs3⟩ := Kd.R_form ht (by omega)
 obtain ⟨oki, Ai, ci, hci, hfi, hoki, hRI, hput⟩ := bt_lend h3 hB j (by omega)
 rw [hj, Int.toNat_natCast] at hrow
 have HVB : Aside0 (putV V x e_ = ⟨V.nm, V.pa, V.rt, V.rg, V.bl.set j (V.bl.getD j [] ++ [x]), if e_ then V.st.set j 2 else V.st, (j : Int)⟩) := ⟨by unfold putV; rw [hj, Int.toNat_natCast]⟩
 rw [hj] at hc
 have HPT := Aside0.mk (fun (W w1 : World) (v1 : Value) (b1 : List (List S29)) => bt_put (W := W) (w1 := w1) (v1 := v1) (b1 := b1) (j := j) h1 h2 h3 hc hr hB ht hoki hRI.1)
 have HPU := Aside0.mk (fun (W w1 : World) (v1 : Value) => @hput W w1 x v1)
 have HQG : Aside0 (g ≠ q ∧ g ≠ s ∧ ok q ∧ w.heap.size ≠ q) := ⟨⟨fun e => h2 (e ▸ ((Kd.S_R hB).1 q rfl).1), fun e => h2 (e ▸ (ht.1 s rfl).1), ((Kd.S_R hB).1 q rfl).1, by omega⟩⟩
 have HIN : Aside0 (∀ k, (Value.slice Ai (V.bl.getD j []).length ci).ownBlock = some k → oki k ∧ k < w.heap.size ∧ k ≠ g ∧ k ≠ q) := ⟨fun k e => ⟨hRI.1 k e, Kd.R_lt hRI k e, fun e2 => h2 (e2 ▸ (hoki k (hRI.1 k e)).1.1), (hoki k (hRI.1 k e)).2⟩⟩
 have HRI := Aside0.mk hRI
 have HCI := Aside0.mk hci
 have HG0 := Aside0.mk hc
 have HQ3 := Aside0.mk hq3
 have HB0 := Aside0.mk hb0
 have HBS := Aside0.mk (And.intro hbs (And.intro h1 hq))
 have HJL : Aside0 (j < V.bl.length ∧ j < V.st.length ∧ V.st.length = V.bl.length) := ⟨⟨by omega, by omega, f2⟩⟩
 have HROW := Aside0.mk hrow
 have HA : Aside0 (w.heap.size + 1 ≤ (w.alloc (.cells #[.int .i64 x.f0, .int .i64 x.f1, .int .i64 x.f2, .int .i64 x.f3, .int .i64 x.f4, .int .i64 x.f5, .int .i64 x.f6, .int .i64 x.f7, .slice A8 x.f8.length c8] 29)).heap.size) := ⟨by simp⟩
 clear h1 h2 h3 hc hr hB ht hq hq2 hq3 hs hs2 hs3 hci hfi hoki hRI hput hb0 hbs f0 f1 f2 hrow ho hr' h4 h5 ht' he hC hc8 hl hL hR
 obtain ⟨bl, ebl⟩ : ∃ r, V.bl = r := ⟨_, rfl⟩
 rw [ebl] at HVB HPT HPU HIN HRI HCI HG0 HJL HROW
 obtain ⟨st, est⟩ : ∃ r, V.st = r := ⟨_, rfl⟩
 rw [est] at HVB HPT HG0 HJL
 obtain ⟨row, erow⟩ : ∃ r, bl.getD j [] = r := ⟨_, rfl⟩
 rw [erow] at HVB HPT HPU HIN HRI HCI HROW
 obtain ⟨row2, er2⟩ : ∃ r, row ++ [x] = r := ⟨_, rfl⟩
 rw [er2] at HVB HPU
 have ER2 := Aside0.mk er2
 clear ebl est erow er2
 go_enter Try.func12, Try.ntmps12
 go_upto_region 4 with (first | (go_at_call 26; ((with_reducible refine (Open_b HBA.out HF.out HO.out).mono ?_); rintro e w' ⟨rfl, hb⟩; replace HA : Aside0 (w.heap.size + 1 ≤ _) := ⟨Nat.le_trans HA.out hb.size⟩; replace BK := Aside0.mk (blk_below BK.out hb); replace HBA := Aside0.mk (BAt.below HBA.out hb); replace HR8 := Aside0.mk (Kd.C_below HR8.out hb); replace HB := Aside0.mk (below_step HB.out hb); have ko0 := blk_cell BK.out 0; have ko1 := blk_cell BK.out 1; have ko2 := blk_cell BK.out 2; have ko3 := blk_cell BK.out 3; have ko4 := blk_cell BK.out 4; have ko5 := blk_cell BK.out 5; have ko6 := blk_cell BK.out 6; have ko7 := blk_cell BK.out 7; have ko8 := blk_cell BK.out 8; simp only [List.getElem?_toArray, List.getElem?_cons_zero, List.getElem?_cons_succ] at ko0 ko1 ko2 ko3 ko4 ko5 ko6 ko7 ko8; clear hb)) | (go_at_call 44; ((with_reducible refine (instr_Right.calls kR x.f0 x.f1 x.f2 x.f3 x.f4 x.f5 x.f6 x.f7 A8 c8 x.f8 _ _ HR8.out HC8.out HR.out).mono ?_); rintro e w' ⟨rfl, hb⟩; replace HA : Aside0 (w.heap.size + 1 ≤ _) := ⟨Nat.le_trans HA.out hb.size⟩; replace BK := Aside0.mk (blk_below BK.out hb); replace HBA := Aside0.mk (BAt.below HBA.out hb); replace HR8 := Aside0.mk (Kd.C_below HR8.out hb); replace HB := Aside0.mk (below_step HB.out hb); have kr0 := blk_cell BK.out 0; have kr1 := blk_cell BK.out 1; have kr2 := blk_cell BK.out 2; have kr3 := blk_cell BK.out 3; have kr4 := blk_cell BK.out 4; have kr5 := blk_cell BK.out 5; have kr6 := blk_cell BK.out 6; have kr7 := blk_cell BK.out 7; have kr8 := blk_cell BK.out 8; simp only [List.getElem?_toArray, List.getElem?_cons_zero, List.getElem?_cons_succ] at kr0 kr1 kr2 kr3 kr4 kr5 kr6 kr7 kr8; clear hb)) | (go_at_call 45; ((with_reducible refine (there_b HBA.out HL.out x A8 c8 HX.out HR8.out HC8.out HTH.out).mono ?_); rintro e w' ⟨rfl, hb⟩; replace HA : Aside0 (w.heap.size + 1 ≤ _) := ⟨Nat.le_trans HA.out hb.size⟩; replace BK := Aside0.mk (blk_below BK.out hb); replace HBA := Aside0.mk (BAt.below HBA.out hb); replace HR8 := Aside0.mk (Kd.C_below HR8.out hb); replace HB := Aside0.mk (below_step HB.out hb); have kt0 := blk_cell BK.out 0; have kt1 := blk_cell BK.out 1; have kt2 := blk_cell BK.out 2; have kt3 := blk_cell BK.out 3; have kt4 := blk_cell BK.out 4; have kt5 := blk_cell BK.out 5; have kt6 := blk_cell BK.out 6; have kt7 := blk_cell BK.out 7; have kt8 := blk_cell BK.out 8; simp only [List.getElem?_toArray, List.getElem?_cons_zero, List.getElem?_cons_succ] at kt0 kt1 kt2 kt3 kt4 kt5 kt6 kt7 kt8; clear hb)) | (go_at_call 43; ((with_reducible refine (slices_Clone_int_int.calls A8 c8 x.f8 x.f8 _ HR8.out HC8.out HCL.out).mono ?_); rintro e w' ⟨v_, rfl, hR_, hb⟩; obtain ⟨Ac, cc, rfl⟩ := Kd.R_slice hR_; have RA : Aside0 ((Kd.int .i64).R 3 w' base (fun k => w.heap.size + 1 ≤ k) (.slice Ac x.f8.length cc) x.f8) := ⟨Kd.R_lower (Kd.R_mono (Kd.R_bound hR_) (fun k hk => by have h_ := hk.2.1; have := HA.out; show w.heap.size + 1 ≤ k; omega)) (by have := HA.out; have := HBS.out.1; omega)⟩; have zf := blk_frozen (blk_below BK.out hb) 8; replace HA : Aside0 (w.heap.size + 1 ≤ _) := ⟨Nat.le_trans HA.out hb.size⟩; replace BK := Aside0.mk (blk_below BK.out hb); replace HBA := Aside0.mk (BAt.below HBA.out hb); replace HR8 := Aside0.mk (Kd.C_below HR8.out hb); replace HB := Aside0.mk (below_step HB.out hb); have kc0 := blk_cell BK.out 0; have kc1 := blk_cell BK.out 1; have kc2 := blk_cell BK.out 2; have kc3 := blk_cell BK.out 3; have kc4 := blk_cell BK.out 4; have kc5 := blk_cell BK.out 5; have kc6 := blk_cell BK.out 6; have kc7 := blk_cell BK.out 7; have kc8 := blk_cell BK.out 8; simp only [List.getElem?_toArray, List.getElem?_cons_zero, List.getElem?_cons_succ] at kc0 kc1 kc2 kc3 kc4 kc5 kc6 kc7 kc8; clear hb)))
 have HW : Aside0 (Below w.heap.size w (w'.setCell ⟨w.heap.size, 8, none⟩ (.slice Ac x.f8.length cc))) := ⟨HB.out.setCell (Nat.le_refl _) _⟩
 have BK2 : Aside0 ((w'.setCell ⟨w.heap.size, 8, none⟩ (.slice Ac x.f8.length cc)).heap[w.heap.size]? = some (.cells #[.int .i64 x.f0, .int .i64 x.f1, .int .i64 x.f2, .int .i64 x.f3, .int .i64 x.f4, .int .i64 x.f5, .int .i64 x.f6, .int .i64 x.f7, .slice Ac x.f8.length cc] 29 (0, 0))) := ⟨blk_put BK.out 8 _ rfl⟩
 have RA2 : Aside0 ((Kd.int .i64).R 3 (w'.setCell ⟨w.heap.size, 8, none⟩ (.slice Ac x.f8.length cc)) base (fun k => w.heap.size + 1 ≤ k) (.slice Ac x.f8.length cc) x.f8) := ⟨Kd.R_far RA.out (p := ⟨w.heap.size, 8, none⟩) (fun k hk => by show k ≠ w.heap.size; omega) _⟩
 generalize w'.setCell ⟨w.heap.size, 8, none⟩ (.slice Ac x.f8.length cc) = W4 at HW BK2 RA2 ⊢
 clear BK HBA HR8 HB HA RA zf ko0 ko1 ko2 ko3 ko4 ko5 ko6 ko7 ko8 kr0 kr1 kr2 kr3 kr4 kr5 kr6 kr7 kr8 kt0 kt1 kt2 kt3 kt4 kt5 kt6 kt7 kt8 kc0 kc1 kc2 kc3 kc4 kc5 kc6 kc7 kc8
 have HCG := Aside0.mk (blk_below HG0.out HW.out)
 have HQW := Aside0.mk (blk_below HQ3.out HW.out)
 have HCW := Aside0.mk ((HW.out.cell (block_lt_of_cell HCI.out)).trans HCI.out)
 have HRW := Aside0.mk (Kd.R_below HRI.out HW.out)
 have HB4 : Aside0 (Below base w0 W4) := ⟨HB0.out.trans (HW.out.mono HBS.out.1)⟩
 have c4 := blk_cell HCG.out 4
 have c6 := blk_cell HCG.out 6
 simp only [List.getElem?_toArray, List.getElem?_cons_zero, List.getElem?_cons_succ] at c4 c6
 have k0 := blk_cell BK2.out 0
 have k1 := blk_cell BK2.out 1
 have k2 := blk_cell BK2.out 2
 have k3 := blk_cell BK2.out 3
 have k4 := blk_cell BK2.out 4
 have k5 := blk_cell BK2.out 5
 have k6 := blk_cell BK2.out 6
 have k7 := blk_cell BK2.out 7
 have k8 := blk_cell BK2.out 8
 simp only [List.getElem?_toArray, List.getElem?_cons_zero, List.getElem?_cons_succ] at k0 k1 k2 k3 k4 k5 k6 k7 k8
 have cci := HCW.out
 have p1 : (0 : Int) ≤ (j : Int) := by omega
 have p2 : (j : Int) < (bl.length : Int) := by have := HJL.out.1; omega
 refine start_ (n := 27) (S := fun w' => w'.cell? ⟨g, 4, none⟩ = some (.slice (some ⟨q, 0, none⟩) bl.length cb) ∧ w'.cell? ⟨g, 6, none⟩ = some (.int .i64 (j : Int)) ∧ w'.cell? ⟨q, j, none⟩ = some (.slice Ai row.length ci) ∧ w'.cell? ⟨w.heap.size, 0, none⟩ = some (.int .i64 x.f0) ∧ w'.cell? ⟨w.heap.size, 1, none⟩ = some (.int .i64 x.f1) ∧ w'.cell? ⟨w.heap.size, 2, none⟩ = some (.int .i64 x.f2) ∧ w'.cell? ⟨w.heap.size, 3, none⟩ = some (.int .i64 x.f3) ∧ w'.cell? ⟨w.heap.size, 4, none⟩ = some (.int .i64 x.f4) ∧ w'.cell? ⟨w.heap.size, 5, none⟩ = some (.int .i64 x.f5) ∧ w'.cell? ⟨w.heap.size, 6, none⟩ = some (.int .i64 x.f6) ∧ w'.cell? ⟨w.heap.size, 7, none⟩ = some (.int .i64 x.f7) ∧ w'.cell? ⟨w.heap.size, 8, none⟩ = some (.slice Ac x.f8.length cc)) (ds := [26]) #[false, false, false, false, false, false, false, false, false, false, false, false, false, false, false, false, false, false, false, false, false, false, false, false, false, false, false] (by kernel_rfl) rfl rfl ⟨c4, c6, cci, k0, k1, k2, k3, k4, k5, k6, k7, k8⟩ (fun hHeld => ?_)
 refine pT 0 (some 33) (zb 27 1) (h := ?_)
 refine pT 1 (some 34) (zb 27 3) (h := ?_)
 refine pT 2 (some 35) (zb 27 7) (h := ?_)
 refine pT 3 (some 36) (zb 27 15) (h := ?_)
 refine pT 4 (some 37) (zb 27 31) (h := ?_)
 refine pT 6 (some 39) (zb 27 95) (h := ?_)
 refine pT 7 (some 40) (zb 27 223) (h := ?_)
 refine pT 8 (some 41) (zb 27 479) (h := ?_)
 refine pT 10 (some 43) (zb 27 1503) (h := ?_)
 refine pT 11 (some 44) (zb 27 3551) (h := ?_)
 refine pT 12 (some 45) (zb 27 7647) (h := ?_)
 refine pT 13 (some 46) (zb 27 15839) (h := ?_)
 refine pT 14 (some 47) (zb 27 32223) (h := ?_)
 refine pT 16 (some 49) (zb 27 97759) (h := ?_)
 refine pT 17 (some 50) (zb 27 228831) (h := ?_)
 refine pT 18 (some 51) (zb 27 490975) (h := ?_)
 refine take_ (i := 5) (N := some 38) (v := ?_) (a' := ?_) (zb 27 491007) rfl rfl (by kernel_rfl) (fun _ _ _ h => h) (Or.inl ⟨by rfl, ?_⟩) hHeld ?_ ?_
 rotate_left
 ·rintro w' ⟨s0, s1, s2, s3, s4, s5, s6, s7, s8, s9, s10, s11⟩
  go_simp
  with_reducible rfl
 rotate_left
 ·simp only [Act.put, List.setIfInBounds_toArray, List.set_cons_zero, List.set_cons_succ, i64_w, i32_w]
  rfl
 refine take_ (i := 9) (N := some 42) (v := ?_) (a' := ?_) (zb 27 491519) rfl rfl (by kernel_rfl) (fun _ _ _ h => h) (Or.inl ⟨by rfl, ?_⟩) hHeld ?_ ?_
 rotate_left
 ·rintro w' ⟨s0, s1, s2, s3, s4, s5, s6, s7, s8, s9, s10, s11⟩
  go_simp
  with_reducible rfl
 rotate_left
 ·simp only [Act.put, List.setIfInBounds_toArray, List.set_cons_zero, List.set_cons_succ, i64_w, i32_w]
  rfl
 refine take_ (i := 15) (N := some 48) (v := ?_) (a' := ?_) (zb 27 524287) rfl rfl (by kernel_rfl) (fun _ _ _ h => h) (Or.inl ⟨by rfl, ?_⟩) hHeld ?_ ?_
 rotate_left
 ·rintro w' ⟨s0, s1, s2, s3, s4, s5, s6, s7, s8, s9, s10, s11⟩
  go_simp
  with_reducible rfl
 rotate_left
 ·simp only [Act.put, List.setIfInBounds_toArray, List.set_cons_zero, List.set_cons_succ, i64_w, i32_w]
  rfl
 refine take_ (i := 19) (N := some 52) (v := ?_) (a' := ?_) (zb 27 1048575) rfl rfl (by kernel_rfl) (fun _ _ _ h => h) (Or.inl ⟨by rfl, ?_⟩) hHeld ?_ ?_
 rotate_left
 ·rintro w' ⟨s0, s1, s2, s3, s4, s5, s6, s7, s8, s9, s10, s11⟩
  go_simp
  with_reducible rfl
 rotate_left
 ·simp only [Act.put, List.setIfInBounds_toArray, List.set_cons_zero, List.set_cons_succ, i64_w, i32_w]
  rfl
 refine pT 20 (some 53) (zb 27 2097151) (h := ?_)
 refine take_ (i := 21) (N := some 54) (v := ?_) (a' := ?_) (zb 27 4194303) rfl rfl (by kernel_rfl) (fun _ _ _ h => h) (Or.inl ⟨by rfl, ?_⟩) hHeld ?_ ?_
 rotate_left
 ·rintro w' ⟨s0, s1, s2, s3, s4, s5, s6, s7, s8, s9, s10, s11⟩
  go_simp
  with_reducible rfl
 rotate_left
 ·simp only [Act.put, List.setIfInBounds_toArray, List.set_cons_zero, List.set_cons_succ, i64_w, i32_w]
  rfl
 refine take_ (i := 22) (N := some 55) (v := ?_) (a' := ?_) (zb 27 8388607) rfl rfl (by kernel_rfl) (fun _ _ _ h => h) (Or.inl ⟨by rfl, ?_⟩) hHeld ?_ ?_
 rotate_left
 ·rintro w' ⟨s0, s1, s2, s3, s4, s5, s6, s7, s8, s9, s10, s11⟩
  go_simp
  with_reducible rfl
 rotate_left
 ·simp only [Act.put, List.setIfInBounds_toArray, List.set_cons_zero, List.set_cons_succ, i64_w, i32_w]
  rfl
 refine one_ (i := 23) (N := some 56) (zb 27 16777215) rfl rfl (by kernel_rfl) (by decide) (fun K hK => ?_)
 refine value_ (w1 := ?_) (v := ?_) (by rfl) rfl ?_ ?_
 rotate_left 2
 ·go_simp
  constructor
  ·rfl
  ·rfl
 refine hK.out _ _ ⟨(blk_cell (blk_alloc HCG.out _) 4).trans rfl, (blk_cell (blk_alloc HCG.out _) 6).trans rfl, ((below_alloc (Below.refl _ _) _).cell (block_lt_of_cell HCW.out)).trans HCW.out, (blk_cell (blk_alloc BK2.out _) 0).trans rfl, (blk_cell (blk_alloc BK2.out _) 1).trans rfl, (blk_cell (blk_alloc BK2.out _) 2).trans rfl, (blk_cell (blk_alloc BK2.out _) 3).trans rfl, (blk_cell (blk_alloc BK2.out _) 4).trans rfl, (blk_cell (blk_alloc BK2.out _) 5).trans rfl, (blk_cell (blk_alloc BK2.out _) 6).trans rfl, (blk_cell (blk_alloc BK2.out _) 7).trans rfl, (blk_cell (blk_alloc BK2.out _) 8).trans rfl⟩ (fun hHeld => ?_)
 clear hK K
 refine norm_ (a' := ?_) ?_ ?_
 rotate_left
 ·show Act.put _ (some 56) _ = _
  simp only [Act.put, List.setIfInBounds_toArray, List.set_cons_zero, List.set_cons_succ, i64_w, i32_w]
  rfl
 refine one_ (i := 24) (N := some 57) (zb 27 33554431) rfl rfl (by kernel_rfl) (by decide) (fun K hK => ?_)
 refine R_append_at k29 (w0 := w0) base (by rfl) (.tmp 54) (.tmp 56) 35 29 (.agg #[.int .i64 0, .int .i64 0, .int .i64 0, .int .i64 0, .int .i64 0, .int .i64 0, .int .i64 0, .int .i64 0, .slice none 0 0]) 88 (by rfl) Try.underlying35 info29 rfl (by decide) (by omega) (.slice Ai row.length ci) row x [.int .i64 x.f0, .int .i64 x.f1, .int .i64 x.f2, .int .i64 x.f3, .int .i64 x.f4, .int .i64 x.f5, .int .i64 x.f6, .int .i64 x.f7, .slice Ac x.f8.length cc] (fun k => oki k ∨ w.heap.size ≤ k) (fun k => w.heap.size + 1 ≤ k) (by rfl) _ (by rfl) (by repeat (first | (with_reducible exact blk_new _ _) | (with_reducible refine blk_drew ?_))) (k29_mkM _ base _ x (by exact Kd.R_alloc RA2.out _)) (fun k hk => ⟨.inr (by omega), fun e => by have := (HIN.out k e.symm).2.1; omega⟩) (fun k hk => .inr (by have := HW.out.size; first | omega | (simp at hk; omega))) (by exact Kd.R_alloc (Kd.R_mono HRW.out (fun _ hk => .inl hk)) _) (by repeat (first | (with_reducible exact HB4.out) | (refine Below.alloc ?_ (by have := HW.out.size; have := HBS.out.1; omega) _) | (with_reducible refine below_drew1 ?_))) (by have := HW.out.size; have := HBS.out.1; first | omega | (simp; omega)) (by have := HROW.out; omega) ?_
 intro v1 w5 ho hb hg hat
 rw [ER2.out] at ho
 obtain ⟨A1, c1_, rfl⟩ := Kd.R_slice ho
 have HC5 : Aside0 (w5.heap[g]? = some (.cells #[.string V.nm, .int .i64 V.pa, .int .i64 V.rt, vr, .slice (some ⟨q, 0, none⟩) bl.length cb, .slice (some ⟨s, 0, none⟩) st.length cs, .int .i64 (j : Int)] 64 (0, 0))) := ⟨blk_grown (by exact blk_alloc HCG.out _) hg (fun e => (HIN.out _ e.symm).2.2.1 rfl)⟩
 have HQ5 : Aside0 (w5.heap[q]? = some (.cells cellsq 35 (0, 0))) := ⟨blk_grown (by exact blk_alloc HQW.out _) hg (fun e => (HIN.out _ e.symm).2.2.2 rfl)⟩
 have HCI5 : Aside0 (w5.cell? ⟨q, j, none⟩ = some (.slice Ai row.length ci)) := ⟨hg.cell (by exact ((below_alloc (Below.refl _ _) _).cell (block_lt_of_cell HCW.out)).trans HCW.out) (fun e => (HIN.out _ e.symm).2.2.2 rfl)⟩
 have BK5 : Aside0 (w5.heap[w.heap.size]? = some (.cells #[.int .i64 x.f0, .int .i64 x.f1, .int .i64 x.f2, .int .i64 x.f3, .int .i64 x.f4, .int .i64 x.f5, .int .i64 x.f6, .int .i64 x.f7, .slice Ac x.f8.length cc] 29 (0, 0))) := ⟨blk_grown (by exact blk_alloc BK2.out _) hg (fun e => by have := (HIN.out _ e.symm).2.1; omega)⟩
 have HGR : Aside0 (W4.grownBy w5 (Value.slice Ai row.length ci).ownBlock) := ⟨(grown_of_below (by repeat (first | (with_reducible exact Below.refl _ _) | (with_reducible refine below_alloc ?_ _) | (with_reducible refine below_drew ?_))) _).trans hg⟩
 have HO5 := Aside0.mk ho
 have HB5 := Aside0.mk hb
 have z5 := blk_frozen HQ5.out j
 have cc5 := HCI5.out
 clear ho hb hg hat
 refine hK.out _ _ ⟨(blk_cell HC5.out 4).trans rfl, (blk_cell HC5.out 6).trans rfl, HCI5.out, (blk_cell BK5.out 0).trans rfl, (blk_cell BK5.out 1).trans rfl, (blk_cell BK5.out 2).trans rfl, (blk_cell BK5.out 3).trans rfl, (blk_cell BK5.out 4).trans rfl, (blk_cell BK5.out 5).trans rfl, (blk_cell BK5.out 6).trans rfl, (blk_cell BK5.out 7).trans rfl, (blk_cell BK5.out 8).trans rfl⟩ (fun hHeld => ?_)
 clear hK K
 refine norm_ (a' := ?_) ?_ ?_
 rotate_left
 ·show Act.put _ (some 57) _ = _
  simp only [Act.put, List.setIfInBounds_toArray, List.set_cons_zero, List.set_cons_succ, i64_w, i32_w]
  rfl
 refine pT 25 (some 58) (zb 27 67108863) (h := ?_)
 refine last_ (i := 26) (N := none) (zb 27 134217727) rfl rfl (by kernel_rfl) (by decide) (fun K hK => ?_)
 refine skip_ (w1 := ?_) (by rfl) rfl ?_ ?_
 rotate_left
 ·go_simp
  rfl
 refine hK.out _ _ ?_
 clear hK K
 refine done_ (by kernel_rfl) ?_
 have HT1 := Aside0.mk (HPT.out W4 w5 (.slice A1 row2.length c1_) (bl.set j row2) HW.out HGR.out HGR.out.size (HPU.out W4 w5 (.slice A1 row2.length c1_) HW.out HGR.out HO5.out))
 have BK6 : Aside0 ((w5.setCell ⟨q, j, none⟩ (.slice A1 row2.length c1_)).heap[w.heap.size]? = some (.cells #[.int .i64 x.f0, .int .i64 x.f1, .int .i64 x.f2, .int .i64 x.f3, .int .i64 x.f4, .int .i64 x.f5, .int .i64 x.f6, .int .i64 x.f7, .slice Ac x.f8.length cc] 29 (0, 0))) := ⟨blk_far BK5.out (p := ⟨q, j, none⟩) HQG.out.2.2.2 _⟩
 have HC6 : Aside0 ((w5.setCell ⟨q, j, none⟩ (.slice A1 row2.length c1_)).heap[g]? = some (.cells #[.string V.nm, .int .i64 V.pa, .int .i64 V.rt, vr, .slice (some ⟨q, 0, none⟩) bl.length cb, .slice (some ⟨s, 0, none⟩) st.length cs, .int .i64 (j : Int)] 64 (0, 0))) := ⟨blk_far HC5.out (p := ⟨q, j, none⟩) HQG.out.1 _⟩
 have HB6 : Aside0 (Below base w0 (w5.setCell ⟨q, j, none⟩ (.slice A1 row2.length c1_))) := ⟨HB5.out.setCell (by exact HBS.out.2.2) _⟩
 generalize w5.setCell ⟨q, j, none⟩ (.slice A1 row2.length c1_) = W6 at HT1 BK6 HC6 HB6 ⊢
 clear HO5 HB5 HGR BK5 HCI5 HQ5 HC5 z5 cc5 c4 c6 cci hHeld k0 k1 k2 k3 k4 k5 k6 k7 k8
 have m0 := blk_cell BK6.out 0
 simp only [List.getElem?_toArray, List.getElem?_cons_zero, List.getElem?_cons_succ] at m0
 cases e_ with
 | false =>
  go_wp2_with (first | (go_at_call 46; ((with_reducible refine (instr_Ends.calls x.f0 _ _ HE.out).mono ?_); rintro e w' ⟨rfl, ⟨nd, rfl⟩⟩)))
  go_ret
  exact ⟨rfl, pw_below_drewN HB6.out nd, by rw [HVB.out]; exact HT1.out.drewN nd⟩
 | true =>
  go_upto_region 6 with (first | (go_at_call 46; ((with_reducible refine (instr_Ends.calls x.f0 _ _ HE.out).mono ?_); rintro e w' ⟨rfl, ⟨nd, rfl⟩⟩)))
  obtain ⟨hk1, ok1, hk2, hBA⟩ := HT1.out
  have hBA2 := hBA
  obtain ⟨_, _, _, f', vr', vb', vs', hc', hr', hB', ht'⟩ := hBA2
  have e5 := blk_cell hc' 5
  have e5' := blk_cell HC6.out 5
  simp only [List.getElem?_toArray, List.getElem?_cons_zero, List.getElem?_cons_succ] at e5 e5'
  obtain rfl : vs' = .slice (some ⟨s, 0, none⟩) st.length cs := Option.some.inj (e5.symm.trans e5')
  have p3 : (j : Int) < (st.length : Int) := by have := HJL.out.2.1; omega
  obtain ⟨q', eq_, cq⟩ := Kd.at_int (Kd.R_reads' ht').2.2 (j : Int) p1 p3
  injection eq_ with eq_
  subst eq_
  rw [add_plain, Int.toNat_natCast] at cq
  obtain ⟨cells2, hcells2⟩ := Kd.R_typed ht' s rfl
  have zq := blk_frozen hcells2 j
  have HST : Aside0 (Turned base ok w (((W6.drewN nd).drew).setCell ⟨s, j, none⟩ (.int .i64 2)) g ⟨V.nm, V.pa, V.rt, V.rg, bl.set j row2, st.set j 2, (j : Int)⟩) := ⟨(HT1.out.drewN (nd + 1)).then_ (fun ok' h => bt_st h (n := st.length) (c := cs) e5' j 2)⟩
  have HS5 := Aside0.mk e5'
  have HS6 := Aside0.mk ((blk_cell HC6.out 6).trans rfl)
  have HCQ := Aside0.mk cq
  have HBS2 : Aside0 (base ≤ s) := ⟨Kd.R_base ht' s rfl⟩
  clear hk1 hk2 hBA hc' hr' hB' ht' e5 hcells2
  refine start_ (n := 10) (S := fun w' => w'.cell? ⟨g, 5, none⟩ = some (.slice (some ⟨s, 0, none⟩) st.length cs) ∧ w'.cell? ⟨g, 6, none⟩ = some (.int .i64 (j : Int))) (ds := [9]) #[false, false, false, false, false, false, false, false, false, false] (by kernel_rfl) rfl rfl ⟨HS5.out, HS6.out⟩ (fun hHeld => ?_)
  refine pT 0 (some 62) (zb 10 1) (h := ?_)
  refine pT 1 (some 63) (zb 10 3) (h := ?_)
  refine pT 2 (some 64) (zb 10 7) (h := ?_)
  refine pT 4 (some 66) (zb 10 23) (h := ?_)
  refine pT 5 (some 67) (zb 10 55) (h := ?_)
  refine pT 6 (some 68) (zb 10 119) (h := ?_)
  refine take_ (i := 3) (N := some 65) (v := ?_) (a' := ?_) (zb 10 127) rfl rfl (by kernel_rfl) (fun _ _ _ h => h) (Or.inl ⟨by rfl, ?_⟩) hHeld ?_ ?_
  rotate_left
  ·rintro w' ⟨s0, s1⟩
   go_simp
   with_reducible rfl
  rotate_left
  ·simp only [Act.put, List.setIfInBounds_toArray, List.set_cons_zero, List.set_cons_succ, i64_w, i32_w]
   rfl
  refine take_ (i := 7) (N := some 69) (v := ?_) (a' := ?_) (zb 10 255) rfl rfl (by kernel_rfl) (fun _ _ _ h => h) (Or.inl ⟨by rfl, ?_⟩) hHeld ?_ ?_
  rotate_left
  ·rintro w' ⟨s0, s1⟩
   go_simp
   with_reducible rfl
  rotate_left
  ·simp only [Act.put, List.setIfInBounds_toArray, List.set_cons_zero, List.set_cons_succ, i64_w, i32_w]
   rfl
  refine pT 8 (some 70) (zb 10 511) (h := ?_)
  refine last_ (i := 9) (N := none) (zb 10 1023) rfl rfl (by kernel_rfl) (by decide) (fun K hK => ?_)
  refine skip_ (w1 := ?_) (by rfl) rfl ?_ ?_
  rotate_left
  ·go_simp
   rfl
  refine hK.out _ _ ?_
  clear hK K
  refine done_ (by kernel_rfl) ?_
  go_wp2
  go_ret
  exact ⟨rfl, ((below_drew1 (pw_below_drewN HB6.out nd)).setCell (by exact HBS2.out) _), by rw [HVB.out]; exact HST.out⟩
end
end Go.Proofs.Ytomopjomapkmjaa.B
set_option linter.unusedVariables false
set_option linter.unusedSimpArgs false
namespace Go.Proofs.Ytomopjomapkmjaa.B
open Go Go.RowKit Go.Proofs.YtomopjomapkmjaaW.PrintWords Go.Proofs.YtomopjomapkmjaaW.PrintLast Go.Proofs.YtomopjomapkmjaaW.PrintMore Go.Proofs.Ytomopjomapkmjaa.Pure
section
variable {base g : Nat} {ok : Nat → Prop} {w w0 w1 w2 W : World}
theorem any_true {l : List Int} {p : Int → Bool} {j : Nat} (hj : j < l.length) (h : p (l.getD j 0) = true) : l.any p = true := by
 rw [List.any_eq_true]
 refine ⟨l.getD j 0, ?_, h⟩
 rw [List.getD_eq_getElem?_getD, List.getElem?_eq_getElem hj]
 exact List.getElem_mem hj
theorem any_false {l : List Int} {p : Int → Bool} (h : ∀ j, j < l.length → p (l.getD j 0) = false) : l.any p = false := by
 rw [List.any_eq_false]
 intro y hy
 obtain ⟨j, hj, rfl⟩ := List.getElem_of_mem hy
 have := h j hj
 rw [List.getD_eq_getElem?_getD, List.getElem?_eq_getElem hj] at this
 simpa using this
set_option maxHeartbeats 1000000 in
theorem New1_at (k : Int) (w : World) : Calls Try.prog 42 #[.int .i64 k] w fun e w' => e = .returned (.bool (!kindB k)) ∧ w = w' := by
 have HK := Aside0.mk (kind_at k w)
 obtain ⟨o, eo⟩ : ∃ o, kindB k = o := ⟨_, rfl⟩
 rw [eo] at HK
 rw [eo]
 clear eo
 cases o
 all_goals
  go_enter Try.func42, Try.ntmps42
  go_wp2_with (go_at_call 40; ((with_reducible refine HK.out.mono ?_); rintro e w' ⟨rfl, rfl⟩))
  go_ret
  exact ⟨rfl, rfl⟩
set_option maxHeartbeats 1000000 in
theorem Func1_at (k : Int) (w : World) : Calls Try.prog 48 #[.int .i64 k] w fun e w' => e = .returned (.bool (!decide (k = 2))) ∧ w = w' := by
 by_cases h : k = 2
 ·have t1 : decide (k = 2) = true := decide_eq_true h
  have t2 : (k == 2) = true := beq_iff_eq.mpr h
  have t3 : (k != 2) = false := by simp [h]
  rw [t1]
  clear h
  go_enter Try.func48, Try.ntmps48
  go_wp2
  go_ret
  exact ⟨rfl, rfl⟩
 ·have t1 : decide (k = 2) = false := decide_eq_false h
  have t2 : (k == 2) = false := beq_eq_false_iff_ne.mpr h
  have t3 : (k != 2) = true := by simp [h]
  rw [t1]
  clear h
  go_enter Try.func48, Try.ntmps48
  go_wp2
  go_ret
  exact ⟨rfl, rfl⟩
set_option maxHeartbeats 2000000 in
theorem IndexNew (A : Option Addr) (c : Nat) (l : List Int) (w : World) (hC : (Kd.int .i64).C w A l.length l) (hc : l.length ≤ c) :
  Calls Try.prog 58 #[.slice A l.length c, .func (.func 42) #[] #[]] w fun e w' => (∃ r : Int, e = .returned (.int .i64 r) ∧ decide (0 ≤ r) = l.any (fun k => !kindB k)) ∧ w = w' := by
 have hm := hC.2.1
 have HC := Aside0.mk hC
 have HM := Aside0.mk hm
 clear hC hc
 go_enter Try.func58, Try.ntmps58
 go_wp2
 go_loop [8] (fun v8 => ∃ j : Nat, v8 = .int .i64 (j : Int) ∧ Aside0 (j ≤ l.length ∧ ∀ i, i < j → (fun k => !kindB k) (l.getD i 0) = false)) (fun v8 => l.length - (intOf v8).toNat)
 case atStart => exact ⟨0, rfl, ⟨Nat.zero_le _, fun i hi => absurd hi (Nat.not_lt_zero i)⟩⟩
 case round =>
  obtain ⟨j, rfl, HJ⟩ := hrel
  by_cases hlt : j < l.length
  ·have HLT := Aside0.mk hlt
   have t1 : decide ((j : Int) < (l.length : Int)) = true := decide_eq_true (by omega)
   have t2 : decide (j < l.length) = true := decide_eq_true hlt
   have p1 : (0 : Int) ≤ (j : Int) := by omega
   have p2 : (j : Int) < (l.length : Int) := by omega
   have hwr : wrap64 ((j : Int) + 1) = ((j + 1 : Nat) : Int) := by have := HM.out; unfold wrap64; omega
   have HWR := Aside0.mk hwr
   clear hwr
   obtain ⟨q, eq_, cq⟩ := Kd.at_int HC.out (j : Int) p1 p2
   subst eq_
   have e0 : rd l (j : Int) = l.getD j 0 := rfl
   rw [e0] at cq
   (try simp only [Int.toNat_natCast] at cq)
   clear e0
   obtain ⟨y, hy⟩ : ∃ y, l.getD j 0 = y := ⟨_, rfl⟩
   rw [hy] at cq
   have HK := Aside0.mk (New1_at y w)
   obtain ⟨b, hb⟩ : ∃ b, (fun k => !kindB k) y = b := ⟨_, rfl⟩
   have hb' := hb
   dsimp only at hb'
   rw [hb'] at HK
   clear hb'
   cases b with
   | true =>
    have HA := Aside0.mk (any_true (p := (fun k => !kindB k)) hlt (by rw [hy]; exact hb))
    clear hb hy
    go_wp2_with (go_at_call 42; ((with_reducible refine HK.out.mono ?_); rintro e w' ⟨rfl, rfl⟩))
    go_ret
    exact ⟨⟨_, rfl, by rw [HA.out]; exact decide_eq_true (by omega)⟩, rfl⟩
   | false =>
    have HY : Aside0 ((fun k => !kindB k) (l.getD j 0) = false) := ⟨by rw [hy]; exact hb⟩
    clear hb hy
    go_wp2_with (go_at_call 42; ((with_reducible refine HK.out.mono ?_); rintro e w' ⟨rfl, rfl⟩))
    go_round
    case rel => exact ⟨j + 1, by first | (rw [HWR.out]; done) | (rw [HWR.out]) | go_num, ⟨by have := HLT.out; omega, fun i hi => by rcases Nat.lt_succ_iff_lt_or_eq.1 hi with h | rfl; exact HJ.out.2 i h; exact HY.out⟩⟩
    case measure => exact bd_meas _ _ _ (by first | exact HWR.out | omega) HLT.out
  have t1 : decide ((j : Int) < (l.length : Int)) = false := decide_eq_false (by omega)
  have t2 : decide (j < l.length) = false := decide_eq_false hlt
  have HA := Aside0.mk (any_false (p := (fun k => !kindB k)) (fun i hi => HJ.out.2 i (by omega)))
  go_wp2
  go_ret
  exact ⟨⟨_, rfl, by rw [HA.out]; rfl⟩, rfl⟩
set_option maxHeartbeats 1000000 in
theorem HasNew (A : Option Addr) (c : Nat) (l : List Int) (w : World) (hC : (Kd.int .i64).C w A l.length l) (hc : l.length ≤ c) :
  Calls Try.prog 41 #[.slice A l.length c, .func (.func 42) #[] #[]] w fun e w' => e = .returned (.bool (l.any (fun k => !kindB k))) ∧ w = w' := by
 have HI := Aside0.mk (IndexNew A c l w hC hc)
 obtain ⟨b, hb⟩ : ∃ b, l.any (fun k => !kindB k) = b := ⟨_, rfl⟩
 rw [hb] at HI
 rw [hb]
 clear hb hC hc
 go_enter Try.func41, Try.ntmps41
 go_wp2_with (go_at_call 58; ((with_reducible refine HI.out.mono ?_); rintro e w' ⟨⟨r, rfl, hr⟩, rfl⟩))
 go_ret
 exact ⟨by first | rfl | exact ret_b hr | exact ret_b rfl, rfl⟩
set_option maxHeartbeats 2000000 in
theorem IndexFunc (A : Option Addr) (c : Nat) (l : List Int) (w : World) (hC : (Kd.int .i64).C w A l.length l) (hc : l.length ≤ c) :
  Calls Try.prog 58 #[.slice A l.length c, .func (.func 48) #[] #[]] w fun e w' => (∃ r : Int, e = .returned (.int .i64 r) ∧ decide (0 ≤ r) = l.any (fun k => !decide (k = 2))) ∧ w = w' := by
 have hm := hC.2.1
 have HC := Aside0.mk hC
 have HM := Aside0.mk hm
 clear hC hc
 go_enter Try.func58, Try.ntmps58
 go_wp2
 go_loop [8] (fun v8 => ∃ j : Nat, v8 = .int .i64 (j : Int) ∧ Aside0 (j ≤ l.length ∧ ∀ i, i < j → (fun k => !decide (k = 2)) (l.getD i 0) = false)) (fun v8 => l.length - (intOf v8).toNat)
 case atStart => exact ⟨0, rfl, ⟨Nat.zero_le _, fun i hi => absurd hi (Nat.not_lt_zero i)⟩⟩
 case round =>
  obtain ⟨j, rfl, HJ⟩ := hrel
  by_cases hlt : j < l.length
  ·have HLT := Aside0.mk hlt
   have t1 : decide ((j : Int) < (l.length : Int)) = true := decide_eq_true (by omega)
   have t2 : decide (j < l.length) = true := decide_eq_true hlt
   have p1 : (0 : Int) ≤ (j : Int) := by omega
   have p2 : (j : Int) < (l.length : Int) := by omega
   have hwr : wrap64 ((j : Int) + 1) = ((j + 1 : Nat) : Int) := by have := HM.out; unfold wrap64; omega
   have HWR := Aside0.mk hwr
   clear hwr
   obtain ⟨q, eq_, cq⟩ := Kd.at_int HC.out (j : Int) p1 p2
   subst eq_
   have e0 : rd l (j : Int) = l.getD j 0 := rfl
   rw [e0] at cq
   (try simp only [Int.toNat_natCast] at cq)
   clear e0
   obtain ⟨y, hy⟩ : ∃ y, l.getD j 0 = y := ⟨_, rfl⟩
   rw [hy] at cq
   have HK := Aside0.mk (Func1_at y w)
   obtain ⟨b, hb⟩ : ∃ b, (fun k => !decide (k = 2)) y = b := ⟨_, rfl⟩
   have hb' := hb
   dsimp only at hb'
   rw [hb'] at HK
   clear hb'
   cases b with
   | true =>
    have HA := Aside0.mk (any_true (p := (fun k => !decide (k = 2))) hlt (by rw [hy]; exact hb))
    clear hb hy
    go_wp2_with (go_at_call 48; ((with_reducible refine HK.out.mono ?_); rintro e w' ⟨rfl, rfl⟩))
    go_ret
    exact ⟨⟨_, rfl, by rw [HA.out]; exact decide_eq_true (by omega)⟩, rfl⟩
   | false =>
    have HY : Aside0 ((fun k => !decide (k = 2)) (l.getD j 0) = false) := ⟨by rw [hy]; exact hb⟩
    clear hb hy
    go_wp2_with (go_at_call 48; ((with_reducible refine HK.out.mono ?_); rintro e w' ⟨rfl, rfl⟩))
    go_round
    case rel => exact ⟨j + 1, by first | (rw [HWR.out]; done) | (rw [HWR.out]) | go_num, ⟨by have := HLT.out; omega, fun i hi => by rcases Nat.lt_succ_iff_lt_or_eq.1 hi with h | rfl; exact HJ.out.2 i h; exact HY.out⟩⟩
    case measure => exact bd_meas _ _ _ (by first | exact HWR.out | omega) HLT.out
  have t1 : decide ((j : Int) < (l.length : Int)) = false := decide_eq_false (by omega)
  have t2 : decide (j < l.length) = false := decide_eq_false hlt
  have HA := Aside0.mk (any_false (p := (fun k => !decide (k = 2))) (fun i hi => HJ.out.2 i (by omega)))
  go_wp2
  go_ret
  exact ⟨⟨_, rfl, by rw [HA.out]; rfl⟩, rfl⟩
set_option maxHeartbeats 1000000 in
theorem HasFunc (A : Option Addr) (c : Nat) (l : List Int) (w : World) (hC : (Kd.int .i64).C w A l.length l) (hc : l.length ≤ c) :
  Calls Try.prog 41 #[.slice A l.length c, .func (.func 48) #[] #[]] w fun e w' => e = .returned (.bool (l.any (fun k => !decide (k = 2)))) ∧ w = w' := by
 have HI := Aside0.mk (IndexFunc A c l w hC hc)
 obtain ⟨b, hb⟩ : ∃ b, l.any (fun k => !decide (k = 2)) = b := ⟨_, rfl⟩
 rw [hb] at HI
 rw [hb]
 clear hb hC hc
 go_enter Try.func41, Try.ntmps41
 go_wp2_with (go_at_call 58; ((with_reducible refine HI.out.mono ?_); rintro e w' ⟨⟨r, rfl, hr⟩, rfl⟩))
 go_ret
 exact ⟨by first | rfl | exact ret_b hr | exact ret_b rfl, rfl⟩
end
end Go.Proofs.Ytomopjomapkmjaa.B
set_option linter.unusedVariables false
set_option linter.unusedSimpArgs false
namespace Go.Proofs.Ytomopjomapkmjaa.B
open Go Go.RowKit Go.Proofs.YtomopjomapkmjaaW.PrintWords Go.Proofs.YtomopjomapkmjaaW.PrintLast Go.Proofs.YtomopjomapkmjaaW.PrintMore Go.Proofs.Ytomopjomapkmjaa.Pure
section
variable {base g : Nat} {ok : Nat → Prop} {w w0 w1 w2 W : World} {V : BV} {nm : ByteArray} {pa rt at_ : Int} {vr vb vs : Value} {rg st : List Int} {bl : List (List S29)} {f : Nat → Nat}
theorem BAt.lower {base' : Nat} (h : BAt base ok w g V) (hb : base' ≤ base) : BAt base' ok w g V := by
 obtain ⟨h1, h2, h3, f, vr, vb, vs, hc, hr, hB, ht⟩ := h
 exact ⟨by omega, h2, fun k hk => ⟨by have := (h3 k hk).1; omega, (h3 k hk).2⟩, f, vr, vb, vs, hc, Kd.R_lower hr hb, Kd.S_lower hB hb, Kd.R_lower ht hb⟩
theorem own_one {e : Nat} {B : Nat} {u : Value} (hb : base ≤ B) (h : W.heap[B]? = some (.cells #[u] e (0, 0))) : W.ownsRow base e 1 (.slice (some ⟨B, 0, none⟩) 1 1) 1 [u] :=
 ⟨rfl, .inr ⟨B, 1, #[u], rfl, hb, h, Nat.le_refl _, by unfold maxLen; omega, rfl, rfl⟩⟩
theorem bt_new {okr : Nat → Prop} {B S : Nat} (h1 : base ≤ g) (hB1 : base ≤ B) (hS1 : base ≤ S)
  (hb : W.heap[g]? = some (.cells #[.string nm, .int .i64 pa, .int .i64 rt, vr, .slice (some ⟨B, 0, none⟩) 1 1, .slice (some ⟨S, 0, none⟩) 1 1, .int .i64 0] 64 (0, 0)))
  (hB : W.heap[B]? = some (.cells #[.slice none 0 0] 35 (0, 0))) (hS : W.heap[S]? = some (.cells #[.int .i64 1] 3 (0, 0)))
  (hr : (Kd.int .i64).R 3 W base okr vr rg) (hn : ∀ k, okr k → base ≤ k ∧ k < W.heap.size ∧ k ≠ g ∧ k ≠ B ∧ k ≠ S) :
  BAt base (fun k => okr k ∨ k = B ∨ k = S) W g ⟨nm, pa, rt, rg, [[]], [1], 0⟩ := by
 have gB : g ≠ B := blk_ne hb hB (by decide)
 have gS : g ≠ S := blk_ne hb hS (by decide)
 have BS : B ≠ S := blk_ne hB hS (by decide)
 refine ⟨h1, ?_, ?_, fun k => if k = B then 1 else if k = S then 2 else 0, vr, .slice (some ⟨B, 0, none⟩) 1 1, .slice (some ⟨S, 0, none⟩) 1 1, hb, ?_, ?_, ?_⟩
 ·rintro (h | h | h)
  ·exact (hn g h).2.2.1 rfl
  ·exact gB h
  ·exact gS h
 ·rintro k (h | h | h)
  ·exact ⟨(hn k h).1, (hn k h).2.1⟩
  ·subst h; exact ⟨hB1, blk_lt hB⟩
  ·subst h; exact ⟨hS1, blk_lt hS⟩
 ·exact Kd.R_mono hr (fun k hk => ⟨.inl hk, (if_neg (hn k hk).2.2.2.1).trans (if_neg (hn k hk).2.2.2.2)⟩)
 ·refine ⟨fun _ => 0, fun k hk => ?_, [.slice none 0 0], own_one hB1 hB, ⟨rfl, fun j p hj => ?_⟩⟩
  ·obtain rfl : B = k := by simpa [Value.ownBlock] using hk
   exact ⟨.inr (.inl rfl), if_pos rfl⟩
  ·obtain rfl : j = 0 := by
    have := (List.getElem?_eq_some_iff.1 hj).1
    simp at this
    omega
   obtain rfl : p = ([], 0) := by simpa using hj.symm
   exact ⟨_, rfl, Kd.R_nil _ _ _ _ _⟩
 ·refine ⟨fun k hk => ?_, [.int .i64 1], own_one hS1 hS, ⟨rfl, fun j p hj => ?_⟩⟩
  ·obtain rfl : S = k := by simpa [Value.ownBlock] using hk
   exact ⟨.inr (.inr rfl), (if_neg (Ne.symm BS)).trans (if_pos rfl)⟩
  ·obtain rfl : j = 0 := by
    have := (List.getElem?_eq_some_iff.1 hj).1
    simp at this
    omega
   obtain rfl : p = 1 := by simpa using hj.symm
   exact rfl
theorem heap_four (w : World) (o1 o2 o3 o4 : Obj) : ((((w.alloc o1).alloc o2).alloc o3).alloc o4).heap[w.heap.size]? = some o1 ∧ ((((w.alloc o1).alloc o2).alloc o3).alloc o4).heap[w.heap.size + 1 + 1]? = some o3 ∧ ((((w.alloc o1).alloc o2).alloc o3).alloc o4).heap[w.heap.size + 1 + 1 + 1]? = some o4 :=
 ⟨blk_alloc (blk_alloc (blk_alloc (blk_new w o1) o2) o3) o4, blk_alloc (by simpa using blk_new ((w.alloc o1).alloc o2) o3) o4, by simpa using blk_new (((w.alloc o1).alloc o2).alloc o3) o4⟩
def newB (params : List Int) (ret : Int) : Bool := decide (params.length ≤ 8) && (kindB ret && !params.any (fun k => !kindB k))
set_option maxHeartbeats 2000000 in
theorem New_bad (A : Option Addr) (c : Nat) (nm : ByteArray) (params : List Int) (ret : Int) (w : World) (hC : (Kd.int .i64).C w A params.length params) (hc : params.length ≤ c) (hn : newB params ret = false) :
  Calls Try.prog 11 #[.string nm, .slice A params.length c, .int .i64 ret] w fun e w' => e = .returned (.pointer none) ∧ w = w' := by
 have HK := Aside0.mk (kind_at ret w)
 have HH := Aside0.mk (HasNew A c params w hC hc)
 unfold newB at hn
 clear hC hc
 obtain ⟨kb, ek⟩ : ∃ b, kindB ret = b := ⟨_, rfl⟩
 rw [ek] at hn HK
 obtain ⟨ab, ea⟩ : ∃ b, (params.any fun k => !kindB k) = b := ⟨_, rfl⟩
 rw [ea] at hn HH
 clear ek ea
 by_cases h8 : params.length ≤ 8
 ·have t1 : decide ((8 : Int) < (params.length : Int)) = false := decide_eq_false (by omega)
  have t2 : decide (8 < params.length) = false := decide_eq_false (by omega)
  rw [decide_eq_true h8, Bool.true_and] at hn
  cases kb with
  | false =>
   clear hn
   go_enter Try.func11, Try.ntmps11
   go_wp2_with (first | (go_at_call 40; ((with_reducible refine HK.out.mono ?_); rintro e w' ⟨rfl, rfl⟩)) | (go_at_call 41; ((with_reducible refine HH.out.mono ?_); rintro e w' ⟨rfl, rfl⟩)))
   go_ret
   exact ⟨rfl, rfl⟩
  | true =>
   obtain rfl : ab = true := by simpa using hn
   clear hn
   go_enter Try.func11, Try.ntmps11
   go_wp2_with (first | (go_at_call 40; ((with_reducible refine HK.out.mono ?_); rintro e w' ⟨rfl, rfl⟩)) | (go_at_call 41; ((with_reducible refine HH.out.mono ?_); rintro e w' ⟨rfl, rfl⟩)))
   go_ret
   exact ⟨rfl, rfl⟩
 ·have t1 : decide ((8 : Int) < (params.length : Int)) = true := decide_eq_true (by omega)
  have t2 : decide (8 < params.length) = true := decide_eq_true (by omega)
  clear hn
  go_enter Try.func11, Try.ntmps11
  go_wp2_with (first | (go_at_call 40; ((with_reducible refine HK.out.mono ?_); rintro e w' ⟨rfl, rfl⟩)) | (go_at_call 41; ((with_reducible refine HH.out.mono ?_); rintro e w' ⟨rfl, rfl⟩)))
  go_ret
  exact ⟨rfl, rfl⟩
set_option maxHeartbeats 4000000 in
theorem New_at (A : Option Addr) (c : Nat) (nm : ByteArray) (params : List Int) (ret : Int) (w : World) (hC : (Kd.int .i64).C w A params.length params) (hc : params.length ≤ c) (hn : newB params ret = true) :
  Calls Try.prog 11 #[.string nm, .slice A params.length c, .int .i64 ret] w fun e w' => ∃ g ok, e = .returned (.pointer (some ⟨g, 0, none⟩)) ∧ BAt w.heap.size ok w' g ⟨nm, (params.length : Int), ret, params, [[]], [1], 0⟩ ∧ Below w.heap.size w w' := by
 have HK := Aside0.mk (kind_at ret w)
 have HH := Aside0.mk (HasNew A c params w hC hc)
 unfold newB at hn
 simp only [Bool.and_eq_true, decide_eq_true_eq, Bool.not_eq_true'] at hn
 obtain ⟨h8, hk, ha⟩ := hn
 rw [hk] at HK
 rw [ha] at HH
 have t1 : decide ((8 : Int) < (params.length : Int)) = false := decide_eq_false (by omega)
 have t2 : decide (8 < params.length) = false := decide_eq_false (by omega)
 have HCL : Aside0 (slices_Clone_int_int.f params = some params) := ⟨if_pos (by omega)⟩
 have HC := Aside0.mk hC
 have Hc := Aside0.mk hc
 clear hC hc hk ha h8
 go_enter Try.func11, Try.ntmps11
 go_wp2_with (first | (go_at_call 40; ((with_reducible refine HK.out.mono ?_); rintro e w' ⟨rfl, rfl⟩)) | (go_at_call 41; ((with_reducible refine HH.out.mono ?_); rintro e w' ⟨rfl, rfl⟩)) | (go_at_call 43; ((with_reducible refine (slices_Clone_int_int.calls A c params params _ HC.out Hc.out HCL.out).mono ?_); rintro e w1 ⟨v_, rfl, hR_, hb⟩; obtain ⟨Ac, cc, rfl⟩ := Kd.R_slice hR_; have HR := Aside0.mk hR_; have HB := Aside0.mk hb; clear hR_ hb)))
 go_ret
 obtain ⟨e1, e3, e4⟩ := heap_four w1 (.cells #[.slice none 0 0] 35) (.cells #[.string nm, .int .i64 (params.length : Int), .int .i64 ret, .slice Ac params.length cc, .slice (some ⟨w1.heap.size, 0, none⟩) 1 1] 32) (.cells #[.int .i64 1] 3) (.cells #[.string nm, .int .i64 (params.length : Int), .int .i64 ret, .slice Ac params.length cc, .slice (some ⟨w1.heap.size, 0, none⟩) 1 1, .slice (some ⟨w1.heap.size + 1 + 1, 0, none⟩) 1 1, .int .i64 0] 64)
 have hsz := HB.out.size
 refine ⟨_, _, rfl, bt_new (okr := fun k => w.heap.size ≤ k ∧ k < w1.heap.size) (by omega) hsz (by omega) e4 e1 e3 (Kd.R_alloc (Kd.R_alloc (Kd.R_alloc (Kd.R_alloc (Kd.R_mono (Kd.R_bound HR.out) (fun k hk => ⟨hk.2.1, hk.2.2.1⟩)) _) _) _) _) (fun k hk => ⟨hk.1, by simp; omega, by omega, by omega, by omega⟩), below_alloc (below_alloc (below_alloc (below_alloc HB.out _) _) _) _⟩
end
end Go.Proofs.Ytomopjomapkmjaa.B
set_option linter.unusedVariables false
set_option linter.unusedSimpArgs false
namespace Go.Proofs.Ytomopjomapkmjaa.B
open Go Go.RowKit Go.Proofs.YtomopjomapkmjaaW.PrintWords Go.Proofs.YtomopjomapkmjaaW.PrintLast Go.Proofs.YtomopjomapkmjaaW.PrintMore Go.Proofs.Ytomopjomapkmjaa.Pure
def flagg {α : Type} (d : Kd α) (Q : α → List Value → Prop) (hQ : ∀ x cs, Q x cs → cs.length = d.sz ∧ ∀ u ∈ cs, u.oneCell' = true) : Kd (α × Bool) where
 sz := d.sz
 E := d.E
 K := fun w x cs => (x.2 = true ∧ d.K w x.1 cs) ∨ (x.2 = false ∧ Q x.1 cs)
 M := fun w base ok x cs => (x.2 = true ∧ d.M w base ok x.1 cs) ∨ (x.2 = false ∧ Q x.1 cs)
 K_len := fun h => h.elim (fun h => d.K_len h.2) (fun h => (hQ _ _ h.2).1)
 K_one := fun h => h.elim (fun h => d.K_one h.2) (fun h => (hQ _ _ h.2).2)
 K_below := fun hb h => h.imp (fun h => ⟨h.1, d.K_below hb h.2⟩) (fun h => h)
 K_of_M := fun h => h.imp (fun h => ⟨h.1, d.K_of_M h.2⟩) (fun h => h)
 M_mono := fun hok h => h.imp (fun h => ⟨h.1, d.M_mono hok h.2⟩) (fun h => h)
 M_bound := fun h => h.imp (fun h => ⟨h.1, d.M_bound h.2⟩) (fun h => h)
 M_move := fun hm h => h.imp (fun h => ⟨h.1, d.M_move hm h.2⟩) (fun h => h)
 M_lower := fun hb h => h.imp (fun h => ⟨h.1, d.M_lower hb h.2⟩) (fun h => h)
section
variable {α : Type} {d : Kd α} {Q : α → List Value → Prop} {hQ : ∀ x cs, Q x cs → cs.length = d.sz ∧ ∀ u ∈ cs, u.oneCell' = true} {e base : Nat} {ok : Nat → Prop} {w W : World} {v : Value} {xs : List α}
theorem flagg_own {x : α} {cs : List Value} (h : d.M w base ok x cs) : (flagg d Q hQ).M w base ok (x, true) cs := .inl ⟨rfl, h⟩
theorem flagg_told {x : α} {cs : List Value} (h : Q x cs) : (flagg d Q hQ).M w base ok (x, false) cs := .inr ⟨rfl, h⟩
theorem flagg_owned {x : α} {cs : List Value} (h : (flagg d Q hQ).M w base ok (x, true) cs) : d.M w base ok x cs := h.elim (fun h => h.2) (fun h => absurd h.1 (by simp))
theorem flagg_was {x : α} {cs : List Value} (h : (flagg d Q hQ).M w base ok (x, false) cs) : Q x cs := h.elim (fun h => absurd h.1 (by simp)) (fun h => h.2)
theorem R_all (h : (flagg d Q hQ).R e w base ok v (xs.map fun x => (x, true))) : d.R e w base ok v xs := by
 obtain ⟨h0, inner, ho, hr⟩ := h
 rw [List.length_map] at ho
 refine ⟨h0, inner, ho, ?_, fun j p hj => ?_⟩
 ·have := hr.1
  rw [List.length_map] at this
  exact this
 ·exact flagg_owned (hr.2 j (p, true) (by rw [List.getElem?_map, hj]; rfl))
theorem S_all (h : Kd.S (flagg d Q hQ) e w base ok v (xs.map fun x => (x, true))) : Kd.S d e w base ok v xs := by
 obtain ⟨f, h0, inner, ho, hr⟩ := h
 rw [List.length_zipIdx, List.length_map] at ho
 refine ⟨f, h0, inner, ?_, ?_, fun j p hj => ?_⟩
 ·rw [List.length_zipIdx]; exact ho
 ·have := hr.1
  rw [List.length_zipIdx, List.length_map] at this
  rw [List.length_zipIdx]
  exact this
 ·rw [List.getElem?_zipIdx] at hj
  obtain ⟨y, hy, rfl⟩ := Option.map_eq_some_iff.1 hj
  exact show d.M w base (fun k => (ok k ∧ some k ≠ v.ownBlock) ∧ f k = 0 + j) y _ from flagg_owned (hQ := hQ) (hr.2 j ((y, true), 0 + j) (by rw [List.getElem?_zipIdx, List.getElem?_map, hy]; rfl))
theorem R_told {d0 : Kd α} (hs : d0.sz = d.sz) (hM : ∀ {W : World} {ok' : Nat → Prop} {x : α} {cs : List Value}, d0.M W base ok' x cs → Q x cs) (h : d0.R e w base ok v xs) : (flagg d Q hQ).R e w base ok v (xs.map fun x => (x, false)) := by
 obtain ⟨h0, inner, ho, hr⟩ := h
 have hs' : (flagg d Q hQ).sz = d0.sz := hs.symm
 refine ⟨h0, inner, ?_, ?_, fun j p hj => ?_⟩
 ·rw [List.length_map, hs']; exact ho
 ·rw [List.length_map, hs']; exact hr.1
 ·rw [List.getElem?_map] at hj
  obtain ⟨y, hy, rfl⟩ := Option.map_eq_some_iff.1 hj
  rw [hs']
  exact flagg_told (hM (hr.2 j y hy))
theorem reads_told {A : Option Addr} {n : Nat} (h : d.C w A n xs) (hb : Below w.heap.size w W) : ReadsRow (d.K w) d.sz W A n xs := by
 obtain ⟨hl, hm, hn⟩ := h
 refine ⟨hl, hm, fun hp => ?_⟩
 obtain ⟨ad, rfl, hc⟩ := hn hp
 refine ⟨ad, rfl, fun j p hj => ?_⟩
 obtain ⟨c, hcl, hK, hcc⟩ := hc j p hj
 exact ⟨c, hcl, hK, fun i u hu => (hb.cell (block_lt_of_cell (hcc i u hu))).trans (hcc i u hu)⟩
end
def kJ (w0 : World) : Kd (S29 × Bool) := flagg k29 (fun x cs => k29.K w0 x cs) (fun _ _ h => ⟨k29.K_len h, k29.K_one h⟩)
def kO (w0 : World) : Kd (List (S29 × Bool) × Bool) := flagg (Kd.slice 29 (kJ w0)) (fun l cs => kB.K w0 (l.map (·.1)) cs) (fun _ _ h => ⟨kB.K_len h, kB.K_one h⟩)
section
variable {base q n cb : Nat} {okF : Nat → Prop} {w0 W : World} {L : List (List (S29 × Bool) × Bool)}
theorem fn_row (hS : Kd.S (kO w0) 35 W base okF (.slice (some ⟨q, 0, none⟩) n cb) L) (j : Nat) (hj : j < n) {W1 : World} {v1 : Value} {l' : List (S29 × Bool)} (hW : Below W.heap.size W W1) (ho : (kJ w0).R 29 W1 base (fun k => W.heap.size ≤ k) v1 l') :
  Kd.S (kO w0) 35 (W1.setCell ⟨q, j, none⟩ v1) base (fun k => okF k ∨ W.heap.size ≤ k) (.slice (some ⟨q, 0, none⟩) n cb) (L.set j (l', true)) := by
 have hS' : Kd.S (kO w0) 35 W base (fun k => okF k ∨ W.heap.size ≤ k) (.slice (some ⟨q, 0, none⟩) n cb) L := Kd.S_mono hS (fun _ hk => .inl hk)
 obtain ⟨oki, c, hcl, hM, hcc, hfr, hoki, hH⟩ := Kd.S_elem hS' ([], false) (j : Int) (by omega) (by omega)
 have h1 : c.length = 1 := hcl
 obtain ⟨u, rfl⟩ : ∃ u, c = [u] := by
  cases c with
  | nil => simp at h1
  | cons u t =>
   cases t with
   | nil => exact ⟨u, rfl⟩
   | cons _ _ => simp at h1
 have hH4 := Kd.H_below (Kd.H_widen hH) hW
 have hsz : (kO w0).sz = 1 := rfl
 have hS2 := (Kd.S_seg0 hH4 (by omega) (by omega) (seg := [v1]) (j := 0) (x' := (l', true)) (show 1 ≤ 1 from by decide) (flagg_own (Kd.M_row ho)) (fun k hk => .inr ⟨.inr hk, hk⟩)).1
 rw [hsz] at hS2
 simp only [Nat.mul_one, Nat.add_zero, Int.toNat_natCast] at hS2
 exact hS2
theorem fn_cells (hS : Kd.S (kO w0) 35 W base okF (.slice (some ⟨q, 0, none⟩) n cb) L) (j : Nat) (hj : j < n) : (∃ u, W.cell? ⟨q, j, none⟩ = some u) ∧ W.frozen? ⟨q, j, none⟩ = false := by
 obtain ⟨oki, c, hcl, hM, hcc, hfr, hoki, hH⟩ := Kd.S_elem hS ([], false) (j : Int) (by omega) (by omega)
 have h1 : c.length = 1 := hcl
 have hc0 := hcc 0 _ (List.getElem?_eq_getElem (by omega))
 have hf0 := hfr 0
 have hsz : (kO w0).sz = 1 := rfl
 rw [hsz] at hc0 hf0
 simp only [Nat.mul_one, Nat.add_zero, Int.toNat_natCast] at hc0 hf0
 exact ⟨⟨_, hc0⟩, hf0⟩
theorem getD_at {α : Type} {l : List α} {i : Nat} {x z : α} (h : l[i]? = some x) : l.getD i z = x := by rw [List.getD_eq_getElem?_getD, h]; rfl
theorem fn_told (hS : Kd.S (kO w0) 35 W base okF (.slice (some ⟨q, 0, none⟩) n cb) L) (j : Nat) (hj : j < n) {l : List (S29 × Bool)} (hl : L[j]? = some (l, false)) :
  ∃ Ak ck, W.cell? ⟨q, j, none⟩ = some (.slice Ak l.length ck) ∧ l.length ≤ ck ∧ k29.C w0 Ak l.length (l.map (·.1)) := by
 obtain ⟨oki, c, hcl, hM, hcc, hfr, hoki, hH⟩ := Kd.S_elem hS ([], false) (j : Int) (by omega) (by omega)
 rw [Int.toNat_natCast, getD_at hl] at hM
 obtain ⟨A, cc, hc, hlc, hC⟩ := flagg_was hM
 subst hc
 have hc0 := hcc 0 _ rfl
 have hsz : (kO w0).sz = 1 := rfl
 rw [hsz] at hc0
 simp only [Nat.mul_one, Nat.add_zero, Int.toNat_natCast] at hc0
 rw [List.length_map] at hc0 hlc hC
 exact ⟨A, cc, hc0, hlc, hC⟩
theorem fn_args (hS : Kd.S (kO w0) 35 W base okF (.slice (some ⟨q, 0, none⟩) n cb) L) (j : Nat) (hj : j < n) {l : List (S29 × Bool)} (hl : L[j]? = some (l, true)) (a : Nat) {x : S29} (ha : l[a]? = some (x, false)) :
  ∃ qi ci, W.cell? ⟨q, j, none⟩ = some (.slice (some ⟨qi, 0, none⟩) l.length ci) ∧ okF qi ∧ qi ≠ q ∧ base ≤ qi ∧ (∃ u, W.cell? ⟨qi, a * 9 + 8, none⟩ = some u) ∧ W.frozen? ⟨qi, a * 9 + 8, none⟩ = false ∧
   ∀ {W1 : World} {va : Value}, Below W.heap.size W W1 → (Kd.int .i64).R 3 W1 base (fun k => W.heap.size ≤ k) va x.f8 →
    Kd.S (kO w0) 35 (W1.setCell ⟨qi, a * 9 + 8, none⟩ va) base (fun k => okF k ∨ W.heap.size ≤ k) (.slice (some ⟨q, 0, none⟩) n cb) (L.set j (l.set a (x, true), true)) := by
 have hal : a < l.length := (List.getElem?_eq_some_iff.1 ha).1
 have hS' : Kd.S (kO w0) 35 W base (fun k => okF k ∨ W.heap.size ≤ k) (.slice (some ⟨q, 0, none⟩) n cb) L := Kd.S_mono hS (fun _ hk => .inl hk)
 obtain ⟨oki, c, hcl, hM, hcc, hfr, hoki, hH⟩ := Kd.S_elem hS' ([], false) (j : Int) (by omega) (by omega)
 rw [Int.toNat_natCast, getD_at hl] at hM
 obtain ⟨vi, hc, hRi⟩ := flagg_owned hM
 subst hc
 have hRi' : (kJ w0).R 29 W base oki vi l := hRi
 obtain ⟨qi, ci, rfl, hqb, hql, _⟩ := Kd.R_form hRi' (by omega)
 have hc0 := hcc 0 _ rfl
 have hsz : (kO w0).sz = 1 := rfl
 rw [hsz] at hc0
 simp only [Nat.mul_one, Nat.add_zero, Int.toNat_natCast] at hc0
 obtain ⟨c, hcl2, hM2, hcc2, hfr2⟩ := Kd.R_elem hRi' (x, false) (a : Int) (by omega) (by omega)
 have hsz9 : (kJ w0).sz = 9 := rfl
 rw [Int.toNat_natCast, getD_at ha] at hM2
 rw [hsz9, Int.toNat_natCast] at hcc2 hfr2
 rw [hsz9] at hcl2
 obtain ⟨A8, c8, hc8, _, _⟩ := k29_open (flagg_was hM2)
 have hoq := hoki qi (hRi'.1 qi rfl)
 have hq1 : okF qi := by
  rcases hoq.1 with h | h
  ·exact h
  ·omega
 refine ⟨qi, ci, hc0, hq1, hoq.2, hqb, ⟨_, hcc2 8 _ (List.getElem?_eq_getElem (by omega))⟩, hfr2 8, ?_⟩
 intro W1 va hW ho
 have hR1 : (kJ w0).R 29 W1 base (fun k => oki k ∨ (okF k ∨ W.heap.size ≤ k) ∧ W.heap.size ≤ k) (.slice (some ⟨qi, 0, none⟩) l.length ci) l := Kd.R_below (Kd.R_mono hRi' (fun _ hk => .inl hk)) hW
 have hcc3 : ∀ i u, c[i]? = some u → W1.cell? ⟨qi, (a : Int).toNat * (kJ w0).sz + i, none⟩ = some u := fun i u hu => (hW.cell (block_lt_of_cell (hcc2 i u hu))).trans (hcc2 i u hu)
 have hM3 : (kJ w0).M W1 base (fun k => W.heap.size ≤ k) (x, true) (c.take 8 ++ [va] ++ c.drop (8 + [va].length)) := by
  subst hc8
  exact flagg_own (k29_mkM _ base _ x ho)
 obtain ⟨hR2, hg⟩ := Kd.R_seg hR1 (a : Int) (by omega) (by omega) (c := c) (seg := [va]) (j := 8) (x' := (x, true)) (by rw [hsz9]; exact hcl2) hcc3 (show 8 + 1 ≤ 9 from by decide) hM3 (fun k hk => ⟨.inr ⟨.inr hk, hk⟩, fun e => by omega⟩)
 rw [hsz9] at hR2 hg
 simp only [Int.toNat_natCast] at hR2 hg
 have hR2' : (kJ w0).R 29 (W1.setCell ⟨qi, a * 9 + 8, none⟩ va) base (fun k => oki k ∨ (okF k ∨ W.heap.size ≤ k) ∧ W.heap.size ≤ k) (.slice (some ⟨qi, 0, none⟩) l.length ci) (l.set a (x, true)) := hR2
 have hg' : W1.grownBy (W1.setCell ⟨qi, a * 9 + 8, none⟩ va) (some qi) := hg
 have hH2 := Kd.H_grown (Kd.H_below (Kd.H_widen hH) hW) hg' (fun k e => by injection e with e; subst e; exact .inl (hRi'.1 _ rfl))
 have hS2 := Kd.H_back hH2 (x' := (l.set a (x, true), true)) (okp := fun k => oki k ∨ (okF k ∨ W.heap.size ≤ k) ∧ W.heap.size ≤ k) (flagg_own ⟨_, rfl, hR2'⟩) (fun _ hk => hk)
 rw [Int.toNat_natCast] at hS2
 exact hS2
end
end Go.Proofs.Ytomopjomapkmjaa.B
set_option linter.unusedVariables false
set_option linter.unusedSimpArgs false
namespace Go.Proofs.Ytomopjomapkmjaa.B
open Go Go.RowKit Go.Proofs.YtomopjomapkmjaaW.PrintWords Go.Proofs.YtomopjomapkmjaaW.PrintLast Go.Proofs.YtomopjomapkmjaaW.PrintMore Go.Proofs.Ytomopjomapkmjaa.Pure
set_option maxHeartbeats 8000000 in
set_option maxRecDepth 100000 in
theorem Clone_B (A0 : Option Addr) (c0 : Nat) (l0 : List (List S29)) (w0 w : World) (hr0 : kB.C w0 A0 l0.length l0) (hW : Below w0.heap.size w0 w) (hc0 : l0.length ≤ c0) (hl : l0.length < 1000000) :
  Calls Try.prog 49 #[.slice A0 l0.length c0] w fun e w' => ∃ v0_ : Value, e = .returned v0_ ∧ Kd.R (Kd.fixed kB w0) 35 w' w.heap.size (fun _ => True) v0_ l0 ∧ Below w.heap.size w w' := by
 have hsn := fun W : World => Lib.run_eql_slice_nil (P := Try.prog) W 30 35 A0 l0.length c0 0 0 Try.underlying30
 have HR0 := Aside0.mk hr0
 have HW := Aside0.mk hW
 have HL := Aside0.mk hl
 have HB := Aside0.mk (Below.refl w.heap.size w)
 clear hl hW
 cases A0 with
 | none =>
  have h0 : l0 = [] := by
   cases l0 with
   | nil => rfl
   | cons x t =>
    obtain ⟨q, e, _⟩ := hr0.2.2 (by simp)
    cases e
  simp only [Option.isNone_none] at hsn
  subst h0
  have hsn2 := hsn
  simp only [List.length_nil] at hsn2
  clear hr0
  go_enter Try.func49, Try.ntmps49
  go_wp2
  go_ret
  exact ⟨_, rfl, Kd.R_nil _ _ _ _ _, HB.out⟩
 | some ad =>
  simp only [Option.isNone_some] at hsn
  clear hr0
  go_enter Try.func49, Try.ntmps49
  go_wp2_with (first | ((with_reducible refine gate_dst (N := 5) rfl ?_); refine Kd.R_lit (Kd.fixed kB w0) _ 35 ?hg (N := 5) ?hd (xs := ([] : List (List S29))) (inner := []) (ok := fun _ => True) (okp := fun _ => True) ?hr ?hp (fun _ hk => hk) trivial (Below.refl _ _) (Nat.le_refl _) (by simp) ?_; (case hd => rfl); (case hg => rfl); (case hr => first | (go_simp; done) | (go_simp; rfl)); (case hp => exact (Reps.none _ _)); intro v247 w3 ho4 hb hg_ hnew_; clear hg_ hnew_; (try simp only [Int.reduceToNat] at ho4); have n0_ := Aside0.mk (Kd.R_lower ho4 (below_size HB.out)); have n1_ := Aside0.mk (below_step HB.out hb); clear HB; have HO248 := n0_; have HB := n1_; clear n0_ n1_; clear hb ho4) | ((with_reducible refine gate_builtin (b := .append) (xs := #[.tmp 5, .tmp 6]) rfl ?_); at_builtin; refine Kd.R_append_rows (Kd.fixed kB w0) (w0 := w) w.heap.size rfl (.tmp 5) (.tmp 6) 30 35 (.slice none 0 0) 24 rfl Try.underlying30 info35 rfl (by show 0 < 1; decide) (by omega) v247 ([] : List (List S29)) l0 _ _ _ (fun _ => True) (fun _ => False) rfl rfl ?aO ?aR (fun _ _ h => h) (fun _ h => h.elim) ?aF ?aB ?aS ?aL ?_; (case aR => exact (reads_told HR0.out (below_step HW.out HB.out))); (case aB => exact HB.out); (case aF => exact (fun _ _ => trivial)); (case aO => exact HO248.out); (case aS => exact (below_size HB.out)); (case aL => have := HL.out; simp; omega); intro v250 w5 ho hb hg hat; have n0_ := Aside0.mk hb; have n1_ := Aside0.mk ho; clear HB; clear HO248; have HB := n0_; have HO251 := n1_; clear n0_ n1_; clear ho hb hg hat))
  go_ret
  exact ⟨_, rfl, by simpa using HO251.out, HB.out⟩
set_option maxHeartbeats 8000000 in
set_option maxRecDepth 100000 in
theorem Clone_I (A0 : Option Addr) (c0 : Nat) (l0 : List (S29)) (w0 w : World) (hr0 : k29.C w0 A0 l0.length l0) (hW : Below w0.heap.size w0 w) (hc0 : l0.length ≤ c0) (hl : l0.length < 1000000) :
  Calls Try.prog 50 #[.slice A0 l0.length c0] w fun e w' => ∃ v0_ : Value, e = .returned v0_ ∧ Kd.R (Kd.fixed k29 w0) 29 w' w.heap.size (fun _ => True) v0_ l0 ∧ Below w.heap.size w w' := by
 have hsn := fun W : World => Lib.run_eql_slice_nil (P := Try.prog) W 35 29 A0 l0.length c0 0 0 Try.underlying35
 have HR0 := Aside0.mk hr0
 have HW := Aside0.mk hW
 have HL := Aside0.mk hl
 have HB := Aside0.mk (Below.refl w.heap.size w)
 clear hl hW
 cases A0 with
 | none =>
  have h0 : l0 = [] := by
   cases l0 with
   | nil => rfl
   | cons x t =>
    obtain ⟨q, e, _⟩ := hr0.2.2 (by simp)
    cases e
  simp only [Option.isNone_none] at hsn
  subst h0
  have hsn2 := hsn
  simp only [List.length_nil] at hsn2
  clear hr0
  go_enter Try.func50, Try.ntmps50
  go_wp2
  go_ret
  exact ⟨_, rfl, Kd.R_nil _ _ _ _ _, HB.out⟩
 | some ad =>
  simp only [Option.isNone_some] at hsn
  clear hr0
  go_enter Try.func50, Try.ntmps50
  go_wp2_with (first | ((with_reducible refine gate_dst (N := 5) rfl ?_); refine Kd.R_lit (Kd.fixed k29 w0) _ 29 ?hg (N := 5) ?hd (xs := ([] : List (S29))) (inner := []) (ok := fun _ => True) (okp := fun _ => True) ?hr ?hp (fun _ hk => hk) trivial (Below.refl _ _) (Nat.le_refl _) (by simp) ?_; (case hd => rfl); (case hg => rfl); (case hr => first | (go_simp; done) | (go_simp; rfl)); (case hp => exact (Reps.none _ _)); intro v247 w3 ho4 hb hg_ hnew_; clear hg_ hnew_; (try simp only [Int.reduceToNat] at ho4); have n0_ := Aside0.mk (Kd.R_lower ho4 (below_size HB.out)); have n1_ := Aside0.mk (below_step HB.out hb); clear HB; have HO248 := n0_; have HB := n1_; clear n0_ n1_; clear hb ho4) | ((with_reducible refine gate_builtin (b := .append) (xs := #[.tmp 5, .tmp 6]) rfl ?_); at_builtin; refine Kd.R_append_rows (Kd.fixed k29 w0) (w0 := w) w.heap.size rfl (.tmp 5) (.tmp 6) 35 29 (.agg #[.int .i64 0, .int .i64 0, .int .i64 0, .int .i64 0, .int .i64 0, .int .i64 0, .int .i64 0, .int .i64 0, .slice none 0 0]) 88 rfl Try.underlying35 info29 rfl (by show 0 < 9; decide) (by omega) v247 ([] : List (S29)) l0 _ _ _ (fun _ => True) (fun _ => False) rfl rfl ?aO ?aR (fun _ _ h => h) (fun _ h => h.elim) ?aF ?aB ?aS ?aL ?_; (case aR => exact (reads_told HR0.out (below_step HW.out HB.out))); (case aB => exact HB.out); (case aF => exact (fun _ _ => trivial)); (case aO => exact HO248.out); (case aS => exact (below_size HB.out)); (case aL => have := HL.out; simp; omega); intro v250 w5 ho hb hg hat; have n0_ := Aside0.mk hb; have n1_ := Aside0.mk ho; clear HB; clear HO248; have HB := n0_; have HO251 := n1_; clear n0_ n1_; clear ho hb hg hat))
  go_ret
  exact ⟨_, rfl, by simpa using HO251.out, HB.out⟩
end Go.Proofs.Ytomopjomapkmjaa.B
set_option linter.unusedVariables false
set_option linter.unusedSimpArgs false
namespace Go.Proofs.Ytomopjomapkmjaa.B
open Go Go.RowKit Go.Proofs.YtomopjomapkmjaaW.PrintWords Go.Proofs.YtomopjomapkmjaaW.PrintLast Go.Proofs.YtomopjomapkmjaaW.PrintMore Go.Proofs.Ytomopjomapkmjaa.Pure
section
variable {base g : Nat} {ok : Nat → Prop} {w w0 w1 w2 W : World} {V : BV}
def doneB (V : BV) : Bool := !V.st.any (fun k => !decide (k = 2))
set_option maxHeartbeats 2000000 in
theorem Func_bad (h : BAt base ok w g V) (hf : Fit V) (hd : doneB V = false) : Calls Try.prog 13 #[.pointer (some ⟨g, 0, none⟩)] w fun e w' => e = .returned (.tuple #[.agg #[.string ⟨#[]⟩, .int .i64 0, .int .i64 0, .slice none 0 0, .slice none 0 0], .bool false]) ∧ Below w.heap.size w w' := by
 have hu := Try.underlying32
 obtain ⟨f0, f1, f2⟩ := hf
 obtain ⟨h1, h2, h3, f, vr, vb, vs, hc, hr, hB, ht⟩ := h
 obtain ⟨As, cs, rfl⟩ := Kd.R_slice ht
 have HM := Aside0.mk (made_at (blk_alloc hc (.cells #[.string ⟨#[]⟩, .int .i64 0, .int .i64 0, .slice none 0 0, .slice none 0 0] 32)) (show 0 < V.st.length by omega))
 have HH := Aside0.mk (HasFunc As cs V.st _ (Kd.C_alloc (Kd.R_reads' ht).2.2 (.cells #[.string ⟨#[]⟩, .int .i64 0, .int .i64 0, .slice none 0 0, .slice none 0 0] 32)) (Kd.R_reads' ht).2.1)
 have hd' : (V.st.any fun k => !decide (k = 2)) = true := by simpa [doneB] using hd
 rw [hd'] at HH
 have HB := Aside0.mk (below_alloc (Below.refl w.heap.size w) (.cells #[.string ⟨#[]⟩, .int .i64 0, .int .i64 0, .slice none 0 0, .slice none 0 0] 32))
 have BZ := Aside0.mk (blk_new w (.cells #[.string ⟨#[]⟩, .int .i64 0, .int .i64 0, .slice none 0 0, .slice none 0 0] 32))
 have c5 := blk_cell (blk_alloc hc (.cells #[.string ⟨#[]⟩, .int .i64 0, .int .i64 0, .slice none 0 0, .slice none 0 0] 32)) 5
 simp only [List.getElem?_toArray, List.getElem?_cons_zero, List.getElem?_cons_succ] at c5
 clear h1 h2 h3 hc hr hB ht f0 f1 f2 hd hd'
 have rc0 := blk_cell BZ.out 0
 have rf0 := blk_frozen BZ.out 0
 have rc1 := blk_cell BZ.out 1
 have rf1 := blk_frozen BZ.out 1
 have rc2 := blk_cell BZ.out 2
 have rf2 := blk_frozen BZ.out 2
 have rc3 := blk_cell BZ.out 3
 have rf3 := blk_frozen BZ.out 3
 have rc4 := blk_cell BZ.out 4
 have rf4 := blk_frozen BZ.out 4
 simp only [List.getElem?_toArray, List.getElem?_cons_zero, List.getElem?_cons_succ] at rc0 rc1 rc2 rc3 rc4
 go_enter Try.func13, Try.ntmps13
 go_wp2_with (first | (go_at_call 47; ((with_reducible refine HM.out.mono ?_); rintro e w' ⟨rfl, rfl⟩)) | (go_at_call 41; ((with_reducible refine HH.out.mono ?_); rintro e w' ⟨rfl, rfl⟩)))
 exact bodyPost_ret (results_ct rfl _ _ w.heap.size 32 #[.string ⟨#[]⟩, .int .i64 0, .int .i64 0, .slice none 0 0, .slice none 0 0] (0, 0) _ rfl BZ.out hu rfl (by kernel_rfl)) rfl ⟨rfl, HB.out⟩
end
end Go.Proofs.Ytomopjomapkmjaa.B

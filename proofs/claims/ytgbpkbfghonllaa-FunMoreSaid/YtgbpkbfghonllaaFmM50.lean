/- A part of it. -/
import Derived.Test.YtgbpkbfghonllaaFmM49
import Derived.Test.YtgbpkbfghonllaaFmP10
import Derived.Test.YtgbpkbfghonllaaFmP21
import Derived.Test.YtgbpkbfghonllaaFmP22
import Derived.Outline
import Derived.Test.YtgbpkbfghonllaaFmM21
import Derived.Test.YtgbpkbfghonllaaFmP5
import Derived.Test.YtgbpkbfghonllaaFmP6
import Derived.Test.YtgbpkbfghonllaaFmP19
import Derived.Test.YtgbpkbfghonllaaFmFunH
set_option linter.unusedVariables false
set_option linter.unusedSimpArgs false
namespace Go.Proofs.Ytgbpkbfghonllaa.P
open Go Go.RowKit Go.Proofs.YtgbpkbfghonllaaW.PrintWords Go.Proofs.YtgbpkbfghonllaaW.PrintLast Go.Proofs.YtgbpkbfghonllaaW.PrintMore Go.Proofs.Ytgbpkbfghonllaa.Pure
def smallV (r : Int) : List S39 := [⟨(⟨#[109, 97, 105, 110]⟩ : ByteArray), 1, 1, [3, 1], [[⟨20, 1, 0, 0, 0, 0, 0, 0, []⟩, ⟨43, 0, r, 0, 0, 0, 0, 0, []⟩]]⟩]
theorem small_val (r : Int) : balustradelaw16_small.f r = some (smallV r, 0, []) := rfl
theorem small_tiny (r : Int) : Tiny (smallV r) [] := by
 refine ⟨by simp [smallV], by simp, fun f hf => ?_⟩
 obtain rfl := List.mem_singleton.1 hf
 refine ⟨by simp, by simp, by simp [sizeV], fun b hb => ?_⟩
 obtain rfl := List.mem_singleton.1 hb
 refine ⟨by simp, fun x hx => ?_⟩
 rcases List.mem_cons.1 hx with rfl | hx
 ·simp
 ·obtain rfl := List.mem_singleton.1 hx
  simp
theorem small_1 : checkV (smallV 1) 0 [] = (0, 0, 0, 0) := by decide
theorem small_0 : checkV (smallV 0) 0 [] = (0, 0, 1, 11) := by decide
theorem works_ev : Ev (fun k => balustradelaw16_works.f k) true := by
 unfold balustradelaw16_works.f
 refine Ev.congr (fun k => by rw [small_val, Option.bind_some]) ?_
 refine Ev.bind (check_ev _ _ _ (small_tiny 1)) ?_
 rw [small_1]
 refine Ev.congr (fun k => by rw [if_pos (by decide), small_val, Option.bind_some]) ?_
 refine Ev.bind (check_ev _ _ _ (small_tiny 0)) ?_
 rw [small_0]
 refine Ev.congr (fun k => by rw [if_pos (by decide), Option.bind_some]) ?_
 refine Ev.bind (plain_ev _ _ _ (small_tiny 1)) ?_
 rw [show plainV (smallV 1) 0 [] = true by unfold plainV; rw [small_1]; decide]
 refine Ev.congr (fun k => by rw [if_pos rfl, Option.bind_some]) ?_
 refine Ev.bind (count_ev _ _ _ (by decide) (by simp [smallV]) (by decide)) ?_
 exact Ev.now _
theorem bad_there {L : LA} {k : Nat} {x : S42} (h : thereV L k x = true) : (∀ u ∈ usesI x, u < (L.rg.length : Int)) ∧ defI x < (L.rg.length : Int) ∧ (∀ t ∈ targetsI x, 0 < t ∧ t < (L.bl.length : Int)) ∧ (x.f0 = 39 → x.f5 < (L.fs.length : Int)) ∧ (checkI x.f0 = true → x.f7 < (L.ss.length : Int)) := by
 unfold thereV at h
 simp only [Bool.and_eq_true, decide_eq_true_eq, List.all_eq_true] at h
 obtain ⟨⟨⟨h1, h2⟩, h3⟩, h4⟩ := h
 refine ⟨h2, h1, fun t ht => by have := h3 t ht; exact this, fun h39 => ?_, fun hc => ?_⟩
 ·rw [if_pos h39] at h4
  exact of_decide_eq_true h4
 ·have hr : 31 ≤ x.f0 ∧ x.f0 ≤ 38 := by
   unfold checkI at hc
   simpa using hc
  rw [if_neg (by omega), if_neg (by omega), if_pos hc] at h4
  simp only [Bool.and_eq_true, decide_eq_true_eq] at h4
  exact h4.1
theorem sized_of {fs : List S39} {m : Nat} (hm : m = 140737488351232) (h1 : fs.length * 80 ≤ m) (h2 : ∀ f ∈ fs, f.f4.length * 24 ≤ m ∧ f.f3.length * 8 ≤ m ∧ ∀ b ∈ f.f4, b.length * 88 ≤ m ∧ ∀ x ∈ b, x.f8.length * 8 ≤ m) : Sized fs := by
 subst hm
 refine ⟨by omega, fun f hf => ?_⟩
 obtain ⟨g1, g2, g3⟩ := h2 f hf
 exact ⟨by omega, by omega, fun b hb => ⟨by have := (g3 b hb).1; omega, fun x hx => by have := (g3 b hb).2 x hx; omega⟩⟩
end Go.Proofs.Ytgbpkbfghonllaa.P
namespace Go.Proofs.Ytgbpkbfghonllaa.P
open Go.RowKit Go.Proofs.YtgbpkbfghonllaaW.PrintWords Go.Proofs.YtgbpkbfghonllaaW.PrintLast Go.Proofs.YtgbpkbfghonllaaW.PrintMore
attribute [local go_sem] max2_int min2_int max_two min_two max_three min_three max_four min_four   
set_option linter.unusedVariables false
set_option linter.unusedSimpArgs false
end Go.Proofs.Ytgbpkbfghonllaa.P
set_option linter.unusedVariables false
set_option linter.unusedSimpArgs false
namespace Go.Proofs.Ytgbpkbfghonllaa.P
open Go Go.RowKit Go.Proofs.YtgbpkbfghonllaaW.PrintWords Go.Proofs.YtgbpkbfghonllaaW.PrintLast Go.Proofs.YtgbpkbfghonllaaW.PrintMore Go.Proofs.Ytgbpkbfghonllaa.Pure
end Go.Proofs.Ytgbpkbfghonllaa.P
set_option linter.unusedVariables false
namespace Go.Proofs.Ytgbpkbfghonllaa.P
open Go Go.RowKit Go.Proofs.YtgbpkbfghonllaaW.PrintWords Go.Proofs.YtgbpkbfghonllaaW.PrintLast Go.Proofs.YtgbpkbfghonllaaW.PrintMore Go.Proofs.Ytgbpkbfghonllaa.Pure
end Go.Proofs.Ytgbpkbfghonllaa.P
set_option linter.unusedVariables false
set_option linter.unusedSimpArgs false
namespace Go.Proofs.Ytgbpkbfghonllaa.P
open Go Go.RowKit Go.Proofs.YtgbpkbfghonllaaW.PrintWords Go.Proofs.YtgbpkbfghonllaaW.PrintLast Go.Proofs.YtgbpkbfghonllaaW.PrintMore Go.Proofs.Ytgbpkbfghonllaa.Pure
theorem getD_app {α : Type} (l m : List α) (d : α) (i : Nat) (h : i < l.length) : (l ++ m).getD i d = l.getD i d := by
 rw [List.getD_eq_getElem?_getD, List.getD_eq_getElem?_getD, List.getElem?_append_left h]
theorem there_more {L M : LA} (hr : L.rg = M.rg) (hb : L.bl = M.bl) (hp : L.pr = M.pr) {f : List S39} (hf : M.fs = L.fs ++ f) {s : List S48} (hs : M.ss = L.ss ++ s) (k : Nat) (x : S42) (h0 : 0 ≤ x.f7) (h : thereV L k x = true) : thereV M k x = true := by
 unfold thereV at h ⊢
 rw [← hr, ← hb, ← hp]
 simp only [Bool.and_eq_true] at h ⊢
 refine ⟨h.1, ?_⟩
 have h4 := h.2
 by_cases c1 : x.f0 = 39
 ·rw [if_pos c1] at h4 ⊢
  have := of_decide_eq_true h4
  exact decide_eq_true (by rw [hf, List.length_append]; omega)
 ·rw [if_neg c1] at h4 ⊢
  by_cases c2 : x.f0 = 44
  ·rw [if_pos c2] at h4 ⊢
   exact h4
  ·rw [if_neg c2] at h4 ⊢
   by_cases c3 : checkI x.f0 = true
   ·rw [if_pos c3] at h4 ⊢
    simp only [Bool.and_eq_true, decide_eq_true_eq] at h4 ⊢
    refine ⟨by rw [hs, List.length_append]; omega, ?_⟩
    have e : rd_T48 M.ss x.f7 = rd_T48 L.ss x.f7 := by
     unfold rd_T48
     rw [hs, getD_app _ _ _ _ (by omega)]
    rw [e]
    exact h4.2
   ·rw [if_neg c3]
theorem fits_more {L M : LA} (hr : L.rg = M.rg) (ht : L.rt = M.rt) {f : List S39} (hf : M.fs = L.fs ++ f) (x : S42) (h5 : x.f0 = 39 → 0 ≤ x.f5 ∧ x.f5 < (L.fs.length : Int)) : fitsV M x = fitsV L x := by
 have e : kindsV M x = kindsV L x := by
  unfold kindsV
  rw [← hr, ← ht]
  by_cases c : x.f0 = 39
  ·have h := h5 c
   have q : rd_T39 M.fs x.f5 = rd_T39 L.fs x.f5 := by
    unfold rd_T39
    rw [hf, getD_app _ _ _ _ (by omega)]
   rw [q]
  ·simp only [if_neg c]
 unfold fitsV
 rw [e, ← hr]
theorem ins_more {L M : LA} (hr : L.rg = M.rg) (ht : L.rt = M.rt) (hb : L.bl = M.bl) (hp : L.pr = M.pr) {f : List S39} (hf : M.fs = L.fs ++ f) {s : List S48} (hs : M.ss = L.ss ++ s) (k : Nat) (b : List S42) (j : Nat) (h : insV L k b j = 0) : insV M k b j = 0 := by
 obtain ⟨q1, q2, q3⟩ := insV_right h
 have hF := insV_form h
 have r := right_parts _ q1
 have t := bad_there q2
 refine ins0 M k hF (there_more hr hb hp hf hs k _ r.2.2.2.2.2.1 q2) ?_
 rw [fits_more hr ht hf _ (fun e => ⟨right_call _ q1 e, t.2.2.2.1 e⟩)]
 exact q3
theorem okF_more {fs : List S39} {mn : Int} {ss : List S48} {g : S39} (f : List S39) (s : List S48) (h : okF fs mn ss g) : okF (fs ++ f) mn (ss ++ s) g := by
 refine ⟨h.1, fun k hk => ⟨(h.2 k hk).1, fun j hj => ?_⟩⟩
 exact ins_more (L := laOf fs mn ss g) (M := laOf (fs ++ f) mn (ss ++ s) g) rfl rfl rfl rfl (f := f) rfl (s := s) rfl k _ j ((h.2 k hk).2 j hj)
theorem whole_more {fs : List S39} {mn : Int} {ss : List S48} (f : List S39) (s : List S48) (hl : fs.length + f.length ≤ 200) (hs : ss.length + s.length ≤ 262144) (h : wholeV fs mn ss = 0) : wholeV (fs ++ f) mn (ss ++ s) = 0 := by
 unfold wholeV at h ⊢
 rw [if_neg (by rw [List.length_append, List.length_append]; omega)]
 rw [if_neg (by omega)] at h
 by_cases c : mn < 0 ∨ mn ≥ (fs.length : Int) ∨ (rd_T39 fs mn).f1 ≠ 1 ∨ (rd_T39 fs mn).f3.length = 0 ∨ rd (rd_T39 fs mn).f3 0 ≠ 3 ∨ (rd_T39 fs mn).f2 ≠ 1
 ·rw [if_pos c] at h
  exact absurd h (by decide)
 ·have e : rd_T39 (fs ++ f) mn = rd_T39 fs mn := by
   unfold rd_T39
   rw [getD_app _ _ _ _ (by omega)]
  rw [e, if_neg (by
   intro hc
   apply c
   rcases hc with hc | hc | hc
   ·exact Or.inl hc
   ·rw [List.length_append] at hc; omega
   ·exact Or.inr (Or.inr hc))]
theorem more_check {fs : List S39} {mn : Int} {ss : List S48} (g : S39) (hg : g ∈ fs) (s : S48) (ht : Tiny fs ss) (h : (checkV fs mn ss).2.2.2 = 0) : checkV (fs ++ [g]) mn (ss ++ [s]) = (0, 0, 0, 0) := by
 obtain ⟨h1, h2⟩ := (checkV_zero _ _ _).1 h
 have := ht.1
 have := ht.2.1
 refine checkV_all _ _ _ (whole_more [g] [s] (by simp; omega) (by simp; omega) h1) (fun f hf => ?_)
 rcases List.mem_append.1 hf with hf | hf
 ·exact okF_more [g] [s] (h2 f hf)
 ·rw [List.mem_singleton.1 hf]
  exact okF_more [g] [s] (h2 g hg)
theorem more_tiny {fs : List S39} {ss : List S48} (g : S39) (hg : g ∈ fs) (s : S48) (h10 : fs.length ≤ 10) (h200 : ss.length ≤ 200) (ht : Tiny fs ss) : Tiny (fs ++ [g]) (ss ++ [s]) := by
 refine ⟨by simp; omega, by simp; omega, fun f hf => ?_⟩
 rcases List.mem_append.1 hf with hf | hf
 ·exact ht.2.2 f hf
 ·rw [List.mem_singleton.1 hf]
  exact ht.2.2 g hg
theorem more_plain {fs : List S39} {mn : Int} {ss : List S48} (g : S39) (hg : g ∈ fs) (s : S48) (ht : Tiny fs ss) (h : (checkV fs mn ss).2.2.2 = 0) : plainV (fs ++ [g]) mn (ss ++ [s]) = plainV fs mn ss := by
 unfold plainV
 rw [more_check g hg s ht h, h, List.all_append]
 cases hp : fs.all plainF with
 | false => rfl
 | true =>
  rw [List.all_eq_true] at hp
  simp [hp g hg]
theorem few_lens {m : Nat} {fs : List S39} {ss : List S48} (h : fewV m fs ss = true) : fs.length ≤ 10 ∧ ss.length ≤ 200 := by
 unfold fewV at h
 simp only [Bool.and_eq_true, decide_eq_true_eq] at h
 exact h.2.1
end Go.Proofs.Ytgbpkbfghonllaa.P
set_option linter.unusedVariables false
set_option linter.unusedSimpArgs false
namespace Go.Proofs.Ytgbpkbfghonllaa.P
open Go Go.RowKit Go.Proofs.YtgbpkbfghonllaaW.PrintWords Go.Proofs.YtgbpkbfghonllaaW.PrintLast Go.Proofs.YtgbpkbfghonllaaW.PrintMore Go.Proofs.Ytgbpkbfghonllaa.Pure
structure PSt (w : World) (g : Nat) (Af : Option Addr) (cf : Nat) (fs : List S39) (mn : Int) (As : Option Addr) (cs : Nat) (ss : List S48) (W : World) : Prop where
 B : Below w.heap.size w W
 p : W.heap[g]? = some (.cells #[.slice Af fs.length cf, .int .i64 mn, .slice As ss.length cs] 25 (0, 0))
 f0 : k39.C w Af fs.length fs
 fc : fs.length ≤ cf
 s0 : k48.C w As ss.length ss
 sc : ss.length ≤ cs
section
variable {w : World} {g : Nat} {Af : Option Addr} {cf : Nat} {fs : List S39} {mn : Int} {As : Option Addr} {cs : Nat} {ss : List S48} {W W1 : World}
theorem PSt.f (h : PSt w g Af cf fs mn As cs ss W) : k39.C W Af fs.length fs := Kd.C_below h.f0 h.B
theorem PSt.s (h : PSt w g Af cf fs mn As cs ss W) : k48.C W As ss.length ss := Kd.C_below h.s0 h.B
theorem PSt.step (h : PSt w g Af cf fs mn As cs ss W) (hb : Below W.heap.size W W1) : PSt w g Af cf fs mn As cs ss W1 := ⟨below_step h.B hb, blk_below h.p hb, h.f0, h.fc, h.s0, h.sc⟩
theorem PSt.alloc (h : PSt w g Af cf fs mn As cs ss W) (o : Obj) : PSt w g Af cf fs mn As cs ss (W.alloc o) := h.step (below_alloc (Below.refl _ _) o)
theorem PSt.drew (h : PSt w g Af cf fs mn As cs ss W) : PSt w g Af cf fs mn As cs ss W.drew := h.step (below_drew (Below.refl _ _))
theorem PSt.drewN (h : PSt w g Af cf fs mn As cs ss W) (n : Nat) : PSt w g Af cf fs mn As cs ss (W.drewN n) := h.step (pw_below_drewN (Below.refl _ _) n)
theorem PSt.start (hf : k39.C w Af fs.length fs) (hfc : fs.length ≤ cf) (hs : k48.C w As ss.length ss) (hsc : ss.length ≤ cs) : PSt w w.heap.size Af cf fs mn As cs ss (w.alloc (.cells #[.slice Af fs.length cf, .int .i64 mn, .slice As ss.length cs] 25)) :=
 ⟨below_alloc (Below.refl _ _) _, blk_new _ _, hf, hfc, hs, hsc⟩
theorem PSt.c0 (h : PSt w g Af cf fs mn As cs ss W) : W.cell? ⟨g, 0, none⟩ = some (.slice Af fs.length cf) := (blk_cell h.p 0).trans rfl
theorem PSt.c1 (h : PSt w g Af cf fs mn As cs ss W) : W.cell? ⟨g, 1, none⟩ = some (.int .i64 mn) := (blk_cell h.p 1).trans rfl
theorem PSt.c2 (h : PSt w g Af cf fs mn As cs ss W) : W.cell? ⟨g, 2, none⟩ = some (.slice As ss.length cs) := (blk_cell h.p 2).trans rfl
theorem blk_new1 (w : World) (o o' : Obj) : ((w.alloc o).alloc o').heap[w.heap.size + 1]? = some o' := by simpa using blk_new (w.alloc o) o'
end
end Go.Proofs.Ytgbpkbfghonllaa.P

/- A text of this claim, what is not used left out. -/
import Derived.Test.YtomopjomapkmjaaBaB0
import Derived.Deep.RegionHeld3
import Derived.Deep.QuietTactic
import Derived.BigQuiet
import Derived.Deep.DeepCutAuto
import Derived.Deep.RegionWith
import Derived.OpenShut
set_option linter.unusedVariables false
set_option linter.unusedSimpArgs false
namespace Go.Proofs.Ytomopjomapkmjaa.B
open Go Go.RowKit Go.Proofs.YtomopjomapkmjaaW.PrintWords Go.Proofs.YtomopjomapkmjaaW.PrintLast Go.Proofs.YtomopjomapkmjaaW.PrintMore
structure BV where
  nm : ByteArray
  pa : Int
  rt : Int
  rg : List Int
  bl : List (List S29)
  st : List Int
  at_ : Int
def kB : Kd (List S29) := Kd.slice 29 k29
def BAt (base : Nat) (ok : Nat → Prop) (w : World) (g : Nat) (V : BV) : Prop :=
  base ≤ g ∧ ¬ ok g ∧ (∀ k, ok k → base ≤ k ∧ k < w.heap.size) ∧ ∃ (f : Nat → Nat) (vr vb vs : Value),
    w.heap[g]? = some (.cells #[.string V.nm, .int .i64 V.pa, .int .i64 V.rt, vr, vb, vs, .int .i64 V.at_] 64 (0, 0)) ∧
    (Kd.int .i64).R 3 w base (fun k => ok k ∧ f k = 0) vr V.rg ∧
    Kd.S kB 35 w base (fun k => ok k ∧ f k = 1) vb V.bl ∧
    (Kd.int .i64).R 3 w base (fun k => ok k ∧ f k = 2) vs V.st
section
variable {base g : Nat} {ok : Nat → Prop} {w w1 W : World} {V : BV}
theorem BAt.lt (h : BAt base ok w g V) : g < w.heap.size := by
  obtain ⟨_, _, _, f, vr, vb, vs, hb, _⟩ := h
  exact blk_lt hb
theorem BAt.step (h : BAt base ok w g V) (hs : w.heap.size ≤ w1.heap.size) (hm : ∀ k, k = g ∨ ok k → k < w.heap.size → w1.heap[k]? = w.heap[k]?) : BAt base ok w1 g V := by
  have hl := h.lt
  obtain ⟨h1, h2, h3, f, vr, vb, vs, hb, hr, hB, ht⟩ := h
  exact ⟨h1, h2, fun k hk => ⟨(h3 k hk).1, by have := (h3 k hk).2; omega⟩, f, vr, vb, vs, (hm g (.inl rfl) hl).trans hb, Kd.R_step hr (fun k hk hlt => hm k (.inr hk.1) hlt), Kd.S_step hB (fun k hk hlt => hm k (.inr hk.1) hlt), Kd.R_step ht (fun k hk hlt => hm k (.inr hk.1) hlt)⟩
theorem BAt.below (h : BAt base ok w g V) (hb : Below w.heap.size w w1) : BAt base ok w1 g V := h.step hb.size (fun k _ hk => hb.block k hk)
theorem BAt.kept {S : Nat → Prop} (h : BAt base ok w g V) (hk : Kept w w1 S) (hg : ¬ S g) (hS : ∀ k, ok k → ¬ S k) : BAt base ok w1 g V := h.step hk.1 (fun k h1 hlt => hk.2 k hlt (by rcases h1 with rfl | h1; exact hg; exact hS k h1))
end
def Turned (base : Nat) (ok : Nat → Prop) (w w' : World) (g : Nat) (V' : BV) : Prop :=
  Kept w w' (fun k => k = g ∨ ok k) ∧ ∃ ok', (∀ k, ok' k → ok k ∨ w.heap.size ≤ k) ∧ BAt base ok' w' g V'
section
variable {base g : Nat} {ok : Nat → Prop} {w w1 W : World} {V : BV} {nm : ByteArray} {pa rt at_ : Int} {vr vb vs : Value} {rg st : List Int} {bl : List (List S29)} {f : Nat → Nat}
theorem grown_kept {row : Option Nat} {S : Nat → Prop} (hg : w.grownBy w1 row) (hs : w.heap.size ≤ w1.heap.size) (hr : ∀ k, row = some k → S k) : Kept w w1 S :=
  ⟨hs, fun k hk hn => hg.block k hk (fun e => hn (hr k e.symm))⟩
theorem bt_rg (h1 : base ≤ g) (h2 : ¬ ok g) (h3 : ∀ k, ok k → base ≤ k ∧ k < w.heap.size)
    (hb : w.heap[g]? = some (.cells #[.string nm, .int .i64 pa, .int .i64 rt, vr, vb, vs, .int .i64 at_] 64 (0, 0)))
    (hr : (Kd.int .i64).R 3 w base (fun k => ok k ∧ f k = 0) vr rg) (hB : Kd.S kB 35 w base (fun k => ok k ∧ f k = 1) vb bl) (ht : (Kd.int .i64).R 3 w base (fun k => ok k ∧ f k = 2) vs st)
    {v1 : Value} {x1 : List Int} (ho : (Kd.int .i64).R 3 w1 base (fun k => (ok k ∧ f k = 0) ∨ w.heap.size ≤ k) v1 x1) (hg : w.grownBy w1 vr.ownBlock) (hs : w.heap.size ≤ w1.heap.size) :
    Turned base ok w (w1.setCell ⟨g, 3, none⟩ v1) g ⟨nm, pa, rt, x1, bl, st, at_⟩ := by
  have hl := blk_lt hb
  have hne : some g ≠ vr.ownBlock := fun e => h2 (hr.1 g e.symm).1
  refine ⟨((grown_kept hg hs (fun k e => .inr (hr.1 k e).1)).setCell (p := ⟨g, 3, none⟩) (.inl (.inl rfl)) v1), fun k => (ok k ∨ w.heap.size ≤ k) ∧ k < w1.heap.size, fun k hk => hk.1, h1, ?_, ?_, fun k => if k < w.heap.size then f k else 0, v1, vb, vs, ?_, ?_, ?_, ?_⟩
  · rintro ⟨h | h, _⟩
    · exact h2 h
    · omega
  · rintro k ⟨h | h, h'⟩
    · exact ⟨(h3 k h).1, by simpa using h'⟩
    · exact ⟨by omega, by simpa using h'⟩
  · exact blk_put (blk_grown hb hg hne) 3 v1 rfl
  · refine Kd.R_far (Kd.R_mono (Kd.R_bound ho) (fun k hk => ?_)) (fun k hk => ?_) v1
    · rcases hk with ⟨h | h, h4, h5, _⟩
      · exact ⟨⟨.inl h.1, h5⟩, (if_pos (h3 k h.1).2).trans h.2⟩
      · exact ⟨⟨.inr h, h5⟩, if_neg (by omega)⟩
    · rintro rfl
      rcases hk.1.1 with h | h
      · exact h2 h
      · omega
  · refine Kd.S_far (Kd.S_mono (Kd.S_grown hB hg (fun k hk e => ?_)) (fun k hk => ?_)) (fun k hk => ?_) v1
    · have := (hr.1 k e.symm).2; omega
    · have := (h3 k hk.1).2; exact ⟨⟨.inl hk.1, by omega⟩, (if_pos this).trans hk.2⟩
    · rintro rfl
      rcases hk.1.1 with h | h
      · exact h2 h
      · omega
  · refine Kd.R_far (Kd.R_mono (Kd.R_grown ht hg (fun k hk e => ?_)) (fun k hk => ?_)) (fun k hk => ?_) v1
    · have := (hr.1 k e.symm).2; omega
    · have := (h3 k hk.1).2; exact ⟨⟨.inl hk.1, by omega⟩, (if_pos this).trans hk.2⟩
    · rintro rfl
      rcases hk.1.1 with h | h
      · exact h2 h
      · omega
end
end Go.Proofs.Ytomopjomapkmjaa.B

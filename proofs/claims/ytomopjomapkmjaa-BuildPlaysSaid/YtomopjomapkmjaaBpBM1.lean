/- A part of it. -/
import Derived.Test.YtomopjomapkmjaaBpB0
import Derived.Deep.RegionHeld3
import Derived.Deep.QuietTactic
import Derived.BigQuiet
import Derived.Deep.DeepCutAuto
import Derived.Deep.RegionWith
import Derived.OpenShut
import Derived.Deep.AppendLies
import Derived.Test.YtomopjomapkmjaaBpZ
import Derived.Outline
import Derived.Test.YtomopjomapkmjaaBpBInstrB
import Derived.Test.YtomopjomapkmjaaBpB4
import Derived.Test.YtomopjomapkmjaaBpB5
set_option linter.unusedVariables false
set_option linter.unusedSimpArgs false
namespace Go.Proofs.Ytomopjomapkmjaa.B
open Go Go.RowKit Go.Proofs.YtomopjomapkmjaaW.PrintWords Go.Proofs.YtomopjomapkmjaaW.PrintLast Go.Proofs.YtomopjomapkmjaaW.PrintMore
structure BV where
 nm : ByteArray
 pa : Int
 rt : Int
 rg : List Int
 bl : List (List S29)
 st : List Int
 at_ : Int
def kB : Kd (List S29) := Kd.slice 29 k29
def BAt (base : Nat) (ok : Nat → Prop) (w : World) (g : Nat) (V : BV) : Prop :=
 base ≤ g ∧ ¬ ok g ∧ (∀ k, ok k → base ≤ k ∧ k < w.heap.size) ∧ ∃ (f : Nat → Nat) (vr vb vs : Value),
  w.heap[g]? = some (.cells #[.string V.nm, .int .i64 V.pa, .int .i64 V.rt, vr, vb, vs, .int .i64 V.at_] 64 (0, 0)) ∧
  (Kd.int .i64).R 3 w base (fun k => ok k ∧ f k = 0) vr V.rg ∧
  Kd.S kB 35 w base (fun k => ok k ∧ f k = 1) vb V.bl ∧
  (Kd.int .i64).R 3 w base (fun k => ok k ∧ f k = 2) vs V.st
section
variable {base g : Nat} {ok : Nat → Prop} {w w1 W : World} {V : BV}
theorem BAt.lt (h : BAt base ok w g V) : g < w.heap.size := by
 obtain ⟨_, _, _, f, vr, vb, vs, hb, _⟩ := h
 exact blk_lt hb
theorem BAt.step (h : BAt base ok w g V) (hs : w.heap.size ≤ w1.heap.size) (hm : ∀ k, k = g ∨ ok k → k < w.heap.size → w1.heap[k]? = w.heap[k]?) : BAt base ok w1 g V := by
 have hl := h.lt
 obtain ⟨h1, h2, h3, f, vr, vb, vs, hb, hr, hB, ht⟩ := h
 exact ⟨h1, h2, fun k hk => ⟨(h3 k hk).1, by have := (h3 k hk).2; omega⟩, f, vr, vb, vs, (hm g (.inl rfl) hl).trans hb, Kd.R_step hr (fun k hk hlt => hm k (.inr hk.1) hlt), Kd.S_step hB (fun k hk hlt => hm k (.inr hk.1) hlt), Kd.R_step ht (fun k hk hlt => hm k (.inr hk.1) hlt)⟩
theorem BAt.below (h : BAt base ok w g V) (hb : Below w.heap.size w w1) : BAt base ok w1 g V := h.step hb.size (fun k _ hk => hb.block k hk)
theorem BAt.kept {S : Nat → Prop} (h : BAt base ok w g V) (hk : Kept w w1 S) (hg : ¬ S g) (hS : ∀ k, ok k → ¬ S k) : BAt base ok w1 g V := h.step hk.1 (fun k h1 hlt => hk.2 k hlt (by rcases h1 with rfl | h1; exact hg; exact hS k h1))
end
def Turned (base : Nat) (ok : Nat → Prop) (w w' : World) (g : Nat) (V' : BV) : Prop :=
 Kept w w' (fun k => k = g ∨ ok k) ∧ ∃ ok', (∀ k, ok' k → ok k ∨ w.heap.size ≤ k) ∧ BAt base ok' w' g V'
section
variable {base g : Nat} {ok : Nat → Prop} {w w1 W : World} {V : BV} {nm : ByteArray} {pa rt at_ : Int} {vr vb vs : Value} {rg st : List Int} {bl : List (List S29)} {f : Nat → Nat}
theorem grown_kept {row : Option Nat} {S : Nat → Prop} (hg : w.grownBy w1 row) (hs : w.heap.size ≤ w1.heap.size) (hr : ∀ k, row = some k → S k) : Kept w w1 S :=
 ⟨hs, fun k hk hn => hg.block k hk (fun e => hn (hr k e.symm))⟩
theorem bt_rg (h1 : base ≤ g) (h2 : ¬ ok g) (h3 : ∀ k, ok k → base ≤ k ∧ k < w.heap.size)
  (hb : w.heap[g]? = some (.cells #[.string nm, .int .i64 pa, .int .i64 rt, vr, vb, vs, .int .i64 at_] 64 (0, 0)))
  (hr : (Kd.int .i64).R 3 w base (fun k => ok k ∧ f k = 0) vr rg) (hB : Kd.S kB 35 w base (fun k => ok k ∧ f k = 1) vb bl) (ht : (Kd.int .i64).R 3 w base (fun k => ok k ∧ f k = 2) vs st)
  {v1 : Value} {x1 : List Int} (ho : (Kd.int .i64).R 3 w1 base (fun k => (ok k ∧ f k = 0) ∨ w.heap.size ≤ k) v1 x1) (hg : w.grownBy w1 vr.ownBlock) (hs : w.heap.size ≤ w1.heap.size) :
  Turned base ok w (w1.setCell ⟨g, 3, none⟩ v1) g ⟨nm, pa, rt, x1, bl, st, at_⟩ := by
 have hl := blk_lt hb
 have hne : some g ≠ vr.ownBlock := fun e => h2 (hr.1 g e.symm).1
 refine ⟨((grown_kept hg hs (fun k e => .inr (hr.1 k e).1)).setCell (p := ⟨g, 3, none⟩) (.inl (.inl rfl)) v1), fun k => (ok k ∨ w.heap.size ≤ k) ∧ k < w1.heap.size, fun k hk => hk.1, h1, ?_, ?_, fun k => if k < w.heap.size then f k else 0, v1, vb, vs, ?_, ?_, ?_, ?_⟩
 ·rintro ⟨h | h, _⟩
  ·exact h2 h
  ·omega
 ·rintro k ⟨h | h, h'⟩
  ·exact ⟨(h3 k h).1, by simpa using h'⟩
  ·exact ⟨by omega, by simpa using h'⟩
 ·exact blk_put (blk_grown hb hg hne) 3 v1 rfl
 ·refine Kd.R_far (Kd.R_mono (Kd.R_bound ho) (fun k hk => ?_)) (fun k hk => ?_) v1
  ·rcases hk with ⟨h | h, h4, h5, _⟩
   ·exact ⟨⟨.inl h.1, h5⟩, (if_pos (h3 k h.1).2).trans h.2⟩
   ·exact ⟨⟨.inr h, h5⟩, if_neg (by omega)⟩
  ·rintro rfl
   rcases hk.1.1 with h | h
   ·exact h2 h
   ·omega
 ·refine Kd.S_far (Kd.S_mono (Kd.S_grown hB hg (fun k hk e => ?_)) (fun k hk => ?_)) (fun k hk => ?_) v1
  ·have := (hr.1 k e.symm).2; omega
  ·have := (h3 k hk.1).2; exact ⟨⟨.inl hk.1, by omega⟩, (if_pos this).trans hk.2⟩
  ·rintro rfl
   rcases hk.1.1 with h | h
   ·exact h2 h
   ·omega
 ·refine Kd.R_far (Kd.R_mono (Kd.R_grown ht hg (fun k hk e => ?_)) (fun k hk => ?_)) (fun k hk => ?_) v1
  ·have := (hr.1 k e.symm).2; omega
  ·have := (h3 k hk.1).2; exact ⟨⟨.inl hk.1, by omega⟩, (if_pos this).trans hk.2⟩
  ·rintro rfl
   rcases hk.1.1 with h | h
   ·exact h2 h
   ·omega
theorem bt_begin (h1 : base ≤ g) (h2 : ¬ ok g) (h3 : ∀ k, ok k → base ≤ k ∧ k < w.heap.size) {q n c : Nat}
  (hb : w.heap[g]? = some (.cells #[.string nm, .int .i64 pa, .int .i64 rt, vr, vb, .slice (some ⟨q, 0, none⟩) n c, .int .i64 at_] 64 (0, 0)))
  (hr : (Kd.int .i64).R 3 w base (fun k => ok k ∧ f k = 0) vr rg) (hB : Kd.S kB 35 w base (fun k => ok k ∧ f k = 1) vb bl) (ht : (Kd.int .i64).R 3 w base (fun k => ok k ∧ f k = 2) (.slice (some ⟨q, 0, none⟩) n c) st) (b x : Int) :
  Turned base ok w ((w.setCell ⟨g, 6, none⟩ (.int .i64 b)).setCell ⟨q, b.toNat, none⟩ (.int .i64 x)) g ⟨nm, pa, rt, rg, bl, st.set b.toNat x, b⟩ := by
 have hl := blk_lt hb
 have hq : ok q ∧ f q = 2 := ht.1 q rfl
 have hgq : g ≠ q := fun e => h2 (e ▸ hq.1)
 have far : ∀ k, ok k → k ≠ g := fun k hk e => h2 (e ▸ hk)
 refine ⟨((Kept.refl w _).setCell (p := ⟨g, 6, none⟩) (.inl (.inl rfl)) _).setCell (p := ⟨q, b.toNat, none⟩) (.inl (.inr hq.1)) _, ok, fun k hk => .inl hk, h1, h2, fun k hk => ⟨(h3 k hk).1, by simpa using (h3 k hk).2⟩, f, vr, vb, .slice (some ⟨q, 0, none⟩) n c, ?_, ?_, ?_, ?_⟩
 ·exact blk_far (blk_put hb 6 _ rfl) (p := ⟨q, b.toNat, none⟩) hgq _
 ·exact Kd.R_far (Kd.R_far hr (p := ⟨g, 6, none⟩) (fun k hk => far k hk.1) _) (p := ⟨q, b.toNat, none⟩) (fun k hk e => by have h_ := hk.2; rw [show k = q from e, hq.2] at h_; omega) _
 ·exact Kd.S_far (Kd.S_far hB (p := ⟨g, 6, none⟩) (fun k hk => far k hk.1) _) (p := ⟨q, b.toNat, none⟩) (fun k hk e => by have h_ := hk.2; rw [show k = q from e, hq.2] at h_; omega) _
 ·exact (Kd.R_putg (Kd.R_far ht (p := ⟨g, 6, none⟩) (fun k hk => far k hk.1) _) b x).1
end
end Go.Proofs.Ytomopjomapkmjaa.B
set_option linter.unusedVariables false
set_option linter.unusedSimpArgs false
namespace Go.Proofs.Ytomopjomapkmjaa.B
open Go Go.RowKit Go.Proofs.YtomopjomapkmjaaW.PrintWords Go.Proofs.YtomopjomapkmjaaW.PrintLast Go.Proofs.YtomopjomapkmjaaW.PrintMore
section
variable {base g : Nat} {ok : Nat → Prop} {w w0 w1 W : World} {V : BV} {nm : ByteArray} {pa rt at_ : Int} {vr vb vs : Value} {rg st : List Int} {bl : List (List S29)} {f : Nat → Nat}
def NoB (p : Value) (w : World) : Prop := p = .pointer none ∨ ∃ g nm pa rt vr vb c at_, p = .pointer (some ⟨g, 0, none⟩) ∧ w.heap[g]? = some (.cells #[.string nm, .int .i64 pa, .int .i64 rt, vr, vb, .slice none 0 c, .int .i64 at_] 64 (0, 0))
theorem NoB.below {p : Value} (h : NoB p w) (hb : Below w.heap.size w w1) : NoB p w1 := by
 rcases h with h | ⟨g, nm, pa, rt, vr, vb, c, at_, h, hc⟩
 ·exact .inl h
 ·exact .inr ⟨g, nm, pa, rt, vr, vb, c, at_, h, blk_below hc hb⟩
set_option maxHeartbeats 1000000 in
theorem made_at {n c : Nat} {A : Option Addr} (hc : w.heap[g]? = some (.cells #[.string nm, .int .i64 pa, .int .i64 rt, vr, vb, .slice A n c, .int .i64 at_] 64 (0, 0))) (hn : 0 < n) :
  Calls Try.prog 47 #[.pointer (some ⟨g, 0, none⟩)] w fun e w' => e = .returned (.bool true) ∧ w = w' := by
 have c5 := blk_cell hc 5
 simp only [List.getElem?_toArray, List.getElem?_cons_zero, List.getElem?_cons_succ] at c5
 have t1 : decide ((n : Int) > 0) = true := decide_eq_true (by omega)
 have t2 : decide (n > 0) = true := decide_eq_true (by omega)
 clear hc
 go_enter Try.func47, Try.ntmps47
 go_wp2
 go_ret
 exact ⟨rfl, rfl⟩
theorem NoB.drewN {p : Value} (h : NoB p w) (n : Nat) : NoB p (w.drewN n) := h
def openB (V : BV) : Bool := decide (V.st.getD V.at_.toNat 0 = 1)
def Fit (V : BV) : Prop := 0 ≤ V.at_ ∧ V.at_ < (V.st.length : Int) ∧ V.st.length = V.bl.length
theorem BAt.drewN (h : BAt base ok w g V) (n : Nat) : BAt base ok (w.drewN n) g V := h.below (pw_below_drewN (Below.refl _ _) n)
set_option maxHeartbeats 1000000 in
theorem Open_at (h : BAt base ok w g V) (hf : Fit V) : Calls Try.prog 26 #[.pointer (some ⟨g, 0, none⟩)] w fun e w' => e = .returned (.bool (openB V)) ∧ Drawn0 w w' := by
 obtain ⟨f0, f1, _⟩ := hf
 obtain ⟨h1, h2, h3, f, vr, vb, vs, hc, hr, hB, ht⟩ := h
 obtain ⟨As, cs, rfl⟩ := Kd.R_slice ht
 obtain ⟨qs, eqs, cq⟩ := Kd.at_int (Kd.R_reads' ht).2.2 V.at_ f0 f1
 subst eqs
 have hm := fun n => Calls.quiet_of_same (n := n) ((made_at (w := w.drewN n) hc (by omega)).mono fun _ _ ⟨a, b⟩ => ⟨a, b.symm⟩)
 have HM := Aside0.mk hm
 have c5 := blk_cell hc 5
 have c6 := blk_cell hc 6
 simp only [List.getElem?_toArray, List.getElem?_cons_zero, List.getElem?_cons_succ] at c5 c6
 have e0 : rd V.st V.at_ = V.st.getD V.at_.toNat 0 := rfl
 obtain ⟨x, hx⟩ : ∃ x, V.st.getD V.at_.toNat 0 = x := ⟨_, rfl⟩
 have ho : openB V = decide (x = 1) := by unfold openB; rw [hx]
 obtain ⟨o, eo⟩ : ∃ o, openB V = o := ⟨_, rfl⟩
 rw [eo]
 rw [eo] at ho
 rw [e0, hx] at cq
 clear e0 hx eo hm hc hr hB ht h1 h2 h3
 obtain ⟨t, et⟩ : ∃ t, V.at_ = t := ⟨_, rfl⟩
 obtain ⟨n, en⟩ : ∃ t, V.st.length = t := ⟨_, rfl⟩
 rw [et] at f0 f1 cq c6
 rw [en] at f1 c5
 clear et en
 by_cases e1 : x = 1
 ·subst e1
  obtain rfl : o = true := by rw [ho]; rfl
  clear ho
  go_enter Try.func26, Try.ntmps26
  go_wp2
  go_quiet ((go_at_call 47; exact HM.out _))
  go_wp2
  go_ret
  exact ⟨rfl, ⟨nq, rfl⟩⟩
 ·have t1 : decide (x = 1) = false := decide_eq_false e1
  have t2 : (x == 1) = false := beq_eq_false_iff_ne.mpr e1
  obtain rfl : o = false := ho.trans t1
  clear ho
  go_enter Try.func26, Try.ntmps26
  go_wp2
  go_quiet ((go_at_call 47; exact HM.out _))
  go_wp2
  go_ret
  exact ⟨rfl, ⟨nq, rfl⟩⟩
def kindB (k : Int) : Bool := decide (1 ≤ k) && decide (k ≤ 3)
set_option maxHeartbeats 1000000 in
theorem kind_at (k : Int) (w : World) : Calls Try.prog 40 #[.int .i64 k] w fun e w' => e = .returned (.bool (kindB k)) ∧ w = w' := by
 obtain ⟨o, eo⟩ : ∃ o, kindB k = o := ⟨_, rfl⟩
 rw [eo]
 by_cases h1 : 1 ≤ k
 ·by_cases h2 : k ≤ 3
  ·have t1 : decide (1 ≤ k) = true := decide_eq_true h1
   have t2 : decide (k ≤ 3) = true := decide_eq_true h2
   obtain rfl : o = true := by rw [← eo]; unfold kindB; rw [t1, t2]; rfl
   clear eo
   go_enter Try.func40, Try.ntmps40
   go_wp2
   go_ret
   exact ⟨rfl, rfl⟩
  ·have t1 : decide (1 ≤ k) = true := decide_eq_true h1
   have t2 : decide (k ≤ 3) = false := decide_eq_false h2
   obtain rfl : o = false := by rw [← eo]; unfold kindB; rw [t1, t2]; rfl
   clear eo
   go_enter Try.func40, Try.ntmps40
   go_wp2
   go_ret
   exact ⟨rfl, rfl⟩
 ·have t1 : decide (1 ≤ k) = false := decide_eq_false h1
  obtain rfl : o = false := by rw [← eo]; unfold kindB; rw [t1]; rfl
  clear eo
  go_enter Try.func40, Try.ntmps40
  go_wp2
  go_ret
  exact ⟨rfl, rfl⟩
theorem ret_i {a b : Int} (h : a = b) : Ending.returned (.int .i64 a) = .returned (.int .i64 b) := by rw [h]
set_option maxHeartbeats 1000000 in
theorem Reg_bad (h : BAt base ok w g V) (hf : Fit V) (k : Int) (hk : kindB k = false) : Calls Try.prog 16 #[.pointer (some ⟨g, 0, none⟩), .int .i64 k] w fun e w' => e = .returned (.int .i64 (-1)) ∧ w = w' := by
 obtain ⟨f0, f1, _⟩ := hf
 obtain ⟨h1, h2, h3, f, vr, vb, vs, hc, hr, hB, ht⟩ := h
 obtain ⟨As, cs, rfl⟩ := Kd.R_slice ht
 have HM := Aside0.mk (made_at hc (show 0 < V.st.length by omega))
 have HK := Aside0.mk (kind_at k w)
 have AK := Aside0.mk hk
 clear h1 h2 h3 hc hr hB ht f0 f1 hk
 go_enter Try.func16, Try.ntmps16
 go_wp2_with (first | (go_at_call 47; ((with_reducible refine HM.out.mono ?_); rintro e w' ⟨rfl, rfl⟩)) | (go_at_call 40; ((with_reducible refine HK.out.mono ?_); rw [AK.out]; rintro e w' ⟨rfl, rfl⟩)))
 go_ret
 exact ⟨rfl, rfl⟩
set_option maxHeartbeats 2000000 in
theorem Reg_at (h : BAt base ok w g V) (hf : Fit V) (hb0 : Below base w0 w) (hbs : base ≤ w.heap.size) (hL : V.rg.length < 1000000) (k : Int) (hk : kindB k = true) :
  Calls Try.prog 16 #[.pointer (some ⟨g, 0, none⟩), .int .i64 k] w fun e w' => e = .returned (.int .i64 (V.rg.length : Int)) ∧ Below base w0 w' ∧ Turned base ok w w' g ⟨V.nm, V.pa, V.rt, V.rg ++ [k], V.bl, V.st, V.at_⟩ := by
 obtain ⟨f0, f1, _⟩ := hf
 obtain ⟨h1, h2, h3, f, vr, vb, vs, hc, hr, hB, ht⟩ := h
 obtain ⟨As, cs, rfl⟩ := Kd.R_slice ht
 obtain ⟨Ar, cr, rfl⟩ := Kd.R_slice hr
 have HM := Aside0.mk (made_at hc (show 0 < V.st.length by omega))
 have HK := Aside0.mk (kind_at k w)
 have AK := Aside0.mk hk
 have c3 := blk_cell hc 3
 simp only [List.getElem?_toArray, List.getElem?_cons_zero, List.getElem?_cons_succ] at c3
 have HE := Aside0.mk (fun (v1 : Value) (w1 : World) => bt_rg h1 h2 h3 hc hr hB ht (v1 := v1) (x1 := V.rg ++ [k]) (w1 := w1))
 have HR := Aside0.mk hr
 have HC := Aside0.mk hc
 have HN : Aside0 (some g ≠ (Value.slice Ar V.rg.length cr).ownBlock) := ⟨fun e => h2 (hr.1 g e.symm).1⟩
 have HB := Aside0.mk hb0
 have HS := Aside0.mk hbs
 have HG := Aside0.mk h1
 clear h1 h2 h3 hc hr hB ht f0 f1 hk hb0 hbs
 obtain ⟨rg, erg⟩ : ∃ r, V.rg = r := ⟨_, rfl⟩
 rw [erg] at HR HE c3 hL HN
 rw [erg]
 obtain ⟨x1, ex1⟩ : ∃ x, rg ++ [k] = x := ⟨_, rfl⟩
 have l1 : x1.length = rg.length + 1 := by rw [← ex1]; simp
 have l1a : (1 : Int) ≤ (x1.length : Int) := by omega
 have l1b : (x1.length : Int) ≤ 1000000 := by omega
 have L1 := Aside0.mk l1
 have EX := Aside0.mk ex1
 rw [ex1] at HE
 rw [ex1]
 clear ex1 l1 erg
 go_enter Try.func16, Try.ntmps16
 go_wp2_with (first | (go_at_call 47; ((with_reducible refine HM.out.mono ?_); rintro e w' ⟨rfl, rfl⟩)) | (go_at_call 40; ((with_reducible refine HK.out.mono ?_); rw [AK.out]; rintro e w' ⟨rfl, rfl⟩)) | ((with_reducible refine gate_builtin (b := .append) (xs := #[.tmp 19, .tmp 21]) rfl ?_); (try (refine gate_guard (by rfl) ?_; dsimp only)); at_builtin; refine Kd.R_append (Kd.int .i64) (w0 := w0) base rfl (.tmp 19) (.tmp 21) 22 3 (.int .i64 0) 8 rfl Try.underlying22 info3 rfl (by decide) (by omega) (.slice Ar rg.length cr) rg k [.int .i64 k] (fun k_ => (ok k_ ∧ f k_ = 0) ∨ w.heap.size ≤ k_) (fun _ => False) rfl rfl ?aP (fun _ hk => hk.elim) ?aF ?aO ?aB ?aS ?aL ?_; (case aP => exact rfl); (case aB => exact HB.out); (case aF => exact fun k_ hk => .inr hk); (case aO => exact Kd.R_mono HR.out (fun _ hk => .inl hk)); (case aS => exact HS.out); (case aL => omega); intro v1 w1 ho hb hg hat; rw [EX.out] at ho; obtain ⟨A1, c1_, rfl⟩ := Kd.R_slice ho; have hc1 := blk_grown HC.out hg HN.out; have k3 := blk_cell hc1 3; have z3 := blk_frozen hc1 3; simp only [List.getElem?_toArray, List.getElem?_cons_zero, List.getElem?_cons_succ] at k3; have HO := Aside0.mk ho; have HB1 := Aside0.mk hb; have HGr := Aside0.mk hg; clear ho hb hg hat hc1 c3))
 go_ret
 refine ⟨ret_i (by have := L1.out; omega), HB1.out.setCell (by exact HG.out) _, HE.out _ _ HO.out HGr.out HGr.out.size⟩
end
end Go.Proofs.Ytomopjomapkmjaa.B
set_option linter.unusedVariables false
set_option linter.unusedSimpArgs false
namespace Go.Proofs.Ytomopjomapkmjaa.B
open Go Go.RowKit Go.Proofs.YtomopjomapkmjaaW.PrintWords Go.Proofs.YtomopjomapkmjaaW.PrintLast Go.Proofs.YtomopjomapkmjaaW.PrintMore
section
variable {base g : Nat} {ok : Nat → Prop} {w w0 w1 W : World} {V : BV} {nm : ByteArray} {pa rt at_ : Int} {vr vb vs : Value} {rg st : List Int} {bl : List (List S29)} {f : Nat → Nat}
def beginB (V : BV) (b : Int) : Bool := !openB V && (decide (0 ≤ b) && (decide (b < (V.st.length : Int)) && decide (V.st.getD b.toNat 0 = 0)))
set_option maxHeartbeats 2000000 in
theorem Begin_bad (h : BAt base ok w g V) (hf : Fit V) (b : Int) (hk : beginB V b = false) : Calls Try.prog 31 #[.pointer (some ⟨g, 0, none⟩), .int .i64 b] w fun e w' => e = .returned (.bool false) ∧ Drawn0 w w' := by
 have HO := Aside0.mk (Open_at h hf)
 obtain ⟨f0, f1, _⟩ := hf
 obtain ⟨h1, h2, h3, f, vr, vb, vs, hc, hr, hB, ht⟩ := h
 obtain ⟨As, cs, rfl⟩ := Kd.R_slice ht
 have HM := Aside0.mk (made_at hc (show 0 < V.st.length by omega))
 have c5 := blk_cell hc 5
 simp only [List.getElem?_toArray, List.getElem?_cons_zero, List.getElem?_cons_succ] at c5
 have HT := Aside0.mk (Kd.R_reads' ht).2.2
 unfold beginB at hk
 clear h1 h2 h3 hc hr hB ht f0 f1
 obtain ⟨st, est⟩ : ∃ r, V.st = r := ⟨_, rfl⟩
 rw [est] at hk c5 HT
 clear est
 obtain ⟨o, eo⟩ : ∃ o, openB V = o := ⟨_, rfl⟩
 rw [eo] at hk HO
 clear eo
 cases o with
 | true =>
  clear hk
  go_enter Try.func31, Try.ntmps31
  go_wp2_with (first | (go_at_call 47; ((with_reducible refine HM.out.mono ?_); rintro e w' ⟨rfl, rfl⟩)) | (go_at_call 26; ((with_reducible refine HO.out.mono ?_); rintro e w' ⟨rfl, ⟨nd, rfl⟩⟩)))
  go_ret
  exact ⟨rfl, ⟨nd, rfl⟩⟩
 | false =>
  rw [Bool.not_false, Bool.true_and] at hk
  by_cases a1 : 0 ≤ b
  ·have t1 : decide (b < 0) = false := decide_eq_false (by omega)
   rw [decide_eq_true a1, Bool.true_and] at hk
   by_cases a2 : b < (st.length : Int)
   ·have t2 : decide ((st.length : Int) ≤ b) = false := decide_eq_false (by omega)
    rw [decide_eq_true a2, Bool.true_and] at hk
    obtain ⟨q, eq_, cq⟩ := Kd.at_int HT.out b a1 a2
    subst eq_
    have e0 : rd st b = st.getD b.toNat 0 := rfl
    rw [e0] at cq
    obtain ⟨x, hx⟩ : ∃ x, st.getD b.toNat 0 = x := ⟨_, rfl⟩
    rw [hx] at cq hk
    have ex : ¬ x = 0 := of_decide_eq_false hk
    have t3 : decide (x = 0) = false := decide_eq_false ex
    have t4 : (x == 0) = false := beq_eq_false_iff_ne.mpr ex
    have t5 : (x != 0) = true := by simp [ex]
    clear hk hx e0 ex
    go_enter Try.func31, Try.ntmps31
    go_wp2_with (first | (go_at_call 47; ((with_reducible refine HM.out.mono ?_); rintro e w' ⟨rfl, rfl⟩)) | (go_at_call 26; ((with_reducible refine HO.out.mono ?_); rintro e w' ⟨rfl, ⟨nd, rfl⟩⟩)))
    go_ret
    exact ⟨rfl, ⟨nd, rfl⟩⟩
   ·have t2 : decide ((st.length : Int) ≤ b) = true := decide_eq_true (by omega)
    clear hk
    go_enter Try.func31, Try.ntmps31
    go_wp2_with (first | (go_at_call 47; ((with_reducible refine HM.out.mono ?_); rintro e w' ⟨rfl, rfl⟩)) | (go_at_call 26; ((with_reducible refine HO.out.mono ?_); rintro e w' ⟨rfl, ⟨nd, rfl⟩⟩)))
    go_ret
    exact ⟨rfl, ⟨nd, rfl⟩⟩
  ·have t1 : decide (b < 0) = true := decide_eq_true (by omega)
   clear hk
   go_enter Try.func31, Try.ntmps31
   go_wp2_with (first | (go_at_call 47; ((with_reducible refine HM.out.mono ?_); rintro e w' ⟨rfl, rfl⟩)) | (go_at_call 26; ((with_reducible refine HO.out.mono ?_); rintro e w' ⟨rfl, ⟨nd, rfl⟩⟩)))
   go_ret
   exact ⟨rfl, ⟨nd, rfl⟩⟩
set_option maxHeartbeats 2000000 in
theorem Begin_at (h : BAt base ok w g V) (hf : Fit V) (hb0 : Below base w0 w) (b : Int) (hk : beginB V b = true) :
  Calls Try.prog 31 #[.pointer (some ⟨g, 0, none⟩), .int .i64 b] w fun e w' => e = .returned (.bool true) ∧ Below base w0 w' ∧ Turned base ok w w' g ⟨V.nm, V.pa, V.rt, V.rg, V.bl, V.st.set b.toNat 1, b⟩ := by
 have HO := Aside0.mk (Open_at h hf)
 obtain ⟨f0, f1, _⟩ := hf
 obtain ⟨h1, h2, h3, f, vr, vb, vs, hc, hr, hB, ht⟩ := h
 obtain ⟨q, cs, rfl, hq, _⟩ := Kd.R_form ht (by omega)
 have HM := Aside0.mk (made_at hc (show 0 < V.st.length by omega))
 unfold beginB at hk
 simp only [Bool.and_eq_true, decide_eq_true_eq, Bool.not_eq_true'] at hk
 obtain ⟨k1, k2, k3, k4⟩ := hk
 have HE : ∀ n, Aside0 (Turned base ok w (((w.drewN n).setCell ⟨g, 6, none⟩ (.int .i64 b)).setCell ⟨q, b.toNat, none⟩ (.int .i64 1)) g ⟨V.nm, V.pa, V.rt, V.rg, V.bl, V.st.set b.toNat 1, b⟩) := fun n => ⟨bt_begin (w := w.drewN n) h1 h2 h3 hc (Kd.R_drewN hr n) (Kd.S_drewN hB n) (Kd.R_drewN ht n) b 1⟩
 obtain ⟨q', eq_, cq⟩ := Kd.at_int (Kd.R_reads' ht).2.2 b k2 k3
 injection eq_ with eq_
 subst eq_
 have e0 : rd V.st b = 0 := k4
 rw [e0] at cq
 rw [add_plain] at cq
 have zq : w.frozen? ⟨q, b.toNat, none⟩ = false := by
  obtain ⟨cells, hcells⟩ := Kd.R_typed ht q rfl
  exact blk_frozen hcells _
 have c5 := blk_cell hc 5
 have c6 := blk_cell hc 6
 have z6 := blk_frozen hc 6
 have hgq : g ≠ q := fun e => h2 (e ▸ (ht.1 q rfl).1)
 simp only [List.getElem?_toArray, List.getElem?_cons_zero, List.getElem?_cons_succ] at c5 c6
 have HB := Aside0.mk hb0
 have HG := Aside0.mk (And.intro h1 hq)
 have t1 : decide (b < 0) = false := decide_eq_false (by omega)
 rw [k1] at HO
 clear h1 h2 h3 hc hr hB ht f0 f1 hb0 e0 k1 k4
 obtain ⟨st, est⟩ : ∃ r, V.st = r := ⟨_, rfl⟩
 rw [est] at k3 c5
 have t2 : decide ((st.length : Int) ≤ b) = false := decide_eq_false (by omega)
 clear est
 go_enter Try.func31, Try.ntmps31
 go_wp2_with (first | (go_at_call 47; ((with_reducible refine HM.out.mono ?_); rintro e w' ⟨rfl, rfl⟩)) | (go_at_call 26; ((with_reducible refine HO.out.mono ?_); rintro e w' ⟨rfl, ⟨nd, rfl⟩⟩)))
 go_ret
 exact ⟨rfl, ((pw_below_drewN HB.out nd).setCell (by exact HG.out.1) _).setCell (by exact HG.out.2) _, (HE nd).out⟩
end
end Go.Proofs.Ytomopjomapkmjaa.B
set_option linter.unusedVariables false
set_option linter.unusedSimpArgs false
namespace Go.Proofs.Ytomopjomapkmjaa.B
open Go Go.RowKit Go.Proofs.YtomopjomapkmjaaW.PrintWords Go.Proofs.YtomopjomapkmjaaW.PrintLast Go.Proofs.YtomopjomapkmjaaW.PrintMore
section
variable {P : Program} {ops : Array Oper} {o : Oper} {a : Act} {Q : Exit → Act → World → Prop} {Kc : Act → World → Prop} {α : Type} {E : Prop}
theorem R_append_at (d : Kd α) {w0 W : World} (base : Nat) (hgd : o.guard = none) (s x : Operand) (t e : TypeId) (z : Value) (bytes : Nat)
  (ho : o.op = .call { callee := .builtin .append, args := #[s, x], argTypes := #[t, t] })
  (ht : P.underlying t = some (.slice e)) (hinfo : (P.info? e).map (fun i => (i.zero, i.size, i.bytes)) = some (some z, d.sz, bytes)) (hz : z.cells.size = d.sz) (hs0 : 0 < d.sz) (hb0 : 0 < bytes)
  (v : Value) (xs : List α) (p : α) (cs : List Value) (ok okp : Nat → Prop) (hs : a.eval s = v) (xb : Nat) (hx : a.eval x = .slice (some ⟨xb, 0, none⟩) 1 1) (hxb : W.heap[xb]? = some (.cells cs.toArray e (0, 0)))
  (hp : d.M W base okp p cs) (hokp : ∀ k, okp k → ok k ∧ some k ≠ v.ownBlock) (hfresh : ∀ k, W.heap.size ≤ k → ok k)
  (HO : d.R e W base ok v xs) (HB : Below base w0 W) (hbase : base ≤ W.heap.size) (hl : (xs.length + 1) * bytes ≤ 140737488355328)
  (h : ∀ v1 w1, d.R e w1 base ok v1 (xs ++ [p]) → Below base w0 w1 → W.grownBy w1 v.ownBlock → (v1.ownBlock = v.ownBlock ∨ ∃ b, v1.ownBlock = some b ∧ W.heap.size ≤ b) → Kc (a.put o.dst v1) w1) :
  if Region.wanted o (yielded ops a.tmps) = true then Oper.wp P o a W Kc Q else E := by
 obtain ⟨h0, inner, hown, hr⟩ := HO
 obtain ⟨i0, hi, hzz⟩ := Option.map_eq_some_iff.1 hinfo
 simp only [Prod.mk.injEq] at hzz
 obtain ⟨hz0, hz1, hz2⟩ := hzz
 have hlen : xs.length + 1 ≤ 140737488355328 := Nat.le_trans (Nat.le_mul_of_pos_right _ hb0) hl
 refine step_append_lies W hgd s x t ho base e i0 z d.sz bytes ht hi hz0 hz1 hz2 hz hs0 v xs.length inner hs hown ⟨xb, 0, none⟩ 1 1 cs hx (by rw [d.K_len (d.K_of_M hp)]; simp)
  (by simpa using World.news_of_block (cs := cs.toArray) hxb) (d.K_one (d.K_of_M hp)) (by omega) (by simp only [maxLen]; omega) hl hbase W.heap.size rfl ?_
 intro g cap w1 hown1 hg hat hlt
 have hat' : (Value.slice (some ⟨g, 0, none⟩) (xs.length + 1) cap).ownBlock = v.ownBlock ∨ ∃ b, (Value.slice (some ⟨g, 0, none⟩) (xs.length + 1) cap).ownBlock = some b ∧ W.heap.size ≤ b := by
  rcases hat with hat | hat
  ·exact .inl hat.symm
  ·exact .inr ⟨g, rfl, by omega⟩
 exact h _ w1 (Kd.R_appended h0 hr hp hokp hfresh hown1 hg hat') (HB.grown hg hbase (own_base hown)) hg hat'
theorem S_append_at (d : Kd α) {w0 W : World} (base : Nat) (hgd : o.guard = none) (s x : Operand) (t e : TypeId) (z : Value) (bytes : Nat)
  (ho : o.op = .call { callee := .builtin .append, args := #[s, x], argTypes := #[t, t] })
  (ht : P.underlying t = some (.slice e)) (hinfo : (P.info? e).map (fun i => (i.zero, i.size, i.bytes)) = some (some z, d.sz, bytes)) (hz : z.cells.size = d.sz) (hs0 : 0 < d.sz) (hb0 : 0 < bytes)
  (v : Value) (xs : List α) (p : α) (cs : List Value) (ok okp : Nat → Prop) (hs : a.eval s = v) (xb : Nat) (hx : a.eval x = .slice (some ⟨xb, 0, none⟩) 1 1) (hxb : W.heap[xb]? = some (.cells cs.toArray e (0, 0)))
  (hp : d.M W base okp p cs) (hokp : ∀ k, okp k → ok k ∧ some k ≠ v.ownBlock) (hfresh : ∀ k, W.heap.size ≤ k → ok k)
  (HO : Kd.S d e W base (fun k => ok k ∧ ¬ okp k) v xs) (HB : Below base w0 W) (hbase : base ≤ W.heap.size) (hl : (xs.length + 1) * bytes ≤ 140737488355328)
  (h : ∀ v1 w1, Kd.S d e w1 base ok v1 (xs ++ [p]) → Below base w0 w1 → W.grownBy w1 v.ownBlock → (v1.ownBlock = v.ownBlock ∨ ∃ b, v1.ownBlock = some b ∧ W.heap.size ≤ b) → Kc (a.put o.dst v1) w1) :
  if Region.wanted o (yielded ops a.tmps) = true then Oper.wp P o a W Kc Q else E := by
 obtain ⟨f, hf, hR⟩ := Kd.S_tag HO xs.length okp (fun _ hk h2 => h2.2 hk)
 refine R_append_at (Kd.tag f d) base hgd s x t e z bytes ho ht hinfo hz hs0 hb0 v xs.zipIdx (p, xs.length) cs ok okp hs xb hx hxb (d.M_mono (fun k hk => ⟨hk, hf k hk⟩) hp) hokp hfresh (Kd.R_mono hR (fun _ hk => hk.1)) HB hbase (by rw [List.length_zipIdx]; exact hl) ?_
 intro v1 w1 hr
 rw [← Kd.zip_snoc] at hr
 exact h v1 w1 ⟨f, hr⟩
end
theorem blk_new1 (w : World) (o o' : Obj) : ((w.alloc o).alloc o').heap[w.heap.size + 1]? = some o' := by simpa using blk_new (w.alloc o) o'
theorem info35 : (Try.prog.info? 35).map (fun i => (i.zero, i.size, i.bytes)) = some (some (.slice none 0 0), 1, 24) := by kernel_rfl
section
variable {base g : Nat} {ok : Nat → Prop} {w w0 w1 w2 W : World} {V : BV} {nm : ByteArray} {pa rt at_ : Int} {vr vb vs : Value} {rg st : List Int} {bl : List (List S29)} {f : Nat → Nat}
theorem bt_bl (h1 : base ≤ g) (h2 : ¬ ok g) (h3 : ∀ k, ok k → base ≤ k ∧ k < w.heap.size)
  (hb : w.heap[g]? = some (.cells #[.string nm, .int .i64 pa, .int .i64 rt, vr, vb, vs, .int .i64 at_] 64 (0, 0)))
  (hr : (Kd.int .i64).R 3 w base (fun k => ok k ∧ f k = 0) vr rg) (hB : Kd.S kB 35 w base (fun k => ok k ∧ f k = 1) vb bl) (ht : (Kd.int .i64).R 3 w base (fun k => ok k ∧ f k = 2) vs st)
  {v1 v2 : Value} {b1 : List (List S29)} {s1 : List Int} (ho1 : Kd.S kB 35 w1 base (fun k => (ok k ∧ f k = 1) ∨ w.heap.size ≤ k) v1 b1) (hg1 : w.grownBy w1 vb.ownBlock) (hs1 : w.heap.size ≤ w1.heap.size)
  (ho2 : (Kd.int .i64).R 3 w2 base (fun k => (ok k ∧ f k = 2) ∨ w1.heap.size ≤ k) v2 s1) (hg2 : w1.grownBy w2 vs.ownBlock) (hs2 : w1.heap.size ≤ w2.heap.size) :
  Turned base ok w ((w2.setCell ⟨g, 4, none⟩ v1).setCell ⟨g, 5, none⟩ v2) g ⟨nm, pa, rt, rg, b1, s1, at_⟩ := by
 have hl := blk_lt hb
 have hnb : ∀ k, vb.ownBlock = some k → ok k ∧ f k = 1 := fun k e => (Kd.S_R hB).1 k e
 have hns : ∀ k, vs.ownBlock = some k → ok k ∧ f k = 2 := fun k e => ht.1 k e
 have k1 : Kept w w1 (fun k => k = g ∨ ok k) := grown_kept hg1 hs1 (fun k e => .inr (hnb k e).1)
 have k2 : Kept w w2 (fun k => k = g ∨ ok k) := k1.then_ (grown_kept (S := fun k => vs.ownBlock = some k) hg2 hs2 (fun k e => e)) (fun k e => .inl (.inr (hns k e).1))
 have b1' := blk_grown hb hg1 (fun e => h2 (hnb g e.symm).1)
 have b2' := blk_grown b1' hg2 (fun e => h2 (hns g e.symm).1)
 refine ⟨((k2.setCell (p := ⟨g, 4, none⟩) (.inl (.inl rfl)) v1).setCell (p := ⟨g, 5, none⟩) (.inl (.inl rfl)) v2), fun k => (ok k ∨ w.heap.size ≤ k) ∧ k < w2.heap.size, fun k hk => hk.1, h1, ?_, ?_, fun k => if k < w.heap.size then f k else if k < w1.heap.size then 1 else 2, vr, v1, v2, ?_, ?_, ?_, ?_⟩
 ·rintro ⟨h | h, _⟩
  ·exact h2 h
  ·omega
 ·rintro k ⟨h | h, h'⟩
  ·exact ⟨(h3 k h).1, by simpa using h'⟩
  ·exact ⟨by omega, by simpa using h'⟩
 ·exact blk_put (blk_put b2' 4 v1 rfl) 5 v2 rfl
 ·have far : ∀ k, ok k ∧ f k = 0 → k ≠ g := fun k hk e => h2 (e ▸ hk.1)
  have h5 := Kd.R_far (Kd.R_far (Kd.R_step hr (w1 := w2) (fun k hk hlt => by
   rw [← (hg1.block k hlt (fun e => by have := (hnb k e.symm).2; have := hk.2; omega))]
   exact hg2.block k (by omega) (fun e => by have := (hns k e.symm).2; have := hk.2; omega))) (p := ⟨g, 4, none⟩) far v1) (p := ⟨g, 5, none⟩) far v2
  refine Kd.R_mono h5 (fun k hk => ?_)
  have := (h3 k hk.1).2
  exact ⟨⟨.inl hk.1, by omega⟩, (if_pos this).trans hk.2⟩
 ·have ho1' := Kd.S_bound ho1
  have far : ∀ k, ((ok k ∧ f k = 1) ∨ w.heap.size ≤ k) → k ≠ g := fun k hk e => by
   rcases hk with hk | hk
   ·exact h2 (e ▸ hk.1)
   ·omega
  have h5 := Kd.S_far (Kd.S_far (Kd.S_step ho1' (w1 := w2) (fun k hk hlt => hg2.block k hlt (fun e => by
   have e2 := hns k e.symm
   have := (h3 k e2.1).2
   rcases hk.1 with hk | hk
   ·have := hk.2; omega
   ·omega))) (p := ⟨g, 4, none⟩) (fun k hk => far k hk.1) v1) (p := ⟨g, 5, none⟩) (fun k hk => far k hk.1) v2
  refine Kd.S_mono h5 (fun k hk => ?_)
  have hlt := hk.2.2.1
  rcases hk.1 with h | h
  ·have := (h3 k h.1).2
   exact ⟨⟨.inl h.1, by omega⟩, (if_pos this).trans h.2⟩
  ·exact ⟨⟨.inr h, by omega⟩, (if_neg (by omega)).trans (if_pos hlt)⟩
 ·have ho2' := Kd.R_bound ho2
  have far : ∀ k, ((ok k ∧ f k = 2) ∨ w1.heap.size ≤ k) → k ≠ g := fun k hk e => by
   rcases hk with hk | hk
   ·exact h2 (e ▸ hk.1)
   ·omega
  have h5 := Kd.R_far (Kd.R_far ho2' (p := ⟨g, 4, none⟩) (fun k hk => far k hk.1) v1) (p := ⟨g, 5, none⟩) (fun k hk => far k hk.1) v2
  refine Kd.R_mono h5 (fun k hk => ?_)
  have hlt := hk.2.2.1
  rcases hk.1 with h | h
  ·have := (h3 k h.1).2
   exact ⟨⟨.inl h.1, by omega⟩, (if_pos this).trans h.2⟩
  ·exact ⟨⟨.inr (by omega), by omega⟩, (if_neg (by omega)).trans (if_neg (by omega))⟩
end
end Go.Proofs.Ytomopjomapkmjaa.B
set_option linter.unusedVariables false
set_option linter.unusedSimpArgs false
namespace Go.Proofs.Ytomopjomapkmjaa.B
open Go Go.RowKit Go.Proofs.YtomopjomapkmjaaW.PrintWords Go.Proofs.YtomopjomapkmjaaW.PrintLast Go.Proofs.YtomopjomapkmjaaW.PrintMore
section
variable {base g : Nat} {ok : Nat → Prop} {w w0 w1 w2 W : World} {V : BV} {nm : ByteArray} {pa rt at_ : Int} {vr vb vs : Value} {rg st : List Int} {bl : List (List S29)} {f : Nat → Nat}
set_option maxHeartbeats 4000000 in
theorem Block_at (h : BAt base ok w g V) (hf : Fit V) (hb0 : Below base w0 w) (hbs : base ≤ w.heap.size) (hL : V.bl.length < 1000000) :
  Calls Try.prog 30 #[.pointer (some ⟨g, 0, none⟩)] w fun e w' => e = .returned (.int .i64 (V.bl.length : Int)) ∧ Below base w0 w' ∧ Turned base ok w w' g ⟨V.nm, V.pa, V.rt, V.rg, V.bl ++ [[]], V.st ++ [0], V.at_⟩ := by
 obtain ⟨f0, f1, f2⟩ := hf
 obtain ⟨h1, h2, h3, f, vr, vb, vs, hc, hr, hB, ht⟩ := h
 obtain ⟨As, cs, rfl⟩ := Kd.R_slice ht
 obtain ⟨Ab, cb, rfl⟩ := Kd.S_slice hB
 have HM := Aside0.mk (made_at hc (show 0 < V.st.length by omega))
 have HE := Aside0.mk (fun (w1 w2 : World) (v1 v2 : Value) => bt_bl (w1 := w1) (w2 := w2) (v1 := v1) (v2 := v2) (b1 := V.bl ++ [[]]) (s1 := V.st ++ [0]) h1 h2 h3 hc hr hB ht)
 have HNB : Aside0 (∀ k, (Value.slice Ab V.bl.length cb).ownBlock = some k → k < w.heap.size ∧ k ≠ g ∧ f k = 1) := ⟨fun k e => ⟨(h3 k ((Kd.S_R hB).1 k e).1).2, fun e2 => h2 (e2 ▸ ((Kd.S_R hB).1 k e).1), ((Kd.S_R hB).1 k e).2⟩⟩
 have HNS : Aside0 (∀ k, (Value.slice As V.st.length cs).ownBlock = some k → k < w.heap.size ∧ k ≠ g ∧ f k = 2) := ⟨fun k e => ⟨(h3 k (ht.1 k e).1).2, fun e2 => h2 (e2 ▸ (ht.1 k e).1), (ht.1 k e).2⟩⟩
 have HSB := Aside0.mk hB
 have HST := Aside0.mk ht
 have HC := Aside0.mk hc
 have HB := Aside0.mk hb0
 have HS := Aside0.mk hbs
 have HG := Aside0.mk h1
 have HGL := Aside0.mk (blk_lt hc)
 have LL : Aside0 (V.st.length = V.bl.length ∧ V.bl.length < 1000000) := ⟨⟨f2, hL⟩⟩
 clear h1 h2 h3 hc hr hB ht f0 f1 f2 hb0 hbs hL
 obtain ⟨bl, ebl⟩ : ∃ r, V.bl = r := ⟨_, rfl⟩
 rw [ebl] at HSB HE HC LL HNB
 rw [ebl]
 obtain ⟨st, est⟩ : ∃ r, V.st = r := ⟨_, rfl⟩
 rw [est] at HST HE HC LL HNS
 rw [est]
 obtain ⟨b1, eb1⟩ : ∃ x, bl ++ [[]] = x := ⟨_, rfl⟩
 obtain ⟨s1, es1⟩ : ∃ x, st ++ [0] = x := ⟨_, rfl⟩
 have l1 : b1.length = bl.length + 1 := by rw [← eb1]; simp
 have l1a : (1 : Int) ≤ (b1.length : Int) := by omega
 have l1b : (b1.length : Int) ≤ 1000000 := by have := LL.out; omega
 have L1 := Aside0.mk l1
 rw [eb1, es1] at HE
 rw [eb1, es1]
 have EB := Aside0.mk eb1
 have ES := Aside0.mk es1
 clear eb1 es1 l1 ebl est
 have c4 := blk_cell HC.out 4
 have c5 := blk_cell HC.out 5
 simp only [List.getElem?_toArray, List.getElem?_cons_zero, List.getElem?_cons_succ] at c4 c5
 go_enter Try.func30, Try.ntmps30
 go_upto_region 3 with (go_at_call 47; ((with_reducible refine HM.out.mono ?_); rintro e w' ⟨rfl, rfl⟩))
 refine start_ (n := 24) (S := fun w' => w'.cell? ⟨g, 4, none⟩ = some (.slice Ab bl.length cb) ∧ w'.cell? ⟨g, 5, none⟩ = some (.slice As st.length cs)) (ds := [20, 23]) #[false, false, false, false, false, false, false, false, false, false, false, false, false, false, false, false, false, false, false, false, false, false, false, false] (by kernel_rfl) rfl rfl ⟨c4, c5⟩ (fun hHeld => ?_)
 refine pT 0 (some 6) (zb 24 1) (h := ?_)
 refine pT 1 (some 7) (zb 24 3) (h := ?_)
 refine pT 2 (some 8) (zb 24 7) (h := ?_)
 refine pT 3 (some 9) (zb 24 15) (h := ?_)
 refine pT 4 (some 10) (zb 24 31) (h := ?_)
 refine pT 5 (some 11) (zb 24 63) (h := ?_)
 refine pT 6 (some 12) (zb 24 127) (h := ?_)
 refine pT 10 (some 16) (zb 24 1151) (h := ?_)
 refine pT 11 (some 17) (zb 24 3199) (h := ?_)
 refine pT 12 (some 18) (zb 24 7295) (h := ?_)
 refine take_ (i := 7) (N := some 13) (v := ?_) (a' := ?_) (zb 24 7423) rfl rfl (by kernel_rfl) (fun _ _ _ h => h) (Or.inl ⟨by rfl, ?_⟩) hHeld ?_ ?_
 rotate_left
 ·rintro w' ⟨s0, s1⟩
  go_simp
  with_reducible rfl
 rotate_left
 ·simp only [Act.put, List.setIfInBounds_toArray, List.set_cons_zero, List.set_cons_succ, i64_w, i32_w]
  rfl
 refine take_ (i := 13) (N := some 19) (v := ?_) (a' := ?_) (zb 24 15615) rfl rfl (by kernel_rfl) (fun _ _ _ h => h) (Or.inl ⟨by rfl, ?_⟩) hHeld ?_ ?_
 rotate_left
 ·rintro w' ⟨s0, s1⟩
  go_simp
  with_reducible rfl
 rotate_left
 ·simp only [Act.put, List.setIfInBounds_toArray, List.set_cons_zero, List.set_cons_succ, i64_w, i32_w]
  rfl
 refine join_ (σ := Value × Nat × Nat) 9 (zb 24 32767) (fun s_ => [(14, .slice (some ⟨s_.2.1, 0, none⟩) 1 1), (15, s_.1), (20, .slice (some ⟨s_.2.2, 0, none⟩) 1 1)]) (fun s_ w' => (w'.cell? ⟨g, 4, none⟩ = some (.slice Ab bl.length cb) ∧ w'.cell? ⟨g, 5, none⟩ = some (.slice As st.length cs)) ∧ w'.heap[g]? = some (.cells #[.string V.nm, .int .i64 V.pa, .int .i64 V.rt, vr, .slice Ab bl.length cb, .slice As st.length cs, .int .i64 V.at_] 64 (0, 0)) ∧ Below base w0 w' ∧ Kd.S kB 35 w' base (fun k => (ok k ∧ f k = 1) ∨ w.heap.size ≤ k) s_.1 b1 ∧ w.grownBy w' (Value.slice Ab bl.length cb).ownBlock ∧ (Kd.int .i64).R 3 w' base (fun k => ok k ∧ f k = 2) (.slice As st.length cs) st ∧ w'.heap[s_.2.2]? = some (.cells #[.int .i64 0] 3 (0, 0))) ?_ ?_
 rotate_left
 ·intro hCont
  refine two_ (i := 8) (j := 14) (Ni := some 14) (Nj := some 20) (zb 24 15871) (zb 24 31999) rfl rfl rfl rfl (by kernel_rfl) (by decide) (by decide) (fun K hK => ?_) (fun K hK => ?_)
  ·skip
   refine value_ (w1 := ?_) (v := ?_) (by rfl) rfl ?_ ?_
   rotate_left 2
   ·go_simp
    constructor
    ·rfl
    ·rfl
   refine hK.out _ _ ⟨(blk_cell (by repeat (first | (with_reducible exact HC.out) | (with_reducible refine blk_alloc ?_ _) | (with_reducible refine blk_drew ?_))) 4).trans rfl, (blk_cell (by repeat (first | (with_reducible exact HC.out) | (with_reducible refine blk_alloc ?_ _) | (with_reducible refine blk_drew ?_))) 5).trans rfl⟩ (fun hHeld => ?_)
   clear hK K
   refine norm_ (a' := ?_) ?_ ?_
   rotate_left
   ·show Act.put _ (some 14) _ = _
    simp only [Act.put, List.setIfInBounds_toArray, List.set_cons_zero, List.set_cons_succ, i64_w, i32_w]
    rfl
   refine two_ (i := 9) (j := 14) (Ni := some 15) (Nj := some 20) (zb 24 16383) (zb 24 32255) rfl rfl rfl rfl (by kernel_rfl) (by decide) (by decide) (fun K hK => ?_) (fun K hK => ?_)
   ·skip
    refine S_append_at kB (w0 := w0) base (by rfl) (.tmp 13) (.tmp 14) 30 35 (.slice none 0 0) 24 (by rfl) Try.underlying30 info35 rfl (by decide) (by omega) (.slice Ab bl.length cb) bl [] [.slice none 0 0] (fun k => (ok k ∧ f k = 1) ∨ w.heap.size ≤ k) (fun _ => False) (by rfl) _ (by rfl) (by repeat (first | (with_reducible exact blk_new _ _) | (with_reducible exact blk_new1 _ _ _) | (with_reducible exact XA.out) | (with_reducible refine blk_alloc ?_ _) | (with_reducible refine blk_drew ?_))) ⟨_, rfl, Kd.R_nil _ _ _ _ _⟩ (fun _ hk => hk.elim) (fun k hk => .inr (by first | exact hk | (simp at hk; omega))) (Kd.S_mono (by repeat (first | (with_reducible exact HSB.out) | (with_reducible refine Kd.S_alloc ?_ _) | (with_reducible refine Kd.S_drew ?_))) (fun _ hk => ⟨.inl hk, fun q => q⟩)) (by repeat (first | (with_reducible exact HB.out) | (refine Below.alloc ?_ (by have := HS.out; first | exact this | (simp; omega)) _) | (with_reducible refine below_drew1 ?_))) (by have := HS.out; first | exact this | (simp; omega)) (by have := LL.out; omega) ?_
    intro v1 w1 ho hb hg hat
    rw [EB.out] at ho
    have HGA : Aside0 (w.grownBy w1 (Value.slice Ab bl.length cb).ownBlock) := ⟨(grown_of_below (by repeat (first | (with_reducible exact Below.refl _ _) | (with_reducible refine below_alloc ?_ _) | (with_reducible refine below_drew ?_))) _).trans hg⟩
    have HC1 := Aside0.mk (blk_grown (g := g) (o := .cells #[.string V.nm, .int .i64 V.pa, .int .i64 V.rt, vr, .slice Ab bl.length cb, .slice As st.length cs, .int .i64 V.at_] 64 (0, 0)) (by repeat (first | (with_reducible exact HC.out) | (with_reducible refine blk_alloc ?_ _) | (with_reducible refine blk_drew ?_))) hg (fun e => (HNB.out _ e.symm).2.1 rfl))
    have HT1 : Aside0 ((Kd.int .i64).R 3 w1 base (fun k => ok k ∧ f k = 2) (.slice As st.length cs) st) := ⟨Kd.R_grown (by repeat (first | (with_reducible exact HST.out) | (with_reducible refine Kd.R_alloc ?_ _) | (with_reducible refine Kd.R_drew ?_))) hg (fun k hk e => by have := (HNB.out k e.symm).2.2; have := hk.2; omega)⟩
    clear HC HST HB
    have HC := HC1
    have HST := HT1
    have HB := Aside0.mk hb
    have HO1 := Aside0.mk ho
    clear HC1 HT1 hb ho hg hat
    refine hK.out _ _ ⟨(blk_cell HC.out 4).trans rfl, (blk_cell HC.out 5).trans rfl⟩ (fun hHeld => ?_)
    clear hK K
    refine norm_ (a' := ?_) ?_ ?_
    rotate_left
    ·show Act.put _ (some 15) _ = _
     simp only [Act.put, List.setIfInBounds_toArray, List.set_cons_zero, List.set_cons_succ, i64_w, i32_w]
     rfl
    refine one_ (i := 14) (N := some 20) (zb 24 32767) rfl rfl (by kernel_rfl) (by decide) (fun K hK => ?_)
    refine value_ (w1 := ?_) (v := ?_) (by rfl) rfl ?_ ?_
    rotate_left 2
    ·go_simp
     constructor
     ·rfl
     ·rfl
    refine hK.out _ _ ⟨(blk_cell (by repeat (first | (with_reducible exact HC.out) | (with_reducible refine blk_alloc ?_ _) | (with_reducible refine blk_drew ?_))) 4).trans rfl, (blk_cell (by repeat (first | (with_reducible exact HC.out) | (with_reducible refine blk_alloc ?_ _) | (with_reducible refine blk_drew ?_))) 5).trans rfl⟩ (fun hHeld => ?_)
    clear hK K
    refine norm_ (a' := ?_) ?_ ?_
    rotate_left
    ·show Act.put _ (some 20) _ = _
     simp only [Act.put, List.setIfInBounds_toArray, List.set_cons_zero, List.set_cons_succ, i64_w, i32_w]
     rfl
    exact norm_ (by simp only [putAll, Act.put, List.setIfInBounds_toArray, List.set_cons_zero, List.set_cons_succ]) (hCont (v1, w.heap.size, w1.heap.size) _ ⟨hHeld, (by repeat (first | (with_reducible exact HC.out) | (with_reducible refine blk_alloc ?_ _) | (with_reducible refine blk_drew ?_))), (by repeat (first | (with_reducible exact HB.out) | (refine Below.alloc ?_ (by have := HS.out; have := HGA.out.size; first | omega | (simp; omega)) _) | (with_reducible refine below_drew1 ?_))), (by repeat (first | (with_reducible exact HO1.out) | (with_reducible refine Kd.S_alloc ?_ _) | (with_reducible refine Kd.S_drew ?_))), (by first | exact HGA.out | exact World.grownBy.trans HGA.out (World.grownBy_alloc _ _ _)), (by repeat (first | (with_reducible exact HST.out) | (with_reducible refine Kd.R_alloc ?_ _) | (with_reducible refine Kd.R_drew ?_))), (by repeat (first | (with_reducible exact blk_new _ _) | (with_reducible exact blk_new1 _ _ _) | (with_reducible exact XB.out) | (with_reducible refine blk_alloc ?_ _) | (with_reducible refine blk_drew ?_)))⟩)
   ·skip
    refine value_ (w1 := ?_) (v := ?_) (by rfl) rfl ?_ ?_
    rotate_left 2
    ·go_simp
     constructor
     ·rfl
     ·rfl
    refine hK.out _ _ ⟨(blk_cell (by repeat (first | (with_reducible exact HC.out) | (with_reducible refine blk_alloc ?_ _) | (with_reducible refine blk_drew ?_))) 4).trans rfl, (blk_cell (by repeat (first | (with_reducible exact HC.out) | (with_reducible refine blk_alloc ?_ _) | (with_reducible refine blk_drew ?_))) 5).trans rfl⟩ (fun hHeld => ?_)
    clear hK K
    refine norm_ (a' := ?_) ?_ ?_
    rotate_left
    ·show Act.put _ (some 20) _ = _
     simp only [Act.put, List.setIfInBounds_toArray, List.set_cons_zero, List.set_cons_succ, i64_w, i32_w]
     rfl
    refine one_ (i := 9) (N := some 15) (zb 24 32767) rfl rfl (by kernel_rfl) (by decide) (fun K hK => ?_)
    refine S_append_at kB (w0 := w0) base (by rfl) (.tmp 13) (.tmp 14) 30 35 (.slice none 0 0) 24 (by rfl) Try.underlying30 info35 rfl (by decide) (by omega) (.slice Ab bl.length cb) bl [] [.slice none 0 0] (fun k => (ok k ∧ f k = 1) ∨ w.heap.size ≤ k) (fun _ => False) (by rfl) _ (by rfl) (by repeat (first | (with_reducible exact blk_new _ _) | (with_reducible exact blk_new1 _ _ _) | (with_reducible exact XA.out) | (with_reducible refine blk_alloc ?_ _) | (with_reducible refine blk_drew ?_))) ⟨_, rfl, Kd.R_nil _ _ _ _ _⟩ (fun _ hk => hk.elim) (fun k hk => .inr (by first | exact hk | (simp at hk; omega))) (Kd.S_mono (by repeat (first | (with_reducible exact HSB.out) | (with_reducible refine Kd.S_alloc ?_ _) | (with_reducible refine Kd.S_drew ?_))) (fun _ hk => ⟨.inl hk, fun q => q⟩)) (by repeat (first | (with_reducible exact HB.out) | (refine Below.alloc ?_ (by have := HS.out; first | exact this | (simp; omega)) _) | (with_reducible refine below_drew1 ?_))) (by have := HS.out; first | exact this | (simp; omega)) (by have := LL.out; omega) ?_
    intro v1 w1 ho hb hg hat
    rw [EB.out] at ho
    have HGA : Aside0 (w.grownBy w1 (Value.slice Ab bl.length cb).ownBlock) := ⟨(grown_of_below (by repeat (first | (with_reducible exact Below.refl _ _) | (with_reducible refine below_alloc ?_ _) | (with_reducible refine below_drew ?_))) _).trans hg⟩
    have HC1 := Aside0.mk (blk_grown (g := g) (o := .cells #[.string V.nm, .int .i64 V.pa, .int .i64 V.rt, vr, .slice Ab bl.length cb, .slice As st.length cs, .int .i64 V.at_] 64 (0, 0)) (by repeat (first | (with_reducible exact HC.out) | (with_reducible refine blk_alloc ?_ _) | (with_reducible refine blk_drew ?_))) hg (fun e => (HNB.out _ e.symm).2.1 rfl))
    have XB : Aside0 (w1.heap[w.heap.size + 1]? = some (.cells #[.int .i64 0] 3 (0, 0))) := ⟨blk_grown (by repeat (first | (with_reducible exact blk_new _ _) | (with_reducible exact blk_new1 _ _ _) | (with_reducible exact HC.out) | (with_reducible refine blk_alloc ?_ _) | (with_reducible refine blk_drew ?_))) hg (fun e => by have := (HNB.out _ e.symm).1; omega)⟩
    have HT1 : Aside0 ((Kd.int .i64).R 3 w1 base (fun k => ok k ∧ f k = 2) (.slice As st.length cs) st) := ⟨Kd.R_grown (by repeat (first | (with_reducible exact HST.out) | (with_reducible refine Kd.R_alloc ?_ _) | (with_reducible refine Kd.R_drew ?_))) hg (fun k hk e => by have := (HNB.out k e.symm).2.2; have := hk.2; omega)⟩
    clear HC HST HB
    have HC := HC1
    have HST := HT1
    have HB := Aside0.mk hb
    have HO1 := Aside0.mk ho
    clear HC1 HT1 hb ho hg hat
    refine hK.out _ _ ⟨(blk_cell HC.out 4).trans rfl, (blk_cell HC.out 5).trans rfl⟩ (fun hHeld => ?_)
    clear hK K
    refine norm_ (a' := ?_) ?_ ?_
    rotate_left
    ·show Act.put _ (some 15) _ = _
     simp only [Act.put, List.setIfInBounds_toArray, List.set_cons_zero, List.set_cons_succ, i64_w, i32_w]
     rfl
    exact norm_ (by simp only [putAll, Act.put, List.setIfInBounds_toArray, List.set_cons_zero, List.set_cons_succ]) (hCont (v1, w.heap.size, w.heap.size + 1) _ ⟨hHeld, (by repeat (first | (with_reducible exact HC.out) | (with_reducible refine blk_alloc ?_ _) | (with_reducible refine blk_drew ?_))), (by repeat (first | (with_reducible exact HB.out) | (refine Below.alloc ?_ (by have := HS.out; have := HGA.out.size; first | omega | (simp; omega)) _) | (with_reducible refine below_drew1 ?_))), (by repeat (first | (with_reducible exact HO1.out) | (with_reducible refine Kd.S_alloc ?_ _) | (with_reducible refine Kd.S_drew ?_))), (by first | exact HGA.out | exact World.grownBy.trans HGA.out (World.grownBy_alloc _ _ _)), (by repeat (first | (with_reducible exact HST.out) | (with_reducible refine Kd.R_alloc ?_ _) | (with_reducible refine Kd.R_drew ?_))), (by repeat (first | (with_reducible exact blk_new _ _) | (with_reducible exact blk_new1 _ _ _) | (with_reducible exact XB.out) | (with_reducible refine blk_alloc ?_ _) | (with_reducible refine blk_drew ?_)))⟩)
  ·skip
   refine value_ (w1 := ?_) (v := ?_) (by rfl) rfl ?_ ?_
   rotate_left 2
   ·go_simp
    constructor
    ·rfl
    ·rfl
   refine hK.out _ _ ⟨(blk_cell (by repeat (first | (with_reducible exact HC.out) | (with_reducible refine blk_alloc ?_ _) | (with_reducible refine blk_drew ?_))) 4).trans rfl, (blk_cell (by repeat (first | (with_reducible exact HC.out) | (with_reducible refine blk_alloc ?_ _) | (with_reducible refine blk_drew ?_))) 5).trans rfl⟩ (fun hHeld => ?_)
   clear hK K
   refine norm_ (a' := ?_) ?_ ?_
   rotate_left
   ·show Act.put _ (some 20) _ = _
    simp only [Act.put, List.setIfInBounds_toArray, List.set_cons_zero, List.set_cons_succ, i64_w, i32_w]
    rfl
   refine one_ (i := 8) (N := some 14) (zb 24 32255) rfl rfl (by kernel_rfl) (by decide) (fun K hK => ?_)
   refine value_ (w1 := ?_) (v := ?_) (by rfl) rfl ?_ ?_
   rotate_left 2
   ·go_simp
    constructor
    ·rfl
    ·rfl
   refine hK.out _ _ ⟨(blk_cell (by repeat (first | (with_reducible exact HC.out) | (with_reducible refine blk_alloc ?_ _) | (with_reducible refine blk_drew ?_))) 4).trans rfl, (blk_cell (by repeat (first | (with_reducible exact HC.out) | (with_reducible refine blk_alloc ?_ _) | (with_reducible refine blk_drew ?_))) 5).trans rfl⟩ (fun hHeld => ?_)
   clear hK K
   refine norm_ (a' := ?_) ?_ ?_
   rotate_left
   ·show Act.put _ (some 14) _ = _
    simp only [Act.put, List.setIfInBounds_toArray, List.set_cons_zero, List.set_cons_succ, i64_w, i32_w]
    rfl
   refine one_ (i := 9) (N := some 15) (zb 24 32767) rfl rfl (by kernel_rfl) (by decide) (fun K hK => ?_)
   refine S_append_at kB (w0 := w0) base (by rfl) (.tmp 13) (.tmp 14) 30 35 (.slice none 0 0) 24 (by rfl) Try.underlying30 info35 rfl (by decide) (by omega) (.slice Ab bl.length cb) bl [] [.slice none 0 0] (fun k => (ok k ∧ f k = 1) ∨ w.heap.size ≤ k) (fun _ => False) (by rfl) _ (by rfl) (by repeat (first | (with_reducible exact blk_new _ _) | (with_reducible exact blk_new1 _ _ _) | (with_reducible exact XA.out) | (with_reducible refine blk_alloc ?_ _) | (with_reducible refine blk_drew ?_))) ⟨_, rfl, Kd.R_nil _ _ _ _ _⟩ (fun _ hk => hk.elim) (fun k hk => .inr (by first | exact hk | (simp at hk; omega))) (Kd.S_mono (by repeat (first | (with_reducible exact HSB.out) | (with_reducible refine Kd.S_alloc ?_ _) | (with_reducible refine Kd.S_drew ?_))) (fun _ hk => ⟨.inl hk, fun q => q⟩)) (by repeat (first | (with_reducible exact HB.out) | (refine Below.alloc ?_ (by have := HS.out; first | exact this | (simp; omega)) _) | (with_reducible refine below_drew1 ?_))) (by have := HS.out; first | exact this | (simp; omega)) (by have := LL.out; omega) ?_
   intro v1 w1 ho hb hg hat
   rw [EB.out] at ho
   have HGA : Aside0 (w.grownBy w1 (Value.slice Ab bl.length cb).ownBlock) := ⟨(grown_of_below (by repeat (first | (with_reducible exact Below.refl _ _) | (with_reducible refine below_alloc ?_ _) | (with_reducible refine below_drew ?_))) _).trans hg⟩
   have HC1 := Aside0.mk (blk_grown (g := g) (o := .cells #[.string V.nm, .int .i64 V.pa, .int .i64 V.rt, vr, .slice Ab bl.length cb, .slice As st.length cs, .int .i64 V.at_] 64 (0, 0)) (by repeat (first | (with_reducible exact HC.out) | (with_reducible refine blk_alloc ?_ _) | (with_reducible refine blk_drew ?_))) hg (fun e => (HNB.out _ e.symm).2.1 rfl))
   have XB : Aside0 (w1.heap[w.heap.size]? = some (.cells #[.int .i64 0] 3 (0, 0))) := ⟨blk_grown (by repeat (first | (with_reducible exact blk_new _ _) | (with_reducible exact blk_new1 _ _ _) | (with_reducible exact HC.out) | (with_reducible refine blk_alloc ?_ _) | (with_reducible refine blk_drew ?_))) hg (fun e => by have := (HNB.out _ e.symm).1; omega)⟩
   have HT1 : Aside0 ((Kd.int .i64).R 3 w1 base (fun k => ok k ∧ f k = 2) (.slice As st.length cs) st) := ⟨Kd.R_grown (by repeat (first | (with_reducible exact HST.out) | (with_reducible refine Kd.R_alloc ?_ _) | (with_reducible refine Kd.R_drew ?_))) hg (fun k hk e => by have := (HNB.out k e.symm).2.2; have := hk.2; omega)⟩
   clear HC HST HB
   have HC := HC1
   have HST := HT1
   have HB := Aside0.mk hb
   have HO1 := Aside0.mk ho
   clear HC1 HT1 hb ho hg hat
   refine hK.out _ _ ⟨(blk_cell HC.out 4).trans rfl, (blk_cell HC.out 5).trans rfl⟩ (fun hHeld => ?_)
   clear hK K
   refine norm_ (a' := ?_) ?_ ?_
   rotate_left
   ·show Act.put _ (some 15) _ = _
    simp only [Act.put, List.setIfInBounds_toArray, List.set_cons_zero, List.set_cons_succ, i64_w, i32_w]
    rfl
   exact norm_ (by simp only [putAll, Act.put, List.setIfInBounds_toArray, List.set_cons_zero, List.set_cons_succ]) (hCont (v1, w.heap.size + 1, w.heap.size) _ ⟨hHeld, (by repeat (first | (with_reducible exact HC.out) | (with_reducible refine blk_alloc ?_ _) | (with_reducible refine blk_drew ?_))), (by repeat (first | (with_reducible exact HB.out) | (refine Below.alloc ?_ (by have := HS.out; have := HGA.out.size; first | omega | (simp; omega)) _) | (with_reducible refine below_drew1 ?_))), (by repeat (first | (with_reducible exact HO1.out) | (with_reducible refine Kd.S_alloc ?_ _) | (with_reducible refine Kd.S_drew ?_))), (by first | exact HGA.out | exact World.grownBy.trans HGA.out (World.grownBy_alloc _ _ _)), (by repeat (first | (with_reducible exact HST.out) | (with_reducible refine Kd.R_alloc ?_ _) | (with_reducible refine Kd.R_drew ?_))), (by repeat (first | (with_reducible exact blk_new _ _) | (with_reducible exact blk_new1 _ _ _) | (with_reducible exact XB.out) | (with_reducible refine blk_alloc ?_ _) | (with_reducible refine blk_drew ?_)))⟩)
 rintro ⟨v1, xa, xb⟩ w1 ⟨hS_, h0_, h1_, h2_, h3_, h4_, h5_⟩
 have hHeld := hS_
 dsimp only at h2_ h5_
 clear HC HB HSB HST
 have HC := Aside0.mk h0_
 have HB := Aside0.mk h1_
 have HO1 := Aside0.mk h2_
 have HGA := Aside0.mk h3_
 have HST := Aside0.mk h4_
 have XB := Aside0.mk h5_
 clear h0_ h1_ h2_ h3_ h4_ h5_ hS_
 refine norm_ (a' := ?_) ?_ ?_
 rotate_left
 ·simp only [putAll, Act.put, List.setIfInBounds_toArray, List.set_cons_zero, List.set_cons_succ]
  rfl
 refine one_ (i := 15) (N := some 21) (zb 24 65535) rfl rfl (by kernel_rfl) (by decide) (fun K hK => ?_)
 refine R_append_at (Kd.int .i64) (w0 := w0) base (by rfl) (.tmp 19) (.tmp 20) 22 3 (.int .i64 0) 8 (by rfl) Try.underlying22 info3 rfl (by decide) (by omega) (.slice As st.length cs) st 0 [.int .i64 0] (fun k => (ok k ∧ f k = 2) ∨ w1.heap.size ≤ k) (fun _ => False) (by rfl) _ (by rfl) (by repeat (first | (with_reducible exact blk_new _ _) | (with_reducible exact blk_new1 _ _ _) | (with_reducible exact XB.out) | (with_reducible refine blk_alloc ?_ _) | (with_reducible refine blk_drew ?_))) rfl (fun _ hk => hk.elim) (fun k hk => .inr (by first | exact hk | (simp at hk; omega))) (Kd.R_mono (by repeat (first | (with_reducible exact HST.out) | (with_reducible refine Kd.R_alloc ?_ _) | (with_reducible refine Kd.R_drew ?_))) (fun _ hk => .inl hk)) (by repeat (first | (with_reducible exact HB.out) | (refine Below.alloc ?_ (by have := HS.out; have := HGA.out.size; first | omega | (simp; omega)) _) | (with_reducible refine below_drew1 ?_))) (by have := HB.out.size; have := HS.out; have := HGA.out.size; first | omega | (simp; omega)) (by have := LL.out; omega) ?_
 intro v2 w2 ho hb hg hat
 rw [ES.out] at ho
 have HGB : Aside0 (w1.grownBy w2 (Value.slice As st.length cs).ownBlock) := ⟨(grown_of_below (by repeat (first | (with_reducible exact Below.refl _ _) | (with_reducible refine below_alloc ?_ _) | (with_reducible refine below_drew ?_))) _).trans hg⟩
 have HC1 := Aside0.mk (blk_grown (g := g) (o := .cells #[.string V.nm, .int .i64 V.pa, .int .i64 V.rt, vr, .slice Ab bl.length cb, .slice As st.length cs, .int .i64 V.at_] 64 (0, 0)) (by repeat (first | (with_reducible exact HC.out) | (with_reducible refine blk_alloc ?_ _) | (with_reducible refine blk_drew ?_))) hg (fun e => (HNS.out _ e.symm).2.1 rfl))
 clear HC HB
 have HC := HC1
 have HB := Aside0.mk hb
 have HO2 := Aside0.mk ho
 clear HC1 hb ho hg hat
 obtain ⟨A1, c1_, rfl⟩ := Kd.S_slice HO1.out
 obtain ⟨A2, c2_, rfl⟩ := Kd.R_slice HO2.out
 have HT := Aside0.mk (HE.out _ _ _ _ HO1.out HGA.out HGA.out.size HO2.out HGB.out HGB.out.size)
 have z4 := blk_frozen HC.out 4
 have z5 := blk_frozen HC.out 5
 have c4_ := blk_cell HC.out 4
 have c5_ := blk_cell HC.out 5
 simp only [List.getElem?_toArray, List.getElem?_cons_zero, List.getElem?_cons_succ] at c4_ c5_
 refine hK.out _ _ ⟨(blk_cell HC.out 4).trans rfl, (blk_cell HC.out 5).trans rfl⟩ (fun hHeld => ?_)
 clear hK K
 refine norm_ (a' := ?_) ?_ ?_
 rotate_left
 ·show Act.put _ (some 21) _ = _
  simp only [Act.put, List.setIfInBounds_toArray, List.set_cons_zero, List.set_cons_succ, i64_w, i32_w]
  rfl
 refine pT 16 (some 22) (zb 24 131071) (h := ?_)
 refine pT 17 (some 23) (zb 24 262143) (h := ?_)
 refine pT 18 (some 24) (zb 24 524287) (h := ?_)
 refine pT 19 (some 25) (zb 24 1048575) (h := ?_)
 refine last_ (i := 20) (N := none) (zb 24 2097151) rfl rfl (by kernel_rfl) (by decide) (fun K hK => ?_)
 refine skip_ (w1 := ?_) (by rfl) rfl ?_ ?_
 rotate_left
 ·go_simp
  rfl
 refine hK.out _ _ ?_
 clear hK K
 refine pT 21 (some 26) (zb 24 4194303) (h := ?_)
 refine pT 22 (some 27) (zb 24 8388607) (h := ?_)
 refine last_ (i := 23) (N := none) (zb 24 16777215) rfl rfl (by kernel_rfl) (by decide) (fun K hK => ?_)
 refine skip_ (w1 := ?_) (by rfl) rfl ?_ ?_
 rotate_left
 ·go_simp
  rfl
 refine hK.out _ _ ?_
 clear hK K
 refine done_ (by kernel_rfl) ?_
 go_wp2
 go_ret
 exact ⟨ret_i (by have := L1.out; omega), (HB.out.setCell (by exact HG.out) _).setCell (by exact HG.out) _, HT.out⟩
end
end Go.Proofs.Ytomopjomapkmjaa.B
set_option linter.unusedVariables false
set_option linter.unusedSimpArgs false
namespace Go.Proofs.Ytomopjomapkmjaa.B
open Go Go.RowKit Go.Proofs.YtomopjomapkmjaaW.PrintWords Go.Proofs.YtomopjomapkmjaaW.PrintLast Go.Proofs.YtomopjomapkmjaaW.PrintMore Go.Proofs.Ytomopjomapkmjaa.Pure
section
variable {base g : Nat} {ok : Nat → Prop} {w w0 w1 w2 W : World} {V : BV} {nm : ByteArray} {pa rt at_ : Int} {vr vb vs : Value} {rg st : List Int} {bl : List (List S29)} {f : Nat → Nat}
def regsOf (x : S29) : List Int := usesV x.f0 x.f1 x.f2 x.f3 x.f4 x.f5 x.f6 x.f7 x.f8 ++ [defV x.f0 x.f1 x.f2 x.f3 x.f4 x.f5 x.f6 x.f7 x.f8]
def blksOf (x : S29) : List Int := targetsV x.f0 x.f1 x.f2 x.f3 x.f4 x.f5 x.f6 x.f7 x.f8
def thereB (V : BV) (x : S29) : Bool := (regsOf x).all (fun r => decide (r < (V.rg.length : Int))) && (blksOf x).all (fun t => !(decide (t = 0)) && decide (t < (V.bl.length : Int)))
theorem all_false {l : List Int} {p : Int → Bool} {j : Nat} (hj : j < l.length) (h : p (l.getD j 0) = false) : l.all p = false := by
 rw [List.all_eq_false]
 refine ⟨l.getD j 0, ?_, by rw [h]; simp⟩
 rw [List.getD_eq_getElem?_getD, List.getElem?_eq_getElem hj]
 exact List.getElem_mem hj
theorem all_true {l : List Int} {p : Int → Bool} (h : ∀ j, j < l.length → p (l.getD j 0) = true) : l.all p = true := by
 rw [List.all_eq_true]
 intro y hy
 obtain ⟨j, hj, rfl⟩ := List.getElem_of_mem hy
 have := h j hj
 rwa [List.getD_eq_getElem?_getD, List.getElem?_eq_getElem hj] at this
theorem ret_b {a b : Bool} (h : a = b) : Ending.returned (.bool a) = .returned (.bool b) := by rw [h]
theorem bd_meas (n j : Nat) (x : Int) (hx : x = ((j + 1 : Nat) : Int)) (h : j < n) : n - (intOf (.int .i64 x)).toNat < n - (intOf (.int .i64 (j : Int))).toNat := by
 subst hx
 simp [intOf]
 omega
theorem usesV_le (x : S29) (hl : x.f8.length ≤ 1000) : (usesV x.f0 x.f1 x.f2 x.f3 x.f4 x.f5 x.f6 x.f7 x.f8).length ≤ 2000 := by
 have h : ∀ op a b c m, (usV op a b c m x.f8).length ≤ 2000 := fun op a b c m => by unfold usV; (repeat' split) <;> simp <;> omega
 unfold usesV
 split
 ·exact h _ _ _ _ _
 ·simp
theorem targetsV_le (x : S29) : (targetsV x.f0 x.f1 x.f2 x.f3 x.f4 x.f5 x.f6 x.f7 x.f8).length ≤ 2 := by
 unfold targetsV
 (repeat' split) <;> simp
set_option maxHeartbeats 4000000 in
theorem there_at (h : BAt base ok w g V) (hL : V.rg.length < 1000000 ∧ V.bl.length < 1000000) (x : S29) (A8 : Option Addr) (c8 : Nat) (hl : x.f8.length ≤ 1000) (hC : (Kd.int .i64).C w A8 x.f8.length x.f8) (hc8 : x.f8.length ≤ c8) :
  Calls Try.prog 45 #[.pointer (some ⟨g, 0, none⟩), .agg #[.int .i64 x.f0, .int .i64 x.f1, .int .i64 x.f2, .int .i64 x.f3, .int .i64 x.f4, .int .i64 x.f5, .int .i64 x.f6, .int .i64 x.f7, .slice A8 x.f8.length c8]] w fun e w' => e = .returned (.bool (thereB V x)) ∧ Below w.heap.size w w' := by
 obtain ⟨h1, h2, h3, f, vr, vb, vs, hc, hr, hB, ht⟩ := h
 obtain ⟨Ar, cr, rfl⟩ := Kd.R_slice hr
 obtain ⟨Ab, cb, rfl⟩ := Kd.S_slice hB
 obtain ⟨kU, hU⟩ := (instrUses_ev x.f0 x.f1 x.f2 x.f3 x.f4 x.f5 x.f6 x.f7 x.f8 (by omega)).rounds
 obtain ⟨kD, hD⟩ := (instrDef_ev x.f0 x.f1 x.f2 x.f3 x.f4 x.f5 x.f6 x.f7 x.f8 (by omega)).rounds
 obtain ⟨kT, hT⟩ := (instrTargets_ev x.f0 x.f1 x.f2 x.f3 x.f4 x.f5 x.f6 x.f7 x.f8 (by omega)).rounds
 have hul := usesV_le x hl
 have htl := targetsV_le x
 obtain ⟨res, hres⟩ : ∃ r, thereB V x = r := ⟨_, rfl⟩
 rw [hres]
 unfold thereB regsOf blksOf at hres
 obtain ⟨uv, huv⟩ : ∃ r, usesV x.f0 x.f1 x.f2 x.f3 x.f4 x.f5 x.f6 x.f7 x.f8 = r := ⟨_, rfl⟩
 obtain ⟨dv, hdv⟩ : ∃ r, defV x.f0 x.f1 x.f2 x.f3 x.f4 x.f5 x.f6 x.f7 x.f8 = r := ⟨_, rfl⟩
 obtain ⟨tv, htv⟩ : ∃ r, targetsV x.f0 x.f1 x.f2 x.f3 x.f4 x.f5 x.f6 x.f7 x.f8 = r := ⟨_, rfl⟩
 obtain ⟨nr, hnr⟩ : ∃ r, V.rg.length = r := ⟨_, rfl⟩
 obtain ⟨nb, hnb⟩ : ∃ r, V.bl.length = r := ⟨_, rfl⟩
 rw [huv, hdv, htv, hnr, hnb] at hres
 rw [huv] at hU hul
 rw [hdv] at hD
 rw [htv] at hT htl
 rw [hnr] at hc hL
 rw [hnb] at hc hL
 obtain ⟨l1, hl1⟩ : ∃ r, uv ++ [dv] = r := ⟨_, rfl⟩
 have hl1l : l1.length = uv.length + 1 := by rw [← hl1]; simp
 rw [hl1] at hres
 have HU := Aside0.mk hU
 have HD := Aside0.mk hD
 have HT := Aside0.mk hT
 have HRES := Aside0.mk hres
 have EL := Aside0.mk hl1
 have LL := Aside0.mk (And.intro hl1l (And.intro hul (And.intro htl hL)))
 have HC := Aside0.mk (blk_alloc hc (.cells #[.int .i64 x.f0, .int .i64 x.f1, .int .i64 x.f2, .int .i64 x.f3, .int .i64 x.f4, .int .i64 x.f5, .int .i64 x.f6, .int .i64 x.f7, .slice A8 x.f8.length c8] 29))
 have BK := Aside0.mk (blk_new w (.cells #[.int .i64 x.f0, .int .i64 x.f1, .int .i64 x.f2, .int .i64 x.f3, .int .i64 x.f4, .int .i64 x.f5, .int .i64 x.f6, .int .i64 x.f7, .slice A8 x.f8.length c8] 29))
 have HR8 := Aside0.mk (Kd.C_alloc hC (.cells #[.int .i64 x.f0, .int .i64 x.f1, .int .i64 x.f2, .int .i64 x.f3, .int .i64 x.f4, .int .i64 x.f5, .int .i64 x.f6, .int .i64 x.f7, .slice A8 x.f8.length c8] 29))
 have HC8 := Aside0.mk hc8
 have HB := Aside0.mk (below_alloc (Below.refl w.heap.size w) (.cells #[.int .i64 x.f0, .int .i64 x.f1, .int .i64 x.f2, .int .i64 x.f3, .int .i64 x.f4, .int .i64 x.f5, .int .i64 x.f6, .int .i64 x.f7, .slice A8 x.f8.length c8] 29))
 have HA := Aside0.mk (Below.refl (w.alloc (.cells #[.int .i64 x.f0, .int .i64 x.f1, .int .i64 x.f2, .int .i64 x.f3, .int .i64 x.f4, .int .i64 x.f5, .int .i64 x.f6, .int .i64 x.f7, .slice A8 x.f8.length c8] 29)).heap.size (w.alloc (.cells #[.int .i64 x.f0, .int .i64 x.f1, .int .i64 x.f2, .int .i64 x.f3, .int .i64 x.f4, .int .i64 x.f5, .int .i64 x.f6, .int .i64 x.f7, .slice A8 x.f8.length c8] 29)))
 have HG := Aside0.mk (blk_lt hc)
 have hC0 := Aside0.mk hC
 clear h1 h2 h3 hc hr hB ht hU hD hT hres hl1 huv hdv htv hnr hnb hL hC hc8 hl hul htl hl1l
 go_enter Try.func45, Try.ntmps45
 go_upto_region 1 with (fail)
 have k0 := blk_cell BK.out 0
 have k1 := blk_cell BK.out 1
 have k2 := blk_cell BK.out 2
 have k3 := blk_cell BK.out 3
 have k4 := blk_cell BK.out 4
 have k5 := blk_cell BK.out 5
 have k6 := blk_cell BK.out 6
 have k7 := blk_cell BK.out 7
 have k8 := blk_cell BK.out 8
 simp only [List.getElem?_toArray, List.getElem?_cons_zero, List.getElem?_cons_succ] at k0 k1 k2 k3 k4 k5 k6 k7 k8
 refine start_ (n := 8) (S := fun w' => w'.cell? ⟨w.heap.size, 0, none⟩ = some (.int .i64 x.f0) ∧ w'.cell? ⟨w.heap.size, 1, none⟩ = some (.int .i64 x.f1) ∧ w'.cell? ⟨w.heap.size, 2, none⟩ = some (.int .i64 x.f2) ∧ w'.cell? ⟨w.heap.size, 3, none⟩ = some (.int .i64 x.f3) ∧ w'.cell? ⟨w.heap.size, 4, none⟩ = some (.int .i64 x.f4) ∧ w'.cell? ⟨w.heap.size, 5, none⟩ = some (.int .i64 x.f5) ∧ w'.cell? ⟨w.heap.size, 6, none⟩ = some (.int .i64 x.f6) ∧ w'.cell? ⟨w.heap.size, 7, none⟩ = some (.int .i64 x.f7) ∧ w'.cell? ⟨w.heap.size, 8, none⟩ = some (.slice A8 x.f8.length c8)) (ds := []) #[false, false, false, false, false, false, false, false] (by kernel_rfl) rfl rfl ⟨k0, k1, k2, k3, k4, k5, k6, k7, k8⟩ (fun hHeld => ?_)
 refine pT 7 (some 16) (zb 8 128) (h := ?_)
 refine take_ (i := 0) (N := some 9) (v := ?_) (a' := ?_) (zb 8 129) rfl rfl (by kernel_rfl) (fun _ _ _ h => h) (Or.inl ⟨by rfl, ?_⟩) hHeld ?_ ?_
 rotate_left
 ·rintro w' ⟨s0, s1, s2, s3, s4, s5, s6, s7, s8⟩
  go_simp
  with_reducible rfl
 rotate_left
 ·simp only [Act.put, List.setIfInBounds_toArray, List.set_cons_zero, List.set_cons_succ, i64_w, i32_w]
  rfl
 refine take_ (i := 2) (N := some 11) (v := ?_) (a' := ?_) (zb 8 133) rfl rfl (by kernel_rfl) (fun _ _ _ h => h) (Or.inl ⟨by rfl, ?_⟩) hHeld ?_ ?_
 rotate_left
 ·rintro w' ⟨s0, s1, s2, s3, s4, s5, s6, s7, s8⟩
  go_simp
  with_reducible rfl
 rotate_left
 ·simp only [Act.put, List.setIfInBounds_toArray, List.set_cons_zero, List.set_cons_succ, i64_w, i32_w]
  rfl
 refine one_ (i := 1) (N := some 10) (zb 8 135) rfl rfl (by kernel_rfl) (by decide) (fun K hK => ?_)
 refine goes_ Try.func62 (by kernel_rfl) rfl #[.agg #[.int .i64 x.f0, .int .i64 x.f1, .int .i64 x.f2, .int .i64 x.f3, .int .i64 x.f4, .int .i64 x.f5, .int .i64 x.f6, .int .i64 x.f7, .slice A8 x.f8.length c8]] (by rfl) rfl rfl (by simp only [List.map_toArray, List.map_cons, List.map_nil]; rfl) ?_
 with_reducible refine (instr_Uses.calls kU x.f0 x.f1 x.f2 x.f3 x.f4 x.f5 x.f6 x.f7 A8 c8 x.f8 uv _ (by repeat (first | (with_reducible exact HR8.out) | (with_reducible refine Kd.C_alloc ?_ _) | (with_reducible refine Kd.C_drew ?_))) HC8.out HU.out).mono ?_
 rintro e w' ⟨v_, rfl, hR_, hb⟩
 refine ⟨_, rfl, ?_⟩
 obtain ⟨Au, cu, rfl⟩ := Kd.R_slice hR_
 have RU : Aside0 ((Kd.int .i64).R 3 w' (w.alloc (.cells #[.int .i64 x.f0, .int .i64 x.f1, .int .i64 x.f2, .int .i64 x.f3, .int .i64 x.f4, .int .i64 x.f5, .int .i64 x.f6, .int .i64 x.f7, .slice A8 x.f8.length c8] 29)).heap.size (fun _ => True) (.slice Au uv.length cu) uv) := ⟨Kd.R_lower hR_ (below_size (by repeat (first | (with_reducible exact HA.out) | (with_reducible refine below_alloc ?_ _) | (with_reducible refine below_drew1 ?_))))⟩
 replace BK := Aside0.mk (blk_below (show (_ : World).heap[w.heap.size]? = some (.cells #[.int .i64 x.f0, .int .i64 x.f1, .int .i64 x.f2, .int .i64 x.f3, .int .i64 x.f4, .int .i64 x.f5, .int .i64 x.f6, .int .i64 x.f7, .slice A8 x.f8.length c8] 29 (0, 0)) from (by repeat (first | (with_reducible exact BK.out) | (with_reducible refine blk_alloc ?_ _) | (with_reducible refine blk_drew ?_)))) hb)
 replace HC := Aside0.mk (blk_below (show (_ : World).heap[g]? = some (.cells #[.string V.nm, .int .i64 V.pa, .int .i64 V.rt, .slice Ar nr cr, .slice Ab nb cb, vs, .int .i64 V.at_] 64 (0, 0)) from (by repeat (first | (with_reducible exact HC.out) | (with_reducible refine blk_alloc ?_ _) | (with_reducible refine blk_drew ?_)))) hb)
 replace HR8 := Aside0.mk (Kd.C_below (show (Kd.int .i64).C _ A8 x.f8.length x.f8 from (by repeat (first | (with_reducible exact HR8.out) | (with_reducible refine Kd.C_alloc ?_ _) | (with_reducible refine Kd.C_drew ?_)))) hb)
 replace HB := Aside0.mk (below_step (show Below w.heap.size w _ from (by repeat (first | (with_reducible exact HB.out) | (with_reducible refine below_alloc ?_ _) | (with_reducible refine below_drew1 ?_)))) hb)
 replace HA := Aside0.mk (below_step (show Below (w.alloc (.cells #[.int .i64 x.f0, .int .i64 x.f1, .int .i64 x.f2, .int .i64 x.f3, .int .i64 x.f4, .int .i64 x.f5, .int .i64 x.f6, .int .i64 x.f7, .slice A8 x.f8.length c8] 29)).heap.size (w.alloc (.cells #[.int .i64 x.f0, .int .i64 x.f1, .int .i64 x.f2, .int .i64 x.f3, .int .i64 x.f4, .int .i64 x.f5, .int .i64 x.f6, .int .i64 x.f7, .slice A8 x.f8.length c8] 29)) _ from (by repeat (first | (with_reducible exact HA.out) | (with_reducible refine below_alloc ?_ _) | (with_reducible refine below_drew1 ?_)))) hb)
 clear hb hR_
 refine hK.out _ _ ⟨(blk_cell BK.out 0).trans rfl, (blk_cell BK.out 1).trans rfl, (blk_cell BK.out 2).trans rfl, (blk_cell BK.out 3).trans rfl, (blk_cell BK.out 4).trans rfl, (blk_cell BK.out 5).trans rfl, (blk_cell BK.out 6).trans rfl, (blk_cell BK.out 7).trans rfl, (blk_cell BK.out 8).trans rfl⟩ (fun hHeld => ?_)
 clear hK K
 refine norm_ (a' := ?_) ?_ ?_
 rotate_left
 ·show Act.put _ (some 10) _ = _
  simp only [Act.put, List.setIfInBounds_toArray, List.set_cons_zero, List.set_cons_succ, i64_w, i32_w]
  rfl
 refine one_ (i := 3) (N := some 12) (zb 8 143) rfl rfl (by kernel_rfl) (by decide) (fun K hK => ?_)
 refine goes_ Try.func63 (by kernel_rfl) rfl #[.agg #[.int .i64 x.f0, .int .i64 x.f1, .int .i64 x.f2, .int .i64 x.f3, .int .i64 x.f4, .int .i64 x.f5, .int .i64 x.f6, .int .i64 x.f7, .slice A8 x.f8.length c8]] (by rfl) rfl rfl (by simp only [List.map_toArray, List.map_cons, List.map_nil]; rfl) ?_
 with_reducible refine (instr_Def.calls kD x.f0 x.f1 x.f2 x.f3 x.f4 x.f5 x.f6 x.f7 A8 c8 x.f8 dv _ (by repeat (first | (with_reducible exact HR8.out) | (with_reducible refine Kd.C_alloc ?_ _) | (with_reducible refine Kd.C_drew ?_))) HC8.out HD.out).mono ?_
 rintro e w' ⟨rfl, hb⟩
 refine ⟨_, rfl, ?_⟩
 replace BK := Aside0.mk (blk_below (show (_ : World).heap[w.heap.size]? = some (.cells #[.int .i64 x.f0, .int .i64 x.f1, .int .i64 x.f2, .int .i64 x.f3, .int .i64 x.f4, .int .i64 x.f5, .int .i64 x.f6, .int .i64 x.f7, .slice A8 x.f8.length c8] 29 (0, 0)) from (by repeat (first | (with_reducible exact BK.out) | (with_reducible refine blk_alloc ?_ _) | (with_reducible refine blk_drew ?_)))) hb)
 replace HC := Aside0.mk (blk_below (show (_ : World).heap[g]? = some (.cells #[.string V.nm, .int .i64 V.pa, .int .i64 V.rt, .slice Ar nr cr, .slice Ab nb cb, vs, .int .i64 V.at_] 64 (0, 0)) from (by repeat (first | (with_reducible exact HC.out) | (with_reducible refine blk_alloc ?_ _) | (with_reducible refine blk_drew ?_)))) hb)
 replace HR8 := Aside0.mk (Kd.C_below (show (Kd.int .i64).C _ A8 x.f8.length x.f8 from (by repeat (first | (with_reducible exact HR8.out) | (with_reducible refine Kd.C_alloc ?_ _) | (with_reducible refine Kd.C_drew ?_)))) hb)
 replace RU := Aside0.mk (Kd.R_below (show (Kd.int .i64).R 3 _ (w.alloc (.cells #[.int .i64 x.f0, .int .i64 x.f1, .int .i64 x.f2, .int .i64 x.f3, .int .i64 x.f4, .int .i64 x.f5, .int .i64 x.f6, .int .i64 x.f7, .slice A8 x.f8.length c8] 29)).heap.size (fun _ => True) (.slice Au uv.length cu) uv from (by repeat (first | (with_reducible exact RU.out) | (with_reducible refine Kd.R_alloc ?_ _) | (with_reducible refine Kd.R_drew ?_)))) hb)
 replace HB := Aside0.mk (below_step (show Below w.heap.size w _ from (by repeat (first | (with_reducible exact HB.out) | (with_reducible refine below_alloc ?_ _) | (with_reducible refine below_drew1 ?_)))) hb)
 replace HA := Aside0.mk (below_step (show Below (w.alloc (.cells #[.int .i64 x.f0, .int .i64 x.f1, .int .i64 x.f2, .int .i64 x.f3, .int .i64 x.f4, .int .i64 x.f5, .int .i64 x.f6, .int .i64 x.f7, .slice A8 x.f8.length c8] 29)).heap.size (w.alloc (.cells #[.int .i64 x.f0, .int .i64 x.f1, .int .i64 x.f2, .int .i64 x.f3, .int .i64 x.f4, .int .i64 x.f5, .int .i64 x.f6, .int .i64 x.f7, .slice A8 x.f8.length c8] 29)) _ from (by repeat (first | (with_reducible exact HA.out) | (with_reducible refine below_alloc ?_ _) | (with_reducible refine below_drew1 ?_)))) hb)
 clear hb
 refine hK.out _ _ ⟨(blk_cell BK.out 0).trans rfl, (blk_cell BK.out 1).trans rfl, (blk_cell BK.out 2).trans rfl, (blk_cell BK.out 3).trans rfl, (blk_cell BK.out 4).trans rfl, (blk_cell BK.out 5).trans rfl, (blk_cell BK.out 6).trans rfl, (blk_cell BK.out 7).trans rfl, (blk_cell BK.out 8).trans rfl⟩ (fun hHeld => ?_)
 clear hK K
 refine norm_ (a' := ?_) ?_ ?_
 rotate_left
 ·show Act.put _ (some 12) _ = _
  simp only [Act.put, List.setIfInBounds_toArray, List.set_cons_zero, List.set_cons_succ, i64_w, i32_w]
  rfl
 refine one_ (i := 4) (N := some 13) (zb 8 159) rfl rfl (by kernel_rfl) (by decide) (fun K hK => ?_)
 refine value_ (w1 := ?_) (v := ?_) (by rfl) rfl ?_ ?_
 rotate_left 2
 ·go_simp
  constructor
  ·rfl
  ·rfl
 refine hK.out _ _ ⟨(blk_cell (blk_alloc BK.out _) 0).trans rfl, (blk_cell (blk_alloc BK.out _) 1).trans rfl, (blk_cell (blk_alloc BK.out _) 2).trans rfl, (blk_cell (blk_alloc BK.out _) 3).trans rfl, (blk_cell (blk_alloc BK.out _) 4).trans rfl, (blk_cell (blk_alloc BK.out _) 5).trans rfl, (blk_cell (blk_alloc BK.out _) 6).trans rfl, (blk_cell (blk_alloc BK.out _) 7).trans rfl, (blk_cell (blk_alloc BK.out _) 8).trans rfl⟩ (fun hHeld => ?_)
 clear hK K
 refine norm_ (a' := ?_) ?_ ?_
 rotate_left
 ·show Act.put _ (some 13) _ = _
  simp only [Act.put, List.setIfInBounds_toArray, List.set_cons_zero, List.set_cons_succ, i64_w, i32_w]
  rfl
 refine one_ (i := 5) (N := some 14) (zb 8 191) rfl rfl (by kernel_rfl) (by decide) (fun K hK => ?_)
 refine R_append_at (Kd.int .i64) (w0 := (w.alloc (.cells #[.int .i64 x.f0, .int .i64 x.f1, .int .i64 x.f2, .int .i64 x.f3, .int .i64 x.f4, .int .i64 x.f5, .int .i64 x.f6, .int .i64 x.f7, .slice A8 x.f8.length c8] 29))) (w.alloc (.cells #[.int .i64 x.f0, .int .i64 x.f1, .int .i64 x.f2, .int .i64 x.f3, .int .i64 x.f4, .int .i64 x.f5, .int .i64 x.f6, .int .i64 x.f7, .slice A8 x.f8.length c8] 29)).heap.size (by rfl) (.tmp 10) (.tmp 13) 22 3 (.int .i64 0) 8 (by rfl) Try.underlying22 info3 rfl (by decide) (by omega) (.slice Au uv.length cu) uv dv [.int .i64 dv] (fun _ => True) (fun _ => False) (by rfl) _ (by rfl) (by repeat (first | (with_reducible exact blk_new _ _) | (with_reducible refine blk_drew ?_))) rfl (fun _ hk => hk.elim) (fun _ _ => trivial) (by repeat (first | (with_reducible exact RU.out) | (with_reducible refine Kd.R_alloc ?_ _) | (with_reducible refine Kd.R_drew ?_))) (by repeat (first | (with_reducible exact HA.out) | (with_reducible refine below_alloc ?_ _) | (with_reducible refine below_drew1 ?_))) (below_size (by repeat (first | (with_reducible exact HA.out) | (with_reducible refine below_alloc ?_ _) | (with_reducible refine below_drew1 ?_)))) (by have := LL.out; omega) ?_
 intro v1 w5 ho hb hg hat
 rw [EL.out] at ho
 obtain ⟨A1, c1, rfl⟩ := Kd.R_slice ho
 have HO := Aside0.mk ho
 have BK1 : Aside0 (w5.heap[w.heap.size]? = some (.cells #[.int .i64 x.f0, .int .i64 x.f1, .int .i64 x.f2, .int .i64 x.f3, .int .i64 x.f4, .int .i64 x.f5, .int .i64 x.f6, .int .i64 x.f7, .slice A8 x.f8.length c8] 29 (0, 0))) := ⟨blk_grown (by repeat (first | (with_reducible exact BK.out) | (with_reducible refine blk_alloc ?_ _) | (with_reducible refine blk_drew ?_))) hg (fun e => by have h_ := Kd.R_base RU.out _ e.symm; have := HG.out; simp only [World.size_alloc] at h_; omega)⟩
 have HC1 : Aside0 (w5.heap[g]? = some (.cells #[.string V.nm, .int .i64 V.pa, .int .i64 V.rt, .slice Ar nr cr, .slice Ab nb cb, vs, .int .i64 V.at_] 64 (0, 0))) := ⟨blk_grown (by repeat (first | (with_reducible exact HC.out) | (with_reducible refine blk_alloc ?_ _) | (with_reducible refine blk_drew ?_))) hg (fun e => by have h_ := Kd.R_base RU.out _ e.symm; have := HG.out; simp only [World.size_alloc] at h_; omega)⟩
 clear BK HC
 have BK := BK1
 have HC := HC1
 replace HR8 := Aside0.mk (Kd.C_below (Kd.C_alloc hC0.out _) hb)
 clear BK1 HC1
 replace HB := Aside0.mk (below_step (below_alloc (Below.refl w.heap.size w) (.cells #[.int .i64 x.f0, .int .i64 x.f1, .int .i64 x.f2, .int .i64 x.f3, .int .i64 x.f4, .int .i64 x.f5, .int .i64 x.f6, .int .i64 x.f7, .slice A8 x.f8.length c8] 29)) hb)
 clear HA RU
 clear ho hb hg hat
 refine hK.out _ _ ⟨(blk_cell BK.out 0).trans rfl, (blk_cell BK.out 1).trans rfl, (blk_cell BK.out 2).trans rfl, (blk_cell BK.out 3).trans rfl, (blk_cell BK.out 4).trans rfl, (blk_cell BK.out 5).trans rfl, (blk_cell BK.out 6).trans rfl, (blk_cell BK.out 7).trans rfl, (blk_cell BK.out 8).trans rfl⟩ (fun hHeld => ?_)
 clear hK K
 refine norm_ (a' := ?_) ?_ ?_
 rotate_left
 ·show Act.put _ (some 14) _ = _
  simp only [Act.put, List.setIfInBounds_toArray, List.set_cons_zero, List.set_cons_succ, i64_w, i32_w]
  rfl
 refine pT 6 (some 15) (zb 8 255) (h := ?_)
 refine done_ (by kernel_rfl) ?_
 clear hHeld k0 k1 k2 k3 k4 k5 k6 k7 k8
 go_wp2
 obtain ⟨W1, hW1⟩ : ∃ q, q = w5 := ⟨_, rfl⟩
 subst hW1
 go_loop [16] (fun v16 => ∃ j : Nat, v16 = .int .i64 (j : Int) ∧ Aside0 (j ≤ l1.length ∧ ∀ i, i < j → decide (l1.getD i 0 < (nr : Int)) = true)) (fun v16 => l1.length - (intOf v16).toNat)
 case atStart => exact ⟨0, rfl, ⟨Nat.zero_le _, fun i hi => absurd hi (Nat.not_lt_zero i)⟩⟩
 case round =>
  obtain ⟨j, rfl, HJ⟩ := hrel
  have c3 := blk_cell HC.out 3
  have c4 := blk_cell HC.out 4
  simp only [List.getElem?_toArray, List.getElem?_cons_zero, List.getElem?_cons_succ] at c3 c4
  by_cases hlt : j < l1.length
  ·have HLT := Aside0.mk hlt
   have t1 : decide ((j : Int) < (l1.length : Int)) = true := decide_eq_true (by omega)
   have t2 : decide (j < l1.length) = true := decide_eq_true hlt
   have p1 : (0 : Int) ≤ (j : Int) := by omega
   have p2 : (j : Int) < (l1.length : Int) := by omega
   have hwr : wrap64 ((j : Int) + 1) = ((j + 1 : Nat) : Int) := by have := LL.out; unfold wrap64; omega
   have HWR := Aside0.mk hwr
   clear hwr
   obtain ⟨q, eq_, cq⟩ := Kd.at_int (Kd.R_reads' HO.out).2.2 (j : Int) p1 p2
   subst eq_
   have e0 : rd l1 (j : Int) = l1.getD j 0 := rfl
   rw [e0] at cq
   (try simp only [Int.toNat_natCast] at cq)
   clear e0
   obtain ⟨y, hy⟩ : ∃ y, l1.getD j 0 = y := ⟨_, rfl⟩
   rw [hy] at cq
   by_cases hge : (nr : Int) ≤ y
   ·have t3 : decide ((nr : Int) ≤ y) = true := decide_eq_true hge
    have hf : res = false := by rw [← HRES.out, all_false hlt (p := fun r => decide (r < (nr : Int))) (by rw [hy]; exact decide_eq_false (by omega))]; rfl
    have HF := Aside0.mk hf
    clear hf hy
    go_wp2
    go_ret
    exact ⟨ret_b HF.out.symm, HB.out⟩
   ·have t3 : decide ((nr : Int) ≤ y) = false := decide_eq_false hge
    have HY := Aside0.mk hy
    clear hy
    go_wp2
    go_round
    case rel => exact ⟨j + 1, by first | (rw [HWR.out]; done) | (rw [HWR.out]) | go_num, ⟨by have := HLT.out; omega, fun i hi => by rcases Nat.lt_succ_iff_lt_or_eq.1 hi with h | rfl; exact HJ.out.2 i h; rw [HY.out]; exact decide_eq_true (by omega)⟩⟩
    case measure => exact bd_meas _ _ _ HWR.out HLT.out
  have t1 : decide ((j : Int) < (l1.length : Int)) = false := decide_eq_false (by omega)
  have t2 : decide (j < l1.length) = false := decide_eq_false hlt
  have HA1 := Aside0.mk (all_true (p := fun r => decide (r < (nr : Int))) (fun i hi => HJ.out.2 i (by omega)))
  have k0 := blk_cell BK.out 0
  have k1 := blk_cell BK.out 1
  have k2 := blk_cell BK.out 2
  have k3 := blk_cell BK.out 3
  have k4 := blk_cell BK.out 4
  have k5 := blk_cell BK.out 5
  have k6 := blk_cell BK.out 6
  have k7 := blk_cell BK.out 7
  have k8 := blk_cell BK.out 8
  simp only [List.getElem?_toArray, List.getElem?_cons_zero, List.getElem?_cons_succ] at k0 k1 k2 k3 k4 k5 k6 k7 k8
  clear c3 c4
  go_wp2_with (first | (go_at_call 64; ((with_reducible refine (instr_Targets.calls kT x.f0 x.f1 x.f2 x.f3 x.f4 x.f5 x.f6 x.f7 A8 c8 x.f8 tv _ HR8.out HC8.out HT.out).mono ?_); rintro e w7 ⟨v_, rfl, hR_, hb⟩; obtain ⟨At, ct, rfl⟩ := Kd.R_slice hR_; have RT := Aside0.mk hR_; have HC2 := Aside0.mk (blk_below HC.out hb); have HB2 := Aside0.mk (below_step HB.out hb); clear hb hR_)))
  go_loop [33] (fun v33 => ∃ i : Nat, v33 = .int .i64 (i : Int) ∧ Aside0 (i ≤ tv.length ∧ ∀ k, k < i → (!(decide (tv.getD k 0 = 0)) && decide (tv.getD k 0 < (nb : Int))) = true)) (fun v33 => tv.length - (intOf v33).toNat)
  case atStart => exact ⟨0, rfl, ⟨Nat.zero_le _, fun i hi => absurd hi (Nat.not_lt_zero i)⟩⟩
  case round =>
   obtain ⟨i, rfl, HI⟩ := hrel
   have c4 := blk_cell HC2.out 4
   simp only [List.getElem?_toArray, List.getElem?_cons_zero, List.getElem?_cons_succ] at c4
   by_cases hit : i < tv.length
   ·have HLT := Aside0.mk hit
    have s1 : decide ((i : Int) < (tv.length : Int)) = true := decide_eq_true (by omega)
    have s2 : decide (i < tv.length) = true := decide_eq_true hit
    have p1 : (0 : Int) ≤ (i : Int) := by omega
    have p2 : (i : Int) < (tv.length : Int) := by omega
    have hwr : wrap64 ((i : Int) + 1) = ((i + 1 : Nat) : Int) := by have := LL.out; unfold wrap64; omega
    have HWR := Aside0.mk hwr
    clear hwr
    obtain ⟨q, eq_, cq⟩ := Kd.at_int (Kd.R_reads' RT.out).2.2 (i : Int) p1 p2
    subst eq_
    have e0 : rd tv (i : Int) = tv.getD i 0 := rfl
    rw [e0] at cq
    (try simp only [Int.toNat_natCast] at cq)
    clear e0
    obtain ⟨y, hy⟩ : ∃ y, tv.getD i 0 = y := ⟨_, rfl⟩
    rw [hy] at cq
    by_cases h0 : y = 0
    ·have t3 : decide (y = 0) = true := decide_eq_true h0
     have t4 : (y == 0) = true := beq_iff_eq.mpr h0
     have hf : res = false := by rw [← HRES.out, all_false hit (p := fun t => !(decide (t = 0)) && decide (t < (nb : Int))) (by rw [hy]; rw [t3]; rfl), Bool.and_false]
     have HF := Aside0.mk hf
     clear hf hy h0
     go_wp2
     go_ret
     exact ⟨ret_b HF.out.symm, HB2.out⟩
    have t3 : decide (y = 0) = false := decide_eq_false h0
    have t4 : (y == 0) = false := beq_eq_false_iff_ne.mpr h0
    by_cases hge : (nb : Int) ≤ y
    ·have t5 : decide ((nb : Int) ≤ y) = true := decide_eq_true hge
     have hf : res = false := by rw [← HRES.out, all_false hit (p := fun t => !(decide (t = 0)) && decide (t < (nb : Int))) (by rw [hy]; rw [t3]; exact decide_eq_false (by omega)), Bool.and_false]
     have HF := Aside0.mk hf
     clear hf hy h0
     go_wp2
     go_ret
     exact ⟨ret_b HF.out.symm, HB2.out⟩
    have t5 : decide ((nb : Int) ≤ y) = false := decide_eq_false hge
    have hyy : (!(decide (tv.getD i 0 = 0)) && decide (tv.getD i 0 < (nb : Int))) = true := by rw [hy, t3]; exact decide_eq_true (by omega)
    have HY := Aside0.mk hyy
    clear hyy hy h0
    go_wp2
    go_round
    case rel => exact ⟨i + 1, by first | (rw [HWR.out]; done) | (rw [HWR.out]) | go_num, ⟨by have := HLT.out; omega, fun k hk => by rcases Nat.lt_succ_iff_lt_or_eq.1 hk with h | rfl; exact HI.out.2 k h; exact HY.out⟩⟩
    case measure => exact bd_meas _ _ _ HWR.out HLT.out
   have s1 : decide ((i : Int) < (tv.length : Int)) = false := decide_eq_false (by omega)
   have s2 : decide (i < tv.length) = false := decide_eq_false hit
   have hf : res = true := by rw [← HRES.out, HA1.out, all_true (p := fun t => !(decide (t = 0)) && decide (t < (nb : Int))) (fun k hk => HI.out.2 k (by omega))]; rfl
   have HF := Aside0.mk hf
   clear hf
   go_wp2
   go_ret
   exact ⟨ret_b HF.out.symm, HB2.out⟩
end
end Go.Proofs.Ytomopjomapkmjaa.B

/- A part of it. -/
import Derived.Test.YtgbpkbfghonllaaFmM50
import Derived.Deep.AppendLies
import Derived.Outline
set_option linter.unusedVariables false
set_option linter.unusedSimpArgs false
namespace Go.Proofs.Ytgbpkbfghonllaa.P
open Go Go.RowKit Go.Proofs.YtgbpkbfghonllaaW.PrintWords Go.Proofs.YtgbpkbfghonllaaW.PrintLast Go.Proofs.YtgbpkbfghonllaaW.PrintMore Go.Proofs.Ytgbpkbfghonllaa.Pure
section
variable {P : Program} {ops : Array Oper} {o : Oper} {a : Act} {Q : Exit → Act → World → Prop} {Kc : Act → World → Prop} {α : Type} {E : Prop}
theorem R_append_at (d : Kd α) {w0 W : World} (base : Nat) (hgd : o.guard = none) (s x : Operand) (t e : TypeId) (z : Value) (bytes : Nat)
  (ho : o.op = .call { callee := .builtin .append, args := #[s, x], argTypes := #[t, t] })
  (ht : P.underlying t = some (.slice e)) (hinfo : (P.info? e).map (fun i => (i.zero, i.size, i.bytes)) = some (some z, d.sz, bytes)) (hz : z.cells.size = d.sz) (hs0 : 0 < d.sz) (hb0 : 0 < bytes)
  (v : Value) (xs : List α) (p : α) (cs : List Value) (ok okp : Nat → Prop) (hs : a.eval s = v) (xb : Nat) (hx : a.eval x = .slice (some ⟨xb, 0, none⟩) 1 1) (hxb : W.heap[xb]? = some (.cells cs.toArray e (0, 0)))
  (hp : d.M W base okp p cs) (hokp : ∀ k, okp k → ok k ∧ some k ≠ v.ownBlock) (hfresh : ∀ k, W.heap.size ≤ k → ok k)
  (HO : d.R e W base ok v xs) (HB : Below base w0 W) (hbase : base ≤ W.heap.size) (hl : (xs.length + 1) * bytes ≤ 140737488355328)
  (h : ∀ v1 w1, d.R e w1 base ok v1 (xs ++ [p]) → Below base w0 w1 → W.grownBy w1 v.ownBlock → (v1.ownBlock = v.ownBlock ∨ ∃ b, v1.ownBlock = some b ∧ W.heap.size ≤ b) → Kc (a.put o.dst v1) w1) :
  if Region.wanted o (yielded ops a.tmps) = true then Oper.wp P o a W Kc Q else E := by
 obtain ⟨h0, inner, hown, hr⟩ := HO
 obtain ⟨i0, hi, hzz⟩ := Option.map_eq_some_iff.1 hinfo
 simp only [Prod.mk.injEq] at hzz
 obtain ⟨hz0, hz1, hz2⟩ := hzz
 have hlen : xs.length + 1 ≤ 140737488355328 := Nat.le_trans (Nat.le_mul_of_pos_right _ hb0) hl
 refine step_append_lies W hgd s x t ho base e i0 z d.sz bytes ht hi hz0 hz1 hz2 hz hs0 v xs.length inner hs hown ⟨xb, 0, none⟩ 1 1 cs hx (by rw [d.K_len (d.K_of_M hp)]; simp)
  (by simpa using World.news_of_block (cs := cs.toArray) hxb) (d.K_one (d.K_of_M hp)) (by omega) (by simp only [maxLen]; omega) hl hbase W.heap.size rfl ?_
 intro g cap w1 hown1 hg hat hlt
 have hat' : (Value.slice (some ⟨g, 0, none⟩) (xs.length + 1) cap).ownBlock = v.ownBlock ∨ ∃ b, (Value.slice (some ⟨g, 0, none⟩) (xs.length + 1) cap).ownBlock = some b ∧ W.heap.size ≤ b := by
  rcases hat with hat | hat
  ·exact .inl hat.symm
  ·exact .inr ⟨g, rfl, by omega⟩
 exact h _ w1 (Kd.R_appended h0 hr hp hokp hfresh hown1 hg hat') (HB.grown hg hbase (own_base hown)) hg hat'
theorem N_append_at (d : Kd α) {w0 W : World} (base : Nat) (hgd : o.guard = none) (s x : Operand) (t e : TypeId) (z : Value) (bytes : Nat)
  (ho : o.op = .call { callee := .builtin .append, args := #[s, x], argTypes := #[t, t] })
  (ht : P.underlying t = some (.slice e)) (hinfo : (P.info? e).map (fun i => (i.zero, i.size, i.bytes)) = some (some z, d.sz, bytes)) (hz : z.cells.size = d.sz) (hs0 : 0 < d.sz) (hb0 : 0 < bytes)
  (v : Value) (xs : List α) (p : α) (cs : List Value) (ok okp : Nat → Prop) (hs : a.eval s = v) (xb : Nat) (hx : a.eval x = .slice (some ⟨xb, 0, none⟩) 1 1) (hxb : W.heap[xb]? = some (.cells cs.toArray e (0, 0)))
  (hp : Kd.FK d W okp p cs) (hokp : ∀ k, okp k → ok k ∧ some k ≠ v.ownBlock) (hfresh : ∀ k, W.heap.size ≤ k → ok k)
  (HO : Kd.N d e W base ok v xs) (HB : Below base w0 W) (hbase : base ≤ W.heap.size) (hl : (xs.length + 1) * bytes ≤ 140737488355328)
  (h : ∀ v1 w1, Kd.N d e w1 base ok v1 (xs ++ [p]) → Below base w0 w1 → W.grownBy w1 v.ownBlock → (v1.ownBlock = v.ownBlock ∨ ∃ b, v1.ownBlock = some b ∧ W.heap.size ≤ b) → Kc (a.put o.dst v1) w1) :
  if Region.wanted o (yielded ops a.tmps) = true then Oper.wp P o a W Kc Q else E := by
 obtain ⟨h0, rows, hlr, hR, hf⟩ := HO
 refine R_append_at (Kd.raw d.sz) base hgd s x t e z bytes ho ht hinfo hz hs0 hb0 v rows cs cs (fun _ => True) (fun _ => False) hs xb hx hxb (Kd.FK_raw hp) (fun _ hk => hk.elim) (fun _ _ => trivial) (Kd.raw_any hR) HB hbase (by rw [hlr]; exact hl) ?_
 intro v1 w1 hr hb hg hat
 exact h v1 w1 (Kd.N_appended h0 hlr hf (ys := [p]) (news := [cs]) rfl (fun j y c hy hc => by
  rcases j with _ | j
  ·simp only [List.getElem?_cons_zero, Option.some.injEq] at hy hc
   rw [← hy, ← hc]; exact hp
  ·simp at hy) hokp hfresh hr hg hat) hb hg hat
end
theorem inf_site : (Try.prog.info? 48).map (fun i => (i.zero, i.size, i.bytes)) = some (some (.agg #[(.int .i64 0), (.int .i64 0)]), 2, 16) := by kernel_rfl
theorem inf_func : (Try.prog.info? 39).map (fun i => (i.zero, i.size, i.bytes)) = some (some (.agg #[(.string ⟨#[]⟩), (.int .i64 0), (.int .i64 0), (.slice none 0 0), (.slice none 0 0)]), 5, 80) := by kernel_rfl
theorem heap_func : Kd.Heap k39 := by
 unfold k39 k42
 repeat' (first | exact Kd.heap_int _ | exact Kd.heap_string | refine Kd.heap_iso _ ?_ | refine Kd.heap_pair ?_ ?_ | refine Kd.heap_slice _ ?_)
theorem heap_site : Kd.Heap k48 := Kd.heap_iso _ (Kd.heap_pair (Kd.heap_int _) (Kd.heap_int _))
section
variable {w : World} {g gq : Nat} {Af : Option Addr} {cf : Nat} {fs : List S39} {mn : Int} {As : Option Addr} {cs : Nat} {ss : List S48} {W W1 : World} {s : S48} {qv : Array Value}
theorem PSt.setfar (h : PSt w g Af cf fs mn As cs ss W) {q : Nat} (hne : g ≠ q) (h0 : w.heap.size ≤ q) (i : Nat) (u : Value) : PSt w g Af cf fs mn As cs ss (W.setCell ⟨q, i, none⟩ u) :=
 ⟨h.B.setCell h0 _, blk_far h.p hne _, h.f0, h.fc, h.s0, h.sc⟩
structure MSt (w : World) (Af : Option Addr) (cf : Nat) (fs : List S39) (mn : Int) (As : Option Addr) (cs : Nat) (ss : List S48) (s : S48) (gq : Nat) (qv : Array Value) (W : World) : Prop where
 P : PSt w w.heap.size Af cf fs mn As cs ss W
 x : W.heap[w.heap.size + 1]? = some (.cells #[.int .i64 s.f0, .int .i64 s.f1] 48 (0, 0))
 q : W.heap[gq]? = some (.cells qv 25 (0, 0))
 hq : w.heap.size + 1 < gq
theorem MSt.step (h : MSt w Af cf fs mn As cs ss s gq qv W) (hb : Below W.heap.size W W1) : MSt w Af cf fs mn As cs ss s gq qv W1 := ⟨h.P.step hb, blk_below h.x hb, blk_below h.q hb, h.hq⟩
theorem MSt.drew (h : MSt w Af cf fs mn As cs ss s gq qv W) : MSt w Af cf fs mn As cs ss s gq qv W.drew := h.step (below_drew (Below.refl _ _))
theorem MSt.alloc (h : MSt w Af cf fs mn As cs ss s gq qv W) (o : Obj) : MSt w Af cf fs mn As cs ss s gq qv (W.alloc o) := h.step (below_alloc (Below.refl _ _) o)
theorem MSt.set (h : MSt w Af cf fs mn As cs ss s gq qv W) (i : Nat) (u : Value) : MSt w Af cf fs mn As cs ss s gq (qv.setIfInBounds i u) (W.setCell ⟨gq, i, none⟩ u) := by
 have := h.hq
 exact ⟨h.P.setfar (by omega) (by omega) i u, blk_far h.x (show w.heap.size + 1 ≠ gq by omega) _, blk_set h.q i u, h.hq⟩
theorem MSt.fF (h : MSt w Af cf fs mn As cs ss s gq qv W) : Kd.F k39 W (fun k => k < w.heap.size) Af fs.length fs := Kd.F_below (Kd.C_F heap_func h.P.f0) h.P.B
theorem MSt.sF (h : MSt w Af cf fs mn As cs ss s gq qv W) : Kd.F k48 W (fun k => k < w.heap.size) As ss.length ss := Kd.F_below (Kd.C_F heap_site h.P.s0) h.P.B
theorem MSt.start (hP : PSt w w.heap.size Af cf fs mn As cs ss W) (hx : W.heap[w.heap.size + 1]? = some (.cells #[.int .i64 s.f0, .int .i64 s.f1] 48 (0, 0))) (a b c : Value) : MSt w Af cf fs mn As cs ss s W.heap.size #[a, b, c] (W.alloc (.cells #[a, b, c] 25)) :=
 ⟨hP.alloc _, blk_alloc hx _, blk_new _ _, blk_lt hx⟩
theorem MSt.elem0 (h : MSt w Af cf fs mn As cs ss s gq qv W) (hl : 0 < fs.length) : ∃ ad A3 c3 A4 c4, Af = some ad ∧ Kd.FK k39 W (fun k => k < w.heap.size) (fs.getD 0 z39) [.string (fs.getD 0 z39).f0, .int .i64 (fs.getD 0 z39).f1, .int .i64 (fs.getD 0 z39).f2, .slice A3 (fs.getD 0 z39).f3.length c3, .slice A4 (fs.getD 0 z39).f4.length c4] ∧
  W.cell? ad = some (.string (fs.getD 0 z39).f0) ∧ W.cell? ⟨ad.block, ad.off + 1, none⟩ = some (.int .i64 (fs.getD 0 z39).f1) ∧ W.cell? ⟨ad.block, ad.off + 2, none⟩ = some (.int .i64 (fs.getD 0 z39).f2) ∧ W.cell? ⟨ad.block, ad.off + 3, none⟩ = some (.slice A3 (fs.getD 0 z39).f3.length c3) ∧ W.cell? ⟨ad.block, ad.off + 4, none⟩ = some (.slice A4 (fs.getD 0 z39).f4.length c4) := by
 obtain ⟨ad, c, e, hcl, hFK, hcc0, _⟩ := Kd.F_get h.fF z39 0 (by omega) (by omega)
 have hcc : ∀ j u, c[j]? = some u → W.cell? (ad.add (0 + j)) = some u := hcc0
 obtain ⟨A3, c3, A4, c4, rfl, l3, g3, l4, g4⟩ := k39_open (Kd.FK_now hFK)
 have e0 : ad.add 0 = ad := if_pos rfl
 have f : ∀ j, 0 < j → ad.add (0 + j) = ⟨ad.block, ad.off + j, none⟩ := by
  intro j hj
  rw [add_field ad 0 j hj, e0]
 refine ⟨ad, A3, c3, A4, c4, e, hFK, ?_, ?_, ?_, ?_, ?_⟩
 ·have h0 := hcc 0 _ rfl
  rwa [e0] at h0
 ·rw [← f 1 (by omega)]; exact hcc 1 _ rfl
 ·rw [← f 2 (by omega)]; exact hcc 2 _ rfl
 ·rw [← f 3 (by omega)]; exact hcc 3 _ rfl
 ·rw [← f 4 (by omega)]; exact hcc 4 _ rfl
theorem MSt.lt (h : MSt w Af cf fs mn As cs ss s gq qv W) : gq < W.heap.size := blk_lt h.q
end
end Go.Proofs.Ytgbpkbfghonllaa.P

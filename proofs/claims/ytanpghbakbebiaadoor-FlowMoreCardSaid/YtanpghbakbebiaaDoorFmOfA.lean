/- A part of it. -/
import Derived.Test.YtanpghbakbebiaaDoorFmM40
import Derived.Deep.AppendLies
import Derived.Outline
set_option linter.unusedVariables false
set_option linter.unusedSimpArgs false
namespace Go.Proofs.YtanpghbakbebiaaDoor.P
open Go Go.RowKit Go.Proofs.YtanpghbakbebiaaDoorW.PrintWords Go.Proofs.YtanpghbakbebiaaDoorW.PrintLast Go.Proofs.YtanpghbakbebiaaDoorW.PrintMore
section
variable {P : Program} {ops : Array Oper} {o : Oper} {a : Act} {Q : Exit → Act → World → Prop} {Kc : Act → World → Prop} {α : Type} {E : Prop}
theorem R_append_at (d : Kd α) {w0 W : World} (base : Nat) (hgd : o.guard = none) (s x : Operand) (t e : TypeId) (z : Value) (bytes : Nat)
    (ho : o.op = .call { callee := .builtin .append, args := #[s, x], argTypes := #[t, t] })
    (ht : P.underlying t = some (.slice e)) (hinfo : (P.info? e).map (fun i => (i.zero, i.size, i.bytes)) = some (some z, d.sz, bytes)) (hz : z.cells.size = d.sz) (hs0 : 0 < d.sz) (hb0 : 0 < bytes)
    (v : Value) (xs : List α) (p : α) (cs : List Value) (ok okp : Nat → Prop) (hs : a.eval s = v) (xb : Nat) (hx : a.eval x = .slice (some ⟨xb, 0, none⟩) 1 1) (hxb : W.heap[xb]? = some (.cells cs.toArray e (0, 0)))
    (hp : d.M W base okp p cs) (hokp : ∀ k, okp k → ok k ∧ some k ≠ v.ownBlock) (hfresh : ∀ k, W.heap.size ≤ k → ok k)
    (HO : d.R e W base ok v xs) (HB : Below base w0 W) (hbase : base ≤ W.heap.size) (hl : (xs.length + 1) * bytes ≤ 140737488355328)
    (h : ∀ v1 w1, d.R e w1 base ok v1 (xs ++ [p]) → Below base w0 w1 → W.grownBy w1 v.ownBlock → (v1.ownBlock = v.ownBlock ∨ ∃ b, v1.ownBlock = some b ∧ W.heap.size ≤ b) → Kc (a.put o.dst v1) w1) :
    if Region.wanted o (yielded ops a.tmps) = true then Oper.wp P o a W Kc Q else E := by
  obtain ⟨h0, inner, hown, hr⟩ := HO
  obtain ⟨i0, hi, hzz⟩ := Option.map_eq_some_iff.1 hinfo
  simp only [Prod.mk.injEq] at hzz
  obtain ⟨hz0, hz1, hz2⟩ := hzz
  have hlen : xs.length + 1 ≤ 140737488355328 := Nat.le_trans (Nat.le_mul_of_pos_right _ hb0) hl
  refine step_append_lies W hgd s x t ho base e i0 z d.sz bytes ht hi hz0 hz1 hz2 hz hs0 v xs.length inner hs hown ⟨xb, 0, none⟩ 1 1 cs hx (by rw [d.K_len (d.K_of_M hp)]; simp)
    (by simpa using World.news_of_block (cs := cs.toArray) hxb) (d.K_one (d.K_of_M hp)) (by omega) (by simp only [maxLen]; omega) hl hbase W.heap.size rfl ?_
  intro g cap w1 hown1 hg hat hlt
  have hat' : (Value.slice (some ⟨g, 0, none⟩) (xs.length + 1) cap).ownBlock = v.ownBlock ∨ ∃ b, (Value.slice (some ⟨g, 0, none⟩) (xs.length + 1) cap).ownBlock = some b ∧ W.heap.size ≤ b := by
    rcases hat with hat | hat
    · exact .inl hat.symm
    · exact .inr ⟨g, rfl, by omega⟩
  exact h _ w1 (Kd.R_appended h0 hr hp hokp hfresh hown1 hg hat') (HB.grown hg hbase (own_base hown)) hg hat'
theorem S_append_at (d : Kd α) {w0 W : World} (base : Nat) (hgd : o.guard = none) (s x : Operand) (t e : TypeId) (z : Value) (bytes : Nat)
    (ho : o.op = .call { callee := .builtin .append, args := #[s, x], argTypes := #[t, t] })
    (ht : P.underlying t = some (.slice e)) (hinfo : (P.info? e).map (fun i => (i.zero, i.size, i.bytes)) = some (some z, d.sz, bytes)) (hz : z.cells.size = d.sz) (hs0 : 0 < d.sz) (hb0 : 0 < bytes)
    (v : Value) (xs : List α) (p : α) (cs : List Value) (ok okp : Nat → Prop) (hs : a.eval s = v) (xb : Nat) (hx : a.eval x = .slice (some ⟨xb, 0, none⟩) 1 1) (hxb : W.heap[xb]? = some (.cells cs.toArray e (0, 0)))
    (hp : d.M W base okp p cs) (hokp : ∀ k, okp k → ok k ∧ some k ≠ v.ownBlock) (hfresh : ∀ k, W.heap.size ≤ k → ok k)
    (HO : Kd.S d e W base (fun k => ok k ∧ ¬ okp k) v xs) (HB : Below base w0 W) (hbase : base ≤ W.heap.size) (hl : (xs.length + 1) * bytes ≤ 140737488355328)
    (h : ∀ v1 w1, Kd.S d e w1 base ok v1 (xs ++ [p]) → Below base w0 w1 → W.grownBy w1 v.ownBlock → (v1.ownBlock = v.ownBlock ∨ ∃ b, v1.ownBlock = some b ∧ W.heap.size ≤ b) → Kc (a.put o.dst v1) w1) :
    if Region.wanted o (yielded ops a.tmps) = true then Oper.wp P o a W Kc Q else E := by
  obtain ⟨f, hf, hR⟩ := Kd.S_tag HO xs.length okp (fun _ hk h2 => h2.2 hk)
  refine R_append_at (Kd.tag f d) base hgd s x t e z bytes ho ht hinfo hz hs0 hb0 v xs.zipIdx (p, xs.length) cs ok okp hs xb hx hxb (d.M_mono (fun k hk => ⟨hk, hf k hk⟩) hp) hokp hfresh (Kd.R_mono hR (fun _ hk => hk.1)) HB hbase (by rw [List.length_zipIdx]; exact hl) ?_
  intro v1 w1 hr
  rw [← Kd.zip_snoc] at hr
  exact h v1 w1 ⟨f, hr⟩
end
theorem blk_new1 (w : World) (o o' : Obj) : ((w.alloc o).alloc o').heap[w.heap.size + 1]? = some o' := by simpa using blk_new (w.alloc o) o'
structure OV where
  va : Value
  vb : Value
  vs : Value
  vc : Value
  vd : Value
  vt : Value
  A : List (List Int)
  B : List (List Int)
  s : List Int
  C : List (List Int)
  E : List (List Int)
  t : List Int
structure ORows (w : World) (D : RD) (f : Nat → Nat) (V : OV) (W : World) : Prop where
  Bl : Below w.heap.size w W
  o : D.Ok w
  a : Kd.S (Kd.slice 72 (Kd.int .u64)) 30 W w.heap.size (fun k => f k = 0) V.va V.A
  b : Kd.S (Kd.slice 72 (Kd.int .u64)) 30 W w.heap.size (fun k => f k = 1) V.vb V.B
  s : Kd.R (Kd.int .u64) 72 W w.heap.size (fun k => f k = 2) V.vs V.s
  c : Kd.S (Kd.slice 3 (Kd.int .i64)) 23 W w.heap.size (fun k => f k = 3) V.vc V.C
  d : Kd.S (Kd.slice 3 (Kd.int .i64)) 23 W w.heap.size (fun k => f k = 4) V.vd V.E
  t : Kd.R (Kd.int .i64) 3 W w.heap.size (fun k => f k = 5) V.vt V.t
structure OSt (w : World) (D : RD) (g1 g2 : Nat) (f : Nat → Nat) (V : OV) (W : World) : Prop where
  R : ORows w D f V W
  p : W.heap[w.heap.size]? = some (.cells #[.slice D.A0 D.l0.length D.c0, .bool D.bk, .bool D.al, .int .i64 D.wd, .slice D.A4 D.l4.length D.c4, .slice D.A5 D.l5.length D.c5, .slice D.A6 D.l6.length D.c6] 25 (0, 0))
  z1 : W.heap[w.heap.size + 1]? = some (.cells #[.slice none 0 0, .bool false, .bool false, .int .i64 0, .slice none 0 0, .slice none 0 0, .slice none 0 0] 32 (0, 0))
  z2 : W.heap[w.heap.size + 2]? = some (.cells #[.slice none 0 0, .bool false, .bool false, .int .i64 0, .slice none 0 0, .slice none 0 0, .slice none 0 0] 25 (0, 0))
  q : W.heap[g1]? = some (.cells #[.slice D.A0 D.l0.length D.c0, .bool D.bk, .bool D.al, .int .i64 D.wd, V.va, V.vb, V.vs] 32 (0, 0))
  x : W.heap[g2]? = some (.cells #[.slice D.A0 D.l0.length D.c0, .bool D.bk, .bool D.al, .int .i64 D.wd, V.vc, V.vd, V.vt] 25 (0, 0))
  h1 : w.heap.size + 2 < g1
  h2 : g1 < g2
  f0 : f w.heap.size = 9
  f1 : f (w.heap.size + 1) = 9
  f2 : f (w.heap.size + 2) = 9
  f3 : f g1 = 9
  f4 : f g2 = 9
section
variable {w W W1 W2 : World} {D : RD} {g1 g2 : Nat} {f f' : Nat → Nat} {V : OV}
theorem ORows.step (h : ORows w D f V W) (hB : Below w.heap.size w W1) (hs : ∀ k m, m < 6 → f k = m → k < W.heap.size → W1.heap[k]? = W.heap[k]?) : ORows w D f V W1 :=
  ⟨hB, h.o, Kd.S_step h.a (fun k e hk => hs k 0 (by omega) e hk), Kd.S_step h.b (fun k e hk => hs k 1 (by omega) e hk), Kd.R_step h.s (fun k e hk => hs k 2 (by omega) e hk), Kd.S_step h.c (fun k e hk => hs k 3 (by omega) e hk), Kd.S_step h.d (fun k e hk => hs k 4 (by omega) e hk), Kd.R_step h.t (fun k e hk => hs k 5 (by omega) e hk)⟩
theorem ORows.relab (h : ORows w D f V W) (hf : ∀ k, k < W.heap.size → f' k = f k) : ORows w D f' V W :=
  ⟨h.Bl, h.o, Kd.S_mono (Kd.S_bound h.a) (fun k hk => (hf k hk.2.2.1).trans hk.1), Kd.S_mono (Kd.S_bound h.b) (fun k hk => (hf k hk.2.2.1).trans hk.1), Kd.R_mono (Kd.R_bound h.s) (fun k hk => (hf k hk.2.2.1).trans hk.1), Kd.S_mono (Kd.S_bound h.c) (fun k hk => (hf k hk.2.2.1).trans hk.1), Kd.S_mono (Kd.S_bound h.d) (fun k hk => (hf k hk.2.2.1).trans hk.1), Kd.R_mono (Kd.R_bound h.t) (fun k hk => (hf k hk.2.2.1).trans hk.1)⟩
theorem OSt.step (h : OSt w D g1 g2 f V W) (hB : Below w.heap.size w W1) (hs : ∀ k, k < W.heap.size → W1.heap[k]? = W.heap[k]?) : OSt w D g1 g2 f V W1 :=
  { h with
    R := h.R.step hB (fun k _ _ _ hk => hs k hk)
    p := (hs _ (blk_lt h.p)).trans h.p
    z1 := (hs _ (blk_lt h.z1)).trans h.z1
    z2 := (hs _ (blk_lt h.z2)).trans h.z2
    q := (hs _ (blk_lt h.q)).trans h.q
    x := (hs _ (blk_lt h.x)).trans h.x }
theorem OSt.below (h : OSt w D g1 g2 f V W) (hb : Below W.heap.size W W1) : OSt w D g1 g2 f V W1 := h.step (below_step h.R.Bl hb) (fun k hk => hb.block k hk)
theorem OSt.relab (h : OSt w D g1 g2 f V W) (hf : ∀ k, k < W.heap.size → f' k = f k) : OSt w D g1 g2 f' V W :=
  { h with
    R := h.R.relab hf
    f0 := (hf _ (blk_lt h.p)).trans h.f0
    f1 := (hf _ (blk_lt h.z1)).trans h.f1
    f2 := (hf _ (blk_lt h.z2)).trans h.f2
    f3 := (hf _ (blk_lt h.q)).trans h.f3
    f4 := (hf _ (blk_lt h.x)).trans h.f4 }
theorem OSt.ownLt {m : Nat} {v : Value} (hv : ∀ k, v.ownBlock = some k → f k = m ∧ k < W.heap.size) {W6 W7 : World} (hb : Below W.heap.size W W6) (hg : W6.grownBy W7 v.ownBlock) {g j : Nat} {u : Value} (k : Nat) (hk : k < W.heap.size) (hm : f k ≠ m) (hkg : k ≠ g) : (W7.setCell ⟨g, j, none⟩ u).heap[k]? = W.heap[k]? := by
  rw [Below.heap_setCell W7 ⟨g, j, none⟩ u k hkg]
  have h1 := hb.size
  rw [hg.block k (by omega) (fun e => hm (hv k e.symm).1)]
  exact hb.block k hk
theorem OSt.put0 (h : OSt w D g1 g2 f V W) {W6 W7 : World} (hb : Below W.heap.size W W6) (hg : W6.grownBy W7 V.va.ownBlock) (h7 : Below w.heap.size w W7) {v1 : Value} {X : List (List Int)} (hr : Kd.S (Kd.slice 72 (Kd.int .u64)) 30 W7 w.heap.size (fun k => newLab f W.heap.size 0 k = 0) v1 X) : OSt w D g1 g2 (newLab f W.heap.size 0) { V with va := v1, A := X } (W7.setCell ⟨g1, 4, none⟩ v1) := by
  have h2 := h.relab (f' := newLab f W.heap.size 0) (fun k hk => newLab_old hk)
  have m0 : ∀ k, k < W.heap.size → newLab f W.heap.size 0 k ≠ 0 → k ≠ g1 → (W7.setCell ⟨g1, 4, none⟩ v1).heap[k]? = W.heap[k]? := fun k hk hm hkg => OSt.ownLt (f := newLab f W.heap.size 0) (m := 0) (fun k e => ⟨(Kd.S_R h2.R.a).1 k e, Kd.S_lt h2.R.a k e⟩) hb hg k hk hm hkg
  have l1 := h2.h1
  have l2 := h2.h2
  refine ⟨⟨h7.setCell (show w.heap.size ≤ g1 by omega) _, h2.R.o, Kd.S_far hr (p := ⟨g1, 4, none⟩) (fun k e e2 => by have := h2.f3; have e3 : k = g1 := e2; rw [e3] at e; omega) _, Kd.S_step h2.R.b (fun k e hk => m0 k hk (by omega) (by intro e9; subst e9; have := h2.f3; omega)), Kd.R_step h2.R.s (fun k e hk => m0 k hk (by omega) (by intro e9; subst e9; have := h2.f3; omega)), Kd.S_step h2.R.c (fun k e hk => m0 k hk (by omega) (by intro e9; subst e9; have := h2.f3; omega)), Kd.S_step h2.R.d (fun k e hk => m0 k hk (by omega) (by intro e9; subst e9; have := h2.f3; omega)), Kd.R_step h2.R.t (fun k e hk => m0 k hk (by omega) (by intro e9; subst e9; have := h2.f3; omega))⟩, ?_, ?_, ?_, ?_, ?_, h2.h1, h2.h2, h2.f0, h2.f1, h2.f2, h2.f3, h2.f4⟩
  · exact (m0 _ (blk_lt h2.p) (by rw [h2.f0]; omega) (by omega)).trans h2.p
  · exact (m0 _ (blk_lt h2.z1) (by rw [h2.f1]; omega) (by omega)).trans h2.z1
  · exact (m0 _ (blk_lt h2.z2) (by rw [h2.f2]; omega) (by omega)).trans h2.z2
  · exact blk_set (((hg.block _ (by have := blk_lt h2.q; have := hb.size; omega) (fun e => by have e1 := (Kd.S_R h2.R.a).1 _ e.symm; have e2 := h2.f3; omega)).trans (hb.block _ (blk_lt h2.q))).trans h2.q) 4 _
  · exact (m0 _ (blk_lt h2.x) (by rw [h2.f4]; omega) (by omega)).trans h2.x
theorem OSt.put1 (h : OSt w D g1 g2 f V W) {W6 W7 : World} (hb : Below W.heap.size W W6) (hg : W6.grownBy W7 V.vb.ownBlock) (h7 : Below w.heap.size w W7) {v1 : Value} {X : List (List Int)} (hr : Kd.S (Kd.slice 72 (Kd.int .u64)) 30 W7 w.heap.size (fun k => newLab f W.heap.size 1 k = 1) v1 X) : OSt w D g1 g2 (newLab f W.heap.size 1) { V with vb := v1, B := X } (W7.setCell ⟨g1, 5, none⟩ v1) := by
  have h2 := h.relab (f' := newLab f W.heap.size 1) (fun k hk => newLab_old hk)
  have m0 : ∀ k, k < W.heap.size → newLab f W.heap.size 1 k ≠ 1 → k ≠ g1 → (W7.setCell ⟨g1, 5, none⟩ v1).heap[k]? = W.heap[k]? := fun k hk hm hkg => OSt.ownLt (f := newLab f W.heap.size 1) (m := 1) (fun k e => ⟨(Kd.S_R h2.R.b).1 k e, Kd.S_lt h2.R.b k e⟩) hb hg k hk hm hkg
  have l1 := h2.h1
  have l2 := h2.h2
  refine ⟨⟨h7.setCell (show w.heap.size ≤ g1 by omega) _, h2.R.o, Kd.S_step h2.R.a (fun k e hk => m0 k hk (by omega) (by intro e9; subst e9; have := h2.f3; omega)), Kd.S_far hr (p := ⟨g1, 5, none⟩) (fun k e e2 => by have := h2.f3; have e3 : k = g1 := e2; rw [e3] at e; omega) _, Kd.R_step h2.R.s (fun k e hk => m0 k hk (by omega) (by intro e9; subst e9; have := h2.f3; omega)), Kd.S_step h2.R.c (fun k e hk => m0 k hk (by omega) (by intro e9; subst e9; have := h2.f3; omega)), Kd.S_step h2.R.d (fun k e hk => m0 k hk (by omega) (by intro e9; subst e9; have := h2.f3; omega)), Kd.R_step h2.R.t (fun k e hk => m0 k hk (by omega) (by intro e9; subst e9; have := h2.f3; omega))⟩, ?_, ?_, ?_, ?_, ?_, h2.h1, h2.h2, h2.f0, h2.f1, h2.f2, h2.f3, h2.f4⟩
  · exact (m0 _ (blk_lt h2.p) (by rw [h2.f0]; omega) (by omega)).trans h2.p
  · exact (m0 _ (blk_lt h2.z1) (by rw [h2.f1]; omega) (by omega)).trans h2.z1
  · exact (m0 _ (blk_lt h2.z2) (by rw [h2.f2]; omega) (by omega)).trans h2.z2
  · exact blk_set (((hg.block _ (by have := blk_lt h2.q; have := hb.size; omega) (fun e => by have e1 := (Kd.S_R h2.R.b).1 _ e.symm; have e2 := h2.f3; omega)).trans (hb.block _ (blk_lt h2.q))).trans h2.q) 5 _
  · exact (m0 _ (blk_lt h2.x) (by rw [h2.f4]; omega) (by omega)).trans h2.x
theorem OSt.put3 (h : OSt w D g1 g2 f V W) {W6 W7 : World} (hb : Below W.heap.size W W6) (hg : W6.grownBy W7 V.vc.ownBlock) (h7 : Below w.heap.size w W7) {v1 : Value} {X : List (List Int)} (hr : Kd.S (Kd.slice 3 (Kd.int .i64)) 23 W7 w.heap.size (fun k => newLab f W.heap.size 3 k = 3) v1 X) : OSt w D g1 g2 (newLab f W.heap.size 3) { V with vc := v1, C := X } (W7.setCell ⟨g2, 4, none⟩ v1) := by
  have h2 := h.relab (f' := newLab f W.heap.size 3) (fun k hk => newLab_old hk)
  have m0 : ∀ k, k < W.heap.size → newLab f W.heap.size 3 k ≠ 3 → k ≠ g2 → (W7.setCell ⟨g2, 4, none⟩ v1).heap[k]? = W.heap[k]? := fun k hk hm hkg => OSt.ownLt (f := newLab f W.heap.size 3) (m := 3) (fun k e => ⟨(Kd.S_R h2.R.c).1 k e, Kd.S_lt h2.R.c k e⟩) hb hg k hk hm hkg
  have l1 := h2.h1
  have l2 := h2.h2
  refine ⟨⟨h7.setCell (show w.heap.size ≤ g2 by omega) _, h2.R.o, Kd.S_step h2.R.a (fun k e hk => m0 k hk (by omega) (by intro e9; subst e9; have := h2.f4; omega)), Kd.S_step h2.R.b (fun k e hk => m0 k hk (by omega) (by intro e9; subst e9; have := h2.f4; omega)), Kd.R_step h2.R.s (fun k e hk => m0 k hk (by omega) (by intro e9; subst e9; have := h2.f4; omega)), Kd.S_far hr (p := ⟨g2, 4, none⟩) (fun k e e2 => by have := h2.f4; have e3 : k = g2 := e2; rw [e3] at e; omega) _, Kd.S_step h2.R.d (fun k e hk => m0 k hk (by omega) (by intro e9; subst e9; have := h2.f4; omega)), Kd.R_step h2.R.t (fun k e hk => m0 k hk (by omega) (by intro e9; subst e9; have := h2.f4; omega))⟩, ?_, ?_, ?_, ?_, ?_, h2.h1, h2.h2, h2.f0, h2.f1, h2.f2, h2.f3, h2.f4⟩
  · exact (m0 _ (blk_lt h2.p) (by rw [h2.f0]; omega) (by omega)).trans h2.p
  · exact (m0 _ (blk_lt h2.z1) (by rw [h2.f1]; omega) (by omega)).trans h2.z1
  · exact (m0 _ (blk_lt h2.z2) (by rw [h2.f2]; omega) (by omega)).trans h2.z2
  · exact (m0 _ (blk_lt h2.q) (by rw [h2.f3]; omega) (by omega)).trans h2.q
  · exact blk_set (((hg.block _ (by have := blk_lt h2.x; have := hb.size; omega) (fun e => by have e1 := (Kd.S_R h2.R.c).1 _ e.symm; have e2 := h2.f4; omega)).trans (hb.block _ (blk_lt h2.x))).trans h2.x) 4 _
theorem OSt.put4 (h : OSt w D g1 g2 f V W) {W6 W7 : World} (hb : Below W.heap.size W W6) (hg : W6.grownBy W7 V.vd.ownBlock) (h7 : Below w.heap.size w W7) {v1 : Value} {X : List (List Int)} (hr : Kd.S (Kd.slice 3 (Kd.int .i64)) 23 W7 w.heap.size (fun k => newLab f W.heap.size 4 k = 4) v1 X) : OSt w D g1 g2 (newLab f W.heap.size 4) { V with vd := v1, E := X } (W7.setCell ⟨g2, 5, none⟩ v1) := by
  have h2 := h.relab (f' := newLab f W.heap.size 4) (fun k hk => newLab_old hk)
  have m0 : ∀ k, k < W.heap.size → newLab f W.heap.size 4 k ≠ 4 → k ≠ g2 → (W7.setCell ⟨g2, 5, none⟩ v1).heap[k]? = W.heap[k]? := fun k hk hm hkg => OSt.ownLt (f := newLab f W.heap.size 4) (m := 4) (fun k e => ⟨(Kd.S_R h2.R.d).1 k e, Kd.S_lt h2.R.d k e⟩) hb hg k hk hm hkg
  have l1 := h2.h1
  have l2 := h2.h2
  refine ⟨⟨h7.setCell (show w.heap.size ≤ g2 by omega) _, h2.R.o, Kd.S_step h2.R.a (fun k e hk => m0 k hk (by omega) (by intro e9; subst e9; have := h2.f4; omega)), Kd.S_step h2.R.b (fun k e hk => m0 k hk (by omega) (by intro e9; subst e9; have := h2.f4; omega)), Kd.R_step h2.R.s (fun k e hk => m0 k hk (by omega) (by intro e9; subst e9; have := h2.f4; omega)), Kd.S_step h2.R.c (fun k e hk => m0 k hk (by omega) (by intro e9; subst e9; have := h2.f4; omega)), Kd.S_far hr (p := ⟨g2, 5, none⟩) (fun k e e2 => by have := h2.f4; have e3 : k = g2 := e2; rw [e3] at e; omega) _, Kd.R_step h2.R.t (fun k e hk => m0 k hk (by omega) (by intro e9; subst e9; have := h2.f4; omega))⟩, ?_, ?_, ?_, ?_, ?_, h2.h1, h2.h2, h2.f0, h2.f1, h2.f2, h2.f3, h2.f4⟩
  · exact (m0 _ (blk_lt h2.p) (by rw [h2.f0]; omega) (by omega)).trans h2.p
  · exact (m0 _ (blk_lt h2.z1) (by rw [h2.f1]; omega) (by omega)).trans h2.z1
  · exact (m0 _ (blk_lt h2.z2) (by rw [h2.f2]; omega) (by omega)).trans h2.z2
  · exact (m0 _ (blk_lt h2.q) (by rw [h2.f3]; omega) (by omega)).trans h2.q
  · exact blk_set (((hg.block _ (by have := blk_lt h2.x; have := hb.size; omega) (fun e => by have e1 := (Kd.S_R h2.R.d).1 _ e.symm; have e2 := h2.f4; omega)).trans (hb.block _ (blk_lt h2.x))).trans h2.x) 5 _
theorem OSt.ok (h : OSt w D g1 g2 f V W) : D.Ok W := h.R.o.below h.R.Bl
end
section
variable {w W W1 W2 : World} {D : RD} {g1 g2 g : Nat} {f f' : Nat → Nat} {V : OV} {a0 a1 a2 a3 a4 a5 a6 b0 b1 b2 b3 b4 b5 b6 : Value} {t : TypeId}
abbrev put7 (W : World) (g : Nat) (b0 b1 b2 b3 b4 b5 b6 : Value) : World := (((((((W.setCell ⟨g, 0, none⟩ b0).setCell ⟨g, 1, none⟩ b1).setCell ⟨g, 2, none⟩ b2).setCell ⟨g, 3, none⟩ b3).setCell ⟨g, 4, none⟩ b4).setCell ⟨g, 5, none⟩ b5).setCell ⟨g, 6, none⟩ b6)
theorem put7_at (h : W.heap[g]? = some (.cells #[a0, a1, a2, a3, a4, a5, a6] t (0, 0))) : (put7 W g b0 b1 b2 b3 b4 b5 b6).heap[g]? = some (.cells #[b0, b1, b2, b3, b4, b5, b6] t (0, 0)) :=
  blk_put (cs := #[b0, b1, b2, b3, b4, b5, a6]) (blk_put (cs := #[b0, b1, b2, b3, b4, a5, a6]) (blk_put (cs := #[b0, b1, b2, b3, a4, a5, a6]) (blk_put (cs := #[b0, b1, b2, a3, a4, a5, a6]) (blk_put (cs := #[b0, b1, a2, a3, a4, a5, a6]) (blk_put (cs := #[b0, a1, a2, a3, a4, a5, a6]) (blk_put (cs := #[a0, a1, a2, a3, a4, a5, a6]) h 0 _ rfl) 1 _ rfl) 2 _ rfl) 3 _ rfl) 4 _ rfl) 5 _ rfl) 6 _ rfl
theorem put7_far (k : Nat) (h : k ≠ g) : (put7 W g b0 b1 b2 b3 b4 b5 b6).heap[k]? = W.heap[k]? := by
  unfold put7
  rw [Below.heap_setCell _ _ _ _ h, Below.heap_setCell _ _ _ _ h, Below.heap_setCell _ _ _ _ h, Below.heap_setCell _ _ _ _ h, Below.heap_setCell _ _ _ _ h, Below.heap_setCell _ _ _ _ h, Below.heap_setCell _ _ _ _ h]
theorem put7_below {n : Nat} (h : Below n w W) (hg : n ≤ g) : Below n w (put7 W g b0 b1 b2 b3 b4 b5 b6) :=
  ((((((h.setCell (by exact hg) _).setCell (by exact hg) _).setCell (by exact hg) _).setCell (by exact hg) _).setCell (by exact hg) _).setCell (by exact hg) _).setCell (by exact hg) _
structure OPre (w : World) (D : RD) (W : World) : Prop where
  Bl : Below w.heap.size w W
  o : D.Ok w
  p : W.heap[w.heap.size]? = some (.cells #[.slice D.A0 D.l0.length D.c0, .bool D.bk, .bool D.al, .int .i64 D.wd, .slice D.A4 D.l4.length D.c4, .slice D.A5 D.l5.length D.c5, .slice D.A6 D.l6.length D.c6] 25 (0, 0))
  z1 : W.heap[w.heap.size + 1]? = some (.cells #[.slice none 0 0, .bool false, .bool false, .int .i64 0, .slice none 0 0, .slice none 0 0, .slice none 0 0] 32 (0, 0))
  z2 : W.heap[w.heap.size + 2]? = some (.cells #[.slice none 0 0, .bool false, .bool false, .int .i64 0, .slice none 0 0, .slice none 0 0, .slice none 0 0] 25 (0, 0))
theorem OPre.step (h : OPre w D W) (hB : Below w.heap.size w W1) (hs : ∀ k, k < W.heap.size → k ≤ w.heap.size + 2 → W1.heap[k]? = W.heap[k]?) : OPre w D W1 :=
  { h with Bl := hB, p := (hs _ (blk_lt h.p) (by omega)).trans h.p, z1 := (hs _ (blk_lt h.z1) (by omega)).trans h.z1, z2 := (hs _ (blk_lt h.z2) (by omega)).trans h.z2 }
theorem OPre.below (h : OPre w D W) (hb : Below W.heap.size W W1) : OPre w D W1 := h.step (below_step h.Bl hb) (fun k hk _ => hb.block k hk)
theorem OPre.ok (h : OPre w D W) : D.Ok W := h.o.below h.Bl
structure O1 (w : World) (D : RD) (g1 : Nat) (vs : Value) (s : List Int) (W : World) : Prop where
  P : OPre w D W
  h1 : w.heap.size + 2 < g1
  q : W.heap[g1]? = some (.cells #[.slice D.A0 D.l0.length D.c0, .bool D.bk, .bool D.al, .int .i64 D.wd, .slice none 0 0, .slice none 0 0, vs] 32 (0, 0))
  s : Kd.R (Kd.int .u64) 72 W w.heap.size (fun k => k ≠ g1 ∧ w.heap.size + 2 < k) vs s
theorem O1.below {vs : Value} {s : List Int} (h : O1 w D g1 vs s W) (hb : Below W.heap.size W W1) : O1 w D g1 vs s W1 :=
  ⟨h.P.below hb, h.h1, blk_below h.q hb, Kd.R_below h.s hb⟩
theorem O1.of {s : List Int} {vs : Value} (h : OPre w D W) (h1 : w.heap.size + 2 < g1) (hg : W.heap[g1]? = some (.cells #[.slice none 0 0, .bool false, .bool false, .int .i64 0, .slice none 0 0, .slice none 0 0, .slice none 0 0] 32 (0, 0))) (hs : Kd.R (Kd.int .u64) 72 W w.heap.size (fun k => k ≠ g1 ∧ w.heap.size + 2 < k) vs s) : O1 w D g1 vs s (put7 W g1 (.slice D.A0 D.l0.length D.c0) (.bool D.bk) (.bool D.al) (.int .i64 D.wd) (.slice none 0 0) (.slice none 0 0) vs) :=
  ⟨h.step (put7_below h.Bl (by omega)) (fun k _ hk => put7_far k (by omega)), h1, put7_at hg, Kd.R_step hs (fun k hk _ => put7_far k hk.1)⟩
theorem OSt.start {s t : List Int} {vs vt : Value} (h : O1 w D g1 vs s W) (h2 : W.heap.size ≤ g2) (hb : Below W.heap.size W W1) (hg : W1.heap[g2]? = some (.cells #[.slice none 0 0, .bool false, .bool false, .int .i64 0, .slice none 0 0, .slice none 0 0, .slice none 0 0] 25 (0, 0))) (ht : Kd.R (Kd.int .i64) 3 W1 w.heap.size (fun k => k ≠ g2 ∧ W.heap.size ≤ k) vt t) :
    ∃ f, OSt w D g1 g2 f ⟨.slice none 0 0, .slice none 0 0, vs, .slice none 0 0, .slice none 0 0, vt, [], [], s, [], [], t⟩ (put7 W1 g2 (.slice D.A0 D.l0.length D.c0) (.bool D.bk) (.bool D.al) (.int .i64 D.wd) (.slice none 0 0) (.slice none 0 0) vt) := by
  have l1 := blk_lt h.q
  have l2 := h.h1
  have hl := blk_lt h.P.z2
  refine ⟨fun k => if k ≤ w.heap.size + 2 ∨ k = g1 ∨ k = g2 then 9 else if k < W.heap.size then 2 else 5, ⟨⟨put7_below (below_step h.P.Bl hb) (by omega), h.P.o, Kd.S_nil _ _ _ _ _, Kd.S_nil _ _ _ _ _, ?_, Kd.S_nil _ _ _ _ _, Kd.S_nil _ _ _ _ _, ?_⟩, ?_, ?_, ?_, ?_, ?_, h.h1, by omega, ?_, ?_, ?_, ?_, ?_⟩⟩
  · refine Kd.R_step (Kd.R_below (Kd.R_mono (Kd.R_bound h.s) (ok' := fun k => (if k ≤ w.heap.size + 2 ∨ k = g1 ∨ k = g2 then 9 else if k < W.heap.size then 2 else 5) = 2) (fun k hk => ?_)) hb) (fun k hk _ => put7_far k ?_)
    · have h3 := hk.2.2.1
      have h4 := hk.1
      rw [if_neg (by omega), if_pos h3]
    · intro e
      rw [e, if_pos (by omega)] at hk
      omega
  · refine Kd.R_step (Kd.R_mono (Kd.R_bound ht) (ok' := fun k => (if k ≤ w.heap.size + 2 ∨ k = g1 ∨ k = g2 then 9 else if k < W.heap.size then 2 else 5) = 5) (fun k hk => ?_)) (fun k hk _ => put7_far k ?_)
    · have h4 := hk.1
      rw [if_neg (by omega), if_neg (by omega)]
    · intro e
      rw [e, if_pos (by omega)] at hk
      omega
  · exact (put7_far _ (by omega)).trans (blk_below h.P.p hb)
  · exact (put7_far _ (by omega)).trans (blk_below h.P.z1 hb)
  · exact (put7_far _ (by omega)).trans (blk_below h.P.z2 hb)
  · exact (put7_far _ (by omega)).trans (blk_below h.q hb)
  · exact put7_at hg
  · exact if_pos (by omega)
  · exact if_pos (by omega)
  · exact if_pos (by omega)
  · exact if_pos (by omega)
  · exact if_pos (by omega)
end
end Go.Proofs.YtanpghbakbebiaaDoor.P

/- A part of it. -/
import Derived.Test.YtanpghbakbebiaaDoorFmOfB
import Derived.Test.YtanpghbakbebiaaDoorFmFlowS2
import Derived.Outline
import Derived.Test.YtanpghbakbebiaaDoorFmM40
import Derived.Test.YtanpghbakbebiaaDoorFmP12
import Derived.Test.YtanpghbakbebiaaDoorFmP0
import Derived.Test.YtanpghbakbebiaaDoorFmM47
import Derived.Test.YtanpghbakbebiaaDoorFmP1
import Derived.Test.YtanpghbakbebiaaDoorFmP4
import Derived.Test.YtanpghbakbebiaaDoorFmP7
import Derived.Test.YtanpghbakbebiaaDoorFmP8
import Derived.Test.YtanpghbakbebiaaDoorFmM44
import Derived.Test.YtanpghbakbebiaaDoorFmP15
set_option linter.unusedVariables false
set_option linter.unusedSimpArgs false
namespace Go.Proofs.YtanpghbakbebiaaDoor.P
open Go Go.RowKit Go.Proofs.YtanpghbakbebiaaDoorW.PrintWords Go.Proofs.YtanpghbakbebiaaDoorW.PrintLast Go.Proofs.YtanpghbakbebiaaDoorW.PrintMore
section
variable {w wb W W1 : World} {g : Nat} {o o' : Obj} {L : List (Nat × Obj)}
structure LW (w wb : World) (L : List (Nat × Obj)) (W : World) : Prop where
 B : Below w.heap.size w W
 Bb : Below wb.heap.size wb W
 bx : ∀ p ∈ L, W.heap[p.1]? = some p.2
theorem LW.start (w : World) : LW w w [] w := ⟨Below.refl _ _, Below.refl _ _, fun p hp => by cases hp⟩
theorem LW.below (h : LW w wb L W) (hb : Below W.heap.size W W1) : LW w wb L W1 := ⟨below_step h.B hb, below_step h.Bb hb, fun p hp => blk_below (h.bx p hp) hb⟩
theorem LW.now (h : LW w wb L W) : LW w W L W := ⟨h.B, Below.refl _ _, h.bx⟩
theorem LW.add (h : LW w wb L W) (hb : Below W.heap.size W W1) (hx : W1.heap[g]? = some o) : LW w wb ((g, o) :: L) W1 :=
 ⟨below_step h.B hb, below_step h.Bb hb, fun p hp => by
  rcases List.mem_cons.1 hp with rfl | hp
  ·exact hx
  ·exact blk_below (h.bx p hp) hb⟩
theorem LW.b0 {p0 : Nat × Obj} (h : LW w wb (p0 :: L) W) : W.heap[p0.1]? = some p0.2 := h.bx _ (List.mem_cons_self ..)
theorem LW.b1 {p0 p1 : Nat × Obj} (h : LW w wb (p0 :: p1 :: L) W) : W.heap[p1.1]? = some p1.2 := h.bx _ (List.mem_cons_of_mem _ (List.mem_cons_self ..))
theorem LW.b2 {p0 p1 p2 : Nat × Obj} (h : LW w wb (p0 :: p1 :: p2 :: L) W) : W.heap[p2.1]? = some p2.2 := h.bx _ (List.mem_cons_of_mem _ (List.mem_cons_of_mem _ (List.mem_cons_self ..)))
theorem LW.b3 {p0 p1 p2 p3 : Nat × Obj} (h : LW w wb (p0 :: p1 :: p2 :: p3 :: L) W) : W.heap[p3.1]? = some p3.2 := h.bx _ (List.mem_cons_of_mem _ (List.mem_cons_of_mem _ (List.mem_cons_of_mem _ (List.mem_cons_self ..))))
theorem LW.put0 (h : LW w wb ((g, o) :: L) W) (hB : Below w.heap.size w W1) (hBb : Below wb.heap.size wb W1) (hf : ∀ k, k ≠ g → W1.heap[k]? = W.heap[k]?) (hx : W1.heap[g]? = some o') (hn : ∀ p ∈ L, p.1 ≠ g) : LW w wb ((g, o') :: L) W1 :=
 ⟨hB, hBb, fun p hp => by
  rcases List.mem_cons.1 hp with rfl | hp
  ·exact hx
  ·exact (hf _ (hn p hp)).trans (h.bx p (List.mem_cons_of_mem _ hp))⟩
theorem LW.put1 {p0 : Nat × Obj} (h : LW w wb (p0 :: (g, o) :: L) W) (hB : Below w.heap.size w W1) (hBb : Below wb.heap.size wb W1) (hf : ∀ k, k ≠ g → W1.heap[k]? = W.heap[k]?) (hx : W1.heap[g]? = some o') (hn : ∀ p ∈ p0 :: L, p.1 ≠ g) : LW w wb (p0 :: (g, o') :: L) W1 :=
 ⟨hB, hBb, fun p hp => by
  rcases List.mem_cons.1 hp with rfl | hp
  ·exact (hf _ (hn _ (List.mem_cons_self ..))).trans h.b0
  ·rcases List.mem_cons.1 hp with rfl | hp
   ·exact hx
   ·exact (hf _ (hn p (List.mem_cons_of_mem _ hp))).trans (h.bx p (List.mem_cons_of_mem _ (List.mem_cons_of_mem _ hp)))⟩
theorem LW.lt (h : LW w wb L W) : ∀ p ∈ L, p.1 < W.heap.size := fun p hp => blk_lt (h.bx p hp)
theorem LW.ne (h : LW w wb L W) (hg : W.heap.size ≤ g) : ∀ p ∈ L, p.1 ≠ g := fun p hp e => by have := h.lt p hp; omega
theorem LW.two {p0 p1 : Nat × Obj} (h : LW w wb (p0 :: p1 :: L) W) : LW w wb [p0, p1] W := ⟨h.B, h.Bb, fun p hp => by
  rcases List.mem_cons.1 hp with rfl | hp
  ·exact h.b0
  ·rw [List.mem_singleton.1 hp]; exact h.b1⟩
theorem lw_meas (n j : Nat) (x : Int) (hx : x = ((j + 1 : Nat) : Int)) (h : j < n) : n - (intOf (.int .i64 x)).toNat < n - (intOf (.int .i64 (j : Int))).toNat := by
 subst hx
 simp only [intOf, Int.toNat_natCast]
 omega
theorem LW.set (h : LW w wb L W) (h1 : w.heap.size ≤ g) (h2 : wb.heap.size ≤ g) (hn : ∀ p ∈ L, p.1 < g) (i : Nat) (u : Value) : LW w wb L (W.setCell ⟨g, i, none⟩ u) :=
 ⟨h.B.setCell (by exact h1) _, h.Bb.setCell (by exact h2) _, fun p hp => (Below.heap_setCell W ⟨g, i, none⟩ u p.1 (Nat.ne_of_lt (hn p hp))).trans (h.bx p hp)⟩
theorem LW.put2 {p0 p1 : Nat × Obj} (h : LW w wb (p0 :: p1 :: (g, o) :: L) W) (hB : Below w.heap.size w W1) (hBb : Below wb.heap.size wb W1) (hf : ∀ k, k ≠ g → W1.heap[k]? = W.heap[k]?) (hx : W1.heap[g]? = some o') (hn : ∀ p ∈ p0 :: p1 :: L, p.1 ≠ g) : LW w wb (p0 :: p1 :: (g, o') :: L) W1 :=
 ⟨hB, hBb, fun p hp => by
  rcases List.mem_cons.1 hp with rfl | hp
  ·exact (hf _ (hn _ (List.mem_cons_self ..))).trans h.b0
  ·rcases List.mem_cons.1 hp with rfl | hp
   ·exact (hf _ (hn _ (List.mem_cons_of_mem _ (List.mem_cons_self ..)))).trans h.b1
   ·rcases List.mem_cons.1 hp with rfl | hp
    ·exact hx
    ·exact (hf _ (hn p (List.mem_cons_of_mem _ (List.mem_cons_of_mem _ hp)))).trans (h.bx p (List.mem_cons_of_mem _ (List.mem_cons_of_mem _ (List.mem_cons_of_mem _ hp))))⟩
theorem LW.b4 {p0 p1 p2 p3 p4 : Nat × Obj} (h : LW w wb (p0 :: p1 :: p2 :: p3 :: p4 :: L) W) : W.heap[p4.1]? = some p4.2 := h.bx _ (List.mem_cons_of_mem _ (List.mem_cons_of_mem _ (List.mem_cons_of_mem _ (List.mem_cons_of_mem _ (List.mem_cons_self ..)))))
end
end Go.Proofs.YtanpghbakbebiaaDoor.P
set_option linter.unusedVariables false
set_option linter.unusedSimpArgs false
namespace Go.Proofs.YtanpghbakbebiaaDoor.P
open Go Go.RowKit Go.Proofs.YtanpghbakbebiaaDoorW.PrintWords Go.Proofs.YtanpghbakbebiaaDoorW.PrintLast Go.Proofs.YtanpghbakbebiaaDoorW.PrintMore
end Go.Proofs.YtanpghbakbebiaaDoor.P
namespace Go.Proofs.YtanpghbakbebiaaDoor.P
open Go.RowKit Go.Proofs.YtanpghbakbebiaaDoorW.PrintWords Go.Proofs.YtanpghbakbebiaaDoorW.PrintLast Go.Proofs.YtanpghbakbebiaaDoorW.PrintMore
attribute [local go_sem] max2_int min2_int max_two min_two max_three min_three max_four min_four   
set_option linter.unusedVariables false
set_option linter.unusedSimpArgs false
end Go.Proofs.YtanpghbakbebiaaDoor.P
set_option linter.unusedVariables false
set_option linter.unusedSimpArgs false
namespace Go.Proofs.YtanpghbakbebiaaDoor.P
open Go Go.RowKit Go.Proofs.YtanpghbakbebiaaDoorW.PrintWords Go.Proofs.YtanpghbakbebiaaDoorW.PrintLast Go.Proofs.YtanpghbakbebiaaDoorW.PrintMore
theorem sz_of {E G K : List (List Int)} {S : List Int} {p : Int → Prop} (h1 : (∀ r ∈ E, (∀ y ∈ r, p y) ∧ r.length * 8 ≤ 140737488351232) ∧ E.length * 24 ≤ 140737488351232) (h2 : (∀ r ∈ G, (∀ y ∈ r, p y) ∧ r.length * 8 ≤ 140737488351232) ∧ G.length * 24 ≤ 140737488351232) (h3 : (∀ r ∈ K, (∀ y ∈ r, p y) ∧ r.length * 8 ≤ 140737488351232) ∧ K.length * 24 ≤ 140737488351232) (h4 : (∀ y ∈ S, p y) ∧ S.length * 8 ≤ 140737488351232) : Pure.Sz E G K S :=
 ⟨by omega, by omega, by omega, by omega, fun r hr => by have := (h1.1 r hr).2; omega, fun r hr => by have := (h2.1 r hr).2; omega, fun r hr => by have := (h3.1 r hr).2; omega⟩
end Go.Proofs.YtanpghbakbebiaaDoor.P

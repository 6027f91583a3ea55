/- A part of it. -/
import Derived.Test.YtanpghbakbebiaaDoorFsM37
import Derived.Outline
set_option linter.unusedVariables false
set_option linter.unusedSimpArgs false
namespace Go.Proofs.YtanpghbakbebiaaDoor.P
open Go Go.RowKit Go.Proofs.YtanpghbakbebiaaDoorW.PrintWords Go.Proofs.YtanpghbakbebiaaDoorW.PrintLast Go.Proofs.YtanpghbakbebiaaDoorW.PrintMore
structure RD where
  A0 : Option Addr
  c0 : Nat
  l0 : List (List Int)
  bk : Bool
  al : Bool
  wd : Int
  A4 : Option Addr
  c4 : Nat
  l4 : List (List Int)
  A5 : Option Addr
  c5 : Nat
  l5 : List (List Int)
  A6 : Option Addr
  c6 : Nat
  l6 : List Int
structure RD.Ok (D : RD) (w : World) : Prop where
  r0 : Kd.C (Kd.slice 3 (Kd.int .i64)) w D.A0 D.l0.length D.l0
  c0 : D.l0.length ≤ D.c0
  r4 : Kd.C (Kd.slice 3 (Kd.int .i64)) w D.A4 D.l4.length D.l4
  c4 : D.l4.length ≤ D.c4
  r5 : Kd.C (Kd.slice 3 (Kd.int .i64)) w D.A5 D.l5.length D.l5
  c5 : D.l5.length ≤ D.c5
  r6 : Kd.C (Kd.int .i64) w D.A6 D.l6.length D.l6
  c6 : D.l6.length ≤ D.c6
theorem RD.Ok.below {D : RD} {w W : World} (h : D.Ok w) (hb : Below w.heap.size w W) : D.Ok W :=
  ⟨Kd.C_below h.r0 hb, h.c0, Kd.C_below h.r4 hb, h.c4, Kd.C_below h.r5 hb, h.c5, Kd.C_below h.r6 hb, h.c6⟩
abbrev Row (w : World) (base : Nat) (ok : Nat → Prop) (v : Value) (xs : List Bool) : Prop := Kd.R Kd.bool 4 w base ok v xs
structure RSt (w : World) (D : RD) (f : Nat → Nat) (va vb vc vd : Value) (A B : List (List Bool)) (r s : List Bool) (W : World) : Prop where
  Bl : Below w.heap.size w W
  o : D.Ok w
  p : W.heap[w.heap.size]? = some (.cells #[.slice D.A0 D.l0.length D.c0, .bool D.bk, .bool D.al, .int .i64 D.wd, .slice D.A4 D.l4.length D.c4, .slice D.A5 D.l5.length D.c5, .slice D.A6 D.l6.length D.c6] 25 (0, 0))
  f9 : f w.heap.size = 9
  a : Tab W w.heap.size (fun k => f k = 0) va A
  b : Tab W w.heap.size (fun k => f k = 1) vb B
  c : Row W w.heap.size (fun k => f k = 2) vc r
  d : Row W w.heap.size (fun k => f k = 3) vd s
section
variable {w W W1 : World} {D : RD} {f f' : Nat → Nat} {va vb vc vd : Value} {A B : List (List Bool)} {r s : List Bool}
theorem RSt.below (h : RSt w D f va vb vc vd A B r s W) (hb : Below W.heap.size W W1) : RSt w D f va vb vc vd A B r s W1 :=
  { h with Bl := below_step h.Bl hb, p := blk_below h.p hb, a := Kd.S_below h.a hb, b := Kd.S_below h.b hb, c := Kd.R_below h.c hb, d := Kd.R_below h.d hb }
theorem tab_relab {n m : Nat} {v : Value} {X : List (List Bool)} {base : Nat} (h : Tab W base (fun k => f k = n) v X) (hf : ∀ k, k < W.heap.size → f k = n → f' k = m) : Tab W base (fun k => f' k = m) v X :=
  Kd.S_mono (Kd.S_bound h) (fun k hk => hf k hk.2.2.1 hk.1)
theorem row_relab {n m : Nat} {v : Value} {X : List Bool} {base : Nat} (h : Row W base (fun k => f k = n) v X) (hf : ∀ k, k < W.heap.size → f k = n → f' k = m) : Row W base (fun k => f' k = m) v X :=
  Kd.R_mono (Kd.R_bound h) (fun k hk => hf k (by first | exact hk.2.2.1 | exact hk.2.2 | exact hk.2) hk.1)
theorem RSt.relab (h : RSt w D f va vb vc vd A B r s W) (hf : ∀ k, k < W.heap.size → f' k = f k) : RSt w D f' va vb vc vd A B r s W :=
  { h with
    f9 := (hf _ (blk_lt h.p)).trans h.f9
    a := tab_relab h.a (fun k hk e => (hf k hk).trans e)
    b := tab_relab h.b (fun k hk e => (hf k hk).trans e)
    c := row_relab h.c (fun k hk e => (hf k hk).trans e)
    d := row_relab h.d (fun k hk e => (hf k hk).trans e) }
def newLab (f : Nat → Nat) (n m : Nat) (k : Nat) : Nat := if n ≤ k then m else f k
theorem newLab_old {n m k : Nat} (h : k < n) : newLab f n m k = f k := if_neg (by omega)
theorem newLab_new {n m k : Nat} (h : n ≤ k) : newLab f n m k = m := if_pos h
theorem RSt.newC (h : RSt w D f va vb vc vd A B r s W) (hb : Below W.heap.size W W1) {v1 : Value} {x : List Bool} (hr : Row W1 W.heap.size (fun _ => True) v1 x) : RSt w D (newLab f W.heap.size 2) va vb v1 vd A B x s W1 :=
  { (h.relab (f' := newLab f W.heap.size 2) (fun k hk => newLab_old hk)).below hb with c := Kd.R_lower (Kd.R_mono (Kd.R_bound hr) (fun k hk => newLab_new hk.2.1)) h.Bl.size }
theorem RSt.newD (h : RSt w D f va vb vc vd A B r s W) (hb : Below W.heap.size W W1) {v1 : Value} {x : List Bool} (hr : Row W1 W.heap.size (fun _ => True) v1 x) : RSt w D (newLab f W.heap.size 3) va vb vc v1 A B r x W1 :=
  { (h.relab (f' := newLab f W.heap.size 3) (fun k hk => newLab_old hk)).below hb with d := Kd.R_lower (Kd.R_mono (Kd.R_bound hr) (fun k hk => newLab_new hk.2.1)) h.Bl.size }
theorem RSt.grownC (h : RSt w D f va vb vc vd A B r s W) (hb : Below w.heap.size w W1) (hg : W.grownBy W1 vc.ownBlock) {v1 : Value} {x : List Bool} (hr : Row W1 w.heap.size (fun k => newLab f W.heap.size 2 k = 2) v1 x) : RSt w D (newLab f W.heap.size 2) va vb v1 vd A B x s W1 := by
  have h2 := h.relab (f' := newLab f W.heap.size 2) (fun k hk => newLab_old hk)
  have n : ∀ k m, newLab f W.heap.size 2 k = m → m ≠ 2 → some k ≠ vc.ownBlock := fun k m e hm q => hm (e.symm.trans (h2.c.1 k q.symm))
  exact { h2 with
    Bl := hb
    p := blk_grown h2.p hg (n _ 9 h2.f9 (by omega))
    a := Kd.S_grown h2.a hg (fun k e => n k 0 e (by omega))
    b := Kd.S_grown h2.b hg (fun k e => n k 1 e (by omega))
    c := hr
    d := Kd.R_grown h2.d hg (fun k e => n k 3 e (by omega)) }
theorem RSt.grownD (h : RSt w D f va vb vc vd A B r s W) (hb : Below w.heap.size w W1) (hg : W.grownBy W1 vd.ownBlock) {v1 : Value} {x : List Bool} (hr : Row W1 w.heap.size (fun k => newLab f W.heap.size 3 k = 3) v1 x) : RSt w D (newLab f W.heap.size 3) va vb vc v1 A B r x W1 := by
  have h2 := h.relab (f' := newLab f W.heap.size 3) (fun k hk => newLab_old hk)
  have n : ∀ k m, newLab f W.heap.size 3 k = m → m ≠ 3 → some k ≠ vd.ownBlock := fun k m e hm q => hm (e.symm.trans (h2.d.1 k q.symm))
  exact { h2 with
    Bl := hb
    p := blk_grown h2.p hg (n _ 9 h2.f9 (by omega))
    a := Kd.S_grown h2.a hg (fun k e => n k 0 e (by omega))
    b := Kd.S_grown h2.b hg (fun k e => n k 1 e (by omega))
    c := Kd.R_grown h2.c hg (fun k e => n k 2 e (by omega))
    d := hr }
theorem RSt.putA (h : RSt w D f va vb vc vd A B r s W) {g j : Nat} {u : Value} (hg : f g = 0) (hw : w.heap.size ≤ g) {X : List (List Bool)} (ha : Tab (W.setCell ⟨g, j, none⟩ u) w.heap.size (fun k => f k = 0) va X) : RSt w D f va vb vc vd X B r s (W.setCell ⟨g, j, none⟩ u) := by
  have n : ∀ k m, f k = m → m ≠ 0 → k ≠ g := fun k m e hm q => hm (by rw [← e, q, hg])
  exact { h with
    Bl := h.Bl.setCell (show w.heap.size ≤ g from hw) _
    p := blk_far h.p (n _ 9 h.f9 (by omega)) _
    a := ha
    b := Kd.S_far h.b (p := ⟨g, j, none⟩) (fun k e => n k 1 e (by omega)) _
    c := Kd.R_far h.c (p := ⟨g, j, none⟩) (fun k e => n k 2 e (by omega)) _
    d := Kd.R_far h.d (p := ⟨g, j, none⟩) (fun k e => n k 3 e (by omega)) _ }
theorem RSt.putB (h : RSt w D f va vb vc vd A B r s W) {g j : Nat} {u : Value} (hg : f g = 1) (hw : w.heap.size ≤ g) {X : List (List Bool)} (ha : Tab (W.setCell ⟨g, j, none⟩ u) w.heap.size (fun k => f k = 1) vb X) : RSt w D f va vb vc vd A X r s (W.setCell ⟨g, j, none⟩ u) := by
  have n : ∀ k m, f k = m → m ≠ 1 → k ≠ g := fun k m e hm q => hm (by rw [← e, q, hg])
  exact { h with
    Bl := h.Bl.setCell (show w.heap.size ≤ g from hw) _
    p := blk_far h.p (n _ 9 h.f9 (by omega)) _
    a := Kd.S_far h.a (p := ⟨g, j, none⟩) (fun k e => n k 0 e (by omega)) _
    b := ha
    c := Kd.R_far h.c (p := ⟨g, j, none⟩) (fun k e => n k 2 e (by omega)) _
    d := Kd.R_far h.d (p := ⟨g, j, none⟩) (fun k e => n k 3 e (by omega)) _ }
theorem RSt.start {W2 : World} (hD : D.Ok w) (hb1 : Below (w.alloc (.cells #[.slice D.A0 D.l0.length D.c0, .bool D.bk, .bool D.al, .int .i64 D.wd, .slice D.A4 D.l4.length D.c4, .slice D.A5 D.l5.length D.c5, .slice D.A6 D.l6.length D.c6] 25)).heap.size (w.alloc (.cells #[.slice D.A0 D.l0.length D.c0, .bool D.bk, .bool D.al, .int .i64 D.wd, .slice D.A4 D.l4.length D.c4, .slice D.A5 D.l5.length D.c5, .slice D.A6 D.l6.length D.c6] 25)) W1)
    (ha : Tab W1 (w.alloc (.cells #[.slice D.A0 D.l0.length D.c0, .bool D.bk, .bool D.al, .int .i64 D.wd, .slice D.A4 D.l4.length D.c4, .slice D.A5 D.l5.length D.c5, .slice D.A6 D.l6.length D.c6] 25)).heap.size (fun _ => True) va []) (hb2 : Below W1.heap.size W1 W2) (hb : Tab W2 W1.heap.size (fun _ => True) vb []) :
    ∃ f, RSt w D f va vb (.slice none 0 0) (.slice none 0 0) [] [] [] [] W2 := by
  have e0 : (w.alloc (.cells #[.slice D.A0 D.l0.length D.c0, .bool D.bk, .bool D.al, .int .i64 D.wd, .slice D.A4 D.l4.length D.c4, .slice D.A5 D.l5.length D.c5, .slice D.A6 D.l6.length D.c6] 25)).heap.size = w.heap.size + 1 := by simp
  have B0 := below_alloc (Below.refl w.heap.size w) (.cells #[.slice D.A0 D.l0.length D.c0, .bool D.bk, .bool D.al, .int .i64 D.wd, .slice D.A4 D.l4.length D.c4, .slice D.A5 D.l5.length D.c5, .slice D.A6 D.l6.length D.c6] 25)
  have B1 := below_step B0 hb1
  have l1 : w.heap.size + 1 ≤ W1.heap.size := by have := hb1.size; omega
  refine ⟨fun k => if k = w.heap.size then 9 else if k < W1.heap.size then 0 else 1, ⟨below_step B1 hb2, hD, blk_below (blk_below (blk_new w _) hb1) hb2, if_pos rfl, ?_, ?_, Kd.R_nil _ _ _ _ _, Kd.R_nil _ _ _ _ _⟩⟩
  · refine Kd.S_below (Kd.S_lower (Kd.S_mono (Kd.S_bound ha) (fun k hk => ?_)) (by omega)) hb2
    have h1 := hk.2.1
    have h2 := hk.2.2.1
    rw [if_neg (by omega), if_pos h2]
  · refine Kd.S_lower (Kd.S_mono (Kd.S_bound hb) (fun k hk => ?_)) (by omega)
    have h1 := hk.2.1
    rw [if_neg (by omega), if_neg (by omega)]
def joinLab (f : Nat → Nat) (N n m : Nat) (k : Nat) : Nat := if N ≤ k ∨ f k = n then m else f k
theorem joinLab_old {N n m k : Nat} (h : k < N) (hn : f k ≠ n) : joinLab f N n m k = f k := if_neg (by rintro (q | q); omega; exact hn q)
theorem joinLab_new {N n m k : Nat} (h : N ≤ k) : joinLab f N n m k = m := if_pos (.inl h)
theorem joinLab_of {N n m k : Nat} (h : f k = n) : joinLab f N n m k = m := if_pos (.inr h)
theorem RSt.jA (h : RSt w D f va vb vc vd A B r s W) : Tab W w.heap.size (fun k => joinLab f W.heap.size 2 0 k = 0 ∧ ¬ f k = 2) va A ∧ (∀ k, f k = 2 → joinLab f W.heap.size 2 0 k = 0 ∧ some k ≠ va.ownBlock) :=
  ⟨Kd.S_mono (Kd.S_bound h.a) (fun k hk => ⟨(joinLab_old hk.2.2.1 (by rw [hk.1]; omega)).trans hk.1, by rw [hk.1]; omega⟩), fun k hk => ⟨joinLab_of hk, fun q => by have := (Kd.S_R h.a).1 k q.symm; omega⟩⟩
theorem RSt.jB (h : RSt w D f va vb vc vd A B r s W) : Tab W w.heap.size (fun k => joinLab f W.heap.size 3 1 k = 1 ∧ ¬ f k = 3) vb B ∧ (∀ k, f k = 3 → joinLab f W.heap.size 3 1 k = 1 ∧ some k ≠ vb.ownBlock) :=
  ⟨Kd.S_mono (Kd.S_bound h.b) (fun k hk => ⟨(joinLab_old hk.2.2.1 (by rw [hk.1]; omega)).trans hk.1, by rw [hk.1]; omega⟩), fun k hk => ⟨joinLab_of hk, fun q => by have := (Kd.S_R h.b).1 k q.symm; omega⟩⟩
theorem RSt.appA (h : RSt w D f va vb vc vd A B r s W) (hb : Below w.heap.size w W1) (hg : W.grownBy W1 va.ownBlock) {v1 : Value} {X : List (List Bool)} (ha : Tab W1 w.heap.size (fun k => joinLab f W.heap.size 2 0 k = 0) v1 X) : RSt w D (joinLab f W.heap.size 2 0) v1 vb (.slice none 0 0) vd X B [] s W1 := by
  have ho : ∀ k, some k = va.ownBlock → f k = 0 := fun k q => (Kd.S_R h.a).1 k q.symm
  have n : ∀ k m, f k = m → m ≠ 0 → some k ≠ va.ownBlock := fun k m e hm q => hm (e.symm.trans (ho k q))
  have lab : ∀ k m, k < W.heap.size → f k = m → m ≠ 2 → joinLab f W.heap.size 2 0 k = m := fun k m hk e hm => (joinLab_old hk (by rw [e]; exact hm)).trans e
  have b1 := Kd.S_grown h.b hg (fun k e => n k 1 e (by omega))
  have d1 := Kd.R_grown h.d hg (fun k e => n k 3 e (by omega))
  exact {
    Bl := hb
    o := h.o
    p := blk_grown h.p hg (n _ 9 h.f9 (by omega))
    f9 := lab _ 9 (blk_lt h.p) h.f9 (by omega)
    a := ha
    b := Kd.S_grown (tab_relab h.b (fun k hk e => lab k 1 hk e (by omega))) hg (fun k e q => by have q2 := ho k q; have q3 := joinLab_old (f := f) (N := W.heap.size) (n := 2) (m := 0) (k := k) (Kd.S_lt h.a k q.symm) (by omega); omega)
    c := Kd.R_nil _ _ _ _ _
    d := Kd.R_grown (row_relab h.d (fun k hk e => lab k 3 hk e (by omega))) hg (fun k e q => by have q2 := ho k q; have q3 := joinLab_old (f := f) (N := W.heap.size) (n := 2) (m := 0) (k := k) (Kd.S_lt h.a k q.symm) (by omega); omega) }
theorem RSt.appB (h : RSt w D f va vb vc vd A B r s W) (hb : Below w.heap.size w W1) (hg : W.grownBy W1 vb.ownBlock) {v1 : Value} {X : List (List Bool)} (ha : Tab W1 w.heap.size (fun k => joinLab f W.heap.size 3 1 k = 1) v1 X) : RSt w D (joinLab f W.heap.size 3 1) va v1 vc (.slice none 0 0) A X r [] W1 := by
  have ho : ∀ k, some k = vb.ownBlock → f k = 1 := fun k q => (Kd.S_R h.b).1 k q.symm
  have n : ∀ k m, f k = m → m ≠ 1 → some k ≠ vb.ownBlock := fun k m e hm q => hm (e.symm.trans (ho k q))
  have lab : ∀ k m, k < W.heap.size → f k = m → m ≠ 3 → joinLab f W.heap.size 3 1 k = m := fun k m hk e hm => (joinLab_old hk (by rw [e]; exact hm)).trans e
  exact {
    Bl := hb
    o := h.o
    p := blk_grown h.p hg (n _ 9 h.f9 (by omega))
    f9 := lab _ 9 (blk_lt h.p) h.f9 (by omega)
    a := Kd.S_grown (tab_relab h.a (fun k hk e => lab k 0 hk e (by omega))) hg (fun k e q => by have q2 := ho k q; have q3 := joinLab_old (f := f) (N := W.heap.size) (n := 3) (m := 1) (k := k) (Kd.S_lt h.b k q.symm) (by omega); omega)
    b := ha
    c := Kd.R_grown (row_relab h.c (fun k hk e => lab k 2 hk e (by omega))) hg (fun k e q => by have q2 := ho k q; have q3 := joinLab_old (f := f) (N := W.heap.size) (n := 3) (m := 1) (k := k) (Kd.S_lt h.b k q.symm) (by omega); omega)
    d := Kd.R_nil _ _ _ _ _ }
end
end Go.Proofs.YtanpghbakbebiaaDoor.P

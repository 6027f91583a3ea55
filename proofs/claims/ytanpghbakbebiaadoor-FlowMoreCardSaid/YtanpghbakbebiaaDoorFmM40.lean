/- A part of it. -/
import Derived.Test.YtanpghbakbebiaaDoorFmP0
import Derived.Test.YtanpghbakbebiaaDoorFmP12
import Derived.Test.YtanpghbakbebiaaDoorFmM29
import Derived.Outline
set_option linter.unusedVariables false
namespace Go.Proofs.YtanpghbakbebiaaDoor.Pure
structure Pr where
 n : Nat
 wd : Nat
 all : Bool
 ah : Nat → List Nat
 beg : Nat → Bool
 st : Nat → Bool
 gen : Nat → Nat → Bool
 kil : Nat → Nat → Bool
abbrev Fa := Nat → Nat → Bool
def Pr.frm (P : Pr) (ti : Fa) (k i : Nat) : Bool := if P.all = true then (P.ah k).all (fun a => ti a i) && (!P.beg k || P.st i) else (P.ah k).any (fun a => ti a i) || (P.beg k && P.st i)
def Pr.tto (P : Pr) (ti : Fa) (k i : Nat) : Bool := P.gen k i || (P.frm ti k i && !P.kil k i)
def Pr.Ok (P : Pr) : Prop := ∀ k a, a ∈ P.ah k → a < P.n
def Pr.le (P : Pr) (a b : Fa) : Prop := ∀ k i, k < P.n → i < P.wd → a k i ≠ P.all → b k i ≠ P.all
def Pr.Sol (P : Pr) (ti : Fa) : Prop := ∀ k i, k < P.n → i < P.wd → ti k i = P.tto ti k i
def Pr.Pre (P : Pr) (ti : Fa) : Prop := P.le (P.tto ti) ti
def Pr.Lst (P : Pr) (ti : Fa) : Prop := P.Sol ti ∧ ∀ s, P.Pre s → P.le ti s
def Pr.Inv (P : Pr) (ti : Fa) : Prop := (∀ s, P.Pre s → P.le ti s) ∧ P.le ti (P.tto ti)
theorem Pr.le_refl (P : Pr) (a : Fa) : P.le a a := fun _ _ _ _ h => h
theorem Pr.le_trans {P : Pr} {a b c : Fa} (h1 : P.le a b) (h2 : P.le b c) : P.le a c := fun k i hk hi h => h2 k i hk hi (h1 k i hk hi h)
theorem Pr.Sol.pre {P : Pr} {s : Fa} (h : P.Sol s) : P.Pre s := fun k i hk hi q => by rw [h k i hk hi]; exact q
theorem Pr.frm_mono {P : Pr} (hP : P.Ok) {a b : Fa} (h : P.le a b) (k i : Nat) (hi : i < P.wd) (q : P.frm a k i ≠ P.all) : P.frm b k i ≠ P.all := by
 unfold Pr.frm at q ⊢
 unfold Pr.le at h
 have hm := hP k
 cases e : P.all
 ·simp only [e, Bool.false_eq_true, if_false] at q h ⊢
  simp only [ne_eq, Bool.not_eq_false, Bool.or_eq_true, List.any_eq_true, Bool.and_eq_true] at q ⊢
  rcases q with ⟨x, hx, q⟩ | q
  ·have := h x i (hm x hx) hi (by rw [q]; simp)
   exact .inl ⟨x, hx, by simpa using this⟩
  ·exact .inr q
 ·simp only [e, if_true] at q h ⊢
  simp only [ne_eq, Bool.and_eq_true, List.all_eq_true, not_and] at q ⊢
  intro h2
  refine q (fun x hx => ?_)
  have h3 := h2 x hx
  refine Classical.byContradiction (fun h4 => ?_)
  exact h x i (hm x hx) hi h4 h3
theorem Pr.tto_mono {P : Pr} (hP : P.Ok) {a b : Fa} (h : P.le a b) : P.le (P.tto a) (P.tto b) := by
 intro k i hk hi q
 have h2 := Pr.frm_mono hP h k i hi
 unfold Pr.tto at q ⊢
 cases e : P.all <;> rw [e] at q h2 <;> cases e1 : P.gen k i <;> cases e2 : P.kil k i <;> cases e3 : P.frm a k i <;> cases e4 : P.frm b k i <;> simp_all
theorem Pr.inv_start (P : Pr) {a : Fa} (h : ∀ k i, k < P.n → i < P.wd → a k i = P.all) : P.Inv a := ⟨fun _ _ k i hk hi q => absurd (h k i hk hi) q, fun k i hk hi q => absurd (h k i hk hi) q⟩
theorem Pr.inv_step {P : Pr} (hP : P.Ok) {a b : Fa} (h : P.Inv a) (hb : ∀ k i, k < P.n → i < P.wd → b k i = a k i ∨ b k i = P.tto a k i) : P.Inv b ∧ P.le a b := by
 have hab : P.le a b := by
  intro k i hk hi q
  rcases hb k i hk hi with e | e
  ·rw [e]; exact q
  ·rw [e]; exact h.2 k i hk hi q
 refine ⟨⟨fun s hs k i hk hi q => ?_, fun k i hk hi q => ?_⟩, hab⟩
 ·rcases hb k i hk hi with e | e
  ·rw [e] at q; exact h.1 s hs k i hk hi q
  ·rw [e] at q; exact hs k i hk hi (Pr.tto_mono hP (h.1 s hs) k i hk hi q)
 ·refine Pr.tto_mono hP hab k i hk hi ?_
  rcases hb k i hk hi with e | e
  ·rw [e] at q; exact h.2 k i hk hi q
  ·rw [e] at q; exact q
theorem Pr.inv_lst {P : Pr} {a : Fa} (h : P.Inv a) (hs : P.Sol a) : P.Lst a := ⟨hs, h.1⟩
def Pr.cells (P : Pr) : List (Nat × Nat) := (List.range P.n).flatMap (fun k => (List.range P.wd).map (fun i => (k, i)))
def Pr.un (P : Pr) (a : Fa) : Nat := (P.cells.filter (fun c => a c.1 c.2 == P.all)).length
theorem Pr.mem_cells {P : Pr} {k i : Nat} : (k, i) ∈ P.cells ↔ k < P.n ∧ i < P.wd := by
 simp [Pr.cells]
theorem filter_lt {α : Type} (l : List α) (p q : α → Bool) (h : ∀ x ∈ l, q x = true → p x = true) (x : α) (hx : x ∈ l) (h1 : p x = true) (h2 : q x = false) : (l.filter q).length < (l.filter p).length := by
 induction l with
 | nil => cases hx
 | cons y l ih =>
  have hle : (l.filter q).length ≤ (l.filter p).length := by
   have : l.filter q = (l.filter p).filter q := by
    rw [List.filter_filter]
    apply List.filter_congr
    intro z hz
    have := h z (List.mem_cons_of_mem _ hz)
    cases e : q z <;> simp_all
   rw [this]; exact List.length_filter_le _ _
  rcases List.mem_cons.1 hx with rfl | hx'
  ·rw [List.filter_cons_of_pos h1, List.filter_cons_of_neg (by simp [h2])]
   simp only [List.length_cons]; omega
  ·have hh := ih (fun z hz => h z (List.mem_cons_of_mem _ hz)) hx'
   have hy := h y (List.mem_cons_self ..)
   cases e1 : q y
   ·rw [List.filter_cons_of_neg (by simp [e1])]
    cases e2 : p y
    ·rw [List.filter_cons_of_neg (by simp [e2])]; exact hh
    ·rw [List.filter_cons_of_pos e2]; simp only [List.length_cons]; omega
   ·rw [List.filter_cons_of_pos e1, List.filter_cons_of_pos (hy e1)]
    simp only [List.length_cons]; omega
theorem Pr.un_lt {P : Pr} {a b : Fa} (h : P.le a b) {k i : Nat} (hk : k < P.n) (hi : i < P.wd) (hne : a k i ≠ b k i) : P.un b < P.un a := by
 refine filter_lt _ _ _ (fun c hc q => ?_) (k, i) (Pr.mem_cells.2 ⟨hk, hi⟩) ?_ ?_
 ·obtain ⟨h1, h2⟩ := Pr.mem_cells.1 (show (c.1, c.2) ∈ P.cells from hc)
  have := h c.1 c.2 h1 h2
  simp only [beq_iff_eq] at q ⊢
  refine Classical.byContradiction (fun h3 => this h3 q)
 ·have := h k i hk hi
  simp only [beq_iff_eq]
  refine Classical.byContradiction (fun h3 => ?_)
  have h4 := this h3
  cases e : P.all <;> cases e1 : a k i <;> cases e2 : b k i <;> simp_all
 ·have := h k i hk hi
  cases e : P.all <;> cases e1 : a k i <;> cases e2 : b k i <;> simp_all
theorem Pr.more {P Q : Pr} (hP : P.Ok) (hn : Q.n = P.n) (hw : Q.wd = P.wd) (ha : Q.all = P.all) (hah : Q.ah = P.ah) (hb : Q.beg = P.beg) (hs : Q.st = P.st) (hk : Q.kil = P.kil) (hg : ∀ k i, k < P.n → i < P.wd → P.gen k i = true → Q.gen k i = true)
  {a b : Fa} (h1 : P.Lst a) (h2 : Q.Lst b) {k i : Nat} (hkn : k < P.n) (hi : i < P.wd) : a k i = true → b k i = true := by
 have hf : ∀ ti : Fa, Q.frm ti = P.frm ti := fun ti => by unfold Pr.frm; rw [ha, hah, hb, hs]
 have ht : ∀ (ti : Fa) k i, k < P.n → i < P.wd → P.tto ti k i = true → Q.tto ti k i = true := by
  intro ti k i hk1 hi1 q
  unfold Pr.tto at q ⊢
  rw [hf, hk]
  have := hg k i hk1 hi1
  cases e : P.gen k i <;> simp_all
 cases e : P.all
 ·have hpre : P.Pre b := by
   intro k i hk1 hi1 q
   rw [e] at q ⊢
   have h3 := ht b k i hk1 hi1 (by simpa using q)
   rw [← h2.1 k i (by rw [hn]; exact hk1) (by rw [hw]; exact hi1)] at h3
   rw [h3]; simp
  have h4 := h1.2 b hpre k i hkn hi
  rw [e] at h4
  simpa using h4
 ·have hpre : Q.Pre a := by
   intro k i hk1 hi1 q
   rw [ha, e] at q ⊢
   intro q2
   rw [h1.1 k i (by rw [← hn]; exact hk1) (by rw [← hw]; exact hi1)] at q2
   exact q (ht a k i (by rw [← hn]; exact hk1) (by rw [← hw]; exact hi1) q2)
  have h4 := h2.2 a hpre k i (by rw [hn]; exact hkn) (by rw [hw]; exact hi)
  rw [ha, e] at h4
  intro q
  refine Classical.byContradiction (fun q2 => h4 q2 q)
theorem Pr.more_frm {P Q : Pr} (ha : Q.all = P.all) (hah : Q.ah = P.ah) (hb : Q.beg = P.beg) (hs : Q.st = P.st) (hP : P.Ok) {a b : Fa} {i : Nat} (h : ∀ k, k < P.n → a k i = true → b k i = true) (k : Nat) : P.frm a k i = true → Q.frm b k i = true := by
 have hm := hP k
 unfold Pr.frm
 rw [ha, hah, hb, hs]
 cases e : P.all
 ·simp only [Bool.false_eq_true, if_false, Bool.or_eq_true, List.any_eq_true, Bool.and_eq_true]
  rintro (⟨x, hx, q⟩ | q)
  ·exact .inl ⟨x, hx, h x (hm x hx) q⟩
  ·exact .inr q
 ·simp only [if_true, Bool.and_eq_true, List.all_eq_true]
  exact fun q => ⟨fun x hx => h x (hm x hx) (q.1 x hx), q.2⟩
end Go.Proofs.YtanpghbakbebiaaDoor.Pure
namespace Go.Proofs.YtanpghbakbebiaaDoor.P
open Go.RowKit Go.Proofs.YtanpghbakbebiaaDoorW.PrintWords Go.Proofs.YtanpghbakbebiaaDoorW.PrintLast Go.Proofs.YtanpghbakbebiaaDoorW.PrintMore
attribute [local go_sem] max2_int min2_int max_two min_two max_three min_three max_four min_four   
set_option linter.unusedVariables false
set_option linter.unusedSimpArgs false
end Go.Proofs.YtanpghbakbebiaaDoor.P
set_option linter.unusedVariables false
set_option linter.unusedSimpArgs false
namespace Go.Proofs.YtanpghbakbebiaaDoor.P
open Go Go.RowKit Go.Proofs.YtanpghbakbebiaaDoorW.PrintWords Go.Proofs.YtanpghbakbebiaaDoorW.PrintLast Go.Proofs.YtanpghbakbebiaaDoorW.PrintMore
abbrev Tab (w : World) (base : Nat) (ok : Nat → Prop) (v : Value) (xs : List (List Bool)) : Prop := Kd.S (Kd.slice 4 Kd.bool) 49 w base ok v xs
end Go.Proofs.YtanpghbakbebiaaDoor.P
set_option linter.unusedVariables false
set_option linter.unusedSimpArgs false
namespace Go.Proofs.YtanpghbakbebiaaDoor.P
open Go Go.RowKit Go.Proofs.YtanpghbakbebiaaDoorW.PrintWords Go.Proofs.YtanpghbakbebiaaDoorW.PrintLast Go.Proofs.YtanpghbakbebiaaDoorW.PrintMore
end Go.Proofs.YtanpghbakbebiaaDoor.P
set_option linter.unusedVariables false
set_option linter.unusedSimpArgs false
namespace Go.Proofs.YtanpghbakbebiaaDoor.P
open Go Go.RowKit Go.Proofs.YtanpghbakbebiaaDoorW.PrintWords Go.Proofs.YtanpghbakbebiaaDoorW.PrintLast Go.Proofs.YtanpghbakbebiaaDoorW.PrintMore
structure RD where
  A0 : Option Addr
  c0 : Nat
  l0 : List (List Int)
  bk : Bool
  al : Bool
  wd : Int
  A4 : Option Addr
  c4 : Nat
  l4 : List (List Int)
  A5 : Option Addr
  c5 : Nat
  l5 : List (List Int)
  A6 : Option Addr
  c6 : Nat
  l6 : List Int
structure RD.Ok (D : RD) (w : World) : Prop where
  r0 : Kd.C (Kd.slice 3 (Kd.int .i64)) w D.A0 D.l0.length D.l0
  c0 : D.l0.length ≤ D.c0
  r4 : Kd.C (Kd.slice 3 (Kd.int .i64)) w D.A4 D.l4.length D.l4
  c4 : D.l4.length ≤ D.c4
  r5 : Kd.C (Kd.slice 3 (Kd.int .i64)) w D.A5 D.l5.length D.l5
  c5 : D.l5.length ≤ D.c5
  r6 : Kd.C (Kd.int .i64) w D.A6 D.l6.length D.l6
  c6 : D.l6.length ≤ D.c6
theorem RD.Ok.below {D : RD} {w W : World} (h : D.Ok w) (hb : Below w.heap.size w W) : D.Ok W :=
  ⟨Kd.C_below h.r0 hb, h.c0, Kd.C_below h.r4 hb, h.c4, Kd.C_below h.r5 hb, h.c5, Kd.C_below h.r6 hb, h.c6⟩
abbrev Row (w : World) (base : Nat) (ok : Nat → Prop) (v : Value) (xs : List Bool) : Prop := Kd.R Kd.bool 4 w base ok v xs
structure RSt (w : World) (D : RD) (f : Nat → Nat) (va vb vc vd : Value) (A B : List (List Bool)) (r s : List Bool) (W : World) : Prop where
  Bl : Below w.heap.size w W
  o : D.Ok w
  p : W.heap[w.heap.size]? = some (.cells #[.slice D.A0 D.l0.length D.c0, .bool D.bk, .bool D.al, .int .i64 D.wd, .slice D.A4 D.l4.length D.c4, .slice D.A5 D.l5.length D.c5, .slice D.A6 D.l6.length D.c6] 25 (0, 0))
  f9 : f w.heap.size = 9
  a : Tab W w.heap.size (fun k => f k = 0) va A
  b : Tab W w.heap.size (fun k => f k = 1) vb B
  c : Row W w.heap.size (fun k => f k = 2) vc r
  d : Row W w.heap.size (fun k => f k = 3) vd s
section
variable {w W W1 : World} {D : RD} {f f' : Nat → Nat} {va vb vc vd : Value} {A B : List (List Bool)} {r s : List Bool}
theorem RSt.below (h : RSt w D f va vb vc vd A B r s W) (hb : Below W.heap.size W W1) : RSt w D f va vb vc vd A B r s W1 :=
  { h with Bl := below_step h.Bl hb, p := blk_below h.p hb, a := Kd.S_below h.a hb, b := Kd.S_below h.b hb, c := Kd.R_below h.c hb, d := Kd.R_below h.d hb }
theorem tab_relab {n m : Nat} {v : Value} {X : List (List Bool)} {base : Nat} (h : Tab W base (fun k => f k = n) v X) (hf : ∀ k, k < W.heap.size → f k = n → f' k = m) : Tab W base (fun k => f' k = m) v X :=
  Kd.S_mono (Kd.S_bound h) (fun k hk => hf k hk.2.2.1 hk.1)
theorem row_relab {n m : Nat} {v : Value} {X : List Bool} {base : Nat} (h : Row W base (fun k => f k = n) v X) (hf : ∀ k, k < W.heap.size → f k = n → f' k = m) : Row W base (fun k => f' k = m) v X :=
  Kd.R_mono (Kd.R_bound h) (fun k hk => hf k (by first | exact hk.2.2.1 | exact hk.2.2 | exact hk.2) hk.1)
theorem RSt.relab (h : RSt w D f va vb vc vd A B r s W) (hf : ∀ k, k < W.heap.size → f' k = f k) : RSt w D f' va vb vc vd A B r s W :=
  { h with
    f9 := (hf _ (blk_lt h.p)).trans h.f9
    a := tab_relab h.a (fun k hk e => (hf k hk).trans e)
    b := tab_relab h.b (fun k hk e => (hf k hk).trans e)
    c := row_relab h.c (fun k hk e => (hf k hk).trans e)
    d := row_relab h.d (fun k hk e => (hf k hk).trans e) }
def newLab (f : Nat → Nat) (n m : Nat) (k : Nat) : Nat := if n ≤ k then m else f k
theorem newLab_old {n m k : Nat} (h : k < n) : newLab f n m k = f k := if_neg (by omega)
theorem newLab_new {n m k : Nat} (h : n ≤ k) : newLab f n m k = m := if_pos h
theorem RSt.start {W2 : World} (hD : D.Ok w) (hb1 : Below (w.alloc (.cells #[.slice D.A0 D.l0.length D.c0, .bool D.bk, .bool D.al, .int .i64 D.wd, .slice D.A4 D.l4.length D.c4, .slice D.A5 D.l5.length D.c5, .slice D.A6 D.l6.length D.c6] 25)).heap.size (w.alloc (.cells #[.slice D.A0 D.l0.length D.c0, .bool D.bk, .bool D.al, .int .i64 D.wd, .slice D.A4 D.l4.length D.c4, .slice D.A5 D.l5.length D.c5, .slice D.A6 D.l6.length D.c6] 25)) W1)
    (ha : Tab W1 (w.alloc (.cells #[.slice D.A0 D.l0.length D.c0, .bool D.bk, .bool D.al, .int .i64 D.wd, .slice D.A4 D.l4.length D.c4, .slice D.A5 D.l5.length D.c5, .slice D.A6 D.l6.length D.c6] 25)).heap.size (fun _ => True) va []) (hb2 : Below W1.heap.size W1 W2) (hb : Tab W2 W1.heap.size (fun _ => True) vb []) :
    ∃ f, RSt w D f va vb (.slice none 0 0) (.slice none 0 0) [] [] [] [] W2 := by
  have e0 : (w.alloc (.cells #[.slice D.A0 D.l0.length D.c0, .bool D.bk, .bool D.al, .int .i64 D.wd, .slice D.A4 D.l4.length D.c4, .slice D.A5 D.l5.length D.c5, .slice D.A6 D.l6.length D.c6] 25)).heap.size = w.heap.size + 1 := by simp
  have B0 := below_alloc (Below.refl w.heap.size w) (.cells #[.slice D.A0 D.l0.length D.c0, .bool D.bk, .bool D.al, .int .i64 D.wd, .slice D.A4 D.l4.length D.c4, .slice D.A5 D.l5.length D.c5, .slice D.A6 D.l6.length D.c6] 25)
  have B1 := below_step B0 hb1
  have l1 : w.heap.size + 1 ≤ W1.heap.size := by have := hb1.size; omega
  refine ⟨fun k => if k = w.heap.size then 9 else if k < W1.heap.size then 0 else 1, ⟨below_step B1 hb2, hD, blk_below (blk_below (blk_new w _) hb1) hb2, if_pos rfl, ?_, ?_, Kd.R_nil _ _ _ _ _, Kd.R_nil _ _ _ _ _⟩⟩
  · refine Kd.S_below (Kd.S_lower (Kd.S_mono (Kd.S_bound ha) (fun k hk => ?_)) (by omega)) hb2
    have h1 := hk.2.1
    have h2 := hk.2.2.1
    rw [if_neg (by omega), if_pos h2]
  · refine Kd.S_lower (Kd.S_mono (Kd.S_bound hb) (fun k hk => ?_)) (by omega)
    have h1 := hk.2.1
    rw [if_neg (by omega), if_neg (by omega)]
end
end Go.Proofs.YtanpghbakbebiaaDoor.P

/- A part of it. -/
import Derived.Test.YtanpghbakbebiaaDoorFmM29
import Derived.Test.YtanpghbakbebiaaDoorFmP0
import Derived.Test.YtanpghbakbebiaaDoorFmP4
import Derived.Test.YtanpghbakbebiaaDoorFmP5
import Derived.Test.YtanpghbakbebiaaDoorFmP6
import Derived.Outline
set_option linter.unusedVariables false
set_option linter.unusedSimpArgs false
namespace Go.Proofs.YtanpghbakbebiaaDoor.P
open Go Go.RowKit Go.Proofs.YtanpghbakbebiaaDoorW.PrintWords Go.Proofs.YtanpghbakbebiaaDoorW.PrintLast Go.Proofs.YtanpghbakbebiaaDoorW.PrintMore Go.Proofs.YtanpghbakbebiaaDoorQ
attribute [local go_sem] max2_int min2_int max_two min_two
def fs_put (n : Nat) (L : List Int) (i : Int) : List Int := if 0 ≤ i ∧ i < (n : Int) ∧ i ∉ L then L ++ [i] else L
def fs_l0 : Nat → Bool → Int → Int → Int → List (List Int) → Option (List (List Int))
 | 0, _, _, _, _, _ => none
 | k + 1, al, x, n, i, tt => if i < n then (if 0 ≤ i ∧ i < (tt.length : Int) then (fl_none k al x).bind fun s => fs_l0 k al x n (wrap64 (i + 1)) (tt.set i.toNat s) else none) else some tt
def fs_l1 : Nat → Nat → Int → List Int → Option (List Int)
 | 0, _, _, _ => none
 | k + 1, n, i, L => if i < (n : Int) then fs_l1 k n (wrap64 (i + 1)) (fs_put n L i) else some L
mutual
def fs_l2 : Nat → List (List Int) → Bool → Bool → Int → List (List Int) → List (List Int) → List Int → List (List Int) → List (List Int) → List (List Int) → List (List Int) → List Int → Option (List (List Int) × List (List Int))
 | 0, _, _, _, _, _, _, _, _, _, _, _, _ => none
 | k + 1, l0_0, a0_1, a0_2, a0_3, l0_4, l0_5, l0_6, ah, bh, fr, tt, L => (match L with
  | [] => some (fr, tt)
  | x :: L' => if 0 ≤ x ∧ x < (fr.length : Int) ∧ x < (tt.length : Int) ∧ x < (bh.length : Int) then ((flow_Problem_from.f k l0_0 a0_1 a0_2 a0_3 l0_4 l0_5 l0_6 x ah tt).bind fun s => ((flow_Problem_to.f k l0_0 a0_1 a0_2 a0_3 l0_4 l0_5 l0_6 x s).bind fun t => ((bits_Same.f k t (rd_L3 tt x)).bind fun b => (if b = true then fs_l2 k l0_0 a0_1 a0_2 a0_3 l0_4 l0_5 l0_6 ah bh (fr.set x.toNat s) tt L' else fs_l3 k l0_0 a0_1 a0_2 a0_3 l0_4 l0_5 l0_6 ah bh (fr.set x.toNat s) (tt.set x.toNat t) L' (rd_L1 bh x) 0)))) else none)
def fs_l3 : Nat → List (List Int) → Bool → Bool → Int → List (List Int) → List (List Int) → List Int → List (List Int) → List (List Int) → List (List Int) → List (List Int) → List Int → List Int → Int → Option (List (List Int) × List (List Int))
 | 0, _, _, _, _, _, _, _, _, _, _, _, _, _, _ => none
 | k + 1, l0_0, a0_1, a0_2, a0_3, l0_4, l0_5, l0_6, ah, bh, fr, tt, L, r, i => if i < (r.length : Int) then (if 0 ≤ i then fs_l3 k l0_0 a0_1 a0_2 a0_3 l0_4 l0_5 l0_6 ah bh fr tt (fs_put l0_0.length L (rd r i)) r (wrap64 (i + 1)) else none) else fs_l2 k l0_0 a0_1 a0_2 a0_3 l0_4 l0_5 l0_6 ah bh fr tt L
end
def fs_f (k : Nat) (l0_0 : List (List Int)) (a0_1 : Bool) (a0_2 : Bool) (a0_3 : Int) (l0_4 : List (List Int)) (l0_5 : List (List Int)) (l0_6 : List Int) : Option (List (List Int) × List (List Int) × Bool) :=
 (flow_Right.f k l0_0 a0_1 a0_2 a0_3 l0_4 l0_5 l0_6).bind fun rt => (if rt = true then (if l0_0.length ≤ 65536 then ((flow_Problem_ways.f k l0_0 a0_1 a0_2 a0_3 l0_4 l0_5 l0_6).bind fun w2 => ((fs_l0 k a0_2 a0_3 (l0_0.length : Int) 0 (List.replicate l0_0.length [])).bind fun t0 => ((fs_l1 k l0_0.length 0 []).bind fun L => ((fs_l2 k l0_0 a0_1 a0_2 a0_3 l0_4 l0_5 l0_6 w2.1 w2.2 (List.replicate l0_0.length []) t0 L).bind fun q => some (q.1, q.2, true))))) else none) else some ([], [], false))
theorem fs_mono_l0 : ∀ k al x n i tt, LeO (fs_l0 k al x n i tt) (fs_l0 (k + 1) al x n i tt) := by
 intro k
 induction k with
 | zero => intro al x n i tt; exact LeO.none _
 | succ k ih =>
  intro al x n i tt
  unfold fs_l0
  exact LeO.ite (LeO.ite (LeO.bind (fl_none.mono _ _ k) (fun _ => ih _ _ _ _ _)) (LeO.refl _)) (LeO.refl _)
theorem fs_mono_l1 : ∀ k n i L, LeO (fs_l1 k n i L) (fs_l1 (k + 1) n i L) := by
 intro k
 induction k with
 | zero => intro n i L; exact LeO.none _
 | succ k ih =>
  intro n i L
  unfold fs_l1
  exact LeO.ite (ih _ _ _) (LeO.refl _)
theorem fs_mono_l2 : ∀ k, (∀ l0_0 a0_1 a0_2 a0_3 l0_4 l0_5 l0_6 ah bh fr tt L, LeO (fs_l2 k l0_0 a0_1 a0_2 a0_3 l0_4 l0_5 l0_6 ah bh fr tt L) (fs_l2 (k + 1) l0_0 a0_1 a0_2 a0_3 l0_4 l0_5 l0_6 ah bh fr tt L)) ∧ (∀ l0_0 a0_1 a0_2 a0_3 l0_4 l0_5 l0_6 ah bh fr tt L r i, LeO (fs_l3 k l0_0 a0_1 a0_2 a0_3 l0_4 l0_5 l0_6 ah bh fr tt L r i) (fs_l3 (k + 1) l0_0 a0_1 a0_2 a0_3 l0_4 l0_5 l0_6 ah bh fr tt L r i)) := by
 intro k
 induction k with
 | zero => exact ⟨fun _ _ _ _ _ _ _ _ _ _ _ _ => LeO.none _, fun _ _ _ _ _ _ _ _ _ _ _ _ _ _ => LeO.none _⟩
 | succ k ih =>
  refine ⟨fun l0_0 a0_1 a0_2 a0_3 l0_4 l0_5 l0_6 ah bh fr tt L => ?_, fun l0_0 a0_1 a0_2 a0_3 l0_4 l0_5 l0_6 ah bh fr tt L r i => ?_⟩
  ·unfold fs_l2
   cases L with
   | nil => exact LeO.refl _
   | cons x L' => exact LeO.ite (LeO.bind (flow_Problem_from.mono _ _ _ _ _ _ _ _ _ _ k) (fun _ => LeO.bind (flow_Problem_to.mono _ _ _ _ _ _ _ _ _ k) (fun _ => LeO.bind (bits_Same.mono _ _ k) (fun _ => LeO.ite (ih.1 _ _ _ _ _ _ _ _ _ _ _ _) (ih.2 _ _ _ _ _ _ _ _ _ _ _ _ _ _))))) (LeO.refl _)
  ·unfold fs_l3
   exact LeO.ite (LeO.ite (ih.2 _ _ _ _ _ _ _ _ _ _ _ _ _ _) (LeO.refl _)) (ih.1 _ _ _ _ _ _ _ _ _ _ _ _)
theorem fs_mono : ∀ a0 a1 a2 a3 a4 a5 a6 k, LeO (fs_f k a0 a1 a2 a3 a4 a5 a6) (fs_f (k + 1) a0 a1 a2 a3 a4 a5 a6) := by
 intro a0 a1 a2 a3 a4 a5 a6 k
 unfold fs_f
 exact LeO.bind (flow_Right.mono _ _ _ _ _ _ _ k) (fun _ => LeO.ite (LeO.ite (LeO.bind (flow_Problem_ways.mono _ _ _ _ _ _ _ k) (fun _ => LeO.bind (fs_mono_l0 k _ _ _ _ _) (fun _ => LeO.bind (fs_mono_l1 k _ _ _) (fun _ => LeO.bind ((fs_mono_l2 k).1 _ _ _ _ _ _ _ _ _ _ _ _) (fun _ => LeO.refl _))))) (LeO.refl _)) (LeO.refl _))
structure PD where
 A0 : Option Addr
 c0 : Nat
 l0 : List (List Int)
 bk : Bool
 al : Bool
 wd : Int
 A4 : Option Addr
 c4 : Nat
 l4 : List (List Int)
 A5 : Option Addr
 c5 : Nat
 l5 : List (List Int)
 A6 : Option Addr
 c6 : Nat
 l6 : List Int
structure PD.Ok (D : PD) (w : World) : Prop where
 r0 : Kd.C (Kd.slice 3 (Kd.int .i64)) w D.A0 D.l0.length D.l0
 c0 : D.l0.length ≤ D.c0
 r4 : Kd.C (Kd.slice 72 (Kd.int .u64)) w D.A4 D.l4.length D.l4
 c4 : D.l4.length ≤ D.c4
 r5 : Kd.C (Kd.slice 72 (Kd.int .u64)) w D.A5 D.l5.length D.l5
 c5 : D.l5.length ≤ D.c5
 r6 : Kd.C (Kd.int .u64) w D.A6 D.l6.length D.l6
 c6 : D.l6.length ≤ D.c6
theorem PD.Ok.below {D : PD} {w W : World} (h : D.Ok w) (hb : Below w.heap.size w W) : D.Ok W :=
 ⟨Kd.C_below h.r0 hb, h.c0, Kd.C_below h.r4 hb, h.c4, Kd.C_below h.r5 hb, h.c5, Kd.C_below h.r6 hb, h.c6⟩
structure SD where
 gs : Nat
 gF : Nat
 gT : Nat
 X : Nat → Prop
def SD.ok (G : SD) (w : World) (k : Nat) : Prop := w.heap.size + 1 < k ∧ k ≠ G.gs ∧ k ≠ G.gF ∧ k ≠ G.gT ∧ ¬ G.X k
structure WD where
 Aa : Option Addr
 ca : Nat
 ah : List (List Int)
 Ab : Option Addr
 cb : Nat
 bh : List (List Int)
 okA : Nat → Prop
structure FSt (w : World) (D : PD) (G : SD) (Y : WD) (fr tt : List (List Int)) (W : World) : Prop where
 B : Below w.heap.size w W
 o : D.Ok w
 p : W.heap[w.heap.size]? = some (.cells #[.slice D.A0 D.l0.length D.c0, .bool D.bk, .bool D.al, .int .i64 D.wd, .slice D.A4 D.l4.length D.c4, .slice D.A5 D.l5.length D.c5, .slice D.A6 D.l6.length D.c6] 32 (0, 0))
 r : W.heap[w.heap.size + 1]? = some (.cells #[.slice none 0 0, .slice none 0 0] 36 (0, 0))
 s : W.heap[G.gs]? = some (.cells #[.slice (some ⟨G.gF, 0, none⟩) fr.length fr.length, .slice (some ⟨G.gT, 0, none⟩) tt.length tt.length] 36 (0, 0))
 f : SetsAt W G.gF (G.ok w) fr
 t : SetsAt W G.gT (G.ok w) tt
 a : Kd.F (Kd.slice 3 (Kd.int .i64)) W Y.okA Y.Aa Y.ah.length Y.ah
 ac : Y.ah.length ≤ Y.ca
 b : Kd.F (Kd.slice 3 (Kd.int .i64)) W Y.okA Y.Ab Y.bh.length Y.bh
 bc : Y.bh.length ≤ Y.cb
 hs : w.heap.size + 1 < G.gs
 hF : w.heap.size + 1 < G.gF
 hT : w.heap.size + 1 < G.gT
 nFT : G.gF ≠ G.gT
 nsF : G.gs ≠ G.gF
 nsT : G.gs ≠ G.gT
 hX : ∀ k, G.X k → w.heap.size + 1 < k ∧ k ≠ G.gs ∧ k ≠ G.gF ∧ k ≠ G.gT
 hA : ∀ k, Y.okA k → k ≠ G.gF ∧ k ≠ G.gT ∧ ¬ G.X k
 ln : fr.length = D.l0.length
 lt : tt.length = D.l0.length
 small : D.l0.length ≤ 65536
section
variable {w W W1 : World} {D : PD} {G : SD} {Y : WD} {fr tt : List (List Int)}
theorem FSt.below (h : FSt w D G Y fr tt W) (hb : Below W.heap.size W W1) : FSt w D G Y fr tt W1 :=
 { h with B := below_step h.B hb, p := blk_below h.p hb, r := blk_below h.r hb, s := blk_below h.s hb, f := h.f.below hb, t := h.t.below hb, a := Kd.F_below h.a hb, b := Kd.F_below h.b hb }
theorem FSt.drew (h : FSt w D G Y fr tt W) : FSt w D G Y fr tt W.drew := h.below (below_drew (Below.refl _ _))
theorem FSt.alloc (h : FSt w D G Y fr tt W) (o : Obj) : FSt w D G Y fr tt (W.alloc o) := h.below (below_alloc (Below.refl _ _) o)
theorem kept_blk {S : Nat → Prop} {g : Nat} {o : Obj} (h : W.heap[g]? = some o) (hk : Kept W W1 S) (hg : ¬ S g) : W1.heap[g]? = some o := (hk.2 g (blk_lt h) hg).trans h
theorem FSt.kept (h : FSt w D G Y fr tt W) {S : Nat → Prop} (hk : Kept W W1 S) (hS : ∀ k, S k → G.X k) (hB : Below w.heap.size w W1) : FSt w D G Y fr tt W1 := by
 have n : ∀ k, S k → w.heap.size + 1 < k ∧ k ≠ G.gs ∧ k ≠ G.gF ∧ k ≠ G.gT := fun k q => h.hX k (hS k q)
 exact { h with
  B := hB
  p := kept_blk h.p hk (fun q => by have := n _ q; omega)
  r := kept_blk h.r hk (fun q => by have := n _ q; omega)
  s := kept_blk h.s hk (fun q => (n _ q).2.1 rfl)
  f := h.f.kept hk (fun q => (n _ q).2.2.1 rfl) (fun k q q2 => q.2.2.2.2 (hS k q2))
  t := h.t.kept hk (fun q => (n _ q).2.2.2 rfl) (fun k q q2 => q.2.2.2.2 (hS k q2))
  a := Kd.F_kept h.a hk (fun k q q2 => (h.hA k q).2.2 (hS k q2))
  b := Kd.F_kept h.b hk (fun k q q2 => (h.hA k q).2.2 (hS k q2)) }
theorem FSt.setF (h : FSt w D G Y fr tt W) (i : Int) (h0 : 0 ≤ i) (h1 : i < (fr.length : Int)) {A : Option Addr} {c : Nat} (x : List Int) (hl : x.length ≤ c) (hf : Kd.F (Kd.int .u64) W (G.ok w) A x.length x) : FSt w D G Y (fr.set i.toNat x) tt (W.setCell ⟨G.gF, i.toNat, none⟩ (.slice A x.length c)) := by
 have e : (fr.set i.toNat x).length = fr.length := List.length_set
 exact { h with
  B := h.B.setCell (show w.heap.size ≤ G.gF by have := h.hF; omega) _
  p := blk_far h.p (show w.heap.size ≠ G.gF by have := h.hF; omega) _
  r := blk_far h.r (show w.heap.size + 1 ≠ G.gF by have := h.hF; omega) _
  s := by rw [e]; exact blk_far h.s h.nsF _
  f := h.f.set i h0 h1 x hl hf (fun k q => q.2.2.1)
  t := h.t.far (p := ⟨G.gF, i.toNat, none⟩) (fun q => h.nFT q.symm) (fun k q => q.2.2.1) _
  a := Kd.F_far h.a (p := ⟨G.gF, i.toNat, none⟩) (fun k q => (h.hA k q).1) _
  b := Kd.F_far h.b (p := ⟨G.gF, i.toNat, none⟩) (fun k q => (h.hA k q).1) _
  ln := by rw [e]; exact h.ln }
theorem FSt.setT (h : FSt w D G Y fr tt W) (i : Int) (h0 : 0 ≤ i) (h1 : i < (tt.length : Int)) {A : Option Addr} {c : Nat} (x : List Int) (hl : x.length ≤ c) (hf : Kd.F (Kd.int .u64) W (G.ok w) A x.length x) : FSt w D G Y fr (tt.set i.toNat x) (W.setCell ⟨G.gT, i.toNat, none⟩ (.slice A x.length c)) := by
 have e : (tt.set i.toNat x).length = tt.length := List.length_set
 exact { h with
  B := h.B.setCell (show w.heap.size ≤ G.gT by have := h.hT; omega) _
  p := blk_far h.p (show w.heap.size ≠ G.gT by have := h.hT; omega) _
  r := blk_far h.r (show w.heap.size + 1 ≠ G.gT by have := h.hT; omega) _
  s := by rw [e]; exact blk_far h.s h.nsT _
  t := h.t.set i h0 h1 x hl hf (fun k q => q.2.2.2.1)
  f := h.f.far (p := ⟨G.gT, i.toNat, none⟩) h.nFT (fun k q => q.2.2.2.1) _
  a := Kd.F_far h.a (p := ⟨G.gT, i.toNat, none⟩) (fun k q => (h.hA k q).2.1) _
  b := Kd.F_far h.b (p := ⟨G.gT, i.toNat, none⟩) (fun k q => (h.hA k q).2.1) _
  lt := by rw [e]; exact h.lt }
theorem FSt.withX {gs gF gT : Nat} {X X' : Nat → Prop} (h : FSt w D ⟨gs, gF, gT, X⟩ Y fr tt W) (hG : ∀ k, ¬ X k) (hX' : ∀ k, X' k → W.heap.size ≤ k) (hA : ∀ k, Y.okA k → k < W.heap.size) : FSt w D ⟨gs, gF, gT, X'⟩ Y fr tt W := by
 have l1 : gs < W.heap.size := blk_lt h.s
 have l2 : gF < W.heap.size := h.f.lt
 have l3 : gT < W.heap.size := h.t.lt
 have l4 : w.heap.size + 1 < gs := h.hs
 have m : ∀ k, (SD.ok ⟨gs, gF, gT, X⟩ w) k → k < W.heap.size → (SD.ok ⟨gs, gF, gT, X'⟩ w) k := fun k q hl => ⟨q.1, q.2.1, q.2.2.1, q.2.2.2.1, fun q2 => by have := hX' k q2; omega⟩
 refine ⟨h.B, h.o, h.p, h.r, h.s, h.f.widen m, h.t.widen m, h.a, h.ac, h.b, h.bc, h.hs, h.hF, h.hT, h.nFT, h.nsF, h.nsT, fun k q => ?_, fun k q => ⟨(h.hA k q).1, (h.hA k q).2.1, fun q2 => ?_⟩, h.ln, h.lt, h.small⟩
 ·have := hX' k q
  exact ⟨by omega, show k ≠ gs by omega, show k ≠ gF by omega, show k ≠ gT by omega⟩
 ·have := hX' k q2
  have := hA k q
  omega
theorem FSt.fresh (h : FSt w D G Y fr tt W) (hX : ∀ k, G.X k → k < W.heap.size) {base : Nat} (hb : W.heap.size ≤ base) {A : Option Addr} {n c : Nat} {x : List Int} (hr : Kd.R (Kd.int .u64) 72 W1 base (fun _ => True) (.slice A n c) x) : n = x.length ∧ x.length ≤ c ∧ Kd.F (Kd.int .u64) W1 (G.ok w) A x.length x := by
 obtain ⟨h1, h2, _⟩ := Kd.R_reads' hr
 subst h1
 refine ⟨rfl, h2, ?_⟩
 have l1 := blk_lt h.s
 have l2 := h.f.lt
 have l3 := h.t.lt
 have l4 := h.hs
 refine Kd.F_mono (Kd.N_F (Kd.R_N (Kd.R_bound hr))) (fun k hk => ?_)
 have hk2 : base ≤ k := hk.2.1
 exact ⟨by omega, by omega, by omega, by omega, fun q => by have := hX k q; omega⟩
end
end Go.Proofs.YtanpghbakbebiaaDoor.P

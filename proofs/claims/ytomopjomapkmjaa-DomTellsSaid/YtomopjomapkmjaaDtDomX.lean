/- The plain laws behind the walks: numbers and lists alone. -/
import Derived.Test.YtomopjomapkmjaaDtGraphD
import Derived.Test.YtomopjomapkmjaaDtGraphE
import Derived.Test.YtomopjomapkmjaaDtGraphG
import Derived.Test.YtomopjomapkmjaaDtP0
import Derived.Test.YtomopjomapkmjaaDtP1
import Derived.Test.YtomopjomapkmjaaDtP14
import Derived.Test.YtomopjomapkmjaaDtP17
import Derived.Test.YtomopjomapkmjaaDtP18
import Derived.Test.YtomopjomapkmjaaDtP19
import Derived.Test.YtomopjomapkmjaaDtP5
import Derived.Test.YtomopjomapkmjaaDtP6
import Derived.Test.YtomopjomapkmjaaDtP7
import Derived.Test.YtomopjomapkmjaaDtP9
set_option linter.unusedVariables false
namespace Go.Proofs.Ytomopjomapkmjaa.Pure
open Go.RowKit Go.Proofs.Ytomopjomapkmjaa.P Go.Proofs.YtomopjomapkmjaaW.PrintWords Go.Proofs.YtomopjomapkmjaaW.PrintLast Go.Proofs.YtomopjomapkmjaaW.PrintMore
inductive Av (E : Nat → Nat → Prop) (d : Nat) : Nat → Prop
  | start : 0 ≠ d → Av E d 0
  | step {y x : Nat} : Av E d y → E y x → x ≠ d → Av E d x
inductive Up (E : Nat → Nat → Prop) (P : Nat → Nat) (a : Nat) : Nat → Prop
  | one {b : Nat} : E a b → P a < P b → Up E P a b
  | step {y x : Nat} : Up E P a y → E y x → P a < P x → Up E P a x
inductive Ch (T : Nat → Nat) : Nat → Nat → Prop
  | refl (x : Nat) : Ch T x x
  | up {x y : Nat} : x ≠ 0 → Ch T (T x) y → Ch T x y
theorem Ch.trans {T : Nat → Nat} {x y z : Nat} (h : Ch T x y) (k : Ch T y z) : Ch T x z := by
  induction h with
  | refl => exact k
  | up h0 _ ih => exact .up h0 (ih k)
theorem Ch.cases' {T : Nat → Nat} {x y : Nat} (h : Ch T x y) (hne : y ≠ x) : x ≠ 0 ∧ Ch T (T x) y := by
  cases h with
  | refl => exact absurd rfl hne
  | up h0 h1 => exact ⟨h0, h1⟩
structure Gr (E : Nat → Nat → Prop) (R : Nat → Prop) (P : Nat → Nat) : Prop where
  r0 : R 0
  p0 : ∀ k, R k → k ≠ 0 → P 0 < P k
  inj : ∀ a b, R a → R b → P a = P b → a = b
  edge : ∀ y x, R y → E y x → R x
  ahead : ∀ k, R k → k ≠ 0 → ∃ p, R p ∧ E p k ∧ P p < P k
structure Tr (E : Nat → Nat → Prop) (R : Nat → Prop) (P : Nat → Nat) (D : Nat → Prop) (T : Nat → Nat) : Prop where
  d0 : D 0
  dr : ∀ k, D k → R k
  par : ∀ k, D k → k ≠ 0 → D (T k) ∧ P (T k) < P k
  up : ∀ k, D k → k ≠ 0 → Up E P (T k) k
  snd : ∀ k, D k → ∀ d, ¬ Av E d k → Ch T k d
section
variable {E : Nat → Nat → Prop} {R : Nat → Prop} {P : Nat → Nat} {D : Nat → Prop} {T : Nat → Nat}
theorem Ch.done (t : Tr E R P D T) {x y : Nat} (h : Ch T x y) (hx : D x) : D y ∧ P y ≤ P x := by
  induction h with
  | refl => exact ⟨hx, Nat.le_refl _⟩
  | up h0 _ ih =>
    have := t.par _ hx h0
    have h2 := ih this.1
    exact ⟨h2.1, by omega⟩
theorem Ch.low (t : Tr E R P D T) {x y : Nat} (h : Ch T x y) (hx : D x) (hne : y ≠ x) : P y < P x := by
  obtain ⟨h0, h1⟩ := h.cases' hne
  have h2 := t.par _ hx h0
  have h3 := h1.done t h2.1
  omega
theorem Ch.row (g : Gr E R P) (t : Tr E R P D T) {x y z : Nat} (h : Ch T x y) (k : Ch T x z) (hx : D x) (hl : P z ≤ P y) : Ch T y z := by
  induction h with
  | refl => exact k
  | @up a b h0 h1 ih =>
    have hb := h1.done t (t.par _ hx h0).1
    by_cases hz : z = a
    · subst hz
      have := t.par _ hx h0
      omega
    · exact ih (k.cases' hz).2 (t.par _ hx h0).1 hl
theorem Up.far (hu : ∀ a b : Nat, Up E P a b → P a < P b) {m c x : Nat} (h1 : Up E P m c) (h2 : Up E P c x) (hl : P m < P c) : Up E P m x := by
  induction h2 with
  | one he hp => exact .step h1 he (by omega)
  | step _ he hp ih => exact .step ih he (by omega)
theorem Up.lt {a b : Nat} (h : Up E P a b) : P a < P b := by
  cases h with
  | one _ h => exact h
  | step _ _ h => exact h
theorem Ch.isUp (t : Tr E R P D T) {x m : Nat} (h : Ch T x m) (hx : D x) (hne : m ≠ x) : Up E P m x := by
  induction h with
  | refl => exact absurd rfl hne
  | @up a b h0 h1 ih =>
    have hp := t.par _ hx h0
    by_cases hb : b = T a
    · subst hb
      exact t.up _ hx h0
    · exact Up.far (fun _ _ h => h.lt) (ih hp.1 hb) (t.up _ hx h0) (h1.low t hp.1 hb)
theorem Av.upTo {d m x : Nat} (h : Av E d m) (hu : Up E P m x) (hd : P d < P m) : Av E d x := by
  induction hu with
  | one he hp => exact .step h he (by rintro rfl; omega)
  | step _ he hp ih => exact .step ih he (by rintro rfl; omega)
theorem dom_on (t : Tr E R P D T) {d x m : Nat} (hx : D x) (h : Ch T x m) (hd : ¬ Av E d x) (hl : P d < P m) : ¬ Av E d m := by
  intro ha
  by_cases e : m = x
  · subst e; exact hd ha
  · exact hd (ha.upTo (h.isUp t hx e) hl)
def Meet (T : Nat → Nat) (S : Nat → Prop) (c : Nat) : Prop := ∀ y, Ch T c y ↔ ∀ p, S p → Ch T p y
def setT (T : Nat → Nat) (k c : Nat) : Nat → Nat := fun x => if x = k then c else T x
theorem setT_same (T : Nat → Nat) (k c : Nat) : setT T k c k = c := if_pos rfl
theorem setT_other (T : Nat → Nat) {k c x : Nat} (h : x ≠ k) : setT T k c x = T x := if_neg h
theorem Ch.keep (t : Tr E R P D T) {k c x y : Nat} (h : Ch T x y) (hx : D x) (hk : P k ≤ P y) : Ch (setT T k c) x y := by
  induction h with
  | refl => exact .refl _
  | @up a b h0 h1 ih =>
    have hp := t.par _ hx h0
    have hb := h1.done t hp.1
    have hne : a ≠ k := by rintro rfl; omega
    exact .up h0 (by rw [setT_other T hne]; exact ih hp.1 hk)
theorem Ch.lower (t : Tr E R P D T) {k c x y : Nat} (h : Ch T x y) (hx : D x) (hk : P x < P k) : Ch (setT T k c) x y := by
  induction h with
  | refl => exact .refl _
  | @up a b h0 h1 ih =>
    have hp := t.par _ hx h0
    have hne : a ≠ k := by rintro rfl; omega
    exact .up h0 (by rw [setT_other T hne]; exact ih hp.1 (by omega))
theorem Ch.aside (t : Tr E R P D T) {k c x y : Nat} (h : Ch T x y) (hx : D x) (hk : ¬ Ch T x k) : Ch (setT T k c) x y := by
  induction h with
  | refl => exact .refl _
  | @up a b h0 h1 ih =>
    have hp := t.par _ hx h0
    have hne : a ≠ k := by rintro rfl; exact hk (.refl _)
    exact .up h0 (by rw [setT_other T hne]; exact ih hp.1 (fun h => hk (.up h0 h)))
def Pd (E : Nat → Nat → Prop) (D : Nat → Prop) (k p : Nat) : Prop := E p k ∧ D p
theorem dom_pred {d k p : Nat} (hd : ¬ Av E d k) (hne : d ≠ k) (he : E p k) : ¬ Av E d p := fun h => hd (.step h he (Ne.symm hne))
theorem Tr.put (g : Gr E R P) (t : Tr E R P D T) {k c : Nat} (hk : R k) (h0 : k ≠ 0) (hm : Meet T (Pd E D k) c) (ha : ∃ p, Pd E D k p ∧ P p < P k) : Tr E R P (fun x => D x ∨ x = k) (setT T k c) ∧ D c ∧ P c < P k := by
  obtain ⟨p, hp, hpk⟩ := ha
  have hcp : Ch T p c := (hm c).1 (.refl c) p hp
  have hc := hcp.done t hp.2
  have hck : P c < P k := by omega
  have hne : c ≠ k := by rintro rfl; omega
  have hupk : Up E P c k := by
    by_cases e : c = p
    · subst e; exact .one hp.1 hpk
    · exact .step (hcp.isUp t hp.2 e) hp.1 hck
  refine ⟨⟨.inl t.d0, ?_, ?_, ?_, ?_⟩, hc.1, hck⟩
  · rintro x (h | rfl)
    · exact t.dr x h
    · exact hk
  · intro x hx hx0
    by_cases e : x = k
    · subst e; rw [setT_same]; exact ⟨.inl hc.1, hck⟩
    · rw [setT_other T e]
      rcases hx with h | h
      · exact ⟨.inl (t.par x h hx0).1, (t.par x h hx0).2⟩
      · exact absurd h e
  · intro x hx hx0
    by_cases e : x = k
    · subst e; rw [setT_same]; exact hupk
    · rw [setT_other T e]
      rcases hx with h | h
      · exact t.up x h hx0
      · exact absurd h e
  · 
    have key : ∀ n x, P x = n → (D x ∨ x = k) → ∀ d, ¬ Av E d x → Ch (setT T k c) x d := by
      intro n
      induction n using Nat.strongRecOn with
      | _ n ih =>
        intro x hn hx d hd
        by_cases e : d = x
        · subst e; exact .refl _
        by_cases ex : x = k
        · subst ex
          refine .up h0 ?_
          rw [setT_same]
          have : Ch T c d := (hm d).2 (fun q hq => t.snd q hq.2 d (dom_pred hd e hq.1))
          exact this.lower t hc.1 hck
        · rcases hx with hx | hx
          · have hs := t.snd x hx d hd
            obtain ⟨hx0, h1⟩ := hs.cases' e
            have hpx := t.par x hx hx0
            refine .up hx0 ?_
            rw [setT_other T ex]
            by_cases e2 : d = T x
            · subst e2; exact .refl _
            · exact ih (P (T x)) (by omega) (T x) rfl (.inl hpx.1) d (dom_on t hx (.up hx0 (.refl _)) hd (h1.low t hpx.1 e2))
          · exact absurd hx ex
    exact fun x hx d hd => key (P x) x rfl hx d hd
def Nh (E : Nat → Nat → Prop) (P : Nat → Nat) (D : Nat → Prop) (T : Nat → Nat) : Prop := ∀ k, D k → k ≠ 0 → ∀ y, (∀ p, Pd E D k p → Ch T p y) → P y ≤ P (T k)
def La (E : Nat → Nat → Prop) (P : Nat → Nat) (D : Nat → Prop) (T : Nat → Nat) (k : Nat) : Prop := ∀ p, Pd E D k p → P p < P k → Ch T p (T k)
def Mi (P : Nat → Nat) (D : Nat → Prop) (T1 T : Nat → Nat) : Prop := ∀ x, D x → ∀ t y, Ch T1 x t → Ch T x y → P y ≤ P t → Ch T t y
theorem mi_start (g : Gr E R P) (t : Tr E R P D T) : Mi P D T T := fun x hx a y h1 h2 hl => h1.row g t h2 hx hl
theorem new_on (t : Tr E R P D T) {T1 : Nat → Nat} {k c : Nat} (hk : D k) (h0 : k ≠ 0) (hm : Meet T (Pd E D k) c) {p : Nat} (hp : Pd E D k p) (hla : Ch T1 p (T k)) (hmi : Mi P D T1 T) (hn : Nh E P D T) : Ch T (T k) c :=
  hmi p hp.2 (T k) c hla ((hm c).1 (.refl c) p hp) (hn k hk h0 c (fun q hq => (hm c).1 (.refl c) q hq))
theorem Ch.shrink {k c x y : Nat} (h : Ch (setT T k c) x y) (hk0 : k ≠ 0) (hc : Ch T (T k) c) : Ch T x y := by
  induction h with
  | refl => exact .refl _
  | @up a b h0 h1 ih =>
    by_cases e : a = k
    · subst e
      rw [setT_same] at ih
      exact .up hk0 (hc.trans ih)
    · rw [setT_other T e] at ih
      exact .up h0 ih
theorem nh_put {k c : Nat} (hk0 : k ≠ 0) (hm : Meet T (Pd E D k) c) (t : Tr E R P D T) (hcd : D c) (hc : Ch T (T k) c) (hn : Nh E P D T) : Nh E P D (setT T k c) := by
  intro x hx hx0 y hy
  have hy' : ∀ p, Pd E D x p → Ch T p y := fun p hp => (hy p hp).shrink hk0 hc
  by_cases e : x = k
  · subst e
    rw [setT_same]
    exact (((hm y).2 hy').done t hcd).2
  · rw [setT_other T e]
    exact hn x hx hx0 y hy'
theorem mi_put (g : Gr E R P) (t : Tr E R P D T) {T1 : Nat → Nat} (t1 : Tr E R P D T1) {k c : Nat} (hk : D k) (h0 : k ≠ 0) (t' : Tr E R P D (setT T k c)) (hcd : D c) (hck : P c < P k) (hc : Ch T (T k) c) (hsame : ∀ a, D a → P k < P a → T a = T1 a) (hmi : Mi P D T1 T) : Mi P D T1 (setT T k c) := by
  intro x hx a y h1 h2 hl
  have h2T := h2.shrink h0 hc
  have ha := h1.done t1 hx
  have hy := hmi x hx a y h1 h2T hl
  by_cases hak : Ch T a k
  · by_cases hyk : P k ≤ P y
    · exact hy.keep t ha.1 hyk
    · have hka := (hak.done t ha.1).2
      have hxa : Ch T x a := by
        clear h2 h2T hy hmi hl
        induction h1 with
        | refl => exact .refl _
        | @up u v hu0 h1 ih =>
          have hpu := t1.par _ hx hu0
          have hv := h1.done t1 hpu.1
          have hle : P k < P u := by omega
          refine .up hu0 ?_
          rw [hsame u hx hle]
          exact ih hpu.1 hv hak hka
      have hxk : Ch (setT T k c) x k := (hxa.trans hak).keep t hx (Nat.le_refl _)
      have hky : Ch (setT T k c) k y := hxk.row g t' h2 hx (by omega)
      exact (hak.keep t ha.1 (Nat.le_refl _)).trans hky
  · exact hy.aside t ha.1 hak
theorem fix_full (hfix : ∀ k, R k → k ≠ 0 → Meet T (fun p => E p k ∧ R p) (T k)) (hR : ∀ x, R x → ∀ d, Av E d x → R x) {d x : Nat} (ha : Av E d x) (hr : ∀ y, Av E d y → R y) : ¬ Ch T x d := by
  induction ha with
  | start h0 =>
    intro h
    exact (h.cases' (Ne.symm h0)).1 rfl
  | @step y x h1 he hne ih =>
    intro h
    obtain ⟨hx0, h2⟩ := h.cases' (Ne.symm hne)
    have hx : R x := hr x (.step h1 he hne)
    exact ih (((hfix x hx hx0) d).1 h2 y ⟨he, hr y h1⟩)
end
def Ed (s : List (List Int)) (y x : Nat) : Prop := (x : Int) ∈ s.getD y []
def ordL (s : List (List Int)) : List Int := (gtAll s (-1)).2.reverse
def Pl (s : List (List Int)) (x : Nat) : Nat := (ordL s).idxOf (x : Int)
theorem getD_mem {s : List (List Int)} {y : Nat} {t : Int} (h : t ∈ s.getD y []) : y < s.length ∧ s.getD y [] ∈ s := by
  rw [List.getD_eq_getElem?_getD] at h ⊢
  cases hy : s[y]? with
  | none => rw [hy] at h; simp at h
  | some l =>
    obtain ⟨hlt, _⟩ := List.getElem?_eq_some_iff.1 hy
    exact ⟨hlt, by simpa using List.mem_of_getElem? hy⟩
theorem av_rch (s : List (List Int)) (hv : ∀ l ∈ s, ∀ t ∈ l, 0 ≤ t ∧ t < (s.length : Int)) (hs : s ≠ []) (d x : Nat) : Av (Ed s) d x ↔ Rch s (d : Int) x := by
  constructor
  · intro h
    induction h with
    | start h0 => exact .start hs (by omega)
    | @step y x h1 he hne ih =>
      have := Rch.go y (x : Int) ih he (by omega)
      simpa using this
  · intro h
    induction h with
    | start _ h0 => exact .start (by omega)
    | go k t h1 ht hne ih =>
      have h0 := (hv _ (getD_mem ht).2 t ht).1
      exact .step ih (by show ((t.toNat : Nat) : Int) ∈ _; rw [Int.toNat_of_nonneg h0]; exact ht) (by omega)
theorem rch_mono (s : List (List Int)) (d : Int) {x : Nat} (h : Rch s d x) (hv : ∀ l ∈ s, ∀ t ∈ l, 0 ≤ t ∧ t < (s.length : Int)) : Rch s (-1) x := by
  induction h with
  | start h1 _ => exact .start h1 (by omega)
  | go k t _ ht hne ih => exact .go k t ih ht (by have := (hv _ (getD_mem ht).2 t ht).1; omega)
theorem rch_lt (s : List (List Int)) (d : Int) (hv : ∀ l ∈ s, ∀ t ∈ l, 0 ≤ t ∧ t < (s.length : Int)) {x : Nat} (h : Rch s d x) : x < s.length := by
  cases h with
  | start h1 _ => exact List.length_pos_iff.2 h1
  | go k t _ ht hne => have := hv _ (getD_mem ht).2 t ht; omega
theorem ord_mem (s : List (List Int)) (hs : s.length ≤ 40) (hv : ∀ l ∈ s, ∀ t ∈ l, 0 ≤ t ∧ t < (s.length : Int)) (x : Nat) : (x : Int) ∈ ordL s ↔ Rch s (-1) x := by
  have O := ordered_of s hs hv
  have hr := gtAll_iff s (-1) hv x
  constructor
  · intro h
    have := (O.in_ _ h).2.2
    exact hr.1 (by simpa using this)
  · intro h
    have h1 := hr.2 h
    have hsub : ∀ y ∈ ordL s, y ∈ ((List.range (gtAll s (-1)).1.length).filter (fun i => (gtAll s (-1)).1.getD i false)).map (fun i : Nat => (i : Int)) := by
      intro y hy
      obtain ⟨a, b, c⟩ := O.in_ y hy
      exact List.mem_map.2 ⟨y.toNat, List.mem_filter.2 ⟨List.mem_range.2 (by omega), c⟩, by omega⟩
    have hcnt : ((List.range (gtAll s (-1)).1.length).filter (fun i => (gtAll s (-1)).1.getD i false)).length = (gtAll s (-1)).1.count true := by
      generalize (gtAll s (-1)).1 = R
      induction R with
      | nil => rfl
      | cons b R ih =>
        rw [List.length_cons, List.range_succ_eq_map, List.filter_cons, List.filter_map, List.count_cons]
        have e : (fun i => (b :: R).getD i false) ∘ Nat.succ = fun i => R.getD i false := rfl
        cases b
        · simp only [List.getD_cons_zero, Bool.false_eq_true, if_false, List.length_map, e]
          rw [ih]; rfl
        · simp only [List.getD_cons_zero, if_true, List.length_cons, List.length_map, e]
          rw [ih]; rfl
    by_cases hx : (x : Int) ∈ ordL s
    · exact hx
    · exfalso
      have hnd : (((x : Int)) :: ordL s).Nodup := List.nodup_cons.2 ⟨hx, O.once⟩
      have hle := nodup_le hnd (r := ((List.range (gtAll s (-1)).1.length).filter (fun i => (gtAll s (-1)).1.getD i false)).map (fun i : Nat => (i : Int))) (by
        intro y hy
        rcases List.mem_cons.1 hy with rfl | hy
        · refine List.mem_map.2 ⟨x, List.mem_filter.2 ⟨List.mem_range.2 ?_, h1⟩, rfl⟩
          have := rch_lt s (-1) hv h
          rw [gtAll_len]; exact this
        · exact hsub y hy)
      rw [List.length_map, hcnt, O.num, List.length_cons] at hle
      have : (gtAll s (-1)).2.reverse.length = (ordL s).length := rfl
      omega
theorem ord_zero (s : List (List Int)) (hs : s.length ≤ 40) (hv : ∀ l ∈ s, ∀ t ∈ l, 0 ≤ t ∧ t < (s.length : Int)) (hne : s ≠ []) : ∃ (h : 0 < (ordL s).length), (ordL s)[0] = 0 := by
  have h0 : (((0 : Nat) : Int)) ∈ ordL s := (ord_mem s hs hv 0).2 (.start hne (by omega))
  have hp : 0 < (ordL s).length := List.length_pos_of_mem h0
  exact ⟨hp, ((ordered_of s hs hv).zero 0 hp).1 rfl⟩
theorem idx_at {L : List Int} (hn : L.Nodup) (i : Nat) (h : i < L.length) : L.idxOf L[i] = i := by
  have hm : L[i] ∈ L := List.getElem_mem h
  have h1 := List.idxOf_lt_length_of_mem hm
  have h2 := List.getElem_idxOf h1
  rcases Nat.lt_trichotomy (L.idxOf L[i]) i with h3 | h3 | h3
  · exact absurd h2 ((List.pairwise_iff_getElem.1 hn) _ i h1 h h3)
  · exact h3
  · exact absurd h2.symm ((List.pairwise_iff_getElem.1 hn) i _ h h1 h3)
theorem idx_inj {L : List Int} {x y : Int} (hx : x ∈ L) (hy : y ∈ L) (h : L.idxOf x = L.idxOf y) : x = y := by
  have h1 := List.getElem_idxOf (List.idxOf_lt_length_of_mem hx)
  have h2 := List.getElem_idxOf (List.idxOf_lt_length_of_mem hy)
  rw [← h1, ← h2]
  simp only [h]
theorem gr_of (s : List (List Int)) (hs : s.length ≤ 40) (hv : ∀ l ∈ s, ∀ t ∈ l, 0 ≤ t ∧ t < (s.length : Int)) (hne : s ≠ []) : Gr (Ed s) (Rch s (-1)) (Pl s) := by
  have O := ordered_of s hs hv
  obtain ⟨hp, hz⟩ := ord_zero s hs hv hne
  have hz0 : Pl s 0 = 0 := by
    have h1 := idx_at (L := ordL s) O.once 0 hp
    rw [hz] at h1
    exact h1
  refine ⟨.start hne (by omega), ?_, ?_, ?_, ?_⟩
  · intro k hk h0
    rw [hz0]
    rcases Nat.eq_zero_or_pos (Pl s k) with h | h
    · have := idx_inj ((ord_mem s hs hv k).2 hk) ((ord_mem s hs hv 0).2 (.start hne (by omega))) (show Pl s k = Pl s 0 by rw [h, hz0])
      omega
    · exact h
  · intro a b ha hb h
    have := idx_inj ((ord_mem s hs hv a).2 ha) ((ord_mem s hs hv b).2 hb) h
    omega
  · intro y x hy he
    have := Rch.go y (x : Int) hy he (by omega)
    simpa using this
  · intro k hk h0
    have hm := (ord_mem s hs hv k).2 hk
    have hlt := List.idxOf_lt_length_of_mem hm
    have hat := List.getElem_idxOf hlt
    have hi0 : (ordL s).idxOf (k : Int) ≠ 0 := by
      intro e
      have := idx_inj hm ((ord_mem s hs hv 0).2 (.start hne (by omega))) (show Pl s k = Pl s 0 by rw [hz0]; exact e)
      omega
    obtain ⟨y, hy1, hy2⟩ : ∃ y ∈ rd_L2 (prV s s.length) ((ordL s)[(ordL s).idxOf (k : Int)]'hlt), y ∈ (ordL s).take ((ordL s).idxOf (k : Int)) := O.led _ hlt hi0
    have hym : y ∈ ordL s := List.mem_of_mem_take hy2
    obtain ⟨a, b, c⟩ := O.in_ y hym
    rw [hat, prV_at s _ (by omega) (by have := rch_lt s (-1) hv hk; omega), prRow_mem] at hy1
    refine ⟨y.toNat, (ord_mem s hs hv y.toNat).1 (by rw [Int.toNat_of_nonneg a]; exact hym), by have h_ := hy1.2.2; unfold Ed; simpa using h_, ?_⟩
    obtain ⟨j, hj, e⟩ := List.mem_iff_getElem.1 hy2
    rw [List.length_take] at hj
    rw [List.getElem_take] at e
    have : Pl s y.toNat = j := by
      unfold Pl
      rw [Int.toNat_of_nonneg a, ← e]
      exact idx_at (L := ordL s) O.once j (by omega)
    rw [this]
    show j < (ordL s).idxOf (k : Int)
    omega
theorem rdN (l : List Int) (i : Nat) : rd l (i : Int) = l.getD i 0 := rfl
def Dn (x10 : List Bool) (x : Nat) : Prop := x10.getD x false = true
structure Rp (s : List (List Int)) (x5 x6 : List Int) (x10 : List Bool) (T : Nat → Nat) : Prop where
  l5 : x5.length = s.length
  l6 : x6.length = s.length
  l10 : x10.length = s.length
  tree : ∀ x, Dn x10 x → x ≠ 0 → x5.getD x 0 = (T x : Int)
  place : ∀ x, Rch s (-1) x → x6.getD x 0 = (Pl s x : Int)
  out : ∀ x, x < s.length → ¬ Rch s (-1) x → x6.getD x 0 < 0
  none_ : ∀ x, x < s.length → (x = 0 ∨ ¬ Rch s (-1) x) → x5.getD x 0 = -1
theorem meet_ev {s : List (List Int)} (hs : s.length ≤ 40) (hv : ∀ l ∈ s, ∀ t ∈ l, 0 ≤ t ∧ t < (s.length : Int)) (hne : s ≠ []) {x5 x6 : List Int} {x10 : List Bool} {T : Nat → Nat} (rp : Rp s x5 x6 x10 T) (tr : Tr (Ed s) (Rch s (-1)) (Pl s) (Dn x10) T) : ∀ (m a b : Nat), Pl s a + Pl s b ≤ m → Dn x10 a → Dn x10 b → ∃ c : Nat, Ev (fun k => dom_meet.l0 k x5 x6 (a : Int) (b : Int)) (c : Int) ∧ Dn x10 c ∧ ∀ y, Ch T c y ↔ Ch T a y ∧ Ch T b y := by
  have g := gr_of s hs hv hne
  intro m
  induction m with
  | zero =>
    intro a b hm ha hb
    have e : a = b := g.inj a b (tr.dr a ha) (tr.dr b hb) (by omega)
    subst e
    exact ⟨a, Ev.step (fun k => by rw [dom_meet.l0, if_pos rfl]) (Ev.now _), ha, fun y => (and_self_iff).symm⟩
  | succ m ih =>
    intro a b hm ha hb
    by_cases e : a = b
    · subst e
      exact ⟨a, Ev.step (fun k => by rw [dom_meet.l0, if_pos rfl]) (Ev.now _), ha, fun y => (and_self_iff).symm⟩
    have hra := tr.dr a ha
    have hrb := tr.dr b hb
    have hla := rch_lt s (-1) hv hra
    have hlb := rch_lt s (-1) hv hrb
    have hpa := rp.place a hra
    have hpb := rp.place b hrb
    have h6 := rp.l6
    have h5 := rp.l5
    have hP : Pl s a ≠ Pl s b := fun h => e (g.inj a b hra hrb h)
    by_cases hgt : Pl s b < Pl s a
    · have ha0 : a ≠ 0 := by
        rintro rfl
        have := g.p0 b hrb (fun h => e h.symm)
        omega
      have hp := tr.par a ha ha0
      obtain ⟨c, hc, hcd, hcm⟩ := ih (T a) b (by omega) hp.1 hb
      refine ⟨c, Ev.step (fun k => ?_) hc, hcd, fun y => ?_⟩
      · rw [dom_meet.l0, if_neg (by omega), if_pos (by omega), if_pos (by omega), if_pos (by omega), if_pos (by omega), if_pos (by rw [rdN, rdN, hpa, hpb]; omega), if_pos (by omega), rdN, rp.tree a ha ha0]
      · rw [hcm y]
        refine and_congr_left fun hy => ?_
        have hyb := (hy.done tr hb).2
        exact ⟨fun h => .up ha0 h, fun h => (h.cases' (by rintro rfl; omega)).2⟩
    · have hb0 : b ≠ 0 := by
        rintro rfl
        have := g.p0 a hra (fun h => e h)
        omega
      have hp := tr.par b hb hb0
      obtain ⟨c, hc, hcd, hcm⟩ := ih a (T b) (by omega) ha hp.1
      refine ⟨c, Ev.step (fun k => ?_) hc, hcd, fun y => ?_⟩
      · rw [dom_meet.l0, if_neg (by omega), if_pos (by omega), if_pos (by omega), if_pos (by omega), if_pos (by omega), if_neg (by rw [rdN, rdN, hpa, hpb]; omega), if_pos (by omega), rdN, rp.tree b hb hb0]
      · rw [hcm y]
        refine and_congr_right fun hy => ?_
        have hya := (hy.done tr ha).2
        exact ⟨fun h => .up hb0 h, fun h => (h.cases' (by rintro rfl; omega)).2⟩
def Acc (T : Nat → Nat) (x10 : List Bool) (ps : List Int) (x14 : Int) : Prop :=
  (x14 = -1 ∧ ∀ p ∈ ps, ¬ Dn x10 p.toNat) ∨ ∃ c : Nat, x14 = (c : Int) ∧ Dn x10 c ∧ (∃ p ∈ ps, Dn x10 p.toNat) ∧ ∀ y, Ch T c y ↔ ∀ p ∈ ps, Dn x10 p.toNat → Ch T p.toNat y
theorem l4_ev {s : List (List Int)} (hs : s.length ≤ 40) (hv : ∀ l ∈ s, ∀ t ∈ l, 0 ≤ t ∧ t < (s.length : Int)) (hne : s ≠ []) {x5 x6 : List Int} {x10 : List Bool} {T : Nat → Nat} (rp : Rp s x5 x6 x10 T) (tr : Tr (Ed s) (Rch s (-1)) (Pl s) (Dn x10) T) (L : List Int) (pr : List (List Int)) (x11 : Bool) (q : Nat) (x62 : List Int) (x63 x64 : Int) (ps : List Int) (hq : q < s.length) (hps : ps.length < 1000) (hpv : ∀ p ∈ ps, 0 ≤ p ∧ p < (s.length : Int)) :
    ∀ d j x14, ps.length - j = d → j ≤ ps.length → Acc T x10 (ps.take j) x14 → ∃ y, Acc T x10 ps y ∧ ∀ r, Ev (fun k => dom_Tree.l3 k L pr (x5.set q y) x6 (x10.set q true) (x11 || (y != x5.getD q 0)) x62 x63 (wrap64 (x64 + 1))) r → Ev (fun k => dom_Tree.l4 k L pr x5 x6 x10 x11 (q : Int) x14 x62 x63 x64 ps (ps.length : Int) (j : Int)) r := by
  have h6 := rp.l6
  have h5 := rp.l5
  have h10 := rp.l10
  intro d
  induction d with
  | zero =>
    intro j x14 hd hj hacc
    rw [List.take_of_length_le (by omega)] at hacc
    refine ⟨x14, hacc, fun r hE => ?_⟩
    refine Ev.step (f := fun k => dom_Tree.l3 k L pr (x5.set q x14) x6 (x10.set q true) (x11 || (x14 != x5.getD q 0)) x62 x63 (wrap64 (x64 + 1))) (fun k => ?_) hE
    rw [dom_Tree.l4, if_neg (by omega)]
    cases x11 with
    | true => rw [if_pos rfl, if_pos (by omega), if_pos (by omega), if_pos (by omega)]; rfl
    | false => rw [if_neg (by simp), if_pos (by omega), if_pos (by omega), if_pos (by omega), rdN, Bool.false_or]; rfl
  | succ d ih =>
    intro j x14 hd hj hacc
    have hlt : j < ps.length := by omega
    have hrd : rd ps (j : Int) = ps[j] := rd_nat ps j hlt
    obtain ⟨hp0, hp1⟩ := hpv ps[j] (List.getElem_mem hlt)
    obtain ⟨p, hp⟩ : ∃ p : Nat, ps[j] = (p : Int) := ⟨ps[j].toNat, by omega⟩
    rw [hp] at hrd hp0 hp1
    have htk : ps.take (j + 1) = ps.take j ++ [(p : Int)] := by rw [List.take_succ_eq_append_getElem hlt, hp]
    have hrd10 : rdOf false x10 (p : Int) = x10.getD p false := rfl
    have hrd6 : rd x6 (p : Int) = x6.getD p 0 := rfl
    by_cases hD : Dn x10 p
    · have hR := tr.dr p hD
      have hpl := rp.place p hR
      have body : ∀ k, dom_Tree.l4 (k + 2) L pr x5 x6 x10 x11 (q : Int) x14 x62 x63 x64 ps (ps.length : Int) (j : Int) = if x14 < 0 then dom_Tree.l4 k L pr x5 x6 x10 x11 (q : Int) (p : Int) x62 x63 x64 ps (ps.length : Int) (wrap64 ((j : Int) + 1)) else (dom_meet.f k x5 x6 x14 (p : Int)).bind fun t => dom_Tree.l4 k L pr x5 x6 x10 x11 (q : Int) t x62 x63 x64 ps (ps.length : Int) (wrap64 ((j : Int) + 1)) := by
        intro k
        rw [dom_Tree.l4, if_pos (by omega), if_pos (by omega), if_pos (by omega), hrd, if_pos hp0, if_pos (by omega), hrd6, if_neg (by rw [hpl]; omega), if_pos (by omega), hrd10, show x10.getD p false = true from hD, dom_Tree.j5, if_neg (by simp)]
      rcases hacc with ⟨rfl, hno⟩ | ⟨c, rfl, hcd, hex, hcm⟩
      · obtain ⟨y_, hy_, hE_⟩ := ih (j + 1) (p : Int) (by omega) (by omega) (.inr ⟨p, rfl, hD, ⟨p, by rw [htk]; simp, by simpa using hD⟩, fun y => by
          rw [htk]
          constructor
          · intro h z hz hzd
            rcases List.mem_append.1 hz with h1 | h1
            · exact absurd hzd (hno z h1)
            · rw [List.mem_singleton.1 h1]; simpa using h
          · intro h
            simpa using h (p : Int) (by simp) (by simpa using hD)⟩)
        refine ⟨y_, hy_, fun r hr => ?_⟩
        obtain ⟨K, hK⟩ := hE_ r hr
        refine ⟨K + 2, fun n hn => ?_⟩
        obtain ⟨m, rfl⟩ : ∃ m, n = m + 2 := ⟨n - 2, by omega⟩
        show dom_Tree.l4 (m + 2) L pr x5 x6 x10 x11 (q : Int) (-1) x62 x63 x64 ps (ps.length : Int) (j : Int) = some r
        rw [body m, if_pos (by omega), wrap_succ j (by omega)]
        exact hK m (by omega)
      · obtain ⟨c2, hc2, hc2d, hc2m⟩ := meet_ev hs hv hne rp tr (Pl s c + Pl s p) c p (Nat.le_refl _) hcd hD
        obtain ⟨y_, hy_, hE_⟩ := ih (j + 1) (c2 : Int) (by omega) (by omega) (.inr ⟨c2, rfl, hc2d, ⟨p, by rw [htk]; simp, by simpa using hD⟩, fun y => by
          rw [hc2m y, hcm y, htk]
          constructor
          · rintro ⟨h1, h2⟩ z hz hzd
            rcases List.mem_append.1 hz with h3 | h3
            · exact h1 z h3 hzd
            · rw [List.mem_singleton.1 h3]; simpa using h2
          · intro h
            exact ⟨fun z hz hzd => h z (List.mem_append_left _ hz) hzd, by simpa using h (p : Int) (by simp) (by simpa using hD)⟩⟩)
        refine ⟨y_, hy_, fun r hr => ?_⟩
        obtain ⟨K, hK⟩ := hE_ r hr
        obtain ⟨K2, hK2⟩ := hc2
        refine ⟨max K K2 + 2, fun n hn => ?_⟩
        obtain ⟨m, rfl⟩ : ∃ m, n = m + 2 := ⟨n - 2, by omega⟩
        have e2 : dom_meet.f m x5 x6 (c : Int) (p : Int) = some (c2 : Int) := hK2 m (by omega)
        show dom_Tree.l4 (m + 2) L pr x5 x6 x10 x11 (q : Int) (c : Int) x62 x63 x64 ps (ps.length : Int) (j : Int) = some r
        rw [body m, if_neg (by omega), e2, wrap_succ j (by omega)]
        exact hK m (by omega)
    · obtain ⟨y_, hy_, hE_⟩ := ih (j + 1) x14 (by omega) (by omega) (by
        rcases hacc with ⟨rfl, hno⟩ | ⟨c, rfl, hcd, ⟨z0, hz0, hz0d⟩, hcm⟩
        · refine .inl ⟨rfl, fun z hz => ?_⟩
          rw [htk] at hz
          rcases List.mem_append.1 hz with h1 | h1
          · exact hno z h1
          · rw [List.mem_singleton.1 h1]; simpa using hD
        · refine .inr ⟨c, rfl, hcd, ⟨z0, by rw [htk]; exact List.mem_append_left _ hz0, hz0d⟩, fun y => ?_⟩
          rw [hcm y, htk]
          constructor
          · intro h z hz hzd
            rcases List.mem_append.1 hz with h3 | h3
            · exact h z h3 hzd
            · rw [List.mem_singleton.1 h3] at hzd; exact absurd (by simpa using hzd) hD
          · exact fun h z hz hzd => h z (List.mem_append_left _ hz) hzd)
      refine ⟨y_, hy_, fun r hr => ?_⟩
      obtain ⟨K, hK⟩ := hE_ r hr
      refine ⟨K + 2, fun n hn => ?_⟩
      obtain ⟨m, rfl⟩ : ∃ m, n = m + 2 := ⟨n - 2, by omega⟩
      have hf : x10.getD p false = false := by
        cases h : x10.getD p false with
        | true => exact absurd h hD
        | false => rfl
      have body : dom_Tree.l4 (m + 2) L pr x5 x6 x10 x11 (q : Int) x14 x62 x63 x64 ps (ps.length : Int) (j : Int) = dom_Tree.l4 m L pr x5 x6 x10 x11 (q : Int) x14 x62 x63 x64 ps (ps.length : Int) (wrap64 ((j : Int) + 1)) := by
        rw [dom_Tree.l4, if_pos (by omega), if_pos (by omega), if_pos (by omega), hrd, if_pos hp0, if_pos (by omega)]
        by_cases hpl : rd x6 (p : Int) < 0
        · rw [if_pos hpl, dom_Tree.j5, if_pos rfl]
        · rw [if_neg hpl, if_pos (by omega), hrd10, hf, dom_Tree.j5, if_pos (by decide)]
      show dom_Tree.l4 (m + 2) L pr x5 x6 x10 x11 (q : Int) x14 x62 x63 x64 ps (ps.length : Int) (j : Int) = some r
      rw [body, wrap_succ j (by omega)]
      exact hK m (by omega)
theorem getD_setB (l : List Bool) (i x : Nat) (hi : i < l.length) : Dn (l.set i true) x ↔ Dn l x ∨ x = i := by
  unfold Dn
  rw [getD_set]
  constructor
  · rintro (⟨h, _⟩ | h)
    · exact .inr h
    · exact .inl h
  · rintro (h | h)
    · exact .inr h
    · exact .inl ⟨h, hi⟩
theorem Tr.congr {E : Nat → Nat → Prop} {R : Nat → Prop} {P : Nat → Nat} {D D' : Nat → Prop} {T : Nat → Nat} (t : Tr E R P D T) (h : ∀ x, D x ↔ D' x) : Tr E R P D' T := by
  have e : D = D' := funext fun x => propext (h x)
  exact e ▸ t
theorem put_rep {s : List (List Int)} (hs : s.length ≤ 40) (hv : ∀ l ∈ s, ∀ t ∈ l, 0 ≤ t ∧ t < (s.length : Int)) (hne : s ≠ []) {x5 x6 : List Int} {x10 : List Bool} {T : Nat → Nat} (rp : Rp s x5 x6 x10 T) {q c : Nat} (hq : Rch s (-1) q) (hq0 : q ≠ 0) : Rp s (x5.set q (c : Int)) x6 (x10.set q true) (setT T q c) := by
  have hql := rch_lt s (-1) hv hq
  refine ⟨by rw [List.length_set]; exact rp.l5, rp.l6, by rw [List.length_set]; exact rp.l10, ?_, rp.place, rp.out, ?_⟩
  · intro x hx hx0
    rw [getD_setI _ _ _ _ (by rw [rp.l5]; exact hql)]
    by_cases e : x = q
    · subst e; rw [if_pos rfl, setT_same]
    · rw [if_neg e, setT_other T e]
      rcases (getD_setB _ _ _ (by rw [rp.l10]; exact hql)).1 hx with h | h
      · exact rp.tree x h hx0
      · exact absurd h e
  · intro x hx h
    have e : x ≠ q := by
      rintro rfl
      rcases h with h | h
      · exact hq0 h
      · exact h hq
    rw [getD_setI _ _ _ _ (by rw [rp.l5]; exact hql), if_neg e]
    exact rp.none_ x hx h
theorem acc_meet {s : List (List Int)} (hs : s.length ≤ 40) (hv : ∀ l ∈ s, ∀ t ∈ l, 0 ≤ t ∧ t < (s.length : Int)) (hne : s ≠ []) {x5 x6 : List Int} {x10 : List Bool} {T : Nat → Nat} (tr : Tr (Ed s) (Rch s (-1)) (Pl s) (Dn x10) T) {q : Nat} (hq : Rch s (-1) q) {x14 : Int} (hacc : Acc T x10 (prRow s s.length q) x14) (hex : ∃ p, Pd (Ed s) (Dn x10) q p) :
    ∃ c : Nat, x14 = (c : Int) ∧ Dn x10 c ∧ Meet T (Pd (Ed s) (Dn x10) q) c := by
  have hmem : ∀ p : Nat, Ed s p q → (p : Int) ∈ prRow s s.length q := fun p hp => (prRow_mem s s.length q _).2 ⟨by omega, by have := (getD_mem hp).1; omega, by have h_ := hp; unfold Ed at h_; simpa using h_⟩
  rcases hacc with ⟨_, hno⟩ | ⟨c, rfl, hcd, _, hcm⟩
  · obtain ⟨p, hp1, hp2⟩ := hex
    exact absurd (by simpa using hp2) (hno p (hmem p hp1))
  · refine ⟨c, rfl, hcd, fun y => ?_⟩
    rw [hcm y]
    constructor
    · intro h p hp
      have := h p (hmem p hp.1) (by simpa using hp.2)
      simpa using this
    · intro h p hp hpd
      obtain ⟨a, b, e⟩ := (prRow_mem s s.length q p).1 hp
      exact h p.toNat ⟨e, hpd⟩
def od (s : List (List Int)) : List Int := (ordL s).drop 1
theorem od_at {s : List (List Int)} (hs : s.length ≤ 40) (hv : ∀ l ∈ s, ∀ t ∈ l, 0 ≤ t ∧ t < (s.length : Int)) (hne : s ≠ []) (i : Nat) (hi : i < (od s).length) : ∃ q : Nat, (od s)[i] = (q : Int) ∧ Rch s (-1) q ∧ q ≠ 0 ∧ Pl s q = i + 1 := by
  have O := ordered_of s hs hv
  unfold od at hi ⊢
  rw [List.length_drop] at hi
  have h1 : 1 + i < (ordL s).length := by omega
  rw [List.getElem_drop]
  obtain ⟨a, b, c⟩ := O.in_ _ (List.getElem_mem (l := ordL s) h1)
  refine ⟨((ordL s)[1 + i]).toNat, by omega, ?_, ?_, ?_⟩
  · exact (ord_mem s hs hv _).1 (by rw [Int.toNat_of_nonneg a]; exact List.getElem_mem h1)
  · intro e
    have := (O.zero (1 + i) h1).2 (show (ordL s)[1 + i] = 0 by omega)
    omega
  · unfold Pl
    rw [Int.toNat_of_nonneg a]
    have := idx_at (L := ordL s) O.once (1 + i) h1
    omega
structure One {s : List (List Int)} (x5 x6 : List Int) (x10 : List Bool) (T : Nat → Nat) (i : Nat) : Prop where
  rp : Rp s x5 x6 x10 T
  tr : Tr (Ed s) (Rch s (-1)) (Pl s) (Dn x10) T
  dn : ∀ x, Dn x10 x ↔ Rch s (-1) x ∧ Pl s x ≤ i
  nh : Nh (Ed s) (Pl s) (Dn x10) T
  la : ∀ k, Dn x10 k → k ≠ 0 → La (Ed s) (Pl s) (Dn x10) T k
  un : ∀ x, x < s.length → ¬ Dn x10 x → x5.getD x 0 = -1
theorem One.step {s : List (List Int)} (hs : s.length ≤ 40) (hv : ∀ l ∈ s, ∀ t ∈ l, 0 ≤ t ∧ t < (s.length : Int)) (hne : s ≠ []) {x5 x6 : List Int} {x10 : List Bool} {T : Nat → Nat} {i : Nat} (o : One (s := s) x5 x6 x10 T i) {q : Nat} (hq : Rch s (-1) q) (hq0 : q ≠ 0) (hqi : Pl s q = i + 1) {c : Nat} (hm : Meet T (Pd (Ed s) (Dn x10) q) c) : One (s := s) (x5.set q (c : Int)) x6 (x10.set q true) (setT T q c) (i + 1) := by
  have g := gr_of s hs hv hne
  have hql := rch_lt s (-1) hv hq
  have hB := fun x => getD_setB x10 q x (by rw [o.rp.l10]; exact hql)
  have hnq : ¬ Dn x10 q := fun h => by have := ((o.dn q).1 h).2; omega
  obtain ⟨p, hpr, hpe, hpl⟩ := g.ahead q hq hq0
  have hpd : Dn x10 p := (o.dn p).2 ⟨hpr, by omega⟩
  obtain ⟨t', hcd, hck⟩ := Tr.put g o.tr hq hq0 hm ⟨p, ⟨hpe, hpd⟩, hpl⟩
  have low : ∀ a y, Dn x10 a → (Ch (setT T q c) a y ↔ Ch T a y) := by
    intro a y ha
    have hla : Pl s a < Pl s q := by have := ((o.dn a).1 ha).2; omega
    constructor
    · intro h
      induction h with
      | refl => exact .refl _
      | @up a b h0 h1 ih =>
        have hne : a ≠ q := by rintro rfl; exact hnq ha
        rw [setT_other T hne] at ih h1
        have hp := o.tr.par a ha h0
        exact .up h0 (ih hp.1 (by omega))
    · intro h
      exact h.lower o.tr ha hla
  refine ⟨put_rep hs hv hne o.rp hq hq0, t'.congr (fun x => (hB x).symm), fun x => ?_, ?_, ?_, fun x hx hnx => ?_⟩
  · rw [hB x, o.dn x]
    constructor
    · rintro (⟨h1, h2⟩ | rfl)
      · exact ⟨h1, by omega⟩
      · exact ⟨hq, by omega⟩
    · rintro ⟨h1, h2⟩
      by_cases h : Pl s x ≤ i
      · exact .inl ⟨h1, h⟩
      · exact .inr (g.inj x q h1 hq (by omega))
  · intro k hk hk0 y hy
    have hy' : ∀ z, Pd (Ed s) (Dn x10) k z → Ch T z y := fun z hz => (low z y hz.2).1 (hy z ⟨hz.1, (hB z).2 (.inl hz.2)⟩)
    by_cases e : k = q
    · subst e
      rw [setT_same]
      exact (((hm y).2 hy').done o.tr hcd).2
    · rw [setT_other T e]
      rcases (hB k).1 hk with h | h
      · exact o.nh k h hk0 y hy'
      · exact absurd h e
  · intro k hk hk0 z hz hzk
    have hzq : z ≠ q := by
      rintro rfl
      rcases (hB k).1 hk with h | h
      · have := ((o.dn k).1 h).2; omega
      · rw [h] at hzk; omega
    have hzd : Dn x10 z := by
      rcases (hB z).1 hz.2 with h | h
      · exact h
      · exact absurd h hzq
    by_cases e : k = q
    · subst e
      rw [setT_same]
      exact (low z c hzd).2 ((hm c).1 (.refl c) z ⟨hz.1, hzd⟩)
    · rw [setT_other T e]
      rcases (hB k).1 hk with h | h
      · exact (low z (T k) hzd).2 (o.la k h hk0 z ⟨hz.1, hzd⟩ hzk)
      · exact absurd h e
  · have e : x ≠ q := fun e => hnx ((hB x).2 (.inr e))
    rw [getD_setI _ _ _ _ (by rw [o.rp.l5]; exact hql), if_neg e]
    exact o.un x hx (fun h => hnx ((hB x).2 (.inl h)))
def msr (s : List (List Int)) (T : Nat → Nat) : Nat := ((List.range s.length).map (fun x => Pl s (T x))).sum
theorem msr_set {s : List (List Int)} (hs : s.length ≤ 40) (hv : ∀ l ∈ s, ∀ t ∈ l, 0 ≤ t ∧ t < (s.length : Int)) (hne : s ≠ []) (T : Nat → Nat) (q c : Nat) (hq : q < s.length) : msr s (setT T q c) + Pl s (T q) = msr s T + Pl s c := by
  unfold msr
  have key : ∀ l : List Nat, l.Nodup → q ∈ l → (l.map (fun x => Pl s (setT T q c x))).sum + Pl s (T q) = (l.map (fun x => Pl s (T x))).sum + Pl s c := by
    intro l
    induction l with
    | nil => intro _ h; cases h
    | cons a l ih =>
      intro hn hm
      obtain ⟨h1, h2⟩ := List.nodup_cons.1 hn
      simp only [List.map_cons, List.sum_cons]
      by_cases e : a = q
      · subst e
        rw [setT_same]
        have : l.map (fun x => Pl s (setT T a c x)) = l.map (fun x => Pl s (T x)) := List.map_congr_left fun x hx => by rw [setT_other T (by rintro rfl; exact h1 hx)]
        rw [this]
        omega
      · rw [setT_other T e]
        have := ih h2 ((List.mem_cons.1 hm).resolve_left (fun h => e h.symm))
        omega
  exact key _ List.nodup_range (List.mem_range.2 hq)
structure Two {s : List (List Int)} (T1 : Nat → Nat) (x5 x6 : List Int) (x10 : List Bool) (x11 : Bool) (T : Nat → Nat) (i : Nat) : Prop where
  rp : Rp s x5 x6 x10 T
  dn : ∀ x, Dn x10 x ↔ Rch s (-1) x
  tr : Tr (Ed s) (Rch s (-1)) (Pl s) (Dn x10) T
  nh : Nh (Ed s) (Pl s) (Dn x10) T
  la : ∀ k, Dn x10 k → k ≠ 0 → Pl s k ≤ i → La (Ed s) (Pl s) (Dn x10) T k
  mi : Mi (Pl s) (Dn x10) T1 T
  same : ∀ a, Dn x10 a → i < Pl s a → T a = T1 a
  less : msr s T ≤ msr s T1 ∧ (x11 = true → msr s T < msr s T1)
  fix : x11 = false → ∀ k, Dn x10 k → k ≠ 0 → Pl s k ≤ i → Meet T (Pd (Ed s) (Dn x10) k) (T k)
  eqs : x11 = false → T = T1
theorem Two.step {s : List (List Int)} (hs : s.length ≤ 40) (hv : ∀ l ∈ s, ∀ t ∈ l, 0 ≤ t ∧ t < (s.length : Int)) (hne : s ≠ []) {T1 : Nat → Nat} {x5 x6 : List Int} {x10 : List Bool} {x11 : Bool} {T : Nat → Nat} {i : Nat} (t1 : Tr (Ed s) (Rch s (-1)) (Pl s) (Rch s (-1)) T1) (l1 : ∀ k, Rch s (-1) k → k ≠ 0 → La (Ed s) (Pl s) (Rch s (-1)) T1 k)
    (o : Two (s := s) T1 x5 x6 x10 x11 T i) {q : Nat} (hq : Rch s (-1) q) (hq0 : q ≠ 0) (hqi : Pl s q = i + 1) {c : Nat} (hm : Meet T (Pd (Ed s) (Dn x10) q) c) : Two (s := s) T1 (x5.set q (c : Int)) x6 (x10.set q true) (x11 || ((c : Int) != x5.getD q 0)) (setT T q c) (i + 1) := by
  have g := gr_of s hs hv hne
  have hql := rch_lt s (-1) hv hq
  have hB := fun x => getD_setB x10 q x (by rw [o.rp.l10]; exact hql)
  have hqd : Dn x10 q := (o.dn q).2 hq
  have hD : Dn (x10.set q true) = Dn x10 := funext fun x => propext ⟨fun h => ((hB x).1 h).elim id (fun e => e ▸ hqd), fun h => (hB x).2 (.inl h)⟩
  have hDR : Dn x10 = Rch s (-1) := funext fun x => propext (o.dn x)
  obtain ⟨p, hpr, hpe, hpl⟩ := g.ahead q hq hq0
  have hpd : Pd (Ed s) (Dn x10) q p := ⟨hpe, (o.dn p).2 hpr⟩
  obtain ⟨t0, hcd, hck⟩ := Tr.put g o.tr hq hq0 hm ⟨p, hpd, hpl⟩
  have t' : Tr (Ed s) (Rch s (-1)) (Pl s) (Dn x10) (setT T q c) := t0.congr fun x => ⟨fun h => h.elim id (fun e => e ▸ hqd), .inl⟩
  have hTq : T q = T1 q := o.same q hqd (by omega)
  have hla : Ch T1 p (T q) := by rw [hTq]; exact l1 q hq hq0 p ⟨hpe, hpr⟩ hpl
  have hc : Ch T (T q) c := new_on o.tr hqd hq0 hm hpd hla o.mi o.nh
  have hpar := o.tr.par q hqd hq0
  have hle : Pl s c ≤ Pl s (T q) := (hc.done o.tr hpar.1).2
  have htree := o.rp.tree q hqd hq0
  have hset := msr_set hs hv hne T q c hql
  have t1' : Tr (Ed s) (Rch s (-1)) (Pl s) (Dn x10) T1 := hDR ▸ t1
  have hrp := put_rep hs hv hne (c := c) o.rp hq hq0
  have hsm : c = T q → setT T q c = T := fun e => by
    funext x
    by_cases h : x = q
    · subst h; rw [setT_same, e]
    · rw [setT_other T h]
  have hflag : (x11 || ((c : Int) != x5.getD q 0)) = false → x11 = false ∧ c = T q := by
    intro h
    rw [Bool.or_eq_false_iff] at h
    refine ⟨h.1, ?_⟩
    have h2 := h.2
    rw [htree] at h2
    have : ¬ ((c : Int) ≠ (T q : Int)) := fun hn => by simp [hn] at h2
    omega
  refine ⟨hrp, fun x => by rw [hD]; exact o.dn x, by rw [hD]; exact t', by rw [hD]; exact nh_put hq0 hm o.tr hcd hc o.nh, ?_, by rw [hD]; exact mi_put g o.tr t1' hqd hq0 t' hcd hck hc (fun a ha hl => o.same a ha (by omega)) o.mi, ?_, ?_, ?_, ?_⟩
  · rw [hD]
    intro k hk hk0 hki z hz hzk
    by_cases e : k = q
    · subst e
      rw [setT_same]
      exact ((hm c).1 (.refl c) z hz).lower o.tr hz.2 hzk
    · rw [setT_other T e]
      have hkl : Pl s k ≤ i := by
        have : Pl s k ≠ Pl s q := fun h => e (g.inj k q ((o.dn k).1 hk) hq h)
        omega
      exact (o.la k hk hk0 hkl z hz hzk).lower o.tr hz.2 (by omega)
  · rw [hD]
    intro a ha hl
    have hne : a ≠ q := by rintro rfl; omega
    rw [setT_other T hne]
    exact o.same a ha (by omega)
  · refine ⟨by have := o.less.1; omega, fun h => ?_⟩
    by_cases h11 : x11 = true
    · have := o.less.2 h11; omega
    · have hcn : c ≠ T q := by
        intro e
        have h0 : x11 = false := by simpa using h11
        rw [h0, htree, e] at h
        simp at h
      have hlt := hc.low o.tr hpar.1 hcn
      have := o.less.1
      omega
  · intro h
    obtain ⟨h11, hcq⟩ := hflag h
    rw [hD, hsm hcq]
    intro k hk hk0 hki
    by_cases e : k = q
    · subst e
      rw [← hcq]; exact hm
    · refine o.fix h11 k hk hk0 ?_
      have : Pl s k ≠ Pl s q := fun h => e (g.inj k q ((o.dn k).1 hk) hq h)
      omega
  · intro h
    obtain ⟨h11, hcq⟩ := hflag h
    rw [hsm hcq]
    exact o.eqs h11
structure DomT (s : List (List Int)) (t : List Int) (T : Nat → Nat) : Prop where
  len : t.length = s.length
  tree : ∀ x, Rch s (-1) x → x ≠ 0 → t.getD x 0 = (T x : Int)
  none_ : ∀ x, x < s.length → (x = 0 ∨ ¬ Rch s (-1) x) → t.getD x 0 = -1
  tr : s ≠ [] → Tr (Ed s) (Rch s (-1)) (Pl s) (Rch s (-1)) T
  fix : ∀ k, Rch s (-1) k → k ≠ 0 → Meet T (fun p => Ed s p k ∧ Rch s (-1) p) (T k)
theorem od_len {s : List (List Int)} (hs : s.length ≤ 40) (hv : ∀ l ∈ s, ∀ t ∈ l, 0 ≤ t ∧ t < (s.length : Int)) (hne : s ≠ []) : (od s).length + 1 = (ordL s).length ∧ (ordL s).length ≤ 40 := by
  obtain ⟨h, _⟩ := ord_zero s hs hv hne
  have := gtAll_cnt s (-1) hv
  have e : (ordL s).length = (gtAll s (-1)).2.length := by unfold ordL; rw [List.length_reverse]
  refine ⟨by unfold od; rw [List.length_drop]; omega, by omega⟩
theorem l3_one {s : List (List Int)} (hs : s.length ≤ 40) (hv : ∀ l ∈ s, ∀ t ∈ l, 0 ≤ t ∧ t < (s.length : Int)) (hne : s ≠ []) {x5 x6 : List Int} {x10 : List Bool} {T : Nat → Nat} (rp : Rp s x5 x6 x10 T) (tr : Tr (Ed s) (Rch s (-1)) (Pl s) (Dn x10) T) (x11 : Bool) (i : Nat) (hi : i < (od s).length) (q : Nat) (hq : (od s)[i] = (q : Int)) (hqr : Rch s (-1) q) (hex : ∃ p, Pd (Ed s) (Dn x10) q p) :
    ∃ c : Nat, Dn x10 c ∧ Meet T (Pd (Ed s) (Dn x10) q) c ∧ ∀ r, Ev (fun k => dom_Tree.l3 k (ordL s) (prV s s.length) (x5.set q (c : Int)) x6 (x10.set q true) (x11 || ((c : Int) != x5.getD q 0)) (od s) ((od s).length : Int) (((i + 1 : Nat)) : Int)) r →
      Ev (fun k => dom_Tree.l3 k (ordL s) (prV s s.length) x5 x6 x10 x11 (od s) ((od s).length : Int) (i : Int)) r := by
  have hql := rch_lt s (-1) hv hqr
  have hrd : rd (od s) (i : Int) = (q : Int) := (rd_nat (od s) i hi).trans hq
  have hrow : rd_L2 (prV s s.length) (q : Int) = prRow s s.length q := by rw [prV_at s _ (by omega) (by omega)]; rfl
  have hpl := prRow_len s s.length q
  have hpv : (prV s s.length).length = s.length := by simp [prV]
  have hol := od_len hs hv hne
  obtain ⟨y, hy, hE⟩ := l4_ev hs hv hne rp tr (ordL s) (prV s s.length) x11 q (od s) ((od s).length : Int) (i : Int) (prRow s s.length q) hql (by omega) (fun p hp => by have := (prRow_mem s s.length q p).1 hp; omega) (prRow s s.length q).length 0 (-1) (by omega) (Nat.zero_le _) (.inl ⟨rfl, fun p hp => by simp at hp⟩)
  obtain ⟨c, rfl, hcd, hm⟩ := acc_meet hs hv hne (x5 := x5) (x6 := x6) tr hqr hy hex
  refine ⟨c, hcd, hm, fun r hr => ?_⟩
  have h1 := hE r (by rw [wrap_succ i (by omega)]; exact hr)
  refine Ev.step (fun k => ?_) h1
  rw [dom_Tree.l3, if_pos (by omega), if_pos (by omega), if_pos (by omega), hrd, if_pos (by omega), if_pos (by rw [hpv]; omega), hrow]
  rfl
theorem one_l3 {s : List (List Int)} (hs : s.length ≤ 40) (hv : ∀ l ∈ s, ∀ t ∈ l, 0 ≤ t ∧ t < (s.length : Int)) (hne : s ≠ []) (Q : List Int → Prop) {x6 : List Int} (hk : ∀ x5 x10 T, One (s := s) x5 x6 x10 T (od s).length → ∀ x11 : Bool, (x11 = false → (od s).length = 0) → ∃ r, Ev (fun k => if x11 = true then dom_Tree.l2 k (ordL s) (prV s s.length) x5 x6 x10 else some x5) r ∧ Q r) :
    ∀ d i x5 x10 x11 T, (od s).length - i = d → i ≤ (od s).length → One (s := s) x5 x6 x10 T i → (x11 = false → i = 0) → ∃ r, Ev (fun k => dom_Tree.l3 k (ordL s) (prV s s.length) x5 x6 x10 x11 (od s) ((od s).length : Int) (i : Int)) r ∧ Q r := by
  have g := gr_of s hs hv hne
  intro d
  induction d with
  | zero =>
    intro i x5 x10 x11 T hd hi o hx
    obtain rfl : i = (od s).length := by omega
    obtain ⟨r, hr, hQ⟩ := hk x5 x10 T o x11 hx
    exact ⟨r, Ev.step (fun k => by rw [dom_Tree.l3, if_neg (by omega)]) hr, hQ⟩
  | succ d ih =>
    intro i x5 x10 x11 T hd hi o hx
    have hlt : i < (od s).length := by omega
    obtain ⟨q, hq, hqr, hq0, hqi⟩ := od_at hs hv hne i hlt
    obtain ⟨p, hpr, hpe, hpl⟩ := g.ahead q hqr hq0
    obtain ⟨c, hcd, hm, hE⟩ := l3_one hs hv hne o.rp o.tr x11 i hlt q hq hqr ⟨p, hpe, (o.dn p).2 ⟨hpr, by omega⟩⟩
    have hnq : ¬ Dn x10 q := fun h => by have := ((o.dn q).1 h).2; omega
    have hun := o.un q (rch_lt s (-1) hv hqr) hnq
    obtain ⟨r, hr, hQ⟩ := ih (i + 1) _ _ (x11 || ((c : Int) != x5.getD q 0)) _ (by omega) (by omega) (o.step hs hv hne hqr hq0 hqi hm) (fun h => by
      rw [Bool.or_eq_false_iff, hun] at h
      have h2 := h.2
      simp at h2)
    exact ⟨r, hE r hr, hQ⟩
theorem two_l3 {s : List (List Int)} (hs : s.length ≤ 40) (hv : ∀ l ∈ s, ∀ t ∈ l, 0 ≤ t ∧ t < (s.length : Int)) (hne : s ≠ []) (Q : List Int → Prop) {x6 : List Int} {T1 : Nat → Nat} (t1 : Tr (Ed s) (Rch s (-1)) (Pl s) (Rch s (-1)) T1) (l1 : ∀ k, Rch s (-1) k → k ≠ 0 → La (Ed s) (Pl s) (Rch s (-1)) T1 k)
    (hk : ∀ x5 x10 x11 T, Two (s := s) T1 x5 x6 x10 x11 T (od s).length → ∃ r, Ev (fun k => if x11 = true then dom_Tree.l2 k (ordL s) (prV s s.length) x5 x6 x10 else some x5) r ∧ Q r) :
    ∀ d i x5 x10 x11 T, (od s).length - i = d → i ≤ (od s).length → Two (s := s) T1 x5 x6 x10 x11 T i → ∃ r, Ev (fun k => dom_Tree.l3 k (ordL s) (prV s s.length) x5 x6 x10 x11 (od s) ((od s).length : Int) (i : Int)) r ∧ Q r := by
  have g := gr_of s hs hv hne
  intro d
  induction d with
  | zero =>
    intro i x5 x10 x11 T hd hi o
    obtain rfl : i = (od s).length := by omega
    obtain ⟨r, hr, hQ⟩ := hk x5 x10 x11 T o
    exact ⟨r, Ev.step (fun k => by rw [dom_Tree.l3, if_neg (by omega)]) hr, hQ⟩
  | succ d ih =>
    intro i x5 x10 x11 T hd hi o
    have hlt : i < (od s).length := by omega
    obtain ⟨q, hq, hqr, hq0, hqi⟩ := od_at hs hv hne i hlt
    obtain ⟨p, hpr, hpe, hpl⟩ := g.ahead q hqr hq0
    obtain ⟨c, hcd, hm, hE⟩ := l3_one hs hv hne o.rp o.tr x11 i hlt q hq hqr ⟨p, hpe, (o.dn p).2 hpr⟩
    obtain ⟨r, hr, hQ⟩ := ih (i + 1) _ _ _ _ (by omega) (by omega) (o.step hs hv hne t1 l1 hqr hq0 hqi hm)
    exact ⟨r, hE r hr, hQ⟩
theorem pl_le {s : List (List Int)} (hs : s.length ≤ 40) (hv : ∀ l ∈ s, ∀ t ∈ l, 0 ≤ t ∧ t < (s.length : Int)) (hne : s ≠ []) {x : Nat} (h : Rch s (-1) x) : Pl s x ≤ (od s).length := by
  have h1 := List.idxOf_lt_length_of_mem ((ord_mem s hs hv x).2 h)
  have h2 := od_len hs hv hne
  unfold Pl
  omega
theorem l2_to {s : List (List Int)} (hs : s.length ≤ 40) (hv : ∀ l ∈ s, ∀ t ∈ l, 0 ≤ t ∧ t < (s.length : Int)) (hne : s ≠ []) (x5 x6 : List Int) (x10 : List Bool) (h10 : x10.length = s.length) (r : List Int) (h : Ev (fun k => dom_Tree.l3 k (ordL s) (prV s s.length) x5 x6 (x10.set 0 true) false (od s) ((od s).length : Int) ((0 : Nat) : Int)) r) :
    Ev (fun k => dom_Tree.l2 k (ordL s) (prV s s.length) x5 x6 x10) r := by
  have h2 := od_len hs hv hne
  have hp : 0 < s.length := List.length_pos_iff.2 hne
  refine Ev.step (fun k => ?_) h
  rw [dom_Tree.l2, if_pos (by omega), if_pos (by omega), if_pos (by omega), Option.bind_some]
  rfl
theorem Rp.same {s : List (List Int)} (hs : s.length ≤ 40) (hv : ∀ l ∈ s, ∀ t ∈ l, 0 ≤ t ∧ t < (s.length : Int)) (hne : s ≠ []) {x5 x6 : List Int} {x10 : List Bool} {T : Nat → Nat} (rp : Rp s x5 x6 x10 T) (h0 : Dn x10 0) : Rp s x5 x6 (x10.set 0 true) T ∧ (Dn (x10.set 0 true) = Dn x10) := by
  have hp : 0 < s.length := List.length_pos_iff.2 hne
  have e : Dn (x10.set 0 true) = Dn x10 := funext fun x => propext ((getD_setB x10 0 x (by rw [rp.l10]; exact hp)).trans ⟨fun h => h.elim id (fun e => e ▸ h0), .inl⟩)
  exact ⟨⟨rp.l5, rp.l6, by rw [List.length_set]; exact rp.l10, by rw [e]; exact rp.tree, rp.place, rp.out, rp.none_⟩, e⟩
theorem rounds_ev {s : List (List Int)} (hs : s.length ≤ 40) (hv : ∀ l ∈ s, ∀ t ∈ l, 0 ≤ t ∧ t < (s.length : Int)) (hne : s ≠ []) : ∀ (m : Nat) (x5 x6 : List Int) (x10 : List Bool) (T : Nat → Nat), msr s T ≤ m → Rp s x5 x6 x10 T → (∀ x, Dn x10 x ↔ Rch s (-1) x) → Tr (Ed s) (Rch s (-1)) (Pl s) (Rch s (-1)) T → Nh (Ed s) (Pl s) (Rch s (-1)) T → (∀ k, Rch s (-1) k → k ≠ 0 → La (Ed s) (Pl s) (Rch s (-1)) T k) →
    ∃ r, Ev (fun k => dom_Tree.l2 k (ordL s) (prV s s.length) x5 x6 x10) r ∧ ∃ T', DomT s r T' := by
  have g := gr_of s hs hv hne
  intro m
  induction m using Nat.strongRecOn with
  | _ m ih =>
    intro x5 x6 x10 T hm rp dn tr nh la
    have hD : Dn x10 = Rch s (-1) := funext fun x => propext (dn x)
    obtain ⟨rp', eD⟩ := rp.same hs hv hne ((dn 0).2 g.r0)
    obtain ⟨r, hr, hQ⟩ := two_l3 hs hv hne (fun r => ∃ T', DomT s r T') (x6 := x6) (T1 := T) tr la (fun y5 y10 y11 T2 o => by
      have hD2 : Dn y10 = Rch s (-1) := funext fun x => propext (o.dn x)
      have tr2 := o.tr
      have nh2 := o.nh
      rw [hD2] at tr2 nh2
      have la2 : ∀ k, Rch s (-1) k → k ≠ 0 → La (Ed s) (Pl s) (Rch s (-1)) T2 k := fun k hk h0 => by
        have := o.la k ((o.dn k).2 hk) h0 (pl_le hs hv hne hk)
        rw [hD2] at this
        exact this
      cases y11 with
      | true =>
        have hl := o.less.2 rfl
        obtain ⟨r, hr, hQ⟩ := ih (msr s T2) (by omega) y5 x6 y10 T2 (Nat.le_refl _) o.rp o.dn tr2 nh2 la2
        exact ⟨r, Ev.congr (fun k => if_pos rfl) hr, hQ⟩
      | false =>
        refine ⟨y5, Ev.congr (fun k => if_neg (by simp)) (Ev.now _), T2, o.rp.l5, fun x hx h0 => o.rp.tree x ((o.dn x).2 hx) h0, o.rp.none_, fun _ => tr2, fun k hk h0 => ?_⟩
        have := o.fix rfl k ((o.dn k).2 hk) h0 (pl_le hs hv hne hk)
        unfold Pd at this
        rw [hD2] at this
        exact this)
      (od s).length 0 x5 (x10.set 0 true) false T (by omega) (Nat.zero_le _)
      ⟨rp', fun x => by rw [eD]; exact dn x, by rw [eD, hD]; exact tr, by rw [eD, hD]; exact nh, fun k hk h0 hl => by
          rw [eD, hD] at hk
          have := g.p0 k hk h0
          omega, by rw [eD, hD]; exact mi_start g tr, fun _ _ _ => rfl, ⟨Nat.le_refl _, fun h => by cases h⟩, fun _ k hk h0 hl => by
          rw [eD, hD] at hk
          have := g.p0 k hk h0
          omega, fun _ => rfl⟩
    exact ⟨r, l2_to hs hv hne x5 x6 x10 rp.l10 r hr, hQ⟩
theorem first_ev {s : List (List Int)} (hs : s.length ≤ 40) (hv : ∀ l ∈ s, ∀ t ∈ l, 0 ≤ t ∧ t < (s.length : Int)) (hne : s ≠ []) (x6 : List Int) (h6 : x6.length = s.length) (hpl : ∀ x, Rch s (-1) x → x6.getD x 0 = (Pl s x : Int)) (hout : ∀ x, x < s.length → ¬ Rch s (-1) x → x6.getD x 0 < 0) :
    ∃ r, Ev (fun k => dom_Tree.l2 k (ordL s) (prV s s.length) (List.replicate s.length (-1)) x6 (List.replicate s.length false)) r ∧ ∃ T', DomT s r T' := by
  have g := gr_of s hs hv hne
  have hp : 0 < s.length := List.length_pos_iff.2 hne
  have hB := fun x => getD_setB (List.replicate s.length false) 0 x (by simpa using hp)
  have hn : ∀ x, ¬ Dn (List.replicate s.length false) x := fun x h => by
    unfold Dn at h
    rw [rep_false] at h
    cases h
  have hD : ∀ x, Dn ((List.replicate s.length false).set 0 true) x ↔ x = 0 := fun x => (hB x).trans ⟨fun h => h.elim (fun h => absurd h (hn x)) id, .inr⟩
  have hz : Pl s 0 = 0 := by
    obtain ⟨h0, e⟩ := ord_zero s hs hv hne
    have := idx_at (L := ordL s) (ordered_of s hs hv).once 0 h0
    rw [e] at this
    exact this
  have hrep : ∀ x, x < s.length → (List.replicate s.length (-1 : Int)).getD x 0 = -1 := fun x hx => by
    rw [List.getD_eq_getElem?_getD, List.getElem?_replicate, if_pos hx]; rfl
  have o : One (s := s) (List.replicate s.length (-1)) x6 ((List.replicate s.length false).set 0 true) (fun _ => 0) 0 := by
    refine ⟨⟨by simp, h6, by simp, fun x hx h0 => absurd ((hD x).1 hx) h0, hpl, hout, fun x hx _ => hrep x hx⟩, ⟨(hD 0).2 rfl, fun k hk => by rw [(hD k).1 hk]; exact g.r0, fun k hk h0 => absurd ((hD k).1 hk) h0, fun k hk h0 => absurd ((hD k).1 hk) h0, fun k hk d hd => ?_⟩, fun x => ?_, fun k hk h0 => absurd ((hD k).1 hk) h0, fun k hk h0 => absurd ((hD k).1 hk) h0, fun x hx _ => hrep x hx⟩
    · have e := (hD k).1 hk
      subst e
      by_cases h : d = 0
      · subst h; exact .refl _
      · exact absurd (.start (fun e => h e.symm)) hd
    · rw [hD x]
      constructor
      · rintro rfl; exact ⟨g.r0, by omega⟩
      · rintro ⟨h1, h2⟩
        exact g.inj x 0 h1 g.r0 (by omega)
  obtain ⟨r, hr, hQ⟩ := one_l3 hs hv hne (fun r => ∃ T', DomT s r T') (x6 := x6) (fun y5 y10 T o x11 hx => by
      have hDR : ∀ x, Dn y10 x ↔ Rch s (-1) x := fun x => (o.dn x).trans ⟨fun h => h.1, fun h => ⟨h, pl_le hs hv hne h⟩⟩
      have hDe : Dn y10 = Rch s (-1) := funext fun x => propext (hDR x)
      have tr2 := o.tr
      have nh2 := o.nh
      have la2 := o.la
      rw [hDe] at tr2 nh2 la2
      cases x11 with
      | true =>
        obtain ⟨r, hr, hQ⟩ := rounds_ev hs hv hne (msr s T) y5 x6 y10 T (Nat.le_refl _) o.rp hDR tr2 nh2 la2
        exact ⟨r, Ev.congr (fun k => if_pos rfl) hr, hQ⟩
      | false =>
        have h0 := hx rfl
        refine ⟨y5, Ev.congr (fun k => if_neg (by simp)) (Ev.now _), T, o.rp.l5, fun x hx h0 => o.rp.tree x ((hDR x).2 hx) h0, o.rp.none_, fun _ => tr2, fun k hk hk0 => ?_⟩
        have h1 := pl_le hs hv hne hk
        have h2 := g.p0 k hk hk0
        omega) (od s).length 0 (List.replicate s.length (-1)) ((List.replicate s.length false).set 0 true) false (fun _ => 0) (by omega) (Nat.zero_le _) o (fun _ => rfl)
  exact ⟨r, l2_to hs hv hne _ x6 _ (by simp) r hr, hQ⟩
theorem tree_l0 (L : List Int) (pr : List (List Int)) (n : Nat) (hn : n < 1000) (r : List Int) (h : Ev (fun k => dom_Tree.l1 k L pr (List.replicate n (-1)) (List.replicate n (-1)) L (L.length : Int) 0) r) :
    ∀ d i, n - i = d → i ≤ n → Ev (fun k => dom_Tree.l0 k L pr (List.replicate i (-1) ++ List.replicate (n - i) 0) (List.replicate i (-1) ++ List.replicate (n - i) 0) (n : Int) (i : Int)) r := by
  intro d
  induction d with
  | zero =>
    intro i hd hi
    obtain rfl : i = n := by omega
    rw [Nat.sub_self, List.replicate_zero, List.append_nil]
    exact Ev.step (fun k => by rw [dom_Tree.l0, if_neg (by omega)]) h
  | succ d ih =>
    intro i hd hi
    have hE := ih (i + 1) (by omega) (by omega)
    have hset : (List.replicate i (-1 : Int) ++ List.replicate (n - i) 0).set i (-1) = List.replicate (i + 1) (-1) ++ List.replicate (n - (i + 1)) 0 := by
      rw [show n - i = (n - (i + 1)) + 1 by omega, set_at _ _ _ _ i (by simp), List.replicate_succ' (n := i)]
    have hl : (List.replicate i (-1 : Int) ++ List.replicate (n - i) 0).length = n := by simp; omega
    refine Ev.step (fun k => ?_) hE
    rw [dom_Tree.l0, if_pos (by omega), if_pos (by omega), if_pos (by rw [hl]; omega), if_pos (by rw [hl]; omega), wrap_succ i (by omega), Int.toNat_natCast, hset]
theorem tree_l1 (L : List Int) (pr : List (List Int)) (n : Nat) (hn : n < 1000) (hL : L.length < 1000) (hnd : L.Nodup) (hval : ∀ x ∈ L, 0 ≤ x ∧ x < (n : Int)) (x5 : List Int) (h5 : x5.length < 1000) (r : List Int)
    (h : ∀ x6, x6.length = n → (∀ x : Nat, x < n → x6.getD x 0 = if (x : Int) ∈ L then (L.idxOf (x : Int) : Int) else -1) → Ev (fun k => dom_Tree.l2 k L pr x5 x6 (List.replicate x5.length false)) r) :
    ∀ d i x6, L.length - i = d → i ≤ L.length → x6.length = n → (∀ x : Nat, x < n → x6.getD x 0 = if (x : Int) ∈ L.take i then (L.idxOf (x : Int) : Int) else -1) → Ev (fun k => dom_Tree.l1 k L pr x5 x6 L (L.length : Int) (i : Int)) r := by
  intro d
  induction d with
  | zero =>
    intro i x6 hd hi h6 hx
    obtain rfl : i = L.length := by omega
    rw [List.take_of_length_le (Nat.le_refl _)] at hx
    refine Ev.step (fun k => ?_) (h x6 h6 hx)
    rw [dom_Tree.l1, if_neg (by omega), if_pos (by omega), if_pos (by omega)]
    rfl
  | succ d ih =>
    intro i x6 hd hi h6 hx
    have hlt : i < L.length := by omega
    obtain ⟨h0, h1⟩ := hval _ (List.getElem_mem hlt)
    have hrd := rd_nat L i hlt
    have hE := ih (i + 1) (x6.set (L[i]).toNat (i : Int)) (by omega) (by omega) (by rw [List.length_set]; exact h6) (fun x hxn => by
      rw [getD_setI _ _ _ _ (by omega), List.take_succ_eq_append_getElem hlt]
      by_cases e : x = (L[i]).toNat
      · rw [if_pos e, if_pos (by rw [List.mem_append]; right; simp; omega)]
        have : (x : Int) = L[i] := by omega
        rw [this, idx_at hnd i hlt]
      · rw [if_neg e, hx x hxn]
        have : ((x : Int) ∈ L.take i ++ [L[i]]) ↔ (x : Int) ∈ L.take i := by
          rw [List.mem_append]
          constructor
          · rintro (h | h)
            · exact h
            · rw [List.mem_singleton] at h; omega
          · exact .inl
        by_cases h2 : (x : Int) ∈ L.take i
        · rw [if_pos h2, if_pos (this.2 h2)]
        · rw [if_neg h2, if_neg (fun h => h2 (this.1 h))])
    refine Ev.step (fun k => ?_) hE
    rw [dom_Tree.l1, if_pos (by omega), if_pos (by omega), if_pos (by omega), hrd, if_pos h0, if_pos (by omega), wrap_succ i (by omega)]
theorem tree_ev (bl : List (List S29)) (p0 : ByteArray) (p1 p2 : Int) (p3 : List Int) (hl : bl.length ≤ 40) (hg : GoodB bl) : ∃ t T, Ev (fun k => dom_Tree.f k p0 p1 p2 p3 bl) t ∧ DomT (succsV bl) t T := by
  have hln := succsV_len bl
  have hv : ∀ l ∈ succsV bl, ∀ t ∈ l, 0 ≤ t ∧ t < ((succsV bl).length : Int) := fun l h => (succsV_good bl l h).2
  have hgO := gOrder_ev bl p0 p1 p2 p3 hl hg
  have hgP := gPreds_ev bl p0 p1 p2 p3 hl hg
  have O := ordered_of (succsV bl) (by omega) hv
  have hLl : (ordL (succsV bl)).length ≤ 40 := by
    have := gtAll_cnt (succsV bl) (-1) hv
    unfold ordL
    rw [List.length_reverse]
    omega
  obtain ⟨s, hsv⟩ : ∃ s, succsV bl = s := ⟨_, rfl⟩
  rw [hsv] at hln hv hgO hgP O hLl
  have hRl : (gtAll s (-1)).1.length = s.length := gtAll_len s (-1)
  have key : ∃ t T, Ev (fun k => dom_Tree.l1 k (ordL s) (prV s s.length) (List.replicate s.length (-1)) (List.replicate s.length (-1)) (ordL s) ((ordL s).length : Int) 0) t ∧ DomT s t T := by
    by_cases hne : s = []
    · subst hne
      refine ⟨[], fun _ => 0, ?_, rfl, fun x h => absurd (rch_lt [] (-1) hv h) (by simp), fun x h => absurd h (by simp), fun h => absurd rfl h, fun k h => absurd (rch_lt [] (-1) hv h) (by simp)⟩
      refine Ev.of (k := 3) (fun k => (dom_Tree.mono_l k).2.1 _ _ _ _ _ _ _) ?_
      decide +kernel
    · obtain ⟨r, T, hr, hT⟩ : ∃ r T, (∀ x6, x6.length = s.length → (∀ x : Nat, x < s.length → x6.getD x 0 = if (x : Int) ∈ ordL s then ((ordL s).idxOf (x : Int) : Int) else -1) → Ev (fun k => dom_Tree.l2 k (ordL s) (prV s s.length) (List.replicate s.length (-1)) x6 (List.replicate s.length false)) r) ∧ DomT s r T := by
        obtain ⟨x0, hx0⟩ : ∃ x0 : List Int, x0 = (List.range s.length).map (fun x : Nat => if (x : Int) ∈ ordL s then ((ordL s).idxOf (x : Int) : Int) else -1) := ⟨_, rfl⟩
        have huniq : ∀ x6 : List Int, x6.length = s.length → (∀ x : Nat, x < s.length → x6.getD x 0 = if (x : Int) ∈ ordL s then ((ordL s).idxOf (x : Int) : Int) else -1) → x6 = x0 := by
          intro x6 h6 hx
          rw [hx0]
          apply List.ext_getElem
          · simp [h6]
          · intro i h1 h2
            have := hx i (by omega)
            rw [List.getD_eq_getElem?_getD, List.getElem?_eq_getElem h1] at this
            simpa using this
        have h0l : x0.length = s.length := by rw [hx0]; simp
        have h0v : ∀ x : Nat, x < s.length → x0.getD x 0 = if (x : Int) ∈ ordL s then ((ordL s).idxOf (x : Int) : Int) else -1 := by
          intro x hx
          rw [hx0, List.getD_eq_getElem?_getD, List.getElem?_map, List.getElem?_range hx]
          rfl
        obtain ⟨r, hr, T, hT⟩ := first_ev (s := s) (by omega) hv hne x0 h0l (fun x hx => by rw [h0v x (rch_lt s (-1) hv hx), if_pos ((ord_mem s (by omega) hv x).2 hx)]; rfl) (fun x hx hn => by rw [h0v x hx, if_neg (fun h => hn ((ord_mem s (by omega) hv x).1 h))]; omega)
        exact ⟨r, T, fun x6 h6 hx => by rw [huniq x6 h6 hx]; exact hr, hT⟩
      refine ⟨r, T, ?_, hT⟩
      have := tree_l1 (ordL s) (prV s s.length) s.length (by omega) (by omega) O.once (fun x hx => by have := O.in_ x hx; omega) (List.replicate s.length (-1)) (by simp; omega) r (fun x6 h6 hx => by rw [List.length_replicate]; exact hr x6 h6 hx) (ordL s).length 0 (List.replicate s.length (-1)) (by omega) (Nat.zero_le _) (by simp) (fun x hx => by simp [hx])
      exact this
  obtain ⟨t, T, ht, hT⟩ := key
  refine ⟨t, T, ?_, by rw [hsv]; exact hT⟩
  have h0 := tree_l0 (ordL s) (prV s s.length) s.length (by omega) t ht s.length 0 (by omega) (Nat.zero_le _)
  simp only [List.replicate_zero, List.nil_append, Nat.sub_zero] at h0
  unfold dom_Tree.f
  refine Ev.bind hgO (Ev.bind hgP ?_)
  refine Ev.congr (fun k => by rw [if_pos (by omega), if_pos (by omega), Option.bind_some]) ?_
  rw [List.length_replicate, Int.toNat_natCast, ← hln]
  exact h0
def kidRow (l : List Int) (i a : Nat) : List Int := ((List.range i).filter (fun b => decide (l.getD b 0 = (a : Int)))).map (fun b : Nat => (b : Int))
theorem kidRow_len (l : List Int) (i a : Nat) : (kidRow l i a).length ≤ i := by
  unfold kidRow
  rw [List.length_map]
  exact Nat.le_trans (List.length_filter_le _ _) (by simp)
theorem kidRow_succ (l : List Int) (i a : Nat) : kidRow l (i + 1) a = kidRow l i a ++ if (a : Int) = l.getD i 0 then [(i : Int)] else [] := by
  unfold kidRow
  rw [List.range_succ, List.filter_append, List.map_append]
  congr 1
  by_cases h : l.getD i 0 = (a : Int)
  · rw [if_pos h.symm, List.filter_cons_of_pos (by simp only [decide_eq_true_eq]; exact h)]
    rfl
  · rw [if_neg (fun e => h e.symm), List.filter_cons_of_neg (by simp only [decide_eq_true_eq]; exact h)]
    rfl
theorem kids_l0 (l : List Int) (hl : l.length < 1000) : ∀ d i, l.length - i = d → i ≤ l.length → Ev (fun k => dom_Kids.l0 k l ((List.range l.length).map (kidRow l i)) l (l.length : Int) (i : Int)) ((List.range l.length).map (kidRow l l.length)) := by
  intro d
  induction d with
  | zero =>
    intro i hd hi
    obtain rfl : i = l.length := by omega
    exact Ev.step (fun k => by rw [dom_Kids.l0, if_neg (by omega)]) (Ev.now _)
  | succ d ih =>
    intro i hd hi
    have hlt : i < l.length := by omega
    have hE := ih (i + 1) (by omega) (by omega)
    have hrd : rd l (i : Int) = l.getD i 0 := rfl
    by_cases h : 0 ≤ l.getD i 0 ∧ l.getD i 0 < (l.length : Int)
    · have hm := gtPut_map l.length (kidRow l i) (i : Int) (l.getD i 0) h.1 h.2
      have e : (List.range l.length).map (fun x => kidRow l i x ++ if (x : Int) = l.getD i 0 then [(i : Int)] else []) = (List.range l.length).map (kidRow l (i + 1)) := List.map_congr_left fun x _ => (kidRow_succ l i x).symm
      rw [e] at hm
      have hrow : (rd_L2 ((List.range l.length).map (kidRow l i)) (l.getD i 0)).length ≤ i := by
        unfold rd_L2
        rw [List.getD_eq_getElem?_getD, List.getElem?_map, List.getElem?_range (by omega)]
        exact kidRow_len l i _
      refine Ev.step (fun k => ?_) hE
      rw [dom_Kids.l0, if_pos (by omega), if_pos (by omega), if_pos (by omega), hrd, if_pos h.1, if_pos h.2, if_pos h.1, if_pos (by simpa using h.2), if_pos (by omega), wrap_succ i (by omega)]
      unfold gtPut at hm
      rw [← hm]
      rfl
    · have e : (List.range l.length).map (kidRow l i) = (List.range l.length).map (kidRow l (i + 1)) := List.map_congr_left fun x hx => by
        have hx := List.mem_range.1 hx
        rw [kidRow_succ, if_neg (by omega), List.append_nil]
      rw [← e] at hE
      refine Ev.step (fun k => ?_) hE
      rw [dom_Kids.l0, if_pos (by omega), if_pos (by omega), if_pos (by omega), hrd, wrap_succ i (by omega)]
      by_cases h1 : l.getD i 0 ≥ 0
      · rw [if_pos h1, if_neg (by omega)]
      · rw [if_neg h1]
theorem kids_ev (l : List Int) (hl : l.length < 1000) : Ev (fun k => dom_Kids.f k l) ((List.range l.length).map (kidRow l l.length)) := by
  have h := kids_l0 l hl l.length 0 (by omega) (Nat.zero_le _)
  have e : (List.range l.length).map (kidRow l 0) = List.replicate ((l.length : Int)).toNat [] := by
    rw [Int.toNat_natCast]
    apply List.ext_getElem
    · simp
    · intro i h1 h2; simp [kidRow]
  rw [e] at h
  refine Ev.congr (fun k => ?_) h
  rw [dom_Kids.f, if_pos (by omega), if_pos (by omega)]
  rfl
theorem works28_ev : Ev (fun k => balustradelaw28_works.f k) true := Ev.of (k := 200) balustradelaw28_works.mono (by decide +kernel)
def domB (s : List (List Int)) (a b : Nat) : Bool := (gtAll s (-1)).1.getD a false && (gtAll s (-1)).1.getD b false && !(gtAll s (a : Int)).1.getD b false
theorem ch_dom {s : List (List Int)} (hs : s.length ≤ 40) (hv : ∀ l ∈ s, ∀ t ∈ l, 0 ≤ t ∧ t < (s.length : Int)) (hne : s ≠ []) {t : List Int} {T : Nat → Nat} (dt : DomT s t T) {a b : Nat} (hb : Rch s (-1) b) : Ch T b a ↔ Rch s (-1) a ∧ ¬ Rch s (a : Int) b := by
  have tr := dt.tr hne
  constructor
  · intro h
    refine ⟨(h.done tr hb).1, fun hr => ?_⟩
    exact fix_full (E := Ed s) (R := Rch s (-1)) dt.fix (fun x hx _ _ => hx) ((av_rch s hv hne a b).2 hr) (fun y hy => rch_mono s (a : Int) ((av_rch s hv hne a y).1 hy) hv) h
  · rintro ⟨_, h⟩
    exact tr.snd b hb a (fun ha => h ((av_rch s hv hne a b).1 ha))
theorem domB_iff {s : List (List Int)} (hs : s.length ≤ 40) (hv : ∀ l ∈ s, ∀ t ∈ l, 0 ≤ t ∧ t < (s.length : Int)) (hne : s ≠ []) {t : List Int} {T : Nat → Nat} (dt : DomT s t T) (a b : Nat) : domB s a b = true ↔ Rch s (-1) a ∧ Rch s (-1) b ∧ Ch T b a := by
  have h1 := gtAll_iff s (-1) hv a
  have h2 := gtAll_iff s (-1) hv b
  have h3 := gtAll_iff s (a : Int) hv b
  unfold domB
  rw [Bool.and_eq_true, Bool.and_eq_true, h1, h2, Bool.not_eq_true', ← Bool.not_eq_true, h3]
  constructor
  · rintro ⟨⟨ha, hb⟩, hn⟩
    exact ⟨ha, hb, (ch_dom hs hv hne dt hb).2 ⟨ha, hn⟩⟩
  · rintro ⟨ha, hb, hc⟩
    exact ⟨⟨ha, hb⟩, ((ch_dom hs hv hne dt hb).1 hc).2⟩
theorem chain_ev {s : List (List Int)} (hs : s.length ≤ 40) (hv : ∀ l ∈ s, ∀ t ∈ l, 0 ≤ t ∧ t < (s.length : Int)) (hne : s ≠ []) {t : List Int} {T : Nat → Nat} (dt : DomT s t T) : ∀ m b, Pl s b ≤ m → Rch s (-1) b → ∃ c : List Nat, c.Nodup ∧ (∀ y, y ∈ c ↔ Ch T b y) ∧ 0 < c.length ∧ (∀ n : Nat, n + c.length ≤ t.length + 1 → Ev (fun k => dom_Depth.l0 k t (b : Int) (n : Int)) ((n + c.length - 1 : Nat) : Int)) ∧
    (∀ a n : Nat, n + c.length ≤ t.length + 1 → Ev (fun k => dom_Dominates.l0 k t (a : Int) (b : Int) (n : Int)) (decide (a ∈ c))) := by
  have g := gr_of s hs hv hne
  have tr := dt.tr hne
  have hp : 0 < s.length := List.length_pos_iff.2 hne
  have hlen := dt.len
  intro m
  induction m using Nat.strongRecOn with
  | _ m ih =>
    intro b hm hb
    have hbl := rch_lt s (-1) hv hb
    by_cases h0 : b = 0
    · subst h0
      refine ⟨[0], by simp, fun y => ?_, by simp, fun n hn => ?_, fun a n hn => ?_⟩
      · rw [List.mem_singleton]
        constructor
        · rintro rfl; exact .refl _
        · intro h
          by_cases e : y = 0
          · exact e
          · exact absurd rfl (h.cases' e).1
      · refine Ev.step (fun k => ?_) (Ev.now _)
        rw [dom_Depth.l0, if_neg (by omega), if_pos (show ((0 : Nat) : Int) = 0 from rfl), if_neg (by omega)]
        rfl
      · refine Ev.step (f := fun _ => some (decide (a ∈ [0]))) (fun k => ?_) (Ev.now _)
        rw [dom_Dominates.l0, if_neg (by omega)]
        congr 1
        rw [Bool.eq_iff_iff]
        simp
    · have hpar := tr.par b hb h0
      obtain ⟨c, c1, c2, c3, c4, c5⟩ := ih (Pl s (T b)) (by omega) (T b) (Nat.le_refl _) hpar.1
      have htb : rd t (b : Int) = (T b : Int) := dt.tree b hb h0
      refine ⟨b :: c, List.nodup_cons.2 ⟨fun h => ?_, c1⟩, fun y => ?_, by simp, fun n hn => ?_, fun a n hn => ?_⟩
      · have := (((c2 b).1 h).done tr hpar.1).2
        omega
      · rw [List.mem_cons, c2 y]
        constructor
        · rintro (rfl | h)
          · exact .refl _
          · exact .up h0 h
        · intro h
          by_cases e : y = b
          · exact .inl e
          · exact .inr (h.cases' e).2
      · rw [List.length_cons] at hn ⊢
        have hE := c4 (n + 1) (by omega)
        rw [show n + 1 + c.length - 1 = n + (c.length + 1) - 1 by omega] at hE
        refine Ev.step (fun k => ?_) hE
        rw [dom_Depth.l0, if_pos (by omega), if_pos (by omega), if_pos (by omega), if_pos (by omega), htb, wrap_succ n (by omega)]
      · rw [List.length_cons] at hn
        by_cases e : a = b
        · subst e
          refine Ev.step (f := fun _ => some (decide (a ∈ a :: c))) (fun k => ?_) (Ev.now _)
          rw [dom_Dominates.l0, if_pos (by omega), if_pos rfl]
          simp
        · have hE := c5 a (n + 1) (by omega)
          have ed : decide (a ∈ c) = decide (a ∈ b :: c) := by
            rw [Bool.eq_iff_iff]
            simp [e]
          rw [ed] at hE
          refine Ev.step (fun k => ?_) hE
          rw [dom_Dominates.l0, if_pos (by omega), if_neg (by omega), if_pos (by omega), if_pos (by omega), if_pos (by omega), htb, wrap_succ n (by omega)]
theorem chain_len {s : List (List Int)} (hs : s.length ≤ 40) (hv : ∀ l ∈ s, ∀ t ∈ l, 0 ≤ t ∧ t < (s.length : Int)) (hne : s ≠ []) {t : List Int} {T : Nat → Nat} (dt : DomT s t T) {b : Nat} (hb : Rch s (-1) b) {c : List Nat} (h1 : c.Nodup) (h2 : ∀ y, y ∈ c ↔ Ch T b y) : c.length ≤ t.length := by
  have hn : (c.map (fun x : Nat => (x : Int))).Nodup := List.Pairwise.map _ (fun a b h => by omega) h1
  have := nodup_le hn (r := (List.range s.length).map (fun x : Nat => (x : Int))) (fun x hx => by
    obtain ⟨y, hy, rfl⟩ := List.mem_map.1 hx
    exact List.mem_map.2 ⟨y, List.mem_range.2 (rch_lt s (-1) hv (((h2 y).1 hy).done (dt.tr hne) hb).1), rfl⟩)
  rw [List.length_map, List.length_map, List.length_range] at this
  rw [dt.len]; exact this
theorem depth_val {s : List (List Int)} (hs : s.length ≤ 40) (hv : ∀ l ∈ s, ∀ t ∈ l, 0 ≤ t ∧ t < (s.length : Int)) (hne : s ≠ []) {t : List Int} {T : Nat → Nat} (dt : DomT s t T) (b : Nat) (hbl : b < s.length) : ∃ v, Ev (fun k => dom_Depth.f k t (b : Int)) v ∧ (¬ Rch s (-1) b → v = -1) ∧ (Rch s (-1) b → ∃ c : List Nat, c.Nodup ∧ (∀ y, y ∈ c ↔ Ch T b y) ∧ 0 < c.length ∧ v = (c.length : Int) - 1) := by
  have hlen := dt.len
  by_cases hb : Rch s (-1) b
  · obtain ⟨c, c1, c2, c3, c4, _⟩ := chain_ev hs hv hne dt (Pl s b) b (Nat.le_refl _) hb
    have hcl := chain_len hs hv hne dt hb c1 c2
    have hE := c4 0 (by omega)
    refine ⟨_, hE, fun h => absurd hb h, fun _ => ⟨c, c1, c2, c3, by omega⟩⟩
  · have h0 : b ≠ 0 := by rintro rfl; exact hb (gr_of s hs hv hne).r0
    have hn : rd t (b : Int) = -1 := dt.none_ b hbl (.inr hb)
    have hE : Ev (fun k => dom_Depth.l0 k t (-1) ((1 : Nat) : Int)) (-1) := Ev.step (f := fun _ => some (-1)) (fun k => by rw [dom_Depth.l0, if_neg (by omega), if_neg (by omega)]) (Ev.now _)
    refine ⟨-1, Ev.step (f := fun k => dom_Depth.l0 k t (-1) ((1 : Nat) : Int)) (fun k => ?_) hE, fun _ => rfl, fun h => absurd h hb⟩
    show dom_Depth.l0 (k + 1) t (b : Int) 0 = _
    rw [dom_Depth.l0, if_pos (by omega), if_pos (by omega), if_pos (by omega), if_pos (by omega), hn, show wrap64 (0 + 1) = ((1 : Nat) : Int) by unfold wrap64; omega]
theorem dominates_val {s : List (List Int)} (hs : s.length ≤ 40) (hv : ∀ l ∈ s, ∀ t ∈ l, 0 ≤ t ∧ t < (s.length : Int)) (hne : s ≠ []) {t : List Int} {T : Nat → Nat} (dt : DomT s t T) (a b : Nat) (ha : a < s.length) (hb : b < s.length) : Ev (fun k => dom_Dominates.f k t (a : Int) (b : Int)) (domB s a b) := by
  have hlen := dt.len
  obtain ⟨va, ea, na, ra⟩ := depth_val hs hv hne dt a ha
  obtain ⟨vb, eb, nb, rb⟩ := depth_val hs hv hne dt b hb
  unfold dom_Dominates.f
  have hno : ¬ (Rch s (-1) a ∧ Rch s (-1) b) → domB s a b = false := fun h => by
    rw [← Bool.not_eq_true, domB_iff hs hv hne dt]
    exact fun h2 => h ⟨h2.1, h2.2.1⟩
  by_cases hra : Rch s (-1) a
  · obtain ⟨_, _, _, hp, e1⟩ := ra hra
    by_cases hrb : Rch s (-1) b
    · obtain ⟨_, _, _, hp2, e2⟩ := rb hrb
      obtain ⟨c, c1, c2, c3, _, c5⟩ := chain_ev hs hv hne dt (Pl s b) b (Nat.le_refl _) hrb
      have hcl := chain_len hs hv hne dt hrb c1 c2
      have hE := c5 a 0 (by omega)
      have ed : decide (a ∈ c) = domB s a b := by
        rw [Bool.eq_iff_iff, domB_iff hs hv hne dt, decide_eq_true_eq, c2 a]
        exact ⟨fun h => ⟨hra, hrb, h⟩, fun h => h.2.2⟩
      rw [ed] at hE
      exact Ev.bind ea (Ev.congr (fun k => if_neg (by omega)) (Ev.bind eb (Ev.step (fun k => by rw [dom_Dominates.j0, if_neg (by simp; omega)]; rfl) hE)))
    · rw [hno (fun h => hrb h.2), ]
      have := nb hrb
      exact Ev.bind ea (Ev.congr (fun k => if_neg (by omega)) (Ev.bind eb (Ev.step (fun k => by rw [dom_Dominates.j0, if_pos (by simp; omega)]) (Ev.now _))))
  · rw [hno (fun h => hra h.1)]
    have := na hra
    exact Ev.bind ea (Ev.congr (fun k => if_pos (by omega)) (Ev.step (fun k => by rw [dom_Dominates.j0, if_pos rfl]) (Ev.now _)))

theorem refDom_ev (bl : List (List S29)) (p0 : ByteArray) (p1 p2 : Int) (p3 : List Int) (hl : bl.length ≤ 40) (hg : GoodB bl) (a b : Nat) (ha : a < bl.length) (hb : b < bl.length) : Ev (fun k => balustraderef28_Dominates.f k p0 p1 p2 p3 bl (a : Int) (b : Int)) (domB (succsV bl) a b) := by
  have hR : Ev (fun k => balustraderef17_Reach.f k p0 p1 p2 p3 bl) (gtAll (succsV bl) (-1)).1 := Ev.bind (rWithout_ev bl p0 p1 p2 p3 (-1) hl hg) (Ev.now _)
  have hW := rWithout_ev bl p0 p1 p2 p3 (a : Int) hl hg
  have hln := succsV_len bl
  have hl1 := gtAll_len (succsV bl) (-1)
  have hl2 := gtAll_len (succsV bl) (a : Int)
  unfold balustraderef28_Dominates.f
  refine Ev.bind hR ?_
  refine Ev.congr (fun k => by rw [if_neg (by omega), if_neg (by omega), if_neg (by omega), if_neg (by omega), if_pos (by omega), if_pos (by omega)]) ?_
  have e1 : rdOf false (gtAll (succsV bl) (-1)).1 (a : Int) = (gtAll (succsV bl) (-1)).1.getD a false := rfl
  have e2 : rdOf false (gtAll (succsV bl) (-1)).1 (b : Int) = (gtAll (succsV bl) (-1)).1.getD b false := rfl
  have e3 : rdOf false (gtAll (succsV bl) (a : Int)).1 (b : Int) = (gtAll (succsV bl) (a : Int)).1.getD b false := rfl
  unfold domB
  rw [e1, e2]
  cases h1 : (gtAll (succsV bl) (-1)).1.getD a false with
  | false => exact Ev.congr (fun k => if_neg (by simp)) (Ev.now _)
  | true =>
    refine Ev.congr (fun k => by rw [if_pos rfl, if_pos (by omega), if_pos (by omega)]) ?_
    cases h2 : (gtAll (succsV bl) (-1)).1.getD b false with
    | false => exact Ev.congr (fun k => if_neg (by simp)) (Ev.now _)
    | true =>
      refine Ev.congr (fun k => if_pos rfl) (Ev.bind hW ?_)
      refine Ev.congr (fun k => by rw [if_pos (by omega), e3]) ?_
      exact Ev.now _
theorem refDepth_l0 (bl : List (List S29)) (p0 : ByteArray) (p1 p2 : Int) (p3 : List Int) (hl : bl.length ≤ 40) (hg : GoodB bl) (b : Nat) (hb : b < bl.length) :
    ∀ d i, bl.length - i = d → i ≤ bl.length → Ev (fun k => balustraderef28_Depth.l0 k (b : Int) ((((List.range i).filter (fun a => domB (succsV bl) a b)).length : Int) - 1) (i : Int) p0 p1 p2 p3 bl) ((((List.range bl.length).filter (fun a => domB (succsV bl) a b)).length : Int) - 1) := by
  intro d
  induction d with
  | zero =>
    intro i hd hi
    obtain rfl : i = bl.length := by omega
    exact Ev.step (fun k => by rw [balustraderef28_Depth.l0, if_neg (by omega)]) (Ev.now _)
  | succ d ih =>
    intro i hd hi
    have hE := ih (i + 1) (by omega) (by omega)
    have hD := refDom_ev bl p0 p1 p2 p3 hl hg i b (by omega) hb
    have hle : ((List.range i).filter (fun a => domB (succsV bl) a b)).length ≤ i := Nat.le_trans (List.length_filter_le _ _) (by simp)
    rw [List.range_succ, List.filter_append, List.length_append] at hE
    refine Ev.step (fun k => by rw [balustraderef28_Depth.l0, if_pos (by omega), wrap_succ i (by omega)]) (Ev.bind hD ?_)
    cases h : domB (succsV bl) i b with
    | true =>
      rw [List.filter_cons_of_pos (p := fun a => domB (succsV bl) a b) h] at hE
      have e : wrap64 ((((List.range i).filter (fun a => domB (succsV bl) a b)).length : Int) - 1 + 1) = ((((List.range i).filter (fun a => domB (succsV bl) a b)).length + ([i].length) : Nat) : Int) - 1 := by
        rw [wrap_id (by omega) (by omega)]
        simp
      refine Ev.congr (fun k => ?_) hE
      rw [if_pos rfl, e]
      simp
    | false =>
      rw [List.filter_cons_of_neg (p := fun a => domB (succsV bl) a b) (by simp [h])] at hE
      refine Ev.congr (fun k => by rw [if_neg (by simp)]) ?_
      simpa using hE
theorem refDepth_ev (bl : List (List S29)) (p0 : ByteArray) (p1 p2 : Int) (p3 : List Int) (hl : bl.length ≤ 40) (hg : GoodB bl) (b : Nat) (hb : b < bl.length) :
    Ev (fun k => balustraderef28_Depth.f k p0 p1 p2 p3 bl (b : Int)) ((((List.range bl.length).filter (fun a => domB (succsV bl) a b)).length : Int) - 1) := by
  have h := refDepth_l0 bl p0 p1 p2 p3 hl hg b hb bl.length 0 (by omega) (Nat.zero_le _)
  simpa [balustraderef28_Depth.f] using h
theorem depth_same {s : List (List Int)} (hs : s.length ≤ 40) (hv : ∀ l ∈ s, ∀ t ∈ l, 0 ≤ t ∧ t < (s.length : Int)) (hne : s ≠ []) {t : List Int} {T : Nat → Nat} (dt : DomT s t T) (b : Nat) (hb : b < s.length) :
    Ev (fun k => dom_Depth.f k t (b : Int)) ((((List.range s.length).filter (fun a => domB s a b)).length : Int) - 1) := by
  obtain ⟨v, hE, hn, hy⟩ := depth_val hs hv hne dt b hb
  have toI : ∀ {l : List Nat}, l.Nodup → (l.map (fun x : Nat => (x : Int))).Nodup := fun h => List.Pairwise.map _ (fun a b h => by omega) h
  by_cases hr : Rch s (-1) b
  · obtain ⟨c, c1, c2, c3, rfl⟩ := hy hr
    have hf : ((List.range s.length).filter (fun a => domB s a b)).Nodup := List.nodup_range.filter _
    have hm : ∀ y, y ∈ (List.range s.length).filter (fun a => domB s a b) ↔ y ∈ c := fun y => by
      rw [List.mem_filter, List.mem_range, domB_iff hs hv hne dt, c2 y]
      exact ⟨fun h => h.2.2.2, fun h => ⟨rch_lt s (-1) hv ((h.done (dt.tr hne) hr).1), (h.done (dt.tr hne) hr).1, hr, h⟩⟩
    have h1 := nodup_le (toI c1) (r := ((List.range s.length).filter (fun a => domB s a b)).map (fun x : Nat => (x : Int))) (fun x hx => by
      obtain ⟨y, hy, rfl⟩ := List.mem_map.1 hx
      exact List.mem_map.2 ⟨y, (hm y).2 hy, rfl⟩)
    have h2 := nodup_le (toI hf) (r := c.map (fun x : Nat => (x : Int))) (fun x hx => by
      obtain ⟨y, hy, rfl⟩ := List.mem_map.1 hx
      exact List.mem_map.2 ⟨y, (hm y).1 hy, rfl⟩)
    simp only [List.length_map] at h1 h2
    rw [show ((List.range s.length).filter (fun a => domB s a b)).length = c.length by omega]
    exact hE
  · have hv1 := hn hr
    have e : (List.range s.length).filter (fun a => domB s a b) = [] := by
      rw [List.filter_eq_nil_iff]
      intro a _ h
      exact hr ((domB_iff hs hv hne dt a b).1 h).2.1
    rw [e]
    rw [hv1] at hE
    exact hE
def nxL (s : List (List Int)) (b n : Nat) : List Nat := (List.range n).filter (fun a => decide (a ≠ b) && domB s a b)
def nxI (l : List Nat) : List Int := l.map (fun x : Nat => (x : Int))
theorem nxI_len (l : List Nat) : (nxI l).length = l.length := by simp [nxI]
theorem nxI_rd (l : List Nat) (i : Nat) (h : i < l.length) : rd (nxI l) (i : Int) = ((l[i] : Nat) : Int) := by
  rw [rd_nat (nxI l) i (by rw [nxI_len]; exact h)]
  simp [nxI]
theorem refNext_l0 (bl : List (List S29)) (p0 : ByteArray) (p1 p2 : Int) (p3 : List Int) (hl : bl.length ≤ 40) (hg : GoodB bl) (b : Nat) (hb : b < bl.length) (X : Int)
    (hX : Ev (fun k => balustraderef28_Next.l1 k (nxI (nxL (succsV bl) b bl.length)) 0 p0 p1 p2 p3 bl) X) :
    ∀ d i, bl.length - i = d → i ≤ bl.length → Ev (fun k => balustraderef28_Next.l0 k (b : Int) (nxI (nxL (succsV bl) b i)) (i : Int) p0 p1 p2 p3 bl) X := by
  intro d
  induction d with
  | zero =>
    intro i hd hi
    obtain rfl : i = bl.length := by omega
    exact Ev.step (fun k => by rw [balustraderef28_Next.l0, if_neg (by omega)]) hX
  | succ d ih =>
    intro i hd hi
    have hE := ih (i + 1) (by omega) (by omega)
    have hD := refDom_ev bl p0 p1 p2 p3 hl hg i b (by omega) hb
    have hle : (nxL (succsV bl) b i).length ≤ i := Nat.le_trans (List.length_filter_le _ _) (by simp)
    have hcut : nxL (succsV bl) b (i + 1) = nxL (succsV bl) b i ++ (if (decide (i ≠ b) && domB (succsV bl) i b) = true then [i] else []) := by
      unfold nxL
      rw [List.range_succ, List.filter_append]
      congr 1
      by_cases h : (decide (i ≠ b) && domB (succsV bl) i b) = true
      · rw [if_pos h, List.filter_cons_of_pos (p := fun a => decide (a ≠ b) && domB (succsV bl) a b) h, List.filter_nil]
      · rw [if_neg h, List.filter_cons_of_neg (p := fun a => decide (a ≠ b) && domB (succsV bl) a b) h, List.filter_nil]
    rw [hcut] at hE
    by_cases hib : i = b
    · subst hib
      rw [if_neg (by simp), List.append_nil] at hE
      exact Ev.step (fun k => by rw [balustraderef28_Next.l0, if_pos (by omega), if_pos rfl, wrap_succ i (by omega)]) hE
    · refine Ev.step (fun k => by rw [balustraderef28_Next.l0, if_pos (by omega), if_neg (by omega), wrap_succ i (by omega)]) (Ev.bind hD ?_)
      cases h : domB (succsV bl) i b with
      | true =>
        rw [h, if_pos (by simp [hib])] at hE
        refine Ev.congr (fun k => ?_) hE
        rw [if_pos rfl, if_pos (by rw [nxI_len]; omega)]
        simp [nxI]
      | false =>
        rw [h, if_neg (by simp), List.append_nil] at hE
        refine Ev.congr (fun k => ?_) hE
        rw [if_neg (by simp)]
theorem refNext_l2 (bl : List (List S29)) (p0 : ByteArray) (p1 p2 : Int) (p3 : List Int) (hl : bl.length ≤ 40) (hg : GoodB bl) (l : List Nat) (hn : l.length ≤ 40) (hlt : ∀ x ∈ l, x < bl.length) (i : Nat) (hi : i < l.length) (X : Int) :
    ∀ d j acc, l.length - j = d → j ≤ l.length → ((acc && (l.drop j).all (fun x => domB (succsV bl) x l[i])) = true → X = ((l[i] : Nat) : Int)) → ((acc && (l.drop j).all (fun x => domB (succsV bl) x l[i])) = false → Ev (fun k => balustraderef28_Next.l1 k (nxI l) ((i + 1 : Nat) : Int) p0 p1 p2 p3 bl) X) →
      Ev (fun k => balustraderef28_Next.l2 k (nxI l) (i : Int) acc (j : Int) p0 p1 p2 p3 bl) X := by
  have hln := nxI_len l
  intro d
  induction d with
  | zero =>
    intro j acc hd hj hT hF
    obtain rfl : j = l.length := by omega
    simp only [List.drop_length, List.all_nil, Bool.and_true] at hT hF
    cases acc with
    | true =>
      refine Ev.step (fun k => by rw [balustraderef28_Next.l2, if_neg (by omega), if_pos rfl, if_pos (by omega), if_pos (by omega), nxI_rd l i hi]) ?_
      rw [hT rfl]
      exact Ev.now _
    | false =>
      exact Ev.step (fun k => by rw [balustraderef28_Next.l2, if_neg (by omega), if_neg (by simp), wrap_succ i (by omega)]) (hF rfl)
  | succ d ih =>
    intro j acc hd hj hT hF
    have hjl : j < l.length := by omega
    have hdr : l.drop j = l[j] :: l.drop (j + 1) := (List.drop_eq_getElem_cons hjl)
    cases acc with
    | true =>
      have hD := refDom_ev bl p0 p1 p2 p3 hl hg l[j] l[i] (hlt _ (List.getElem_mem hjl)) (hlt _ (List.getElem_mem hi))
      refine Ev.step (fun k => by rw [balustraderef28_Next.l2, if_pos (by omega), if_pos rfl, if_pos (by omega), if_pos (by omega), if_pos (by omega), nxI_rd l i hi, nxI_rd l j hjl, wrap_succ j (by omega)]) (Ev.bind hD ?_)
      rw [hdr] at hT hF
      simp only [List.all_cons, Bool.true_and] at hT hF
      exact ih (j + 1) _ (by omega) (by omega) hT hF
    | false =>
      refine Ev.step (fun k => by rw [balustraderef28_Next.l2, if_pos (by omega), if_neg (by simp), wrap_succ j (by omega)]) ?_
      simp only [Bool.false_and] at hT hF
      exact ih (j + 1) false (by omega) (by omega) (by simp) (by simpa using hF)
def nxF (s : List (List Int)) (l m : List Nat) : Int :=
  match m.find? (fun y => l.all (fun x => domB s x y)) with
  | some y => (y : Int)
  | none => -1
theorem refNext_l1 (bl : List (List S29)) (p0 : ByteArray) (p1 p2 : Int) (p3 : List Int) (hl : bl.length ≤ 40) (hg : GoodB bl) (l : List Nat) (hn : l.length ≤ 40) (hlt : ∀ x ∈ l, x < bl.length) :
    ∀ d i, l.length - i = d → i ≤ l.length → Ev (fun k => balustraderef28_Next.l1 k (nxI l) (i : Int) p0 p1 p2 p3 bl) (nxF (succsV bl) l (l.drop i)) := by
  have hln := nxI_len l
  intro d
  induction d with
  | zero =>
    intro i hd hi
    obtain rfl : i = l.length := by omega
    refine Ev.step (fun k => by rw [balustraderef28_Next.l1, if_neg (by omega)]) ?_
    rw [List.drop_length]
    exact Ev.now _
  | succ d ih =>
    intro i hd hi
    have hil : i < l.length := by omega
    have hdr : l.drop i = l[i] :: l.drop (i + 1) := (List.drop_eq_getElem_cons hil)
    refine Ev.step (fun k => by rw [balustraderef28_Next.l1, if_pos (by omega)]) ?_
    rw [hdr]
    refine refNext_l2 bl p0 p1 p2 p3 hl hg l hn hlt i hil _ l.length 0 true (by omega) (by omega) (fun h => ?_) (fun h => ?_)
    · simp only [List.drop_zero, Bool.true_and] at h
      simp only [nxF, List.find?_cons, h]
    · simp only [List.drop_zero, Bool.true_and] at h
      have := ih (i + 1) (by omega) (by omega)
      simpa only [nxF, List.find?_cons, h] using this
theorem refNext_ev (bl : List (List S29)) (p0 : ByteArray) (p1 p2 : Int) (p3 : List Int) (hl : bl.length ≤ 40) (hg : GoodB bl) (b : Nat) (hb : b < bl.length) :
    Ev (fun k => balustraderef28_Next.f k p0 p1 p2 p3 bl (b : Int)) (nxF (succsV bl) (nxL (succsV bl) b bl.length) (nxL (succsV bl) b bl.length)) := by
  have hle : (nxL (succsV bl) b bl.length).length ≤ bl.length := Nat.le_trans (List.length_filter_le _ _) (by simp)
  have h1 := refNext_l1 bl p0 p1 p2 p3 hl hg (nxL (succsV bl) b bl.length) (by omega) (fun x hx => List.mem_range.1 (List.mem_filter.1 hx).1) _ 0 rfl (Nat.zero_le _)
  have h := refNext_l0 bl p0 p1 p2 p3 hl hg b hb _ (by simpa using h1) bl.length 0 (by omega) (Nat.zero_le _)
  simpa [balustraderef28_Next.f, nxL, nxI] using h
theorem nxL_mem {s : List (List Int)} (hs : s.length ≤ 40) (hv : ∀ l ∈ s, ∀ t ∈ l, 0 ≤ t ∧ t < (s.length : Int)) (hne : s ≠ []) {t : List Int} {T : Nat → Nat} (dt : DomT s t T) (b a : Nat) :
    a ∈ nxL s b s.length ↔ a ≠ b ∧ Rch s (-1) a ∧ Rch s (-1) b ∧ Ch T b a := by
  unfold nxL
  rw [List.mem_filter, List.mem_range, Bool.and_eq_true, decide_eq_true_iff, domB_iff hs hv hne dt]
  exact ⟨fun h => h.2, fun h => ⟨rch_lt s (-1) hv h.2.1, h⟩⟩
theorem next_same {s : List (List Int)} (hs : s.length ≤ 40) (hv : ∀ l ∈ s, ∀ t ∈ l, 0 ≤ t ∧ t < (s.length : Int)) (hne : s ≠ []) {t : List Int} {T : Nat → Nat} (dt : DomT s t T) (b : Nat) (hb : b < s.length) :
    nxF s (nxL s b s.length) (nxL s b s.length) = t.getD b 0 := by
  have hm := nxL_mem hs hv hne dt b
  have tr := dt.tr hne
  by_cases hr : b = 0 ∨ ¬ Rch s (-1) b
  · rw [dt.none_ b hb hr]
    have e : nxL s b s.length = [] := by
      rw [List.eq_nil_iff_forall_not_mem]
      intro a ha
      obtain ⟨h1, h2, h3, h4⟩ := (hm a).1 ha
      rcases hr with rfl | h
      · exact (h4.cases' h1).1 rfl
      · exact h h3
    rw [e]
    rfl
  · have h0 : b ≠ 0 := fun h => hr (.inl h)
    have hR : Rch s (-1) b := Classical.byContradiction fun h => hr (.inr h)
    rw [dt.tree b hR h0]
    obtain ⟨hd, hp⟩ := tr.par b hR h0
    have hin : T b ∈ nxL s b s.length := (hm _).2 ⟨fun h => by rw [h] at hp; omega, hd, hR, Ch.up h0 (Ch.refl _)⟩
    have hall : (nxL s b s.length).all (fun x => domB s x (T b)) = true := by
      rw [List.all_eq_true]
      intro x hx
      obtain ⟨h1, h2, h3, h4⟩ := (hm x).1 hx
      exact (domB_iff hs hv hne dt _ _).2 ⟨h2, hd, (h4.cases' h1).2⟩
    unfold nxF
    cases hf : (nxL s b s.length).find? (fun y => (nxL s b s.length).all (fun x => domB s x y)) with
    | none => exact absurd hall (List.find?_eq_none.1 hf _ hin)
    | some y =>
      have hy := List.mem_of_find?_eq_some hf
      have hya := List.find?_some hf
      rw [List.all_eq_true] at hya
      have h5 := ((domB_iff hs hv hne dt _ _).1 (hya _ hin)).2.2
      obtain ⟨h1, h2, h3, h4⟩ := (hm y).1 hy
      have h6 := (h4.cases' h1).2
      have : y = T b := by
        refine Classical.byContradiction fun hn => ?_
        have a1 := h6.low tr hd hn
        have a2 := (h5.done tr h2).2
        omega
      rw [this]
theorem sortedOnly : ∀ {a b : List Int}, a.Pairwise (· < ·) → b.Pairwise (· < ·) → (∀ x, x ∈ a ↔ x ∈ b) → a = b
  | [], [], _, _, _ => rfl
  | [], y :: b, _, _, h => absurd ((h y).2 List.mem_cons_self) (by simp)
  | x :: a, [], _, _, h => absurd ((h x).1 List.mem_cons_self) (by simp)
  | x :: a, y :: b, ha, hb, h => by
    obtain ⟨ha1, ha2⟩ := List.pairwise_cons.1 ha
    obtain ⟨hb1, hb2⟩ := List.pairwise_cons.1 hb
    have e : x = y := by
      have h1 := (h x).1 List.mem_cons_self
      have h2 := (h y).2 List.mem_cons_self
      rcases List.mem_cons.1 h1 with h1 | h1
      · exact h1
      · rcases List.mem_cons.1 h2 with h2 | h2
        · exact h2.symm
        · have := ha1 y h2
          have := hb1 x h1
          omega
    subst e
    rw [sortedOnly ha2 hb2 (fun z => ⟨fun hz => by
      have := ha1 z hz
      rcases List.mem_cons.1 ((h z).1 (List.mem_cons_of_mem _ hz)) with h1 | h1
      · omega
      · exact h1, fun hz => by
      have := hb1 z hz
      rcases List.mem_cons.1 ((h z).2 (List.mem_cons_of_mem _ hz)) with h1 | h1
      · omega
      · exact h1⟩)]
theorem kidRow_sorted (l : List Int) (i a : Nat) : (kidRow l i a).Pairwise (· < ·) := by
  unfold kidRow
  exact List.Pairwise.map _ (fun a b h => by omega) (List.pairwise_lt_range.filter _)
theorem kidRow_mem (l : List Int) (i a : Nat) (b : Nat) : ((b : Int) ∈ kidRow l i a) ↔ b < i ∧ l.getD b 0 = (a : Int) := by
  unfold kidRow
  rw [List.mem_map]
  constructor
  · rintro ⟨y, hy, h⟩
    obtain rfl : y = b := by omega
    rw [List.mem_filter, List.mem_range, decide_eq_true_iff] at hy
    exact hy
  · intro h
    exact ⟨b, by rw [List.mem_filter, List.mem_range, decide_eq_true_iff]; exact h, rfl⟩
theorem kidRow_sort (l : List Int) (i a : Nat) (h : i < 1000) : Ev (fun k => balustradebase_Sorted.f k (kidRow l i a)) (kidRow l i a) := by
  have hl := kidRow_len l i a
  obtain ⟨r, h1, h2, h3, h4⟩ := sorted_ev (kidRow l i a) (by omega)
  rw [sortedOnly h2 (kidRow_sorted l i a) h3] at h1
  exact h1
theorem kidRow_same (l : List Int) (i a : Nat) (h : i < 1000) : Ev (fun k => balustradebase_SameInts.f k (kidRow l i a) (kidRow l i a)) true := by
  have hl := kidRow_len l i a
  have := sameInts_ev (kidRow l i a) (kidRow l i a) (by omega)
  simpa using this
theorem kidRow_has (l : List Int) (i a b : Nat) (h : i < 1000) (hb : b < i) : Ev (fun k => balustradebase_HasInt.f k (kidRow l i a) (b : Int)) (decide (l.getD b 0 = (a : Int))) := by
  have hl := kidRow_len l i a
  have := hasInt_ev (kidRow l i a) (b : Int) (by omega)
  rw [show decide ((b : Int) ∈ kidRow l i a) = decide (l.getD b 0 = (a : Int)) by simp only [kidRow_mem, hb, true_and]] at this
  exact this
theorem depth_neg (t : List Int) : Ev (fun k => dom_Depth.f k t (-1)) (-1) := by
  unfold dom_Depth.f
  exact Ev.step (fun k => by rw [dom_Depth.l0, if_neg (by omega), if_neg (by omega)]) (Ev.now _)
theorem depth_end (t : List Int) : Ev (fun k => dom_Depth.f k t (t.length : Int)) (-1) := by
  unfold dom_Depth.f
  by_cases h : t.length = 0
  · exact Ev.step (fun k => by rw [dom_Depth.l0, if_neg (by omega), if_pos (by omega), if_pos (by omega)]) (Ev.now _)
  · exact Ev.step (fun k => by rw [dom_Depth.l0, if_pos (by omega), if_neg (by omega), if_neg (by omega)]) (Ev.now _)
theorem dominates_neg (t : List Int) (b : Int) : Ev (fun k => dom_Dominates.f k t (-1) b) false := by
  unfold dom_Dominates.f
  refine Ev.bind (depth_neg t) ?_
  refine Ev.congr (fun k => if_pos (by omega)) ?_
  exact Ev.step (fun k => by rw [dom_Dominates.j0, if_pos rfl]) (Ev.now _)
theorem dominates_end (t : List Int) (a v : Int) (h : Ev (fun k => dom_Depth.f k t a) v) : Ev (fun k => dom_Dominates.f k t a (t.length : Int)) false := by
  unfold dom_Dominates.f
  refine Ev.bind h ?_
  by_cases hv : v < 0
  · refine Ev.congr (fun k => if_pos hv) ?_
    exact Ev.step (fun k => by rw [dom_Dominates.j0, if_pos rfl]) (Ev.now _)
  · refine Ev.congr (fun k => if_neg hv) (Ev.bind (depth_end t) ?_)
    exact Ev.step (fun k => by rw [dom_Dominates.j0, if_pos (by decide)]) (Ev.now _)
theorem depth_root (t : List Int) : ∃ v, Ev (fun k => dom_Depth.f k t 0) v := by
  unfold dom_Depth.f
  by_cases h : t.length = 0
  · exact ⟨-1, Ev.step (fun k => by rw [dom_Depth.l0, if_neg (by omega), if_pos rfl, if_pos (by omega)]) (Ev.now _)⟩
  · exact ⟨0, Ev.step (fun k => by rw [dom_Depth.l0, if_neg (by omega), if_pos rfl, if_neg (by omega)]) (Ev.now _)⟩
theorem few28_ev (bl : List (List S29)) (p0 : ByteArray) (p1 p2 : Int) (p3 : List Int) (hl : bl.length < 4611686018427387904) : ∃ v, Ev (fun k => balustradelaw28_few.f k p0 p1 p2 p3 bl) v ∧ (v = true → bl.length ≤ 14) := by
  obtain ⟨v, h1, h2⟩ := few_ev bl p0 p1 p2 p3 hl
  unfold balustradelaw28_few.f
  cases v with
  | true => exact ⟨decide ((bl.length : Int) ≤ 14), Ev.bind h1 (Ev.congr (fun k => if_pos rfl) (Ev.now _)), fun h => by have := of_decide_eq_true h; omega⟩
  | false => exact ⟨false, Ev.bind h1 (Ev.congr (fun k => if_neg (by simp)) (Ev.now _)), fun h => by simp at h⟩
end Go.Proofs.Ytomopjomapkmjaa.Pure

/- A text of this claim, what is not used left out. -/
import Derived.RowKit
set_option linter.unusedVariables false
namespace Go.Proofs.Ytomopjomapkmjaa.Pure
inductive Av (E : Nat → Nat → Prop) (d : Nat) : Nat → Prop
  | start : 0 ≠ d → Av E d 0
  | step {y x : Nat} : Av E d y → E y x → x ≠ d → Av E d x
inductive Up (E : Nat → Nat → Prop) (P : Nat → Nat) (a : Nat) : Nat → Prop
  | one {b : Nat} : E a b → P a < P b → Up E P a b
  | step {y x : Nat} : Up E P a y → E y x → P a < P x → Up E P a x
inductive Ch (T : Nat → Nat) : Nat → Nat → Prop
  | refl (x : Nat) : Ch T x x
  | up {x y : Nat} : x ≠ 0 → Ch T (T x) y → Ch T x y
theorem Ch.trans {T : Nat → Nat} {x y z : Nat} (h : Ch T x y) (k : Ch T y z) : Ch T x z := by
  induction h with
  | refl => exact k
  | up h0 _ ih => exact .up h0 (ih k)
theorem Ch.cases' {T : Nat → Nat} {x y : Nat} (h : Ch T x y) (hne : y ≠ x) : x ≠ 0 ∧ Ch T (T x) y := by
  cases h with
  | refl => exact absurd rfl hne
  | up h0 h1 => exact ⟨h0, h1⟩
structure Gr (E : Nat → Nat → Prop) (R : Nat → Prop) (P : Nat → Nat) : Prop where
  r0 : R 0
  p0 : ∀ k, R k → k ≠ 0 → P 0 < P k
  inj : ∀ a b, R a → R b → P a = P b → a = b
  edge : ∀ y x, R y → E y x → R x
  ahead : ∀ k, R k → k ≠ 0 → ∃ p, R p ∧ E p k ∧ P p < P k
structure Tr (E : Nat → Nat → Prop) (R : Nat → Prop) (P : Nat → Nat) (D : Nat → Prop) (T : Nat → Nat) : Prop where
  d0 : D 0
  dr : ∀ k, D k → R k
  par : ∀ k, D k → k ≠ 0 → D (T k) ∧ P (T k) < P k
  up : ∀ k, D k → k ≠ 0 → Up E P (T k) k
  snd : ∀ k, D k → ∀ d, ¬ Av E d k → Ch T k d
section
variable {E : Nat → Nat → Prop} {R : Nat → Prop} {P : Nat → Nat} {D : Nat → Prop} {T : Nat → Nat}
theorem Ch.done (t : Tr E R P D T) {x y : Nat} (h : Ch T x y) (hx : D x) : D y ∧ P y ≤ P x := by
  induction h with
  | refl => exact ⟨hx, Nat.le_refl _⟩
  | up h0 _ ih =>
    have := t.par _ hx h0
    have h2 := ih this.1
    exact ⟨h2.1, by omega⟩
theorem Ch.low (t : Tr E R P D T) {x y : Nat} (h : Ch T x y) (hx : D x) (hne : y ≠ x) : P y < P x := by
  obtain ⟨h0, h1⟩ := h.cases' hne
  have h2 := t.par _ hx h0
  have h3 := h1.done t h2.1
  omega
theorem Ch.row (g : Gr E R P) (t : Tr E R P D T) {x y z : Nat} (h : Ch T x y) (k : Ch T x z) (hx : D x) (hl : P z ≤ P y) : Ch T y z := by
  induction h with
  | refl => exact k
  | @up a b h0 h1 ih =>
    have hb := h1.done t (t.par _ hx h0).1
    by_cases hz : z = a
    · subst hz
      have := t.par _ hx h0
      omega
    · exact ih (k.cases' hz).2 (t.par _ hx h0).1 hl
theorem Up.far (hu : ∀ a b : Nat, Up E P a b → P a < P b) {m c x : Nat} (h1 : Up E P m c) (h2 : Up E P c x) (hl : P m < P c) : Up E P m x := by
  induction h2 with
  | one he hp => exact .step h1 he (by omega)
  | step _ he hp ih => exact .step ih he (by omega)
theorem Up.lt {a b : Nat} (h : Up E P a b) : P a < P b := by
  cases h with
  | one _ h => exact h
  | step _ _ h => exact h
theorem Ch.isUp (t : Tr E R P D T) {x m : Nat} (h : Ch T x m) (hx : D x) (hne : m ≠ x) : Up E P m x := by
  induction h with
  | refl => exact absurd rfl hne
  | @up a b h0 h1 ih =>
    have hp := t.par _ hx h0
    by_cases hb : b = T a
    · subst hb
      exact t.up _ hx h0
    · exact Up.far (fun _ _ h => h.lt) (ih hp.1 hb) (t.up _ hx h0) (h1.low t hp.1 hb)
theorem Av.upTo {d m x : Nat} (h : Av E d m) (hu : Up E P m x) (hd : P d < P m) : Av E d x := by
  induction hu with
  | one he hp => exact .step h he (by rintro rfl; omega)
  | step _ he hp ih => exact .step ih he (by rintro rfl; omega)
theorem dom_on (t : Tr E R P D T) {d x m : Nat} (hx : D x) (h : Ch T x m) (hd : ¬ Av E d x) (hl : P d < P m) : ¬ Av E d m := by
  intro ha
  by_cases e : m = x
  · subst e; exact hd ha
  · exact hd (ha.upTo (h.isUp t hx e) hl)
def Meet (T : Nat → Nat) (S : Nat → Prop) (c : Nat) : Prop := ∀ y, Ch T c y ↔ ∀ p, S p → Ch T p y
def setT (T : Nat → Nat) (k c : Nat) : Nat → Nat := fun x => if x = k then c else T x
theorem setT_same (T : Nat → Nat) (k c : Nat) : setT T k c k = c := if_pos rfl
theorem setT_other (T : Nat → Nat) {k c x : Nat} (h : x ≠ k) : setT T k c x = T x := if_neg h
theorem Ch.keep (t : Tr E R P D T) {k c x y : Nat} (h : Ch T x y) (hx : D x) (hk : P k ≤ P y) : Ch (setT T k c) x y := by
  induction h with
  | refl => exact .refl _
  | @up a b h0 h1 ih =>
    have hp := t.par _ hx h0
    have hb := h1.done t hp.1
    have hne : a ≠ k := by rintro rfl; omega
    exact .up h0 (by rw [setT_other T hne]; exact ih hp.1 hk)
theorem Ch.lower (t : Tr E R P D T) {k c x y : Nat} (h : Ch T x y) (hx : D x) (hk : P x < P k) : Ch (setT T k c) x y := by
  induction h with
  | refl => exact .refl _
  | @up a b h0 h1 ih =>
    have hp := t.par _ hx h0
    have hne : a ≠ k := by rintro rfl; omega
    exact .up h0 (by rw [setT_other T hne]; exact ih hp.1 (by omega))
theorem Ch.aside (t : Tr E R P D T) {k c x y : Nat} (h : Ch T x y) (hx : D x) (hk : ¬ Ch T x k) : Ch (setT T k c) x y := by
  induction h with
  | refl => exact .refl _
  | @up a b h0 h1 ih =>
    have hp := t.par _ hx h0
    have hne : a ≠ k := by rintro rfl; exact hk (.refl _)
    exact .up h0 (by rw [setT_other T hne]; exact ih hp.1 (fun h => hk (.up h0 h)))
def Pd (E : Nat → Nat → Prop) (D : Nat → Prop) (k p : Nat) : Prop := E p k ∧ D p
theorem dom_pred {d k p : Nat} (hd : ¬ Av E d k) (hne : d ≠ k) (he : E p k) : ¬ Av E d p := fun h => hd (.step h he (Ne.symm hne))
theorem Tr.put (g : Gr E R P) (t : Tr E R P D T) {k c : Nat} (hk : R k) (h0 : k ≠ 0) (hm : Meet T (Pd E D k) c) (ha : ∃ p, Pd E D k p ∧ P p < P k) : Tr E R P (fun x => D x ∨ x = k) (setT T k c) ∧ D c ∧ P c < P k := by
  obtain ⟨p, hp, hpk⟩ := ha
  have hcp : Ch T p c := (hm c).1 (.refl c) p hp
  have hc := hcp.done t hp.2
  have hck : P c < P k := by omega
  have hne : c ≠ k := by rintro rfl; omega
  have hupk : Up E P c k := by
    by_cases e : c = p
    · subst e; exact .one hp.1 hpk
    · exact .step (hcp.isUp t hp.2 e) hp.1 hck
  refine ⟨⟨.inl t.d0, ?_, ?_, ?_, ?_⟩, hc.1, hck⟩
  · rintro x (h | rfl)
    · exact t.dr x h
    · exact hk
  · intro x hx hx0
    by_cases e : x = k
    · subst e; rw [setT_same]; exact ⟨.inl hc.1, hck⟩
    · rw [setT_other T e]
      rcases hx with h | h
      · exact ⟨.inl (t.par x h hx0).1, (t.par x h hx0).2⟩
      · exact absurd h e
  · intro x hx hx0
    by_cases e : x = k
    · subst e; rw [setT_same]; exact hupk
    · rw [setT_other T e]
      rcases hx with h | h
      · exact t.up x h hx0
      · exact absurd h e
  · 
    have key : ∀ n x, P x = n → (D x ∨ x = k) → ∀ d, ¬ Av E d x → Ch (setT T k c) x d := by
      intro n
      induction n using Nat.strongRecOn with
      | _ n ih =>
        intro x hn hx d hd
        by_cases e : d = x
        · subst e; exact .refl _
        by_cases ex : x = k
        · subst ex
          refine .up h0 ?_
          rw [setT_same]
          have : Ch T c d := (hm d).2 (fun q hq => t.snd q hq.2 d (dom_pred hd e hq.1))
          exact this.lower t hc.1 hck
        · rcases hx with hx | hx
          · have hs := t.snd x hx d hd
            obtain ⟨hx0, h1⟩ := hs.cases' e
            have hpx := t.par x hx hx0
            refine .up hx0 ?_
            rw [setT_other T ex]
            by_cases e2 : d = T x
            · subst e2; exact .refl _
            · exact ih (P (T x)) (by omega) (T x) rfl (.inl hpx.1) d (dom_on t hx (.up hx0 (.refl _)) hd (h1.low t hpx.1 e2))
          · exact absurd hx ex
    exact fun x hx d hd => key (P x) x rfl hx d hd
def Nh (E : Nat → Nat → Prop) (P : Nat → Nat) (D : Nat → Prop) (T : Nat → Nat) : Prop := ∀ k, D k → k ≠ 0 → ∀ y, (∀ p, Pd E D k p → Ch T p y) → P y ≤ P (T k)
def La (E : Nat → Nat → Prop) (P : Nat → Nat) (D : Nat → Prop) (T : Nat → Nat) (k : Nat) : Prop := ∀ p, Pd E D k p → P p < P k → Ch T p (T k)
def Mi (P : Nat → Nat) (D : Nat → Prop) (T1 T : Nat → Nat) : Prop := ∀ x, D x → ∀ t y, Ch T1 x t → Ch T x y → P y ≤ P t → Ch T t y
theorem new_on (t : Tr E R P D T) {T1 : Nat → Nat} {k c : Nat} (hk : D k) (h0 : k ≠ 0) (hm : Meet T (Pd E D k) c) {p : Nat} (hp : Pd E D k p) (hla : Ch T1 p (T k)) (hmi : Mi P D T1 T) (hn : Nh E P D T) : Ch T (T k) c :=
  hmi p hp.2 (T k) c hla ((hm c).1 (.refl c) p hp) (hn k hk h0 c (fun q hq => (hm c).1 (.refl c) q hq))
theorem Ch.shrink {k c x y : Nat} (h : Ch (setT T k c) x y) (hk0 : k ≠ 0) (hc : Ch T (T k) c) : Ch T x y := by
  induction h with
  | refl => exact .refl _
  | @up a b h0 h1 ih =>
    by_cases e : a = k
    · subst e
      rw [setT_same] at ih
      exact .up hk0 (hc.trans ih)
    · rw [setT_other T e] at ih
      exact .up h0 ih
theorem nh_put {k c : Nat} (hk0 : k ≠ 0) (hm : Meet T (Pd E D k) c) (t : Tr E R P D T) (hcd : D c) (hc : Ch T (T k) c) (hn : Nh E P D T) : Nh E P D (setT T k c) := by
  intro x hx hx0 y hy
  have hy' : ∀ p, Pd E D x p → Ch T p y := fun p hp => (hy p hp).shrink hk0 hc
  by_cases e : x = k
  · subst e
    rw [setT_same]
    exact (((hm y).2 hy').done t hcd).2
  · rw [setT_other T e]
    exact hn x hx hx0 y hy'
theorem mi_put (g : Gr E R P) (t : Tr E R P D T) {T1 : Nat → Nat} (t1 : Tr E R P D T1) {k c : Nat} (hk : D k) (h0 : k ≠ 0) (t' : Tr E R P D (setT T k c)) (hcd : D c) (hck : P c < P k) (hc : Ch T (T k) c) (hsame : ∀ a, D a → P k < P a → T a = T1 a) (hmi : Mi P D T1 T) : Mi P D T1 (setT T k c) := by
  intro x hx a y h1 h2 hl
  have h2T := h2.shrink h0 hc
  have ha := h1.done t1 hx
  have hy := hmi x hx a y h1 h2T hl
  by_cases hak : Ch T a k
  · by_cases hyk : P k ≤ P y
    · exact hy.keep t ha.1 hyk
    · have hka := (hak.done t ha.1).2
      have hxa : Ch T x a := by
        clear h2 h2T hy hmi hl
        induction h1 with
        | refl => exact .refl _
        | @up u v hu0 h1 ih =>
          have hpu := t1.par _ hx hu0
          have hv := h1.done t1 hpu.1
          have hle : P k < P u := by omega
          refine .up hu0 ?_
          rw [hsame u hx hle]
          exact ih hpu.1 hv hak hka
      have hxk : Ch (setT T k c) x k := (hxa.trans hak).keep t hx (Nat.le_refl _)
      have hky : Ch (setT T k c) k y := hxk.row g t' h2 hx (by omega)
      exact (hak.keep t ha.1 (Nat.le_refl _)).trans hky
  · exact hy.aside t ha.1 hak
end
end Go.Proofs.Ytomopjomapkmjaa.Pure

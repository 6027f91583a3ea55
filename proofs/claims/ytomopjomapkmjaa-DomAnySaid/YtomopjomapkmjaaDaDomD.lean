/- A text of this claim, what is not used left out. -/
import Derived.Test.YtomopjomapkmjaaDaDomC
set_option linter.unusedVariables false
namespace Go.Proofs.Ytomopjomapkmjaa.Pure
open Go.RowKit Go.Proofs.Ytomopjomapkmjaa.P Go.Proofs.YtomopjomapkmjaaW.PrintWords Go.Proofs.YtomopjomapkmjaaW.PrintLast Go.Proofs.YtomopjomapkmjaaW.PrintMore
theorem getD_setB (l : List Bool) (i x : Nat) (hi : i < l.length) : Dn (l.set i true) x ↔ Dn l x ∨ x = i := by
  unfold Dn
  rw [getD_set]
  constructor
  · rintro (⟨h, _⟩ | h)
    · exact .inr h
    · exact .inl h
  · rintro (h | h)
    · exact .inr h
    · exact .inl ⟨h, hi⟩
theorem Tr.congr {E : Nat → Nat → Prop} {R : Nat → Prop} {P : Nat → Nat} {D D' : Nat → Prop} {T : Nat → Nat} (t : Tr E R P D T) (h : ∀ x, D x ↔ D' x) : Tr E R P D' T := by
  have e : D = D' := funext fun x => propext (h x)
  exact e ▸ t
theorem put_rep {s : List (List Int)} (hs : s.length ≤ 40) (hv : ∀ l ∈ s, ∀ t ∈ l, 0 ≤ t ∧ t < (s.length : Int)) (hne : s ≠ []) {x5 x6 : List Int} {x10 : List Bool} {T : Nat → Nat} (rp : Rp s x5 x6 x10 T) {q c : Nat} (hq : Rch s (-1) q) (hq0 : q ≠ 0) : Rp s (x5.set q (c : Int)) x6 (x10.set q true) (setT T q c) := by
  have hql := rch_lt s (-1) hv hq
  refine ⟨by rw [List.length_set]; exact rp.l5, rp.l6, by rw [List.length_set]; exact rp.l10, ?_, rp.place, rp.out, ?_⟩
  · intro x hx hx0
    rw [getD_setI _ _ _ _ (by rw [rp.l5]; exact hql)]
    by_cases e : x = q
    · subst e; rw [if_pos rfl, setT_same]
    · rw [if_neg e, setT_other T e]
      rcases (getD_setB _ _ _ (by rw [rp.l10]; exact hql)).1 hx with h | h
      · exact rp.tree x h hx0
      · exact absurd h e
  · intro x hx h
    have e : x ≠ q := by
      rintro rfl
      rcases h with h | h
      · exact hq0 h
      · exact h hq
    rw [getD_setI _ _ _ _ (by rw [rp.l5]; exact hql), if_neg e]
    exact rp.none_ x hx h
structure One {s : List (List Int)} (x5 x6 : List Int) (x10 : List Bool) (T : Nat → Nat) (i : Nat) : Prop where
  rp : Rp s x5 x6 x10 T
  tr : Tr (Ed s) (Rch s (-1)) (Pl s) (Dn x10) T
  dn : ∀ x, Dn x10 x ↔ Rch s (-1) x ∧ Pl s x ≤ i
  nh : Nh (Ed s) (Pl s) (Dn x10) T
  la : ∀ k, Dn x10 k → k ≠ 0 → La (Ed s) (Pl s) (Dn x10) T k
  un : ∀ x, x < s.length → ¬ Dn x10 x → x5.getD x 0 = -1
theorem One.step {s : List (List Int)} (hs : s.length ≤ 40) (hv : ∀ l ∈ s, ∀ t ∈ l, 0 ≤ t ∧ t < (s.length : Int)) (hne : s ≠ []) {x5 x6 : List Int} {x10 : List Bool} {T : Nat → Nat} {i : Nat} (o : One (s := s) x5 x6 x10 T i) {q : Nat} (hq : Rch s (-1) q) (hq0 : q ≠ 0) (hqi : Pl s q = i + 1) {c : Nat} (hm : Meet T (Pd (Ed s) (Dn x10) q) c) : One (s := s) (x5.set q (c : Int)) x6 (x10.set q true) (setT T q c) (i + 1) := by
  have g := gr_of s hs hv hne
  have hql := rch_lt s (-1) hv hq
  have hB := fun x => getD_setB x10 q x (by rw [o.rp.l10]; exact hql)
  have hnq : ¬ Dn x10 q := fun h => by have := ((o.dn q).1 h).2; omega
  obtain ⟨p, hpr, hpe, hpl⟩ := g.ahead q hq hq0
  have hpd : Dn x10 p := (o.dn p).2 ⟨hpr, by omega⟩
  obtain ⟨t', hcd, hck⟩ := Tr.put g o.tr hq hq0 hm ⟨p, ⟨hpe, hpd⟩, hpl⟩
  have low : ∀ a y, Dn x10 a → (Ch (setT T q c) a y ↔ Ch T a y) := by
    intro a y ha
    have hla : Pl s a < Pl s q := by have := ((o.dn a).1 ha).2; omega
    constructor
    · intro h
      induction h with
      | refl => exact .refl _
      | @up a b h0 h1 ih =>
        have hne : a ≠ q := by rintro rfl; exact hnq ha
        rw [setT_other T hne] at ih h1
        have hp := o.tr.par a ha h0
        exact .up h0 (ih hp.1 (by omega))
    · intro h
      exact h.lower o.tr ha hla
  refine ⟨put_rep hs hv hne o.rp hq hq0, t'.congr (fun x => (hB x).symm), fun x => ?_, ?_, ?_, fun x hx hnx => ?_⟩
  · rw [hB x, o.dn x]
    constructor
    · rintro (⟨h1, h2⟩ | rfl)
      · exact ⟨h1, by omega⟩
      · exact ⟨hq, by omega⟩
    · rintro ⟨h1, h2⟩
      by_cases h : Pl s x ≤ i
      · exact .inl ⟨h1, h⟩
      · exact .inr (g.inj x q h1 hq (by omega))
  · intro k hk hk0 y hy
    have hy' : ∀ z, Pd (Ed s) (Dn x10) k z → Ch T z y := fun z hz => (low z y hz.2).1 (hy z ⟨hz.1, (hB z).2 (.inl hz.2)⟩)
    by_cases e : k = q
    · subst e
      rw [setT_same]
      exact (((hm y).2 hy').done o.tr hcd).2
    · rw [setT_other T e]
      rcases (hB k).1 hk with h | h
      · exact o.nh k h hk0 y hy'
      · exact absurd h e
  · intro k hk hk0 z hz hzk
    have hzq : z ≠ q := by
      rintro rfl
      rcases (hB k).1 hk with h | h
      · have := ((o.dn k).1 h).2; omega
      · rw [h] at hzk; omega
    have hzd : Dn x10 z := by
      rcases (hB z).1 hz.2 with h | h
      · exact h
      · exact absurd h hzq
    by_cases e : k = q
    · subst e
      rw [setT_same]
      exact (low z c hzd).2 ((hm c).1 (.refl c) z ⟨hz.1, hzd⟩)
    · rw [setT_other T e]
      rcases (hB k).1 hk with h | h
      · exact (low z (T k) hzd).2 (o.la k h hk0 z ⟨hz.1, hzd⟩ hzk)
      · exact absurd h e
  · have e : x ≠ q := fun e => hnx ((hB x).2 (.inr e))
    rw [getD_setI _ _ _ _ (by rw [o.rp.l5]; exact hql), if_neg e]
    exact o.un x hx (fun h => hnx ((hB x).2 (.inl h)))
def msr (s : List (List Int)) (T : Nat → Nat) : Nat := ((List.range s.length).map (fun x => Pl s (T x))).sum
theorem msr_set {s : List (List Int)} (hs : s.length ≤ 40) (hv : ∀ l ∈ s, ∀ t ∈ l, 0 ≤ t ∧ t < (s.length : Int)) (hne : s ≠ []) (T : Nat → Nat) (q c : Nat) (hq : q < s.length) : msr s (setT T q c) + Pl s (T q) = msr s T + Pl s c := by
  unfold msr
  have key : ∀ l : List Nat, l.Nodup → q ∈ l → (l.map (fun x => Pl s (setT T q c x))).sum + Pl s (T q) = (l.map (fun x => Pl s (T x))).sum + Pl s c := by
    intro l
    induction l with
    | nil => intro _ h; cases h
    | cons a l ih =>
      intro hn hm
      obtain ⟨h1, h2⟩ := List.nodup_cons.1 hn
      simp only [List.map_cons, List.sum_cons]
      by_cases e : a = q
      · subst e
        rw [setT_same]
        have : l.map (fun x => Pl s (setT T a c x)) = l.map (fun x => Pl s (T x)) := List.map_congr_left fun x hx => by rw [setT_other T (by rintro rfl; exact h1 hx)]
        rw [this]
        omega
      · rw [setT_other T e]
        have := ih h2 ((List.mem_cons.1 hm).resolve_left (fun h => e h.symm))
        omega
  exact key _ List.nodup_range (List.mem_range.2 hq)
structure Two {s : List (List Int)} (T1 : Nat → Nat) (x5 x6 : List Int) (x10 : List Bool) (x11 : Bool) (T : Nat → Nat) (i : Nat) : Prop where
  rp : Rp s x5 x6 x10 T
  dn : ∀ x, Dn x10 x ↔ Rch s (-1) x
  tr : Tr (Ed s) (Rch s (-1)) (Pl s) (Dn x10) T
  nh : Nh (Ed s) (Pl s) (Dn x10) T
  la : ∀ k, Dn x10 k → k ≠ 0 → Pl s k ≤ i → La (Ed s) (Pl s) (Dn x10) T k
  mi : Mi (Pl s) (Dn x10) T1 T
  same : ∀ a, Dn x10 a → i < Pl s a → T a = T1 a
  less : msr s T ≤ msr s T1 ∧ (x11 = true → msr s T < msr s T1)
  fix : x11 = false → ∀ k, Dn x10 k → k ≠ 0 → Pl s k ≤ i → Meet T (Pd (Ed s) (Dn x10) k) (T k)
  eqs : x11 = false → T = T1
theorem Two.step {s : List (List Int)} (hs : s.length ≤ 40) (hv : ∀ l ∈ s, ∀ t ∈ l, 0 ≤ t ∧ t < (s.length : Int)) (hne : s ≠ []) {T1 : Nat → Nat} {x5 x6 : List Int} {x10 : List Bool} {x11 : Bool} {T : Nat → Nat} {i : Nat} (t1 : Tr (Ed s) (Rch s (-1)) (Pl s) (Rch s (-1)) T1) (l1 : ∀ k, Rch s (-1) k → k ≠ 0 → La (Ed s) (Pl s) (Rch s (-1)) T1 k)
    (o : Two (s := s) T1 x5 x6 x10 x11 T i) {q : Nat} (hq : Rch s (-1) q) (hq0 : q ≠ 0) (hqi : Pl s q = i + 1) {c : Nat} (hm : Meet T (Pd (Ed s) (Dn x10) q) c) : Two (s := s) T1 (x5.set q (c : Int)) x6 (x10.set q true) (x11 || ((c : Int) != x5.getD q 0)) (setT T q c) (i + 1) := by
  have g := gr_of s hs hv hne
  have hql := rch_lt s (-1) hv hq
  have hB := fun x => getD_setB x10 q x (by rw [o.rp.l10]; exact hql)
  have hqd : Dn x10 q := (o.dn q).2 hq
  have hD : Dn (x10.set q true) = Dn x10 := funext fun x => propext ⟨fun h => ((hB x).1 h).elim id (fun e => e ▸ hqd), fun h => (hB x).2 (.inl h)⟩
  have hDR : Dn x10 = Rch s (-1) := funext fun x => propext (o.dn x)
  obtain ⟨p, hpr, hpe, hpl⟩ := g.ahead q hq hq0
  have hpd : Pd (Ed s) (Dn x10) q p := ⟨hpe, (o.dn p).2 hpr⟩
  obtain ⟨t0, hcd, hck⟩ := Tr.put g o.tr hq hq0 hm ⟨p, hpd, hpl⟩
  have t' : Tr (Ed s) (Rch s (-1)) (Pl s) (Dn x10) (setT T q c) := t0.congr fun x => ⟨fun h => h.elim id (fun e => e ▸ hqd), .inl⟩
  have hTq : T q = T1 q := o.same q hqd (by omega)
  have hla : Ch T1 p (T q) := by rw [hTq]; exact l1 q hq hq0 p ⟨hpe, hpr⟩ hpl
  have hc : Ch T (T q) c := new_on o.tr hqd hq0 hm hpd hla o.mi o.nh
  have hpar := o.tr.par q hqd hq0
  have hle : Pl s c ≤ Pl s (T q) := (hc.done o.tr hpar.1).2
  have htree := o.rp.tree q hqd hq0
  have hset := msr_set hs hv hne T q c hql
  have t1' : Tr (Ed s) (Rch s (-1)) (Pl s) (Dn x10) T1 := hDR ▸ t1
  have hrp := put_rep hs hv hne (c := c) o.rp hq hq0
  have hsm : c = T q → setT T q c = T := fun e => by
    funext x
    by_cases h : x = q
    · subst h; rw [setT_same, e]
    · rw [setT_other T h]
  have hflag : (x11 || ((c : Int) != x5.getD q 0)) = false → x11 = false ∧ c = T q := by
    intro h
    rw [Bool.or_eq_false_iff] at h
    refine ⟨h.1, ?_⟩
    have h2 := h.2
    rw [htree] at h2
    have : ¬ ((c : Int) ≠ (T q : Int)) := fun hn => by simp [hn] at h2
    omega
  refine ⟨hrp, fun x => by rw [hD]; exact o.dn x, by rw [hD]; exact t', by rw [hD]; exact nh_put hq0 hm o.tr hcd hc o.nh, ?_, by rw [hD]; exact mi_put g o.tr t1' hqd hq0 t' hcd hck hc (fun a ha hl => o.same a ha (by omega)) o.mi, ?_, ?_, ?_, ?_⟩
  · rw [hD]
    intro k hk hk0 hki z hz hzk
    by_cases e : k = q
    · subst e
      rw [setT_same]
      exact ((hm c).1 (.refl c) z hz).lower o.tr hz.2 hzk
    · rw [setT_other T e]
      have hkl : Pl s k ≤ i := by
        have : Pl s k ≠ Pl s q := fun h => e (g.inj k q ((o.dn k).1 hk) hq h)
        omega
      exact (o.la k hk hk0 hkl z hz hzk).lower o.tr hz.2 (by omega)
  · rw [hD]
    intro a ha hl
    have hne : a ≠ q := by rintro rfl; omega
    rw [setT_other T hne]
    exact o.same a ha (by omega)
  · refine ⟨by have := o.less.1; omega, fun h => ?_⟩
    by_cases h11 : x11 = true
    · have := o.less.2 h11; omega
    · have hcn : c ≠ T q := by
        intro e
        have h0 : x11 = false := by simpa using h11
        rw [h0, htree, e] at h
        simp at h
      have hlt := hc.low o.tr hpar.1 hcn
      have := o.less.1
      omega
  · intro h
    obtain ⟨h11, hcq⟩ := hflag h
    rw [hD, hsm hcq]
    intro k hk hk0 hki
    by_cases e : k = q
    · subst e
      rw [← hcq]; exact hm
    · refine o.fix h11 k hk hk0 ?_
      have : Pl s k ≠ Pl s q := fun h => e (g.inj k q ((o.dn k).1 hk) hq h)
      omega
  · intro h
    obtain ⟨h11, hcq⟩ := hflag h
    rw [hsm hcq]
    exact o.eqs h11
end Go.Proofs.Ytomopjomapkmjaa.Pure

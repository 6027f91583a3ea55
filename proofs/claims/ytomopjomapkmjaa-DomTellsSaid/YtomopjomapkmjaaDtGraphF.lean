/- A part of it. -/
import Derived.Test.YtomopjomapkmjaaDtGraphE
import Derived.Test.YtomopjomapkmjaaDtBaseB
import Derived.Test.YtomopjomapkmjaaDtP1
set_option linter.unusedVariables false
namespace Go.Proofs.Ytomopjomapkmjaa.Pure
open Go.RowKit Go.Proofs.Ytomopjomapkmjaa.P Go.Proofs.YtomopjomapkmjaaW.PrintWords Go.Proofs.YtomopjomapkmjaaW.PrintLast Go.Proofs.YtomopjomapkmjaaW.PrintMore
def Led (s : List (List Int)) (l new : List Int) : Prop := ∀ x a b, new = a ++ x :: b → x ∈ l ∨ ∃ y ∈ b, x ∈ s.getD y.toNat []
def New (s : List (List Int)) (a b : List Bool) (new : List Int) : Prop := new.Nodup ∧ (∀ x ∈ new, 0 ≤ x ∧ x < (s.length : Int) ∧ a.getD x.toNat false = false) ∧ ∀ x : Nat, b.getD x false = true ↔ a.getD x false = true ∨ (x : Int) ∈ new
theorem Led.app {s : List (List Int)} {l1 l2 l n1 n2 : List Int} (h1 : Led s l1 n1) (h2 : Led s l2 n2) (e1 : ∀ x ∈ l1, x ∈ l) (e2 : ∀ x ∈ l2, x ∈ l) : Led s l (n1 ++ n2) := by
  intro x a b h
  rcases List.append_eq_append_iff.1 h with ⟨c, h3, h4⟩ | ⟨c, h3, h4⟩
  · 
    exact (h2 x c b h4).imp_left (e2 x)
  · 
    cases c with
    | nil =>
      rw [List.nil_append] at h4
      exact (h2 x [] b (by rw [← h4]; rfl)).imp_left (e2 x)
    | cons z c =>
      rw [List.cons_append] at h4
      obtain ⟨rfl, rfl⟩ := List.cons.inj h4
      rcases h1 x a c h3 with h | ⟨y, hy, hx⟩
      · exact .inl (e1 x h)
      · exact .inr ⟨y, List.mem_append_left _ hy, hx⟩
theorem New.app {s : List (List Int)} {a b c : List Bool} {n1 n2 : List Int} (h1 : New s a b n1) (h2 : New s b c n2) : New s a c (n1 ++ n2) := by
  obtain ⟨d1, f1, g1⟩ := h1
  obtain ⟨d2, f2, g2⟩ := h2
  have nat : ∀ x : Int, 0 ≤ x → ((x.toNat : Nat) : Int) = x := fun x h => by omega
  refine ⟨List.nodup_append.2 ⟨d1, d2, fun x hx y hy e => ?_⟩, fun x hx => ?_, fun x => ?_⟩
  · subst e
    have h3 := (g1 x.toNat).2 (.inr (by rw [nat x (f1 x hx).1]; exact hx))
    rw [(f2 x hy).2.2] at h3
    cases h3
  · rcases List.mem_append.1 hx with hx | hx
    · exact f1 x hx
    · refine ⟨(f2 x hx).1, (f2 x hx).2.1, ?_⟩
      cases h3 : a.getD x.toNat false with
      | false => rfl
      | true =>
        have := (g1 x.toNat).2 (.inl h3)
        rw [(f2 x hx).2.2] at this
        cases this
  · rw [g2 x, g1 x, List.mem_append, or_assoc]
theorem go_new (s : List (List Int)) (hv : ∀ l ∈ s, ∀ t ∈ l, 0 ≤ t ∧ t < (s.length : Int)) : ∀ n (k : Int) (st : List Bool × List Int), 0 ≤ k → k < (s.length : Int) → st.1.length = s.length → gtUn st.1 ≤ n →
    ∃ new, (gtGo s (-1) n k st).2 = st.2 ++ new ∧ New s st.1 (gtGo s (-1) n k st).1 new ∧ Led s [k] new ∧ (st.1.getD k.toNat false = false → ∃ init, new = init ++ [k]) := by
  intro n
  induction n with
  | zero =>
    intro k st h0 h1 hs hu
    refine ⟨[], by rw [List.append_nil]; rfl, ⟨List.nodup_nil, fun x hx => by simp at hx, fun x => by simp [gtGo]⟩, fun x a b h => by simp at h, fun h => ?_⟩
    have := gt_zero st.1 (by omega) k.toNat (by omega)
    rw [h] at this
    cases this
  | succ n ih =>
    intro k st h0 h1 hs hu
    cases hk : st.1.getD k.toNat false with
    | true =>
      have e : gtGo s (-1) (n + 1) k st = st := by unfold gtGo; rw [if_pos (.inr hk)]
      rw [e]
      exact ⟨[], by rw [List.append_nil], ⟨List.nodup_nil, fun x hx => by simp at hx, fun x => by simp⟩, fun x a b h => by simp at h, fun h => by cases h⟩
    | false =>
      obtain ⟨r, hrr⟩ : ∃ r, s.getD k.toNat [] = r := ⟨_, rfl⟩
      have hmem : r ∈ s := by rw [← hrr, List.getD_eq_getElem?_getD, List.getElem?_eq_getElem (by omega)]; exact List.getElem_mem _
      have hlt : k.toNat < st.1.length := by omega
      have hu2 := gtUn_set_lt st.1 k.toNat hlt hk
      have hkk : ((k.toNat : Nat) : Int) = k := by omega
      have e : gtGo s (-1) (n + 1) k st = ((r.foldl (fun q t => gtGo s (-1) n t q) (st.1.set k.toNat true, st.2)).1, (r.foldl (fun q t => gtGo s (-1) n t q) (st.1.set k.toNat true, st.2)).2 ++ [k]) := by
        conv => lhs; unfold gtGo
        rw [if_neg (by rintro (h | h)
                       · omega
                       · rw [hk] at h; cases h), hrr]
      have fold : ∀ (l : List Int), (∀ t ∈ l, 0 ≤ t ∧ t < (s.length : Int)) → ∀ q : List Bool × List Int, q.1.length = s.length → gtUn q.1 ≤ n →
          ∃ new, (l.foldl (fun q t => gtGo s (-1) n t q) q).2 = q.2 ++ new ∧ New s q.1 (l.foldl (fun q t => gtGo s (-1) n t q) q).1 new ∧ Led s l new := by
        intro l
        induction l with
        | nil => intro _ q _ _; exact ⟨[], by simp, ⟨List.nodup_nil, fun x hx => by simp at hx, fun x => by simp⟩, fun x a b h => by simp at h⟩
        | cons t l ihl =>
          intro hl q hq hun
          have hlen := gtGo_len s (-1) n t q
          obtain ⟨n1, a1, a2, a3, _⟩ := ih t q (hl t (by simp)).1 (hl t (by simp)).2 hq hun
          obtain ⟨n2, b1, b2, b3⟩ := ihl (fun t ht => hl t (by simp [ht])) (gtGo s (-1) n t q) (hlen.1.trans hq) (Nat.le_trans hlen.2 hun)
          rw [List.foldl_cons]
          exact ⟨n1 ++ n2, by rw [b1, a1, List.append_assoc], a2.app b2, a3.app b3 (fun x hx => by simp at hx; simp [hx]) (fun x hx => by simp [hx])⟩
      obtain ⟨new, c1, ⟨d1, d2, d3⟩, c3⟩ := fold r (hv r hmem) (st.1.set k.toNat true, st.2) (by simpa using hs) (by show gtUn (st.1.set k.toNat true) ≤ n; omega)
      rw [e]
      have hkn : k ∉ new := fun h => by
        have := (d2 k h).2.2
        rw [show (st.1.set k.toNat true, st.2).1 = st.1.set k.toNat true from rfl, (getD_set _ _ _).2 (.inl ⟨rfl, hlt⟩)] at this
        cases this
      refine ⟨new ++ [k], by rw [c1, List.append_assoc], ⟨List.nodup_append.2 ⟨d1, by simp, fun x hx y hy e => by simp at hy; subst e; subst hy; exact hkn hx⟩, fun x hx => ?_, fun x => ?_⟩, fun x a b h => ?_, fun _ => ⟨new, rfl⟩⟩
      · rcases List.mem_append.1 hx with hx | hx
        · refine ⟨(d2 x hx).1, (d2 x hx).2.1, ?_⟩
          cases hz : st.1.getD x.toNat false with
          | false => rfl
          | true =>
            have := (d2 x hx).2.2
            rw [show (st.1.set k.toNat true, st.2).1 = st.1.set k.toNat true from rfl, (getD_set _ _ _).2 (.inr hz)] at this
            cases this
        · simp at hx; subst hx; exact ⟨h0, h1, hk⟩
      · rw [d3 x, show (st.1.set k.toNat true, st.2).1 = st.1.set k.toNat true from rfl, getD_set, List.mem_append, List.mem_singleton]
        constructor
        · rintro ((⟨h, _⟩ | h) | h)
          · right; right; omega
          · exact .inl h
          · exact .inr (.inl h)
        · rintro (h | h | h)
          · exact .inl (.inr h)
          · exact .inr h
          · left; left; exact ⟨by omega, hlt⟩
      · rcases List.append_eq_append_iff.1 h with ⟨c, h3, h4⟩ | ⟨c, h3, h4⟩
        · cases c with
          | nil => rw [List.nil_append] at h4; obtain ⟨h5, _⟩ := List.cons.inj h4; left; simp [← h5]
          | cons z c =>
            rw [List.cons_append] at h4
            obtain ⟨_, h5⟩ := List.cons.inj h4
            simp at h5
        · cases c with
          | nil => rw [List.nil_append] at h4; obtain ⟨h5, _⟩ := List.cons.inj h4; left; simp [h5]
          | cons z c =>
            rw [List.cons_append] at h4
            obtain ⟨rfl, rfl⟩ := List.cons.inj h4
            rcases c3 x a c h3 with h6 | ⟨y, hy, hx⟩
            · exact .inr ⟨k, by simp, by rw [hrr]; exact h6⟩
            · exact .inr ⟨y, by simp [hy], hx⟩
end Go.Proofs.Ytomopjomapkmjaa.Pure

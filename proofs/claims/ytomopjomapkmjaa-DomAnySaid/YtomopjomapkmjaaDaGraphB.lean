/- A text of this claim, what is not used left out. -/
import Derived.Test.YtomopjomapkmjaaDaGraphA
import Derived.Test.YtomopjomapkmjaaDaP0
import Derived.Test.YtomopjomapkmjaaDaP1
import Derived.Test.YtomopjomapkmjaaDaP13
set_option linter.unusedVariables false
namespace Go.Proofs.Ytomopjomapkmjaa.Pure
open Go.RowKit Go.Proofs.Ytomopjomapkmjaa.P Go.Proofs.YtomopjomapkmjaaW.PrintWords Go.Proofs.YtomopjomapkmjaaW.PrintLast Go.Proofs.YtomopjomapkmjaaW.PrintMore
inductive Rch (s : List (List Int)) (but : Int) : Nat → Prop
  | start : s ≠ [] → but ≠ 0 → Rch s but 0
  | go (k : Nat) (t : Int) : Rch s but k → t ∈ s.getD k [] → t ≠ but → Rch s but t.toNat
def Sub (a b : List Bool) : Prop := ∀ x : Nat, a.getD x false = true → b.getD x false = true
def Cl (s : List (List Int)) (but : Int) (a b : List Bool) : Prop := ∀ x : Nat, b.getD x false = true → a.getD x false = false → ∀ t ∈ s.getD x [], t = but ∨ b.getD t.toNat false = true
theorem getD_set (l : List Bool) (i x : Nat) : (l.set i true).getD x false = true ↔ (x = i ∧ i < l.length) ∨ l.getD x false = true := by
  rw [List.getD_eq_getElem?_getD, List.getD_eq_getElem?_getD, List.getElem?_set]
  by_cases h : i = x
  · subst h
    by_cases hl : i < l.length
    · simp [hl]
    · simp [hl]
  · simp [h, Ne.symm h]
theorem go_sound (s : List (List Int)) (but : Int) : ∀ n (k : Int) st, (∀ x : Nat, st.1.getD x false = true → Rch s but x) → (k ≠ but → Rch s but k.toNat) → ∀ x : Nat, (gtGo s but n k st).1.getD x false = true → Rch s but x := by
  intro n
  induction n with
  | zero => intro k st h _; exact h
  | succ n ih =>
    intro k st h hk
    have fold : ∀ (l : List Int), (∀ t ∈ l, t ≠ but → Rch s but t.toNat) → ∀ q : List Bool × List Int, (∀ x : Nat, q.1.getD x false = true → Rch s but x) → ∀ x : Nat, (l.foldl (fun q t => gtGo s but n t q) q).1.getD x false = true → Rch s but x := by
      intro l
      induction l with
      | nil => intro _ q hq; exact hq
      | cons t l ihl => intro hl q hq; exact ihl (fun t ht => hl t (by simp [ht])) _ (ih t q hq (hl t (by simp)))
    unfold gtGo
    split
    · exact h
    · rename_i hn
      have hkb : k ≠ but := fun e => hn (.inl e)
      refine fold _ (fun t ht hb => Rch.go k.toNat t (hk hkb) ht hb) _ (fun x hx => ?_)
      rcases (getD_set _ _ _).1 hx with ⟨rfl, _⟩ | hx
      · exact hk hkb
      · exact h x hx
theorem go_full (s : List (List Int)) (but : Int) (hv : ∀ l ∈ s, ∀ t ∈ l, 0 ≤ t ∧ t < (s.length : Int)) : ∀ n (k : Int) st, 0 ≤ k → k < (s.length : Int) → st.1.length = s.length → gtUn st.1 ≤ n →
    Sub st.1 (gtGo s but n k st).1 ∧ (k = but ∨ (gtGo s but n k st).1.getD k.toNat false = true) ∧ Cl s but st.1 (gtGo s but n k st).1 := by
  intro n
  induction n with
  | zero =>
    intro k st h0 h1 hs hu
    exact ⟨fun x hx => hx, .inr (gt_zero st.1 (by omega) k.toNat (by omega)), fun x hx hy => by rw [show (gtGo s but 0 k st).1 = st.1 from rfl] at hx; rw [hx] at hy; cases hy⟩
  | succ n ih =>
    intro k st h0 h1 hs hu
    have fold : ∀ (l : List Int), (∀ t ∈ l, 0 ≤ t ∧ t < (s.length : Int)) → ∀ q : List Bool × List Int, q.1.length = s.length → gtUn q.1 ≤ n →
        Sub q.1 (l.foldl (fun q t => gtGo s but n t q) q).1 ∧ (∀ t ∈ l, t = but ∨ (l.foldl (fun q t => gtGo s but n t q) q).1.getD t.toNat false = true) ∧ Cl s but q.1 (l.foldl (fun q t => gtGo s but n t q) q).1 := by
      intro l
      induction l with
      | nil => intro _ q _ _; exact ⟨fun x hx => hx, fun t ht => by simp at ht, fun x hx hy => by rw [List.foldl_nil] at hx; rw [hx] at hy; cases hy⟩
      | cons t l ihl =>
        intro hl q hq hu
        have hlen := gtGo_len s but n t q
        obtain ⟨a1, a2, a3⟩ := ih t q (hl t (by simp)).1 (hl t (by simp)).2 hq hu
        obtain ⟨b1, b2, b3⟩ := ihl (fun t ht => hl t (by simp [ht])) (gtGo s but n t q) (hlen.1.trans hq) (Nat.le_trans hlen.2 hu)
        rw [List.foldl_cons]
        refine ⟨fun x hx => b1 x (a1 x hx), fun u hu => ?_, fun x hx hy u hu => ?_⟩
        · rcases List.mem_cons.1 hu with rfl | hu
          · exact a2.imp_right (b1 _)
          · exact b2 u hu
        · cases hq1 : (gtGo s but n t q).1.getD x false with
          | true => exact (a3 x hq1 hy u hu).imp_right (b1 _)
          | false => exact b3 x hx hq1 u hu
    by_cases hc : k = but ∨ st.1.getD k.toNat false = true
    · have e : gtGo s but (n + 1) k st = st := by unfold gtGo; rw [if_pos hc]
      rw [e]
      exact ⟨fun x hx => hx, hc, fun x hx hy => by rw [hx] at hy; cases hy⟩
    · have hkf : st.1.getD k.toNat false = false := by
        cases hx : st.1.getD k.toNat false with
        | false => rfl
        | true => exact absurd (.inr hx) hc
      have hlt : k.toNat < st.1.length := by omega
      have hu2 := gtUn_set_lt st.1 k.toNat hlt hkf
      have hr : ∀ t ∈ s.getD k.toNat [], 0 ≤ t ∧ t < (s.length : Int) := by
        rw [List.getD_eq_getElem?_getD, List.getElem?_eq_getElem (by omega)]
        exact hv _ (List.getElem_mem _)
      obtain ⟨c1, c2, c3⟩ := fold _ hr (st.1.set k.toNat true, st.2) (by simpa using hs) (by show gtUn (st.1.set k.toNat true) ≤ n; omega)
      have e : (gtGo s but (n + 1) k st).1 = ((s.getD k.toNat []).foldl (fun q t => gtGo s but n t q) (st.1.set k.toNat true, st.2)).1 := by
        conv => lhs; unfold gtGo
        rw [if_neg hc]
      rw [e]
      refine ⟨fun x hx => c1 x ((getD_set _ _ _).2 (.inr hx)), .inr (c1 _ ((getD_set _ _ _).2 (.inl ⟨rfl, hlt⟩))), fun x hx hy u hu => ?_⟩
      by_cases hxk : x = k.toNat
      · subst hxk; exact c2 u hu
      · refine c3 x hx ?_ u hu
        cases hz : (st.1.set k.toNat true, st.2).1.getD x false with
        | false => rfl
        | true =>
          rcases (getD_set _ _ _).1 hz with ⟨h, _⟩ | h
          · exact absurd h hxk
          · rw [h] at hy; cases hy
theorem rch_sub (s : List (List Int)) (but : Int) (b : List Bool) (h0 : s ≠ [] → but ≠ 0 → b.getD 0 false = true) (hc : ∀ x : Nat, b.getD x false = true → ∀ t ∈ s.getD x [], t = but ∨ b.getD t.toNat false = true) : ∀ x, Rch s but x → b.getD x false = true := by
  intro x hx
  induction hx with
  | start h1 h2 => exact h0 h1 h2
  | go k t _ ht hb ih => exact (hc k ih t ht).resolve_left hb
theorem rep_false (n x : Nat) : (List.replicate n false).getD x false = false := by
  rw [List.getD_eq_getElem?_getD, List.getElem?_replicate]; split <;> rfl
theorem gtAll_iff (s : List (List Int)) (but : Int) (hv : ∀ l ∈ s, ∀ t ∈ l, 0 ≤ t ∧ t < (s.length : Int)) (x : Nat) : (gtAll s but).1.getD x false = true ↔ Rch s but x := by
  have hf : ∀ x : Nat, ((List.replicate s.length false, ([] : List Int)) : List Bool × List Int).1.getD x false = false := fun x => rep_false _ x
  by_cases hs : s = []
  · subst hs
    refine ⟨fun h => ?_, fun h => ?_⟩
    · exact absurd h (by simp [gtAll, gtGo])
    · exfalso
      induction h with
      | start h _ => exact h rfl
      | go _ _ _ _ _ ih => exact ih
  have hl : 0 < s.length := List.length_pos_iff.2 hs
  constructor
  · refine go_sound s but s.length 0 _ (fun x hx => ?_) (fun hb => Rch.start hs (Ne.symm hb)) x
    rw [hf] at hx; cases hx
  · have hun : gtUn (List.replicate s.length false) ≤ s.length := by unfold gtUn; exact Nat.le_trans List.count_le_length (by simp)
    obtain ⟨_, b2, b3⟩ := go_full s but hv s.length 0 (List.replicate s.length false, []) (by omega) (by omega) (by simp) hun
    exact rch_sub s but _ (fun _ hb => b2.resolve_left (Ne.symm hb)) (fun x hx => b3 x hx (hf x)) x
end Go.Proofs.Ytomopjomapkmjaa.Pure

/- A part of it. -/
import Derived.Test.YtomopjomapkmjaaDtGraphA
import Derived.Test.YtomopjomapkmjaaDtP0
import Derived.Test.YtomopjomapkmjaaDtP1
import Derived.Test.YtomopjomapkmjaaDtP13
set_option linter.unusedVariables false
namespace Go.Proofs.Ytomopjomapkmjaa.Pure
open Go.RowKit Go.Proofs.Ytomopjomapkmjaa.P Go.Proofs.YtomopjomapkmjaaW.PrintWords Go.Proofs.YtomopjomapkmjaaW.PrintLast Go.Proofs.YtomopjomapkmjaaW.PrintMore
inductive Rch (s : List (List Int)) (but : Int) : Nat → Prop
  | start : s ≠ [] → but ≠ 0 → Rch s but 0
  | go (k : Nat) (t : Int) : Rch s but k → t ∈ s.getD k [] → t ≠ but → Rch s but t.toNat
def Sub (a b : List Bool) : Prop := ∀ x : Nat, a.getD x false = true → b.getD x false = true
def Cl (s : List (List Int)) (but : Int) (a b : List Bool) : Prop := ∀ x : Nat, b.getD x false = true → a.getD x false = false → ∀ t ∈ s.getD x [], t = but ∨ b.getD t.toNat false = true
theorem getD_set (l : List Bool) (i x : Nat) : (l.set i true).getD x false = true ↔ (x = i ∧ i < l.length) ∨ l.getD x false = true := by
  rw [List.getD_eq_getElem?_getD, List.getD_eq_getElem?_getD, List.getElem?_set]
  by_cases h : i = x
  · subst h
    by_cases hl : i < l.length
    · simp [hl]
    · simp [hl]
  · simp [h, Ne.symm h]
theorem go_sound (s : List (List Int)) (but : Int) : ∀ n (k : Int) st, (∀ x : Nat, st.1.getD x false = true → Rch s but x) → (k ≠ but → Rch s but k.toNat) → ∀ x : Nat, (gtGo s but n k st).1.getD x false = true → Rch s but x := by
  intro n
  induction n with
  | zero => intro k st h _; exact h
  | succ n ih =>
    intro k st h hk
    have fold : ∀ (l : List Int), (∀ t ∈ l, t ≠ but → Rch s but t.toNat) → ∀ q : List Bool × List Int, (∀ x : Nat, q.1.getD x false = true → Rch s but x) → ∀ x : Nat, (l.foldl (fun q t => gtGo s but n t q) q).1.getD x false = true → Rch s but x := by
      intro l
      induction l with
      | nil => intro _ q hq; exact hq
      | cons t l ihl => intro hl q hq; exact ihl (fun t ht => hl t (by simp [ht])) _ (ih t q hq (hl t (by simp)))
    unfold gtGo
    split
    · exact h
    · rename_i hn
      have hkb : k ≠ but := fun e => hn (.inl e)
      refine fold _ (fun t ht hb => Rch.go k.toNat t (hk hkb) ht hb) _ (fun x hx => ?_)
      rcases (getD_set _ _ _).1 hx with ⟨rfl, _⟩ | hx
      · exact hk hkb
      · exact h x hx
theorem go_full (s : List (List Int)) (but : Int) (hv : ∀ l ∈ s, ∀ t ∈ l, 0 ≤ t ∧ t < (s.length : Int)) : ∀ n (k : Int) st, 0 ≤ k → k < (s.length : Int) → st.1.length = s.length → gtUn st.1 ≤ n →
    Sub st.1 (gtGo s but n k st).1 ∧ (k = but ∨ (gtGo s but n k st).1.getD k.toNat false = true) ∧ Cl s but st.1 (gtGo s but n k st).1 := by
  intro n
  induction n with
  | zero =>
    intro k st h0 h1 hs hu
    exact ⟨fun x hx => hx, .inr (gt_zero st.1 (by omega) k.toNat (by omega)), fun x hx hy => by rw [show (gtGo s but 0 k st).1 = st.1 from rfl] at hx; rw [hx] at hy; cases hy⟩
  | succ n ih =>
    intro k st h0 h1 hs hu
    have fold : ∀ (l : List Int), (∀ t ∈ l, 0 ≤ t ∧ t < (s.length : Int)) → ∀ q : List Bool × List Int, q.1.length = s.length → gtUn q.1 ≤ n →
        Sub q.1 (l.foldl (fun q t => gtGo s but n t q) q).1 ∧ (∀ t ∈ l, t = but ∨ (l.foldl (fun q t => gtGo s but n t q) q).1.getD t.toNat false = true) ∧ Cl s but q.1 (l.foldl (fun q t => gtGo s but n t q) q).1 := by
      intro l
      induction l with
      | nil => intro _ q _ _; exact ⟨fun x hx => hx, fun t ht => by simp at ht, fun x hx hy => by rw [List.foldl_nil] at hx; rw [hx] at hy; cases hy⟩
      | cons t l ihl =>
        intro hl q hq hu
        have hlen := gtGo_len s but n t q
        obtain ⟨a1, a2, a3⟩ := ih t q (hl t (by simp)).1 (hl t (by simp)).2 hq hu
        obtain ⟨b1, b2, b3⟩ := ihl (fun t ht => hl t (by simp [ht])) (gtGo s but n t q) (hlen.1.trans hq) (Nat.le_trans hlen.2 hu)
        rw [List.foldl_cons]
        refine ⟨fun x hx => b1 x (a1 x hx), fun u hu => ?_, fun x hx hy u hu => ?_⟩
        · rcases List.mem_cons.1 hu with rfl | hu
          · exact a2.imp_right (b1 _)
          · exact b2 u hu
        · cases hq1 : (gtGo s but n t q).1.getD x false with
          | true => exact (a3 x hq1 hy u hu).imp_right (b1 _)
          | false => exact b3 x hx hq1 u hu
    by_cases hc : k = but ∨ st.1.getD k.toNat false = true
    · have e : gtGo s but (n + 1) k st = st := by unfold gtGo; rw [if_pos hc]
      rw [e]
      exact ⟨fun x hx => hx, hc, fun x hx hy => by rw [hx] at hy; cases hy⟩
    · have hkf : st.1.getD k.toNat false = false := by
        cases hx : st.1.getD k.toNat false with
        | false => rfl
        | true => exact absurd (.inr hx) hc
      have hlt : k.toNat < st.1.length := by omega
      have hu2 := gtUn_set_lt st.1 k.toNat hlt hkf
      have hr : ∀ t ∈ s.getD k.toNat [], 0 ≤ t ∧ t < (s.length : Int) := by
        rw [List.getD_eq_getElem?_getD, List.getElem?_eq_getElem (by omega)]
        exact hv _ (List.getElem_mem _)
      obtain ⟨c1, c2, c3⟩ := fold _ hr (st.1.set k.toNat true, st.2) (by simpa using hs) (by show gtUn (st.1.set k.toNat true) ≤ n; omega)
      have e : (gtGo s but (n + 1) k st).1 = ((s.getD k.toNat []).foldl (fun q t => gtGo s but n t q) (st.1.set k.toNat true, st.2)).1 := by
        conv => lhs; unfold gtGo
        rw [if_neg hc]
      rw [e]
      refine ⟨fun x hx => c1 x ((getD_set _ _ _).2 (.inr hx)), .inr (c1 _ ((getD_set _ _ _).2 (.inl ⟨rfl, hlt⟩))), fun x hx hy u hu => ?_⟩
      by_cases hxk : x = k.toNat
      · subst hxk; exact c2 u hu
      · refine c3 x hx ?_ u hu
        cases hz : (st.1.set k.toNat true, st.2).1.getD x false with
        | false => rfl
        | true =>
          rcases (getD_set _ _ _).1 hz with ⟨h, _⟩ | h
          · exact absurd h hxk
          · rw [h] at hy; cases hy
theorem rch_sub (s : List (List Int)) (but : Int) (b : List Bool) (h0 : s ≠ [] → but ≠ 0 → b.getD 0 false = true) (hc : ∀ x : Nat, b.getD x false = true → ∀ t ∈ s.getD x [], t = but ∨ b.getD t.toNat false = true) : ∀ x, Rch s but x → b.getD x false = true := by
  intro x hx
  induction hx with
  | start h1 h2 => exact h0 h1 h2
  | go k t _ ht hb ih => exact (hc k ih t ht).resolve_left hb
theorem rep_false (n x : Nat) : (List.replicate n false).getD x false = false := by
  rw [List.getD_eq_getElem?_getD, List.getElem?_replicate]; split <;> rfl
theorem gtAll_iff (s : List (List Int)) (but : Int) (hv : ∀ l ∈ s, ∀ t ∈ l, 0 ≤ t ∧ t < (s.length : Int)) (x : Nat) : (gtAll s but).1.getD x false = true ↔ Rch s but x := by
  have hf : ∀ x : Nat, ((List.replicate s.length false, ([] : List Int)) : List Bool × List Int).1.getD x false = false := fun x => rep_false _ x
  by_cases hs : s = []
  · subst hs
    refine ⟨fun h => ?_, fun h => ?_⟩
    · exact absurd h (by simp [gtAll, gtGo])
    · exfalso
      induction h with
      | start h _ => exact h rfl
      | go _ _ _ _ _ ih => exact ih
  have hl : 0 < s.length := List.length_pos_iff.2 hs
  constructor
  · refine go_sound s but s.length 0 _ (fun x hx => ?_) (fun hb => Rch.start hs (Ne.symm hb)) x
    rw [hf] at hx; cases hx
  · have hun : gtUn (List.replicate s.length false) ≤ s.length := by unfold gtUn; exact Nat.le_trans List.count_le_length (by simp)
    obtain ⟨_, b2, b3⟩ := go_full s but hv s.length 0 (List.replicate s.length false, []) (by omega) (by omega) (by simp) hun
    exact rch_sub s but _ (fun _ hb => b2.resolve_left (Ne.symm hb)) (fun x hx => b3 x hx (hf x)) x
theorem ext_getD (a b : List Bool) (hl : a.length = b.length) (h : ∀ x : Nat, a.getD x false = true ↔ b.getD x false = true) : a = b := by
  apply List.ext_getElem hl
  intro i h1 h2
  have := h i
  rw [List.getD_eq_getElem?_getD, List.getD_eq_getElem?_getD, List.getElem?_eq_getElem h1, List.getElem?_eq_getElem h2] at this
  simp only [Option.getD_some] at this
  cases ha : a[i] <;> cases hb : b[i] <;> simp_all
def fxS (but : Int) (q : Nat) (st : List Bool × Bool) (t : Int) : List Bool × Bool := if st.1.getD q false = true ∧ t ≠ but ∧ st.1.getD t.toNat false = false then (st.1.set t.toNat true, true) else st
def fxP (s : List (List Int)) (but : Int) (st : List Bool × Bool) (q : Nat) : List Bool × Bool := (s.getD q []).foldl (fxS but q) st
theorem fxS_len (but : Int) (q : Nat) (st : List Bool × Bool) (t : Int) : (fxS but q st t).1.length = st.1.length := by unfold fxS; split <;> simp
theorem fxR_len (but : Int) (q : Nat) (l : List Int) : ∀ st : List Bool × Bool, (l.foldl (fxS but q) st).1.length = st.1.length := by
  induction l with
  | nil => intro st; rfl
  | cons t l ih => intro st; rw [List.foldl_cons, ih, fxS_len]
theorem fxPs_len (s : List (List Int)) (but : Int) (qs : List Nat) : ∀ st : List Bool × Bool, (qs.foldl (fxP s but) st).1.length = st.1.length := by
  induction qs with
  | nil => intro st; rfl
  | cons q qs ih => intro st; rw [List.foldl_cons, ih]; exact fxR_len but q _ st
theorem fxR_un (but : Int) (q : Nat) (n : Nat) (l : List Int) (hl : ∀ t ∈ l, 0 ≤ t ∧ t < (n : Int)) : ∀ st : List Bool × Bool, st.1.length = n → gtUn (l.foldl (fxS but q) st).1 ≤ gtUn st.1 ∧ ((l.foldl (fxS but q) st).2 = true → st.2 = true ∨ gtUn (l.foldl (fxS but q) st).1 < gtUn st.1) := by
  induction l with
  | nil => intro st _; exact ⟨Nat.le_refl _, fun h => .inl h⟩
  | cons t l ih =>
    intro st hs
    have h := ih (fun t ht => hl t (by simp [ht])) (fxS but q st t) ((fxS_len but q st t).trans hs)
    have hb := hl t (by simp)
    rw [List.foldl_cons]
    unfold fxS at h ⊢
    by_cases hc : st.1.getD q false = true ∧ t ≠ but ∧ st.1.getD t.toNat false = false
    · rw [if_pos hc] at h ⊢
      have hu := gtUn_set_lt st.1 t.toNat (by omega) hc.2.2
      simp only at h
      exact ⟨by omega, fun _ => .inr (by omega)⟩
    · rw [if_neg hc] at h ⊢
      exact h
theorem fxPs_un (s : List (List Int)) (but : Int) (hv : ∀ l ∈ s, ∀ t ∈ l, 0 ≤ t ∧ t < (s.length : Int)) (qs : List Nat) : ∀ st : List Bool × Bool, st.1.length = s.length → gtUn (qs.foldl (fxP s but) st).1 ≤ gtUn st.1 ∧ ((qs.foldl (fxP s but) st).2 = true → st.2 = true ∨ gtUn (qs.foldl (fxP s but) st).1 < gtUn st.1) := by
  induction qs with
  | nil => intro st _; exact ⟨Nat.le_refl _, fun h => .inl h⟩
  | cons q qs ih =>
    intro st hs
    have hr : ∀ t ∈ s.getD q [], 0 ≤ t ∧ t < (s.length : Int) := by
      rw [List.getD_eq_getElem?_getD]
      cases hq : s[q]? with
      | none => intro t ht; simp at ht
      | some l => exact hv l (List.mem_of_getElem? hq)
    have h1 := fxR_un but q s.length _ hr st hs
    have h2 := ih (fxP s but st q) ((fxR_len but q _ st).trans hs)
    rw [List.foldl_cons]
    refine ⟨Nat.le_trans h2.1 h1.1, fun h => ?_⟩
    rcases h2.2 h with h3 | h3
    · rcases h1.2 h3 with h4 | h4
      · exact .inl h4
      · exact .inr (Nat.lt_of_le_of_lt h2.1 h4)
    · exact .inr (Nat.lt_of_lt_of_le h3 h1.1)
theorem fxR_false (but : Int) (q : Nat) (l : List Int) : ∀ st : List Bool × Bool, (l.foldl (fxS but q) st).2 = false → l.foldl (fxS but q) st = st ∧ ∀ t ∈ l, st.1.getD q false = true → t = but ∨ st.1.getD t.toNat false = true := by
  induction l with
  | nil => intro st _; exact ⟨rfl, fun t ht => by simp at ht⟩
  | cons t l ih =>
    intro st h
    rw [List.foldl_cons] at h ⊢
    obtain ⟨h1, h2⟩ := ih _ h
    by_cases hc : st.1.getD q false = true ∧ t ≠ but ∧ st.1.getD t.toNat false = false
    · rw [h1] at h
      unfold fxS at h
      rw [if_pos hc] at h
      cases h
    · have e : fxS but q st t = st := by unfold fxS; rw [if_neg hc]
      rw [e] at h1 h2 ⊢
      refine ⟨h1, fun u hu hq => ?_⟩
      rcases List.mem_cons.1 hu with rfl | hu
      · by_cases hb : u = but
        · exact .inl hb
        · right
          cases hx : st.1.getD u.toNat false with
          | true => rfl
          | false => exact absurd ⟨hq, hb, hx⟩ hc
      · exact h2 u hu hq
theorem fxPs_false (s : List (List Int)) (but : Int) (qs : List Nat) : ∀ st : List Bool × Bool, (qs.foldl (fxP s but) st).2 = false → qs.foldl (fxP s but) st = st ∧ ∀ q ∈ qs, ∀ t ∈ s.getD q [], st.1.getD q false = true → t = but ∨ st.1.getD t.toNat false = true := by
  induction qs with
  | nil => intro st _; exact ⟨rfl, fun t ht => by simp at ht⟩
  | cons q qs ih =>
    intro st h
    rw [List.foldl_cons] at h ⊢
    obtain ⟨h1, h2⟩ := ih _ h
    rw [h1] at h
    obtain ⟨h3, h4⟩ := fxR_false but q _ st h
    have h3' : fxP s but st q = st := h3
    rw [h3'] at h1 h2 ⊢
    refine ⟨h1, fun p hp => ?_⟩
    rcases List.mem_cons.1 hp with rfl | hp
    · exact h4
    · exact h2 p hp
theorem fxR_sound (s : List (List Int)) (but : Int) (q : Nat) (l : List Int) (hl : ∀ t ∈ l, t ∈ s.getD q []) : ∀ st : List Bool × Bool, (∀ x : Nat, st.1.getD x false = true → Rch s but x) → Sub st.1 (l.foldl (fxS but q) st).1 ∧ ∀ x : Nat, (l.foldl (fxS but q) st).1.getD x false = true → Rch s but x := by
  induction l with
  | nil => intro st h; exact ⟨fun x hx => hx, h⟩
  | cons t l ih =>
    intro st h
    rw [List.foldl_cons]
    have h2 := ih (fun t ht => hl t (by simp [ht])) (fxS but q st t)
    unfold fxS at h2 ⊢
    by_cases hc : st.1.getD q false = true ∧ t ≠ but ∧ st.1.getD t.toNat false = false
    · rw [if_pos hc] at h2 ⊢
      obtain ⟨h3, h4⟩ := h2 (fun x hx => by
        rcases (getD_set _ _ _).1 hx with ⟨rfl, _⟩ | hx
        · exact Rch.go q t (h q hc.1) (hl t (by simp)) hc.2.1
        · exact h x hx)
      exact ⟨fun x hx => h3 x ((getD_set _ _ _).2 (.inr hx)), h4⟩
    · rw [if_neg hc] at h2 ⊢
      exact h2 h
theorem fxPs_sound (s : List (List Int)) (but : Int) (qs : List Nat) : ∀ st : List Bool × Bool, (∀ x : Nat, st.1.getD x false = true → Rch s but x) → Sub st.1 (qs.foldl (fxP s but) st).1 ∧ ∀ x : Nat, (qs.foldl (fxP s but) st).1.getD x false = true → Rch s but x := by
  induction qs with
  | nil => intro st h; exact ⟨fun x hx => hx, h⟩
  | cons q qs ih =>
    intro st h
    rw [List.foldl_cons]
    obtain ⟨h1, h2⟩ := fxR_sound s but q _ (fun t ht => ht) st h
    obtain ⟨h3, h4⟩ := ih (fxP s but st q) h2
    exact ⟨fun x hx => h3 x (h1 x hx), h4⟩
theorem rdOf_nat (l : List Bool) (i : Nat) : rdOf false l (i : Int) = l.getD i false := rfl
theorem rWithout_l2 (s : List (List Int)) (but : Int) (q : Nat) (hq : q < s.length) (hs : s.length < 4611686018427387904) (hv : ∀ t ∈ s.getD q [], 0 ≤ t ∧ t < (s.length : Int)) (hr : (s.getD q []).length < 4611686018427387904) (r : List Bool) :
    ∀ d j, (s.getD q []).length - j = d → j ≤ (s.getD q []).length → ∀ (out : List Bool) (ch : Bool), out.length = s.length →
      Ev (fun k => balustraderef17_Without.l1 k but s (((s.getD q []).drop j).foldl (fxS but q) (out, ch)).1 (((s.getD q []).drop j).foldl (fxS but q) (out, ch)).2 (((q + 1 : Nat) : Int))) r →
      Ev (fun k => balustraderef17_Without.l2 k but s out ch (q : Int) (j : Int)) r := by
  have hrow : rd_L2 s (q : Int) = s.getD q [] := rfl
  intro d
  induction d with
  | zero =>
    intro j hd hj out ch ho h
    rw [List.drop_of_length_le (by omega), List.foldl_nil] at h
    exact Ev.step (fun k => by rw [balustraderef17_Without.l2, if_pos (by omega), if_pos (by omega), hrow, if_neg (by omega), wrap_succ q (by omega)]) h
  | succ d ih =>
    intro j hd hj out ch ho h
    have hlt : j < (s.getD q []).length := by omega
    obtain ⟨t, ht⟩ : ∃ t, (s.getD q [])[j] = t := ⟨_, rfl⟩
    have hrd : rd (s.getD q []) (j : Int) = t := by rw [rd_nat _ j hlt, ht]
    have htv := hv t (ht ▸ List.getElem_mem hlt)
    rw [List.drop_eq_getElem_cons hlt, List.foldl_cons, ht] at h
    have htn : rdOf false out t = out.getD t.toNat false := rfl
    by_cases h1 : out.getD q false = true
    · by_cases h2 : t = but
      · have e : fxS but q (out, ch) t = (out, ch) := by unfold fxS; rw [if_neg (fun hc => hc.2.1 h2)]
        rw [e] at h
        exact Ev.step (fun k => by rw [balustraderef17_Without.l2, if_pos (by omega), if_pos (by omega), hrow, if_pos (by omega), if_pos (by omega), if_pos (by omega), if_pos (by rw [rdOf_nat]; exact h1), hrd, if_pos h2, wrap_succ j (by omega)]) (ih (j + 1) (by omega) (by omega) out ch ho h)
      · cases h3 : out.getD t.toNat false with
        | true =>
          have e : fxS but q (out, ch) t = (out, ch) := by unfold fxS; rw [if_neg (fun hc => by have := hc.2.2; rw [show (out, ch).1 = out from rfl, h3] at this; cases this)]
          rw [e] at h
          exact Ev.step (fun k => by rw [balustraderef17_Without.l2, if_pos (by omega), if_pos (by omega), hrow, if_pos (by omega), if_pos (by omega), if_pos (by omega), if_pos (by rw [rdOf_nat]; exact h1), hrd, if_neg h2, if_pos (by omega), if_pos (by omega), if_pos (by rw [htn]; exact h3), wrap_succ j (by omega)]) (ih (j + 1) (by omega) (by omega) out ch ho h)
        | false =>
          have e : fxS but q (out, ch) t = (out.set t.toNat true, true) := by unfold fxS; rw [if_pos ⟨h1, h2, h3⟩]
          rw [e] at h
          exact Ev.step (fun k => by rw [balustraderef17_Without.l2, if_pos (by omega), if_pos (by omega), hrow, if_pos (by omega), if_pos (by omega), if_pos (by omega), if_pos (by rw [rdOf_nat]; exact h1), hrd, if_neg h2, if_pos (by omega), if_pos (by omega), if_neg (by rw [htn, h3]; simp), wrap_succ j (by omega)]) (ih (j + 1) (by omega) (by omega) _ _ (by simpa using ho) h)
    · have e : fxS but q (out, ch) t = (out, ch) := by unfold fxS; rw [if_neg (fun hc => h1 hc.1)]
      rw [e] at h
      exact Ev.step (fun k => by rw [balustraderef17_Without.l2, if_pos (by omega), if_pos (by omega), hrow, if_pos (by omega), if_pos (by omega), if_pos (by omega), if_neg (by rw [rdOf_nat]; exact h1), wrap_succ j (by omega)]) (ih (j + 1) (by omega) (by omega) out ch ho h)
theorem rWithout_l1 (s : List (List Int)) (but : Int) (hs : s.length < 4611686018427387904) (hv : ∀ l ∈ s, ∀ t ∈ l, 0 ≤ t ∧ t < (s.length : Int)) (hr : ∀ l ∈ s, l.length < 4611686018427387904) (r : List Bool) :
    ∀ d i, s.length - i = d → i ≤ s.length → ∀ (out : List Bool) (ch : Bool), out.length = s.length →
      Ev (fun k => balustraderef17_Without.l0 k but s ((List.range' i d).foldl (fxP s but) (out, ch)).1 ((List.range' i d).foldl (fxP s but) (out, ch)).2) r →
      Ev (fun k => balustraderef17_Without.l1 k but s out ch (i : Int)) r := by
  intro d
  induction d with
  | zero =>
    intro i hd hi out ch ho h
    rw [show List.range' i 0 = [] from rfl, List.foldl_nil] at h
    exact Ev.step (fun k => by rw [balustraderef17_Without.l1, if_neg (by omega)]) h
  | succ d ih =>
    intro i hd hi out ch ho h
    have hlt : i < s.length := by omega
    have hm : s.getD i [] ∈ s := by rw [List.getD_eq_getElem?_getD, List.getElem?_eq_getElem hlt]; exact List.getElem_mem _
    rw [List.range'_succ, List.foldl_cons] at h
    refine Ev.step (fun k => by rw [balustraderef17_Without.l1, if_pos (by omega)]) ?_
    refine rWithout_l2 s but i hlt hs (hv _ hm) (hr _ hm) r _ 0 rfl (Nat.zero_le _) out ch ho ?_
    rw [List.drop_zero]
    exact ih (i + 1) (by omega) (by omega) _ _ ((fxR_len but i _ (out, ch)).trans ho) h
theorem rWithout_l0 (s : List (List Int)) (but : Int) (hs : s.length < 4611686018427387904) (hv : ∀ l ∈ s, ∀ t ∈ l, 0 ≤ t ∧ t < (s.length : Int)) (hr : ∀ l ∈ s, l.length < 4611686018427387904) :
    ∀ m (out : List Bool), gtUn out ≤ m → out.length = s.length → (∀ x : Nat, out.getD x false = true → Rch s but x) → (s ≠ [] → but ≠ 0 → out.getD 0 false = true) → Ev (fun k => balustraderef17_Without.l0 k but s out true) (gtAll s but).1 := by
  intro m
  induction m using Nat.strongRecOn with
  | _ m ih =>
    intro out hm ho hsd hst
    refine Ev.step (fun k => by rw [balustraderef17_Without.l0, if_pos rfl]) ?_
    refine rWithout_l1 s but hs hv hr _ s.length 0 (by omega) (Nat.zero_le _) out false ho ?_
    obtain ⟨h1, h2⟩ := fxPs_sound s but (List.range' 0 s.length) (out, false) hsd
    have h3 := fxPs_un s but hv (List.range' 0 s.length) (out, false) ho
    have h4 := fxPs_len s but (List.range' 0 s.length) (out, false)
    have h5 := fxPs_false s but (List.range' 0 s.length) (out, false)
    cases hc : ((List.range' 0 s.length).foldl (fxP s but) (out, false)).2 with
    | true =>
      have h6 : gtUn ((List.range' 0 s.length).foldl (fxP s but) (out, false)).1 < gtUn out := (h3.2 hc).resolve_left (by simp)
      exact ih (gtUn ((List.range' 0 s.length).foldl (fxP s but) (out, false)).1) (by omega) _ (Nat.le_refl _) (h4.trans ho) h2 (fun a b => h1 0 (hst a b))
    | false =>
      obtain ⟨h6, h7⟩ := h5 hc
      rw [h6]
      refine Ev.step (f := fun _ => some out) (fun k => by rw [balustraderef17_Without.l0, if_neg (by simp)]) ?_
      have e : (gtAll s but).1 = out := by
        refine ext_getD _ _ ((gtAll_len s but).trans ho.symm) (fun x => ?_)
        rw [gtAll_iff s but hv x]
        refine ⟨rch_sub s but out hst (fun x hx t ht => ?_) x, hsd x⟩
        have hx2 : x < s.length := by
          rw [← ho]
          by_cases hl : x < out.length
          · exact hl
          · rw [List.getD_eq_getElem?_getD, List.getElem?_eq_none (by omega)] at hx; simp at hx
        exact h7 x (by simp [List.mem_range']; omega) t ht hx
      rw [e]
      exact Ev.now _
theorem rWithout_ev (bl : List (List S29)) (p0 : ByteArray) (p1 p2 : Int) (p3 : List Int) (but : Int) (hl : bl.length ≤ 40) (hg : GoodB bl) : Ev (fun k => balustraderef17_Without.f k p0 p1 p2 p3 bl but) (gtAll (succsV bl) but).1 := by
  unfold balustraderef17_Without.f
  have hlen := succsV_len bl
  have hgood := succsV_good bl
  refine Ev.bind (rSuccs_ev bl p0 p1 p2 p3 (by omega) hg) ?_
  obtain ⟨s, hs⟩ : ∃ s, succsV bl = s := ⟨_, rfl⟩
  rw [hs] at hlen hgood ⊢
  have hv : ∀ l ∈ s, ∀ t ∈ l, 0 ≤ t ∧ t < (s.length : Int) := fun l h => (hgood l h).2
  have hr : ∀ l ∈ s, l.length < 4611686018427387904 := fun l h => by
    rw [← hs] at h
    obtain ⟨b, _, rfl⟩ := List.mem_map.1 h
    have h1 := keep_len bl.length (lastT b)
    have h2 : (lastT b).length < 1000 := by unfold lastT; split; · simp
                                            · exact tgt_len _
    show (keep bl.length (lastT b)).length < _
    omega
  refine Ev.congr (fun k => by rw [if_pos (by omega), if_pos (by omega), Option.bind_some, Int.toNat_natCast]) ?_
  have hfalse : ∀ x : Nat, (List.replicate s.length false).getD x false = true → Rch s but x := fun x hx => by rw [rep_false] at hx; cases hx
  have stop : ¬ (s ≠ [] ∧ but ≠ 0) → Ev (fun k => balustraderef17_Without.l0 k but s (List.replicate s.length false) false) (gtAll s but).1 := fun hn => by
    refine Ev.step (f := fun _ => some (List.replicate s.length false)) (fun k => by rw [balustraderef17_Without.l0, if_neg (by simp)]) ?_
    have e : (gtAll s but).1 = List.replicate s.length false := by
      refine ext_getD _ _ ((gtAll_len s but).trans (by simp)) (fun x => ?_)
      rw [gtAll_iff s but hv x]
      refine ⟨fun h => ?_, hfalse x⟩
      exfalso
      induction h with
      | start h1 h2 => exact hn ⟨h1, h2⟩
      | go _ _ _ _ _ ih => exact ih
    rw [e]
    exact Ev.now _
  by_cases h0 : 0 < s.length
  · refine Ev.congr (fun k => by rw [if_pos (by omega)]) ?_
    by_cases hb : but = 0
    · have e : (but != 0) = false := by simp [hb]
      rw [e]
      refine Ev.step (fun k => by rw [balustraderef17_Without.j0, if_neg (by simp)]) ?_
      refine Ev.step (fun k => by rw [balustraderef17_Without.j1]) ?_
      exact stop (fun h => h.2 hb)
    · have e : (but != 0) = true := by simp [hb]
      rw [e]
      refine Ev.step (fun k => by rw [balustraderef17_Without.j0, if_pos rfl, if_pos (by simp; omega)]) ?_
      refine Ev.step (fun k => by rw [balustraderef17_Without.j1]) ?_
      refine rWithout_l0 s but (by omega) hv hr _ _ (Nat.le_refl _) (by simp) (fun x hx => ?_) (fun _ _ => (getD_set _ _ _).2 (.inl ⟨rfl, by simpa using h0⟩))
      rcases (getD_set _ _ _).1 hx with ⟨rfl, _⟩ | hx
      · exact Rch.start (List.length_pos_iff.1 h0) hb
      · exact hfalse x hx
  · refine Ev.congr (fun k => by rw [if_neg (by omega)]) ?_
    refine Ev.step (fun k => by rw [balustraderef17_Without.j0, if_neg (by simp)]) ?_
    refine Ev.step (fun k => by rw [balustraderef17_Without.j1]) ?_
    exact stop (fun h => h0 (List.length_pos_iff.2 h.1))
end Go.Proofs.Ytomopjomapkmjaa.Pure

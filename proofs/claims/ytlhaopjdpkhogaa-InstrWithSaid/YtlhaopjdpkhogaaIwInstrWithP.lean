/- A text of this claim, what is not used left out. -/
import Derived.Test.YtlhaopjdpkhogaaIwInstrB
import Derived.Test.YtlhaopjdpkhogaaIwP5
import Derived.Test.YtlhaopjdpkhogaaIwP7
import Derived.Test.YtlhaopjdpkhogaaIwP14
set_option linter.unusedVariables false
namespace Go.Proofs.Ytlhaopjdpkhogaa.Pure
open Go.RowKit Go.Proofs.Ytlhaopjdpkhogaa.P Go.Proofs.YtlhaopjdpkhogaaW.PrintWords Go.Proofs.YtlhaopjdpkhogaaW.PrintLast Go.Proofs.YtlhaopjdpkhogaaW.PrintMore
theorem usV_eq (op a b c m : Int) (l : List Int) : usV op a b c m l = (if wiA op then [a] else []) ++ (if wiB op m then [b] else []) ++ (if wiC op then [c] else []) ++ l := rfl
theorem wi_aux (x y z : Bool) (a b c : Int) (l u : List Int) (h : u.length = ((if x then [a] else []) ++ (if y then [b] else []) ++ (if z then [c] else []) ++ l).length) :
    (if x then [(wiOne x a u).1] else []) ++ (if y then [(wiOne y b (wiOne x a u).2).1] else []) ++ (if z then [(wiOne z c (wiOne y b (wiOne x a u).2).2).1] else []) ++ (wiOne z c (wiOne y b (wiOne x a u).2).2).2 = u ∧
      (wiOne z c (wiOne y b (wiOne x a u).2).2).2.length = l.length := by
  unfold wiOne
  cases x <;> cases y <;> cases z <;> rcases u with _ | ⟨x1, _ | ⟨x2, _ | ⟨x3, u⟩⟩⟩ <;> simp at h ⊢ <;> first | omega | simp_all
theorem wi_uses (op a b c m : Int) (l u : List Int) (h : u.length = (usV op a b c m l).length) : usV op (wiV op a b c m u).1 (wiV op a b c m u).2.1 (wiV op a b c m u).2.2.1 m (wiV op a b c m u).2.2.2 = u ∧ (wiV op a b c m u).2.2.2.length = l.length := by
  rw [usV_eq] at h ⊢
  exact wi_aux (wiA op) (wiB op m) (wiC op) a b c l u h
theorem wi_self (op a b c m : Int) (l : List Int) : wiV op a b c m (usV op a b c m l) = (a, b, c, l) := by
  rw [usV_eq]
  unfold wiV wiOne
  cases wiA op <;> cases wiB op m <;> cases wiC op <;> rfl
theorem wi_words (op m : Int) (h : 3 ≤ op ∧ op ≤ 45 ∧ ¬ (16 < op ∧ op < 20)) : (rr_bV op || rr_oneV op) = wiA op ∧ (rr_bV op && (decide (op ≠ 45) || decide (m ≠ 21))) = wiB op m ∧ decide (op = 30) = wiC op := by
  obtain ⟨_, h2, h3, h4⟩ := has_words op m h
  refine ⟨?_, ?_, h4.symm⟩
  · unfold wiA
    rw [h2]
    unfold rr_bV
    cases rr_twoV op <;> cases rr_oneV op <;> cases decide (op = 30) <;> cases decide (op = 45) <;> rfl
  · unfold wiB
    rw [h3]
    unfold rr_bV
    have e1 : decide (op ≠ 45) = !decide (op = 45) := by by_cases h : op = 45 <;> simp [h]
    have e2 : decide (m ≠ 21) = (m != 21) := by rw [Bool.eq_iff_iff]; simp
    have e3 : (rr_twoV op = true ∨ op = 30) → op ≠ 45 := by
      rintro (h | h)
      · rintro rfl; revert h; decide
      · omega
    rw [e1, e2]
    by_cases h5 : op = 45
    · have h6 : rr_twoV op = false := by
        cases hx : rr_twoV op with
        | false => rfl
        | true => exact absurd h5 (e3 (.inl hx))
      have h7 : decide (op = 30) = false := decide_eq_false (by omega)
      rw [h6, h7, decide_eq_true h5]
      cases (m != 21) <;> rfl
    · rw [decide_eq_false h5]
      cases rr_twoV op <;> cases decide (op = 30) <;> cases (m != 21) <;> rfl
theorem wi_fit (h : Bool) (v : Int) (u : List Int) (hf : rr_fitsV h v = true) : rr_fitsV h (wiOne h v u).1 = (!h || decide (0 ≤ (wiOne h v u).1)) := by
  unfold wiOne
  cases h with
  | false => exact hf
  | true =>
    show rr_fitsV true (u.headD v) = (!true || decide (0 ≤ u.headD v))
    unfold rr_fitsV
    rw [Bool.eq_iff_iff]
    simp
    omega
theorem wi_right (op dst a b c n m site : Int) (l u : List Int) (d : Int) (hr : rr_rightV op dst a b c n m site l = true) (hu : u.length = (usV op a b c m l).length) :
    rr_rightV op (if rr_wrV op then d else dst) (wiV op a b c m u).1 (wiV op a b c m u).2.1 (wiV op a b c m u).2.2.1 n m site (wiV op a b c m u).2.2.2 = ((!rr_wrV op || decide (0 ≤ d)) && u.all (fun x => decide (0 ≤ x))) := by
  obtain ⟨w1, w2, w3⟩ := wi_words op m (right_range _ _ _ _ _ _ _ _ _ hr)
  obtain ⟨hus, hlen⟩ := wi_uses op a b c m l u hu
  unfold rr_rightV at hr ⊢
  rw [w1, w2, w3] at hr ⊢
  simp only [Bool.and_eq_true] at hr
  obtain ⟨⟨⟨⟨⟨⟨⟨r1, r2⟩, r3⟩, r4⟩, r5⟩, r6⟩, r7⟩, r8⟩ := hr
  have f1 := wi_fit (wiA op) a u r3
  have f2 := wi_fit (wiB op m) b (wiOne (wiA op) a u).2 r4
  have f3 := wi_fit (wiC op) c (wiOne (wiB op m) b (wiOne (wiA op) a u).2).2 r5
  have fd : rr_fitsV (rr_wrV op) (if rr_wrV op then d else dst) = (!rr_wrV op || decide (0 ≤ d)) := by
    cases hw : rr_wrV op with
    | false => rw [hw] at r2; exact r2
    | true =>
      show rr_fitsV true d = (!true || decide (0 ≤ d))
      unfold rr_fitsV
      rw [Bool.eq_iff_iff]
      simp
      omega
  have hall : u.all (fun x => decide (0 ≤ x)) = ((!wiA op || decide (0 ≤ (wiV op a b c m u).1)) && (!wiB op m || decide (0 ≤ (wiV op a b c m u).2.1)) && (!wiC op || decide (0 ≤ (wiV op a b c m u).2.2.1)) && (wiV op a b c m u).2.2.2.all (fun x => decide (0 ≤ x))) := by
    conv => lhs; rw [← hus]
    rw [usV_eq]
    simp only [List.all_append]
    cases wiA op <;> cases wiB op m <;> cases wiC op <;> simp
  rw [hlen, r1, r6, r8, fd, hall]
  show (_ && rr_fitsV (wiA op) (wiOne (wiA op) a u).1 && rr_fitsV (wiB op m) (wiOne (wiB op m) b (wiOne (wiA op) a u).2).1 && rr_fitsV (wiC op) (wiOne (wiC op) c (wiOne (wiB op m) b (wiOne (wiA op) a u).2).2).1 && _ && _ && _) = _
  rw [f1, f2, f3]
  show (true && (!rr_wrV op || decide (0 ≤ d)) && (!wiA op || decide (0 ≤ (wiV op a b c m u).1)) && (!wiB op m || decide (0 ≤ (wiV op a b c m u).2.1)) && (!wiC op || decide (0 ≤ (wiV op a b c m u).2.2.1)) && true && _ && true) = _
  have key : ∀ x1 x2 x3 x4 x5 : Bool, (true && x1 && x2 && x3 && x4 && true && x5 && true) = (x1 && (x2 && x3 && x4 && x5)) := by decide
  exact key _ _ _ _ _
end Go.Proofs.Ytlhaopjdpkhogaa.Pure

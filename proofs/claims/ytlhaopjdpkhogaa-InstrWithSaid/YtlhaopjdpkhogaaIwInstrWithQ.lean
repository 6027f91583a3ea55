/- A text of this claim, what is not used left out. -/
import Derived.Test.YtlhaopjdpkhogaaIwInstrWithP
import Derived.Test.YtlhaopjdpkhogaaIwP1
import Derived.Test.YtlhaopjdpkhogaaIwP5
import Derived.Test.YtlhaopjdpkhogaaIwP7
import Derived.Test.YtlhaopjdpkhogaaIwP14
set_option linter.unusedVariables false
namespace Go.Proofs.Ytlhaopjdpkhogaa.Pure
open Go.RowKit Go.Proofs.Ytlhaopjdpkhogaa.P Go.Proofs.YtlhaopjdpkhogaaW.PrintWords Go.Proofs.YtlhaopjdpkhogaaW.PrintLast Go.Proofs.YtlhaopjdpkhogaaW.PrintMore
abbrev WT := Int × Int × Int × Int × Int × Int × Int × Int × (List Int) × Bool
def withZ : WT := (0, 0, 0, 0, 0, 0, 0, 0, [], false)
def withM (op dst a b c n m site : Int) (l : List Int) (d : Int) (u : List Int) : Bool :=
  (rr_rightV op dst a b c n m site l && decide (u.length = (usesV op dst a b c n m site l).length) && (decide (0 ≤ d) || !rr_wrV op)) && u.all (fun x => decide (0 ≤ x))
def withX (op dst a b c n m site : Int) (d : Int) (u : List Int) : WT :=
  (op, if rr_wrV op then d else dst, (wiV op a b c m u).1, (wiV op a b c m u).2.1, (wiV op a b c m u).2.2.1, n, m, site, (wiV op a b c m u).2.2.2, true)
def withV (op dst a b c n m site : Int) (l : List Int) (d : Int) (u : List Int) : WT := if withM op dst a b c n m site l d u then withX op dst a b c n m site d u else withZ
theorem with_bit (op : Int) (h : 3 ≤ op ∧ op ≤ 45 ∧ ¬ (16 < op ∧ op < 20)) : (Go.bits .and .i64 (hasV op) 1 != 0) = rr_wrV op := by
  have := (has_words op 0 h).1
  unfold bt at this
  rw [← this, Bool.eq_iff_iff]
  simp
theorem with_ev (op dst a b c n m site : Int) (l : List Int) (d : Int) (u : List Int) (hl : l.length < 1099511627000) (hu : u.length < 1099511627000) :
    Ev (fun k => instr_With.f k op dst a b c n m site l d u) (withV op dst a b c n m site l d u) := by
  unfold instr_With.f
  refine Ev.congr (fun k => if_pos ⟨hl, hu⟩) ?_
  refine Ev.bind (instrUses_ev op dst a b c n m site l (by omega)) ?_
  refine Ev.bind (instrRight_ev op dst a b c n m site l (by omega)) ?_
  cases hr : rr_rightV op dst a b c n m site l with
  | false =>
    refine Ev.congr (fun k => if_neg (by simp)) ?_
    have e : withV op dst a b c n m site l d u = withZ := by
      unfold withV withM
      rw [hr]
      rfl
    rw [e]
    exact Ev.now _
  | true =>
    have huv : usesV op dst a b c n m site l = usV op a b c m l := by unfold usesV; rw [hr]; rfl
    by_cases hlen : (usesV op dst a b c n m site l).length = u.length
    · refine Ev.congr (fun k => if_pos ⟨hlen, rfl⟩) ?_
      have hw := wi_right op dst a b c n m site l u d hr (by rw [← huv]; exact hlen.symm)
      have hlw := (wi_uses op a b c m l u (by rw [← huv]; exact hlen.symm)).2
      have hb := with_bit op (right_range _ _ _ _ _ _ _ _ _ hr)
      refine Ev.bind (a := rr_rightV op (if rr_wrV op = true then d else dst) (wiV op a b c m u).1 (wiV op a b c m u).2.1 (wiV op a b c m u).2.2.1 n m site (wiV op a b c m u).2.2.2) ?_ ?_
      · rw [hb]
        exact instrRight_ev op _ _ _ _ n m site _ (by rw [hlw]; omega)
      · rw [hb]
        have e : withV op dst a b c n m site l d u = (if rr_rightV op (if rr_wrV op = true then d else dst) (wiV op a b c m u).1 (wiV op a b c m u).2.1 (wiV op a b c m u).2.2.1 n m site (wiV op a b c m u).2.2.2 = true then withX op dst a b c n m site d u else withZ) := by
          unfold withV withM
          rw [hr, decide_eq_true hlen.symm, hw, Bool.or_comm (decide (0 ≤ d))]
          rfl
        rw [e]
        exact Ev.now _
    · refine Ev.congr (fun k => if_neg (fun h => hlen h.1)) ?_
      have e : withV op dst a b c n m site l d u = withZ := by
        unfold withV withM
        rw [decide_eq_false (fun h => hlen h.symm), Bool.and_false, Bool.false_and, Bool.false_and]
        rfl
      rw [e]
      exact Ev.now _
theorem with_own (op dst a b c n m site : Int) (l : List Int) :
    withV op dst a b c n m site l dst (usesV op dst a b c n m site l) = if rr_rightV op dst a b c n m site l then (op, dst, a, b, c, n, m, site, l, true) else withZ := by
  cases hr : rr_rightV op dst a b c n m site l with
  | false => unfold withV withM; rw [hr]; rfl
  | true =>
    have huv : usesV op dst a b c n m site l = usV op a b c m l := by unfold usesV; rw [hr]; rfl
    have hw := wi_right op dst a b c n m site l (usV op a b c m l) dst hr rfl
    rw [wi_self] at hw
    have ed : (if rr_wrV op = true then dst else dst) = dst := by split <;> rfl
    rw [ed, hr] at hw
    have hm : withM op dst a b c n m site l dst (usesV op dst a b c n m site l) = true := by
      unfold withM
      rw [hr, decide_eq_true rfl, huv, Bool.true_and, Bool.true_and, Bool.or_comm]
      exact hw.symm
    unfold withV
    rw [if_pos hm, huv]
    unfold withX
    rw [wi_self, ed]
    rfl
theorem wiOne_back (h : Bool) (a : Int) (u t : List Int) : wiOne h (wiOne h a u).1 ((if h then [a] else []) ++ t) = (a, t) := by
  unfold wiOne
  cases h <;> simp
theorem wi_back (op a b c m : Int) (l u : List Int) : wiV op (wiV op a b c m u).1 (wiV op a b c m u).2.1 (wiV op a b c m u).2.2.1 m (usV op a b c m l) = (a, b, c, l) := by
  rw [usV_eq]
  unfold wiV
  simp only [List.append_assoc, wiOne_back]
theorem with_may (op dst a b c n m site : Int) (l : List Int) (d : Int) (u : List Int) (h : withM op dst a b c n m site l d u = true) :
    usesV op (if rr_wrV op then d else dst) (wiV op a b c m u).1 (wiV op a b c m u).2.1 (wiV op a b c m u).2.2.1 n m site (wiV op a b c m u).2.2.2 = u ∧
    withV op (if rr_wrV op then d else dst) (wiV op a b c m u).1 (wiV op a b c m u).2.1 (wiV op a b c m u).2.2.1 n m site (wiV op a b c m u).2.2.2 dst (usesV op dst a b c n m site l) = (op, dst, a, b, c, n, m, site, l, true) ∧
    (wiV op a b c m u).2.2.2.length = l.length := by
  have hm := h
  unfold withM at h
  simp only [Bool.and_eq_true] at h
  obtain ⟨⟨⟨hr, hlen⟩, hd⟩, hall⟩ := h
  have hlen := of_decide_eq_true hlen
  have huv : usesV op dst a b c n m site l = usV op a b c m l := by unfold usesV; rw [hr]; rfl
  have hw := wi_right op dst a b c n m site l u d hr (by rw [← huv]; exact hlen)
  rw [Bool.or_comm] at hd
  rw [hd, hall] at hw
  obtain ⟨hus, hlw⟩ := wi_uses op a b c m l u (by rw [← huv]; exact hlen)
  have e1 : usesV op (if rr_wrV op then d else dst) (wiV op a b c m u).1 (wiV op a b c m u).2.1 (wiV op a b c m u).2.2.1 n m site (wiV op a b c m u).2.2.2 = u := by
    unfold usesV
    rw [hw]
    exact hus
  refine ⟨e1, ?_, hlw⟩
  have hown := wi_right op dst a b c n m site l (usV op a b c m l) dst hr rfl
  rw [wi_self] at hown
  have ed : (if rr_wrV op = true then dst else dst) = dst := by split <;> rfl
  rw [ed, hr] at hown
  have hm2 : withM op (if rr_wrV op then d else dst) (wiV op a b c m u).1 (wiV op a b c m u).2.1 (wiV op a b c m u).2.2.1 n m site (wiV op a b c m u).2.2.2 dst (usesV op dst a b c n m site l) = true := by
    unfold withM
    rw [e1, hw, hlen, huv, decide_eq_true rfl, Bool.true_and, Bool.true_and, Bool.or_comm]
    exact hown.symm
  unfold withV
  rw [if_pos hm2, huv]
  unfold withX
  rw [wi_back]
  have ed2 : (if rr_wrV op = true then dst else (if rr_wrV op = true then d else dst)) = dst := by split <;> rfl
  rw [ed2]
end Go.Proofs.Ytlhaopjdpkhogaa.Pure

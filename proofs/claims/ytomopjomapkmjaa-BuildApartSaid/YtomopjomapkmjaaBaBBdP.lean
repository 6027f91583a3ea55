/- A text of this claim, what is not used left out. -/
import Derived.Test.YtomopjomapkmjaaBaBBdO
import Derived.Test.YtomopjomapkmjaaBaB4
import Derived.Test.YtomopjomapkmjaaBaB5
import Derived.Test.YtomopjomapkmjaaBaB8
import Derived.Test.YtomopjomapkmjaaBaB12
set_option linter.unusedVariables false
set_option linter.unusedSimpArgs false
namespace Go.Proofs.Ytomopjomapkmjaa.B
open Go Go.RowKit Go.Proofs.YtomopjomapkmjaaW.PrintWords Go.Proofs.YtomopjomapkmjaaW.PrintLast Go.Proofs.YtomopjomapkmjaaW.PrintMore Go.Proofs.Ytomopjomapkmjaa.Pure
def xc (M : List Int) : S29 := ⟨39, 0, 0, 0, 0, 0, 0, 0, M⟩
def xr : S29 := ⟨43, 0, 0, 0, 0, 0, 0, 0, []⟩
def Va : BV := ⟨nmF, 3, 1, [1, 1, 1], [[]], [1], 0⟩
def Vb (M : List Int) : BV := ⟨nmF, 3, 1, [1, 1, 1], [[xc M]], [1], 0⟩
def Vc (M : List Int) : BV := ⟨nmF, 3, 1, [1, 1, 1], [[xc M, xr]], [2], 0⟩
def Vd (M : List Int) : BV := ⟨nmF, 3, 1, [1, 1, 1, 2], [[xc M, xr]], [2], 0⟩
section
variable (M : List Int) (h8 : M.length ≤ 8) (h3 : ∀ x ∈ M, 0 ≤ x ∧ x < 3)
include h8 h3 in
theorem right_c : rr_rightV 39 0 0 0 0 0 0 0 M = true := by
  have e : rr_rightV 39 0 0 0 0 0 0 0 M = (M.all (fun x => decide (0 ≤ x)) && rr_tailV 39 0 0 M.length) := by kernel_rfl
  have e2 : rr_tailV 39 0 0 M.length = decide ((0 : Int) ≤ 0 ∧ (0 : Int) = 0 ∧ M.length ≤ 8) := rfl
  rw [e, e2, Bool.and_eq_true, List.all_eq_true]
  exact ⟨fun x hx => decide_eq_true (h3 x hx).1, decide_eq_true ⟨by omega, rfl, h8⟩⟩
include h8 h3 in
theorem put_c : putB Va (xc M) = true := by
  have hr := right_c M h8 h3
  have e : thereB Va (xc M) = true := by
    unfold thereB regsOf blksOf
    have e1 : usesV (xc M).f0 (xc M).f1 (xc M).f2 (xc M).f3 (xc M).f4 (xc M).f5 (xc M).f6 (xc M).f7 (xc M).f8 = M := by
      show (if rr_rightV 39 0 0 0 0 0 0 0 M then usV 39 0 0 0 0 M else []) = M
      rw [if_pos hr]
      kernel_rfl
    have e2 : defV (xc M).f0 (xc M).f1 (xc M).f2 (xc M).f3 (xc M).f4 (xc M).f5 (xc M).f6 (xc M).f7 (xc M).f8 = 0 := by
      show (if rr_rightV 39 0 0 0 0 0 0 0 M && rr_wrV 39 then (0 : Int) else -1) = 0
      rw [hr]
      rfl
    have e3 : targetsV (xc M).f0 (xc M).f1 (xc M).f2 (xc M).f3 (xc M).f4 (xc M).f5 (xc M).f6 (xc M).f7 (xc M).f8 = [] := by
      show (if rr_rightV 39 0 0 0 0 0 0 0 M then (if (39 : Int) = 41 then [(0 : Int)] else if (39 : Int) = 42 then [0, 0] else []) else []) = []
      rw [if_pos hr]
      rfl
    rw [e1, e2, e3, Bool.and_eq_true]
    refine ⟨?_, rfl⟩
    rw [List.all_eq_true]
    intro x hx
    rcases List.mem_append.1 hx with hx | hx
    · exact decide_eq_true (h3 x hx).2
    · rw [List.mem_singleton] at hx
      subst hx
      rfl
  unfold putB
  rw [show openB Va = true from rfl, show rr_rightV (xc M).f0 (xc M).f1 (xc M).f2 (xc M).f3 (xc M).f4 (xc M).f5 (xc M).f6 (xc M).f7 (xc M).f8 = true from hr, e]
  rfl
theorem end_c : instr_Ends.f (xc M).f0 = some false := by kernel_rfl
theorem end_r : instr_Ends.f xr.f0 = some true := by kernel_rfl
theorem put_r : putB (Vb M) xr = true := by kernel_rfl
theorem done_c : doneB (Vc M) = true := by kernel_rfl
theorem done_d : doneB (Vd M) = true := by kernel_rfl
theorem fit_a : Fit Va := ⟨by decide, by decide, rfl⟩
theorem fit_b : Fit (Vb M) := ⟨by show (0 : Int) ≤ 0; omega, by show (0 : Int) < 1; omega, rfl⟩
theorem fit_c : Fit (Vc M) := ⟨by show (0 : Int) ≤ 0; omega, by show (0 : Int) < 1; omega, rfl⟩
theorem fit_d : Fit (Vd M) := ⟨by show (0 : Int) ≤ 0; omega, by show (0 : Int) < 1; omega, rfl⟩
theorem new_a : newB [1, 1, 1] 1 = true := by kernel_rfl
theorem k2_ : kindB 2 = true := by kernel_rfl
include h8 in
theorem len_c : (Vc M).rg.length < 1000000 ∧ (Vc M).bl.length < 1000000 ∧ ∀ l ∈ (Vc M).bl, l.length < 1000000 ∧ ∀ x ∈ l, x.f8.length < 1000000 := by
  refine ⟨by show 3 < 1000000; omega, by show 1 < 1000000; omega, fun l hl => ?_⟩
  have : l = [xc M, xr] := by simpa [Vc] using hl
  subst this
  refine ⟨by show 2 < 1000000; omega, fun x hx => ?_⟩
  rcases List.mem_cons.1 hx with hx | hx
  · subst hx; show M.length < 1000000; omega
  · have : x = xr := by simpa using hx
    subst this; show 0 < 1000000; omega
include h8 in
theorem len_d : (Vd M).rg.length < 1000000 ∧ (Vd M).bl.length < 1000000 ∧ ∀ l ∈ (Vd M).bl, l.length < 1000000 ∧ ∀ x ∈ l, x.f8.length < 1000000 :=
  ⟨by show 4 < 1000000; omega, (len_c M h8).2.1, (len_c M h8).2.2⟩
end
theorem sameInts_ev (l : List Int) (hl : l.length < 4611686018427387904) : Ev (fun k => balustradebase_SameInts.f k l l) true := by
  have key : ∀ d i, l.length - i = d → i ≤ l.length → Ev (fun k => balustradebase_SameInts.l0 k l l (i : Int)) true := by
    intro d
    induction d with
    | zero =>
      intro i hd hi
      refine Ev.step (f := fun _ => some true) (fun k => ?_) (Ev.now _)
      rw [balustradebase_SameInts.l0, if_neg (by omega)]
    | succ d ih =>
      intro i hd hi
      refine Ev.step (f := fun k => balustradebase_SameInts.l0 k l l ((i + 1 : Nat) : Int)) (fun k => ?_) (ih (i + 1) (by omega) (by omega))
      rw [balustradebase_SameInts.l0, if_pos (by omega), if_pos (by omega), if_pos (by omega), if_pos rfl]
      have e : wrap64 ((i : Int) + 1) = ((i + 1 : Nat) : Int) := by unfold wrap64; omega
      rw [e]
  have h0 := key l.length 0 (by omega) (Nat.zero_le _)
  exact Ev.congr (fun k => by show (if (l.length : Int) = (l.length : Int) then _ else _) = _; rw [if_pos rfl]; rfl) h0
end Go.Proofs.Ytomopjomapkmjaa.B

/- A part of it. -/
import Derived.Test.YtomopjomapkmjaaBpBM3
import Derived.Test.YtomopjomapkmjaaBpBInstrB
import Derived.Test.YtomopjomapkmjaaBpB0
import Derived.Test.YtomopjomapkmjaaBpB6
import Derived.Test.YtomopjomapkmjaaBpB7
import Derived.Test.YtomopjomapkmjaaBpB8
import Derived.Test.YtomopjomapkmjaaBpB9
import Derived.Test.YtomopjomapkmjaaBpB10
import Derived.Test.YtomopjomapkmjaaBpB11
import Derived.Test.YtomopjomapkmjaaBpB12
import Derived.Test.YtomopjomapkmjaaBpB13
import Derived.Test.YtomopjomapkmjaaBpB14
set_option linter.unusedVariables false
set_option linter.unusedSimpArgs false
namespace Go.Proofs.Ytomopjomapkmjaa.B
open Go Go.RowKit Go.Proofs.YtomopjomapkmjaaW.PrintWords Go.Proofs.YtomopjomapkmjaaW.PrintLast Go.Proofs.YtomopjomapkmjaaW.PrintMore Go.Proofs.Ytomopjomapkmjaa.Pure
theorem wrap_succ (i : Nat) (h : i < 4611686018427387904) : wrap64 ((i : Int) + 1) = ((i + 1 : Nat) : Int) := by unfold wrap64; omega
theorem over_val (nm : ByteArray) (pa rt : Int) (rg : List Int) (bl : List (List S29)) (bg : List Bool) (p i : Int) (h0 : 0 ≤ i) (h1 : i < (bl.length : Int)) (hr : (bl.getD i.toNat []).length < 4611686018427387904) :
  balustraderef24_Over.f nm pa rt rg bl bg p i = some (overB (bl.getD i.toNat [])) := by
 unfold balustraderef24_Over.f overB
 rw [if_pos h0, if_pos h1]
 have e : rd_L4 bl i = bl.getD i.toNat [] := rfl
 rw [e]
 obtain ⟨l, hl⟩ : ∃ l, bl.getD i.toNat [] = l := ⟨_, rfl⟩
 rw [hl] at hr ⊢
 by_cases hp : 0 < l.length
 ·have hw : wrap64 ((l.length : Int) - 1) = ((l.length - 1 : Nat) : Int) := by unfold wrap64; omega
  rw [if_pos (show (l.length : Int) > 0 by omega), hw, if_pos (by omega), if_pos (by omega), endsR, decide_eq_true hp, Bool.true_and]
  rfl
 ·rw [if_neg (show ¬ (l.length : Int) > 0 by omega), decide_eq_false hp, Bool.false_and]
theorem kinds_ev (l : List Int) (hl : l.length < 4611686018427387904) : Ev (fun k => balustraderef24_Kinds.f k l) (l.all kindB) := by
 have key : ∀ d i, l.length - i = d → i ≤ l.length → Ev (fun k => balustraderef24_Kinds.l0 k l (i : Int)) ((l.drop i).all kindB) := by
  intro d
  induction d with
  | zero =>
   intro i hd hi
   refine Ev.step (f := fun _ => some ((l.drop i).all kindB)) (fun k => ?_) (Ev.now _)
   rw [balustraderef24_Kinds.l0, if_neg (by omega), List.drop_of_length_le (by omega)]
   rfl
  | succ d ih =>
   intro i hd hi
   have hlt : i < l.length := by omega
   have e : rd l (i : Int) = l[i] := by simp [rd, List.getD_eq_getElem?_getD, hlt]
   rw [List.drop_eq_getElem_cons hlt, List.all_cons]
   by_cases h1 : l[i] < 1
   ·refine Ev.step (f := fun _ => some _) (fun k => ?_) (Ev.now _)
    rw [balustraderef24_Kinds.l0, if_pos (by omega), if_pos (by omega), e, if_pos h1]
    unfold kindB
    rw [decide_eq_false (show ¬ 1 ≤ l[i] by omega)]
    rfl
   ·by_cases h3 : l[i] > 3
    ·refine Ev.step (f := fun _ => some _) (fun k => ?_) (Ev.now _)
     rw [balustraderef24_Kinds.l0, if_pos (by omega), if_pos (by omega), e, if_neg h1, if_pos h3]
     unfold kindB
     rw [decide_eq_false (show ¬ l[i] ≤ 3 by omega), Bool.and_false]
     rfl
    ·refine Ev.step (f := fun k => balustraderef24_Kinds.l0 k l ((i + 1 : Nat) : Int)) (fun k => ?_) ?_
     ·rw [balustraderef24_Kinds.l0, if_pos (by omega), if_pos (by omega), e, if_neg h1, if_neg h3, wrap_succ i (by omega)]
     ·have hk : kindB l[i] = true := by unfold kindB; rw [decide_eq_true (show 1 ≤ l[i] by omega), decide_eq_true (show l[i] ≤ 3 by omega)]; rfl
      rw [hk, Bool.true_and]
      exact ih (i + 1) (by omega) (by omega)
 exact key l.length 0 (by omega) (Nat.zero_le _)
theorem kinds_one (k : Int) : ([k] : List Int).all kindB = kindB k := by simp
section
variable (nm : ByteArray) (pa rt : Int) (rg : List Int) (bl : List (List S29)) (bg : List Bool) (p : Int)
theorem put_l1 (tl : List Int) (ht : tl.length < 4611686018427387904) : ∀ d i, tl.length - i = d → i ≤ tl.length → Ev (fun k => balustraderef24_Put.l1 k tl (i : Int) nm pa rt rg bl bg p) ((tl.drop i).all (fun t => !decide (t < 1) && !decide ((bl.length : Int) ≤ t))) := by
 intro d
 induction d with
 | zero =>
  intro i hd hi
  refine Ev.step (f := fun _ => some _) (fun k => ?_) (Ev.now _)
  rw [balustraderef24_Put.l1, if_neg (by omega), List.drop_of_length_le (by omega)]
  rfl
 | succ d ih =>
  intro i hd hi
  have hlt : i < tl.length := by omega
  have e : rd tl (i : Int) = tl[i] := by simp [rd, List.getD_eq_getElem?_getD, hlt]
  rw [List.drop_eq_getElem_cons hlt, List.all_cons]
  by_cases h1 : tl[i] < 1
  ·refine Ev.step (f := fun _ => some _) (fun k => ?_) (Ev.now _)
   rw [balustraderef24_Put.l1, if_pos (by omega), if_pos (by omega), e, if_pos h1, decide_eq_true h1]
   rfl
  ·by_cases h3 : tl[i] ≥ (bl.length : Int)
   ·refine Ev.step (f := fun _ => some _) (fun k => ?_) (Ev.now _)
    rw [balustraderef24_Put.l1, if_pos (by omega), if_pos (by omega), e, if_neg h1, if_pos h3, decide_eq_true (show (bl.length : Int) ≤ tl[i] from h3)]
    simp
   ·refine Ev.step (f := fun k => balustraderef24_Put.l1 k tl ((i + 1 : Nat) : Int) nm pa rt rg bl bg p) (fun k => ?_) ?_
    ·rw [balustraderef24_Put.l1, if_pos (by omega), if_pos (by omega), e, if_neg h1, if_neg h3, wrap_succ i (by omega)]
    ·rw [decide_eq_false h1, decide_eq_false (show ¬ (bl.length : Int) ≤ tl[i] from h3)]
     exact ih (i + 1) (by omega) (by omega)
theorem put_l0 (ul tl : List Int) (hu : ul.length < 4611686018427387904) (ht : tl.length < 4611686018427387904) : ∀ d i, ul.length - i = d → i ≤ ul.length → Ev (fun k => balustraderef24_Put.l0 k ul tl (i : Int) nm pa rt rg bl bg p) ((ul.drop i).all (fun r => !decide ((rg.length : Int) ≤ r)) && tl.all (fun t => !decide (t < 1) && !decide ((bl.length : Int) ≤ t))) := by
 intro d
 induction d with
 | zero =>
  intro i hd hi
  refine Ev.step (f := fun k => balustraderef24_Put.l1 k tl 0 nm pa rt rg bl bg p) (fun k => ?_) ?_
  ·rw [balustraderef24_Put.l0, if_neg (by omega)]
  ·rw [List.drop_of_length_le (by omega)]
   exact put_l1 nm pa rt rg bl bg p tl ht tl.length 0 (by omega) (Nat.zero_le _)
 | succ d ih =>
  intro i hd hi
  have hlt : i < ul.length := by omega
  have e : rd ul (i : Int) = ul[i] := by simp [rd, List.getD_eq_getElem?_getD, hlt]
  rw [List.drop_eq_getElem_cons hlt, List.all_cons]
  by_cases h1 : ul[i] ≥ (rg.length : Int)
  ·refine Ev.step (f := fun _ => some _) (fun k => ?_) (Ev.now _)
   rw [balustraderef24_Put.l0, if_pos (by omega), if_pos (by omega), e, if_pos h1, decide_eq_true (show (rg.length : Int) ≤ ul[i] from h1)]
   rfl
  ·refine Ev.step (f := fun k => balustraderef24_Put.l0 k ul tl ((i + 1 : Nat) : Int) nm pa rt rg bl bg p) (fun k => ?_) ?_
   ·rw [balustraderef24_Put.l0, if_pos (by omega), if_pos (by omega), e, if_neg h1, wrap_succ i (by omega)]
   ·rw [decide_eq_false (show ¬ (rg.length : Int) ≤ ul[i] from h1)]
    exact ih (i + 1) (by omega) (by omega)
theorem put_j0 (x : S29) (hl : x.f8.length < 1000) : Ev (fun k => balustraderef24_Put.j0 k false nm pa rt rg bl bg p x.f0 x.f1 x.f2 x.f3 x.f4 x.f5 x.f6 x.f7 x.f8)
  ((usesV x.f0 x.f1 x.f2 x.f3 x.f4 x.f5 x.f6 x.f7 x.f8).all (fun r => !decide ((rg.length : Int) ≤ r)) && (targetsV x.f0 x.f1 x.f2 x.f3 x.f4 x.f5 x.f6 x.f7 x.f8).all (fun t => !decide (t < 1) && !decide ((bl.length : Int) ≤ t))) := by
 have hu := usesV_le x (by omega)
 have ht := targetsV_le x
 refine Ev.step (f := fun k => (balustraderef15_Uses.f k x.f0 x.f1 x.f2 x.f3 x.f4 x.f5 x.f6 x.f7 x.f8).bind fun t225 => ((balustraderef15_Targets.f k x.f0 x.f1 x.f2 x.f3 x.f4 x.f5 x.f6 x.f7 x.f8).bind fun t228 => (balustraderef24_Put.l0 k t225 t228 0 nm pa rt rg bl bg p))) (fun k => ?_) ?_
 ·rw [balustraderef24_Put.j0, if_neg (by simp)]
 ·exact Ev.bind (refUses_ev _ _ _ _ _ _ _ _ _ (by omega)) (Ev.bind (refTargets_ev _ _ _ _ _ _ _ _ _ (by omega)) (put_l0 nm pa rt rg bl bg p _ _ (by omega) (by omega) _ 0 rfl (Nat.zero_le _)))
theorem put_jt (x : S29) : Ev (fun k => balustraderef24_Put.j0 k true nm pa rt rg bl bg p x.f0 x.f1 x.f2 x.f3 x.f4 x.f5 x.f6 x.f7 x.f8) false :=
 Ev.step (f := fun _ => some false) (fun k => by rw [balustraderef24_Put.j0, if_pos rfl]) (Ev.now _)
theorem put_ev (x : S29) (hl : x.f8.length < 1000) (h0 : 0 ≤ p) (h1 : p < (bl.length : Int)) (hr : (bl.getD p.toNat []).length < 4611686018427387904) :
  Ev (fun k => balustraderef24_Put.f k nm pa rt rg bl bg p x.f0 x.f1 x.f2 x.f3 x.f4 x.f5 x.f6 x.f7 x.f8) (putX ⟨nm, pa, rt, rg, bl, bg, p⟩ x) := by
 unfold putX balustraderef24_Put.f
 simp only [over_val nm pa rt rg bl bg p p h0 h1 hr, refRight_val _ _ _ _ _ _ _ _ x.f8 (by omega), refDef_val _ _ _ _ _ _ _ _ x.f8 (by omega), Option.bind_some]
 cases overB (bl.getD p.toNat []) with
 | true => exact Ev.congr (fun k => by rw [if_pos rfl]) (put_jt nm pa rt rg bl bg p x)
 | false =>
  cases rr_rightV x.f0 x.f1 x.f2 x.f3 x.f4 x.f5 x.f6 x.f7 x.f8 with
  | false => exact Ev.congr (fun k => by rw [if_neg (by simp), if_neg (by simp)]) (put_jt nm pa rt rg bl bg p x)
  | true =>
   by_cases h44 : x.f0 ≥ 44
   ·rw [decide_eq_true (show 44 ≤ x.f0 from h44)]
    exact Ev.congr (fun k => by rw [if_neg (by simp), if_pos rfl, if_pos h44]) (put_jt nm pa rt rg bl bg p x)
   ·rw [decide_eq_false (show ¬ 44 ≤ x.f0 from h44)]
    by_cases hd : (rg.length : Int) ≤ defV x.f0 x.f1 x.f2 x.f3 x.f4 x.f5 x.f6 x.f7 x.f8
    ·rw [decide_eq_true hd]
     exact Ev.congr (fun k => by rw [if_neg (by simp), if_pos rfl, if_neg h44]) (put_jt nm pa rt rg bl bg p x)
    ·rw [decide_eq_false hd]
     exact Ev.congr (fun k => by rw [if_neg (by simp), if_pos rfl, if_neg h44]) (put_j0 nm pa rt rg bl bg p x hl)
theorem done_ev (hb : bg.length = bl.length) (hbl : bl.length < 4611686018427387904) (hr : ∀ l ∈ bl, l.length < 4611686018427387904) : Ev (fun k => balustraderef24_Done.f k nm pa rt rg bl bg p) (doneX ⟨nm, pa, rt, rg, bl, bg, p⟩) := by
 have hrow : ∀ i, (bl.getD i []).length < 4611686018427387904 := fun i => by
  by_cases h : i < bl.length
  ·rw [List.getD_eq_getElem?_getD, List.getElem?_eq_getElem h]; exact hr _ (List.getElem_mem h)
  ·rw [List.getD_eq_getElem?_getD, List.getElem?_eq_none (by omega)]; simp
 have key : ∀ d i, bl.length - i = d → i ≤ bl.length → Ev (fun k => balustraderef24_Done.l0 k (i : Int) nm pa rt rg bl bg p) ((List.range' i (bl.length - i)).all (fun i => bg.getD i false && overB (bl.getD i []))) := by
  intro d
  induction d with
  | zero =>
   intro i hd hi
   rw [hd]
   refine Ev.step (f := fun _ => some true) (fun k => ?_) (Ev.now _)
   rw [balustraderef24_Done.l0, if_neg (by omega)]
  | succ d ih =>
   intro i hd hi
   have hlt : i < bl.length := by omega
   have e : rdOf false bg (i : Int) = bg.getD i false := rfl
   have hov := over_val nm pa rt rg bl bg p (i : Int) (by omega) (by omega) (by rw [Int.toNat_natCast]; exact hrow i)
   rw [Int.toNat_natCast] at hov
   have ihi := ih (i + 1) (by omega) (by omega)
   rw [hd, List.range'_succ, List.all_cons]
   rw [show bl.length - (i + 1) = d by omega] at ihi
   cases hbi : bg.getD i false with
   | false =>
    refine Ev.step (f := fun _ => some false) (fun k => ?_) (Ev.now _)
    rw [balustraderef24_Done.l0, if_pos (by omega), if_pos (by omega), if_pos (by omega), e, hbi, if_neg (by simp)]
   | true =>
    cases ho : overB (bl.getD i []) with
    | false =>
     rw [ho] at hov
     refine Ev.step (f := fun _ => some false) (fun k => ?_) (Ev.now _)
     rw [balustraderef24_Done.l0, if_pos (by omega), if_pos (by omega), if_pos (by omega), e, hbi, if_pos rfl, hov]
     rfl
    | true =>
     rw [ho] at hov
     refine Ev.step (f := fun k => balustraderef24_Done.l0 k ((i + 1 : Nat) : Int) nm pa rt rg bl bg p) (fun k => ?_) ihi
     rw [balustraderef24_Done.l0, if_pos (by omega), if_pos (by omega), if_pos (by omega), e, hbi, if_pos rfl, hov, wrap_succ i (by omega)]
     rfl
 have h0 := key bl.length 0 (by omega) (Nat.zero_le _)
 unfold doneX
 rw [List.range_eq_range']
 exact h0
end
theorem sameInstr_ev (x : S29) (hl : x.f8.length < 4611686018427387904) : Ev (fun k => balustradebase_SameInstr.f k x.f0 x.f1 x.f2 x.f3 x.f4 x.f5 x.f6 x.f7 x.f8 x.f0 x.f1 x.f2 x.f3 x.f4 x.f5 x.f6 x.f7 x.f8) true := by
 refine Ev.congr (f := fun k => (balustradebase_SameInts.f k x.f8 x.f8).bind fun t241 => some t241) (fun k => ?_) (Ev.bind (sameInts_ev x.f8 hl) (Ev.now _))
 unfold balustradebase_SameInstr.f
 simp
theorem sameBlock_ev (l : List S29) (hl : l.length < 4611686018427387904) (hx : ∀ x ∈ l, x.f8.length < 4611686018427387904) : Ev (fun k => balustradebase_SameBlock.f k l l) true := by
 have key : ∀ d i, l.length - i = d → i ≤ l.length → Ev (fun k => balustradebase_SameBlock.l0 k l l (i : Int)) true := by
  intro d
  induction d with
  | zero =>
   intro i hd hi
   refine Ev.step (f := fun _ => some true) (fun k => ?_) (Ev.now _)
   rw [balustradebase_SameBlock.l0, if_neg (by omega)]
  | succ d ih =>
   intro i hd hi
   have hlt : i < l.length := by omega
   have e : rd_T29 l (i : Int) = l[i] := by simp [rd_T29, List.getD_eq_getElem?_getD, hlt]
   refine Ev.step (f := fun k => (balustradebase_SameInstr.f k l[i].f0 l[i].f1 l[i].f2 l[i].f3 l[i].f4 l[i].f5 l[i].f6 l[i].f7 l[i].f8 l[i].f0 l[i].f1 l[i].f2 l[i].f3 l[i].f4 l[i].f5 l[i].f6 l[i].f7 l[i].f8).bind fun t => if t = true then balustradebase_SameBlock.l0 k l l ((i + 1 : Nat) : Int) else some false) (fun k => ?_) (Ev.bind (sameInstr_ev l[i] (hx _ (List.getElem_mem hlt))) (Ev.congr (fun k => by rw [if_pos rfl]) (ih (i + 1) (by omega) (by omega))))
   rw [balustradebase_SameBlock.l0, if_pos (by omega), if_pos (by omega), if_pos (by omega), e, wrap_succ i (by omega)]
 have h0 := key l.length 0 (by omega) (Nat.zero_le _)
 exact Ev.congr (fun k => by show (if (l.length : Int) = (l.length : Int) then _ else _) = _; rw [if_pos rfl]; rfl) h0
theorem sameFunc_ev (nm : ByteArray) (pa rt : Int) (rg : List Int) (bl : List (List S29)) (hr : rg.length < 4611686018427387904) (hb : bl.length < 4611686018427387904) (hl : ∀ l ∈ bl, l.length < 4611686018427387904 ∧ ∀ x ∈ l, x.f8.length < 4611686018427387904) :
  Ev (fun k => balustradebase_SameFunc.f k nm pa rt rg bl nm pa rt rg bl) true := by
 have key : ∀ d i, bl.length - i = d → i ≤ bl.length → Ev (fun k => balustradebase_SameFunc.l0 k (i : Int) nm pa rt rg bl nm pa rt rg bl) true := by
  intro d
  induction d with
  | zero =>
   intro i hd hi
   refine Ev.step (f := fun _ => some true) (fun k => ?_) (Ev.now _)
   rw [balustradebase_SameFunc.l0, if_neg (by omega)]
  | succ d ih =>
   intro i hd hi
   have hlt : i < bl.length := by omega
   have e : rd_L4 bl (i : Int) = bl[i] := by simp [rd_L4, List.getD_eq_getElem?_getD, hlt]
   have hm := hl _ (List.getElem_mem hlt)
   refine Ev.step (f := fun k => (balustradebase_SameBlock.f k bl[i] bl[i]).bind fun t => if t = true then balustradebase_SameFunc.l0 k ((i + 1 : Nat) : Int) nm pa rt rg bl nm pa rt rg bl else some false) (fun k => ?_) (Ev.bind (sameBlock_ev bl[i] hm.1 hm.2) (Ev.congr (fun k => by rw [if_pos rfl]) (ih (i + 1) (by omega) (by omega))))
   rw [balustradebase_SameFunc.l0, if_pos (by omega), if_pos (by omega), if_pos (by omega), e, wrap_succ i (by omega)]
 have h0 := key bl.length 0 (by omega) (Nat.zero_le _)
 have hj : Ev (fun k => balustradebase_SameFunc.j0 k ((bl.length : Int) != (bl.length : Int)) nm pa rt rg bl nm pa rt rg bl) true := by
  refine Ev.step (f := fun k => balustradebase_SameFunc.l0 k 0 nm pa rt rg bl nm pa rt rg bl) (fun k => ?_) h0
  rw [balustradebase_SameFunc.j0, if_neg (by simp)]
 unfold balustradebase_SameFunc.f
 simp only [if_true]
 exact Ev.bind (sameInts_ev rg hr) (Ev.congr (fun k => by rw [if_pos rfl]) hj)
theorem new_same (params : List Int) (ret : Int) : newB params ret = (decide (params.length ≤ 8) && (kindB ret && params.all kindB)) := by
 unfold newB
 congr 2
 induction params with
 | nil => rfl
 | cons x l ih =>
  rw [List.any_cons, List.all_cons, Bool.not_or, Bool.not_not, ih]
end Go.Proofs.Ytomopjomapkmjaa.B

/- A part of it. -/
import Derived.Test.YtgbpkbfghonllaaFcM50
import Derived.Test.YtgbpkbfghonllaaFcP12
import Derived.Test.YtgbpkbfghonllaaFcM39
import Derived.Test.YtgbpkbfghonllaaFcP21
import Derived.Outline
import Derived.Test.YtgbpkbfghonllaaFcP10
import Derived.Test.YtgbpkbfghonllaaFcM41
import Derived.Test.YtgbpkbfghonllaaFcFunH
set_option linter.unusedVariables false
set_option linter.unusedSimpArgs false
namespace Go.Proofs.Ytgbpkbfghonllaa.P
open Go Go.RowKit Go.Proofs.YtgbpkbfghonllaaW.PrintWords Go.Proofs.YtgbpkbfghonllaaW.PrintLast Go.Proofs.YtgbpkbfghonllaaW.PrintMore Go.Proofs.Ytgbpkbfghonllaa.Pure
theorem scanI_zero (L : LA) (k : Nat) (b : List S42) : ∀ d j last, (scanI L k b d j last).2 = 0 ↔ ∀ i, j ≤ i → i < j + d → insV L k b i = 0 := by
 intro d
 induction d with
 | zero => intro j last; unfold scanI; exact ⟨fun _ i h1 h2 => by omega, fun _ => rfl⟩
 | succ d ih =>
  intro j last
  unfold scanI
  by_cases c : insV L k b j = 0
  ·rw [if_neg (by simpa using c), ih]
   refine ⟨fun h i h1 h2 => ?_, fun h i h1 h2 => h i (by omega) (by omega)⟩
   by_cases e : i = j
   ·rw [e]; exact c
   ·exact h i (by omega) (by omega)
  ·rw [if_pos c]
   exact ⟨fun h => absurd h c, fun h => h j (by omega) (by omega)⟩
theorem scanB_zero (L : LA) (k : Nat) (b : List S42) : (scanB L k b).2 = 0 ↔ b.length ≠ 0 ∧ ∀ i, i < b.length → insV L k b i = 0 := by
 unfold scanB
 by_cases c : b.length = 0
 ·rw [if_pos c]; simp [c]
 ·rw [if_neg c, scanI_zero]
  exact ⟨fun h => ⟨c, fun i hi => h i (by omega) (by omega)⟩, fun h i h1 h2 => h.2 i (by omega)⟩
theorem scanBs_zero (L : LA) : ∀ d k last, (scanBs L d k last).2.2 = 0 ↔ ∀ q, k ≤ q → q < k + d → (scanB L q (L.bl.getD q [])).2 = 0 := by
 intro d
 induction d with
 | zero => intro j last; unfold scanBs; exact ⟨fun _ i h1 h2 => by omega, fun _ => rfl⟩
 | succ d ih =>
  intro j last
  unfold scanBs
  by_cases c : (scanB L j (L.bl.getD j [])).2 = 0
  ·rw [if_neg (by simpa using c), ih]
   refine ⟨fun h i h1 h2 => ?_, fun h i h1 h2 => h i (by omega) (by omega)⟩
   by_cases e : i = j
   ·rw [e]; exact c
   ·exact h i (by omega) (by omega)
  ·rw [if_pos c]
   exact ⟨fun h => absurd h c, fun h => h j (by omega) (by omega)⟩
def okF (fs : List S39) (mn : Int) (ss : List S48) (f : S39) : Prop := headV f.f1 f.f2 f.f3 f.f4 = 0 ∧ ∀ k, (hk : k < f.f4.length) → f.f4[k].length ≠ 0 ∧ ∀ j, j < f.f4[k].length → insV (laOf fs mn ss f) k f.f4[k] j = 0
theorem fnCheck_zero (fs : List S39) (mn : Int) (ss : List S48) (f : S39) : (fnCheck fs mn ss f).2.2 = 0 ↔ okF fs mn ss f := by
 unfold fnCheck funV okF
 by_cases c : headV f.f1 f.f2 f.f3 f.f4 = 0
 ·rw [if_neg (by simpa using c)]
  have h := scanBs_zero (laOf fs mn ss f) f.f4.length 0 (-1, -1)
  refine Iff.trans h ⟨fun h => ⟨c, fun k hk => ?_⟩, fun h q _ hq => ?_⟩
  ·have := h k (by omega) (by omega)
   rw [show (laOf fs mn ss f).bl.getD k [] = f.f4[k] from getD_L _ _ k hk, scanB_zero] at this
   exact this
  ·have hq' : q < f.f4.length := by omega
   rw [show (laOf fs mn ss f).bl.getD q [] = f.f4[q] from getD_L _ _ q hq', scanB_zero]
   exact h.2 q hq'
 ·rw [if_pos c]
  exact ⟨fun h => absurd h c, fun h => absurd h.1 c⟩
theorem checkL_zero (fs : List S39) (mn : Int) (ss : List S48) : ∀ l n, (checkL fs mn ss l n).2.2.2 = 0 ↔ ∀ f ∈ l, okF fs mn ss f := by
 intro l
 induction l with
 | nil => intro n; unfold checkL; simp
 | cons f l ih =>
  intro n
  unfold checkL
  by_cases c : (fnCheck fs mn ss f).2.2 = 0
  ·rw [if_pos c, ih, List.forall_mem_cons]
   exact ⟨fun h => ⟨(fnCheck_zero _ _ _ _).1 c, h⟩, fun h => h.2⟩
  ·rw [if_neg c, List.forall_mem_cons]
   exact ⟨fun h => absurd h c, fun h => (fnCheck_zero _ _ _ _).2 h.1⟩
theorem checkV_zero (fs : List S39) (mn : Int) (ss : List S48) : (checkV fs mn ss).2.2.2 = 0 ↔ wholeV fs mn ss = 0 ∧ ∀ f ∈ fs, okF fs mn ss f := by
 unfold checkV
 by_cases c : wholeV fs mn ss = 0
 ·rw [if_pos c, checkL_zero]
  exact ⟨fun h => ⟨c, h⟩, fun h => h.2⟩
 ·rw [if_neg c]
  exact ⟨fun h => absurd h c, fun h => absurd h.1 c⟩
theorem insV_right {L : LA} {k : Nat} {b : List S42} {j : Nat} (h : insV L k b j = 0) : rightI (b.getD j z42) = true ∧ thereV L k (b.getD j z42) = true ∧ fitsV L (b.getD j z42) = true := by
 have hf := insV_form h
 unfold insV at h
 rw [hf] at h
 simp only [Bool.not_true, Bool.false_eq_true, if_false] at h
 cases ht : thereV L k (b.getD j z42) with
 | false => rw [ht] at h; simp at h
 | true =>
  rw [ht] at h
  simp only [Bool.not_true, Bool.false_eq_true, if_false] at h
  cases hk : fitsV L (b.getD j z42) with
  | false => rw [hk] at h; simp at h
  | true => exact ⟨formV_right hf, rfl, rfl⟩
theorem okF_ops {fs : List S39} {mn : Int} {ss : List S48} {f : S39} (h : okF fs mn ss f) : ∀ b ∈ f.f4, ∀ x ∈ b, rightI x = true := by
 intro b hb x hx
 obtain ⟨k, hk, rfl⟩ := List.mem_iff_getElem.1 hb
 obtain ⟨j, hj, rfl⟩ := List.mem_iff_getElem.1 hx
 have := (insV_right ((h.2 k hk).2 j hj)).1
 rwa [getD_L _ _ j hj] at this
def namesI (x : S42) : Bool := decide (x.f0 = 44) || decide (x.f0 = 45)
theorem pl_index (b : List S42) (hl : b.length ≤ 1000) : ∀ d i, b.length - i = d → i ≤ b.length → ∃ v : Int, Ev (fun k => api_Instr_63.l0 k b (b.length : Int) (i : Int)) v ∧ decide (v ≥ 0) = (b.drop i).any namesI := by
 intro d
 induction d with
 | zero =>
  intro i hd hi
  obtain rfl : i = b.length := by omega
  refine ⟨-1, ?_, by simp⟩
  refine Ev.step (f := fun _ => some (-1)) (fun k => ?_) (Ev.now _)
  rw [api_Instr_63.l0, if_neg (by omega)]
 | succ d ih =>
  intro i hd hi
  have hlt : i < b.length := by omega
  rw [List.drop_eq_getElem_cons hlt]
  have hv : fun_Plain_1.f (b[i]).f0 (b[i]).f1 (b[i]).f2 (b[i]).f3 (b[i]).f4 (b[i]).f5 (b[i]).f6 (b[i]).f7 (b[i]).f8 = some (namesI b[i]) := by
   unfold fun_Plain_1.f namesI
   by_cases c : (b[i]).f0 = 44
   ·rw [if_pos c, decide_eq_true c]; rfl
   ·rw [if_neg c, decide_eq_false c, Bool.false_or]
    by_cases c2 : (b[i]).f0 = 45
    ·simp [c2]
    ·simp [c2]
  by_cases h : namesI b[i] = true
  ·refine ⟨(i : Int), ?_, by rw [List.any_cons, h]; simp⟩
   refine Ev.step (f := fun _ => some (i : Int)) (fun k => ?_) (Ev.now _)
   rw [api_Instr_63.l0, if_pos (by omega), if_pos (by omega), if_pos (by omega), rdX b i hlt, hv, Option.bind_some, if_pos h]
  ·simp only [Bool.not_eq_true] at h
   obtain ⟨v, h1, h2⟩ := ih (i + 1) (by omega) (by omega)
   refine ⟨v, ?_, by rw [h2, List.any_cons, h]; simp⟩
   refine Ev.step (fun k => ?_) h1
   rw [api_Instr_63.l0, if_pos (by omega), if_pos (by omega), if_pos (by omega), rdX b i hlt, hv, Option.bind_some, if_neg (by simp [h]), wrap_succ i (by omega)]
theorem pl_has (b : List S42) (hl : b.length ≤ 1000) : Ev (fun k => api_Instr_28.f k b) (b.any namesI) := by
 obtain ⟨v, h1, h2⟩ := pl_index b hl b.length 0 (by omega) (by omega)
 unfold api_Instr_28.f api_Instr_63.f
 refine Ev.bind h1 ?_
 rw [List.drop_zero] at h2
 rw [h2]
 exact Ev.now _
def plainF (f : S39) : Bool := f.f4.all (fun b => !b.any namesI)
theorem pl_l1 (fs : List S39) (n0 : Nat) (hn : n0 < 1000) (bl : List (List S42)) (hl : bl.length ≤ 1000) (hb : ∀ b ∈ bl, b.length ≤ 1000) (v : Bool) : ∀ d k, bl.length - k = d → k ≤ bl.length →
  ((bl.drop k).all (fun b => !b.any namesI) = true → Ev (fun n => fun_Plain.l0 n fs (fs.length : Int) ((n0 + 1 : Nat) : Int)) v) → ((bl.drop k).all (fun b => !b.any namesI) = false → v = false) → Ev (fun n => fun_Plain.l1 n fs (fs.length : Int) (n0 : Int) bl (bl.length : Int) (k : Int)) v := by
 intro d
 induction d with
 | zero =>
  intro k hd hk h1 h2
  obtain rfl : k = bl.length := by omega
  refine Ev.step (fun n => ?_) (h1 (by simp))
  rw [fun_Plain.l1, if_neg (by omega), wrap_succ n0 (by omega)]
 | succ d ih =>
  intro k hd hk h1 h2
  have hlt : k < bl.length := by omega
  rw [List.drop_eq_getElem_cons hlt, List.all_cons] at h1 h2
  apply Ev.step
  ·intro n
   rw [fun_Plain.l1, if_pos (by omega), if_pos (by omega), if_pos (by omega), rdB _ k hlt]
  ·refine Ev.bind (pl_has _ (hb _ (List.getElem_mem hlt))) ?_
   cases c : (bl[k]).any namesI with
   | true =>
    rw [c] at h2
    rw [h2 rfl]
    exact Ev.congr (fun n => if_pos rfl) (Ev.now _)
   | false =>
    rw [c, Bool.not_false, Bool.true_and] at h1 h2
    exact Ev.congr (fun n => by rw [if_neg (by simp), wrap_succ k (by omega)]) (ih (k + 1) (by omega) (by omega) h1 h2)
theorem pl_l0 (fs : List S39) (ss : List S48) (ht : Tiny fs ss) : ∀ d i, fs.length - i = d → i ≤ fs.length → Ev (fun k => fun_Plain.l0 k fs (fs.length : Int) (i : Int)) ((fs.drop i).all plainF) := by
 have hl := ht.1
 intro d
 induction d with
 | zero =>
  intro i hd hi
  obtain rfl : i = fs.length := by omega
  rw [List.drop_length]
  refine Ev.step (f := fun _ => some true) (fun k => ?_) (Ev.now _)
  rw [fun_Plain.l0, if_neg (by omega)]
 | succ d ih =>
  intro i hd hi
  have hlt : i < fs.length := by omega
  have hf := ht.2.2 _ (List.getElem_mem hlt)
  rw [List.drop_eq_getElem_cons hlt, List.all_cons]
  refine Ev.step (fun k => ?_) (pl_l1 fs i (by omega) fs[i].f4 hf.2.1 (fun b hb => (hf.2.2.2 b hb).1) _ fs[i].f4.length 0 (by omega) (by omega) (fun h => ?_) (fun h => ?_))
  ·rw [fun_Plain.l0, if_pos (by omega), if_pos (by omega), if_pos (by omega), rdF fs i hlt]; rfl
  ·rw [show plainF fs[i] = true from h, Bool.true_and]
   exact ih (i + 1) (by omega) (by omega)
  ·rw [show plainF fs[i] = false from h, Bool.false_and]
def plainV (fs : List S39) (mn : Int) (ss : List S48) : Bool := decide ((checkV fs mn ss).2.2.2 = 0) && fs.all plainF
theorem plain_ev (fs : List S39) (mn : Int) (ss : List S48) (ht : Tiny fs ss) : Ev (fun k => fun_Plain.f k fs mn ss) (plainV fs mn ss) := by
 unfold fun_Plain.f plainV
 refine Ev.bind (check_ev fs mn ss ht) ?_
 by_cases c : (checkV fs mn ss).2.2.2 = 0
 ·rw [decide_eq_true c, Bool.true_and]
  exact Ev.congr (fun k => if_pos c) (pl_l0 fs ss ht fs.length 0 (by omega) (by omega))
 ·rw [decide_eq_false c, Bool.false_and]
  exact Ev.congr (fun k => if_neg c) (Ev.now _)
theorem rp_l2 (fs : List S39) (mn : Int) (ss : List S48) (n0 : Int) (k : Nat) (hk : k < 1000000) (b : List S42) (hb : b.length ≤ 1000) (hr : ∀ x ∈ b, rightI x = true) (v : Bool) : ∀ d j, b.length - j = d → j ≤ b.length →
  ((b.drop j).any namesI = false → Ev (fun n => balustraderef16_Plain.l1 n n0 ((k + 1 : Nat) : Int) fs mn ss) v) → ((b.drop j).any namesI = true → v = false) → Ev (fun n => balustraderef16_Plain.l2 n n0 (k : Int) b (j : Int) fs mn ss) v := by
 intro d
 induction d with
 | zero =>
  intro j hd hj h1 h2
  obtain rfl : j = b.length := by omega
  refine Ev.step (fun n => ?_) (h1 (by simp))
  rw [balustraderef16_Plain.l2, if_neg (by omega), wrap_succ k (by omega)]
 | succ d ih =>
  intro j hd hj h1 h2
  have hlt : j < b.length := by omega
  rw [List.drop_eq_getElem_cons hlt, List.any_cons] at h1 h2
  have hop := (right_parts _ (hr _ (List.getElem_mem hlt))).1
  have hx : namesI b[j] = decide ((b[j]).f0 ≥ 44) := by
   unfold namesI
   by_cases c : (b[j]).f0 ≥ 44
   ·rw [decide_eq_true c]
    have : (b[j]).f0 = 44 ∨ (b[j]).f0 = 45 := by omega
    rcases this with h | h <;> simp [h]
   ·rw [decide_eq_false c, decide_eq_false (by omega), decide_eq_false (by omega)]; rfl
  by_cases c : (b[j]).f0 ≥ 44
  ·rw [hx, decide_eq_true c, Bool.true_or] at h2
   rw [h2 rfl]
   refine Ev.step (f := fun _ => some false) (fun n => ?_) (Ev.now _)
   rw [balustraderef16_Plain.l2, if_pos (by omega), if_pos (by omega), rdX b j hlt, if_pos c]
  ·rw [hx, decide_eq_false c, Bool.false_or] at h1 h2
   refine Ev.step (fun n => ?_) (ih (j + 1) (by omega) (by omega) h1 h2)
   rw [balustraderef16_Plain.l2, if_pos (by omega), if_pos (by omega), rdX b j hlt, if_neg c, wrap_succ j (by omega)]
theorem rp_l1 (fs : List S39) (mn : Int) (ss : List S48) (n0 : Nat) (hn : n0 < fs.length) (hn2 : n0 < 1000) (ht : TinyF fs[n0]) (hr : ∀ b ∈ fs[n0].f4, ∀ x ∈ b, rightI x = true) (v : Bool) : ∀ d k, fs[n0].f4.length - k = d → k ≤ fs[n0].f4.length →
  ((fs[n0].f4.drop k).all (fun b => !b.any namesI) = true → Ev (fun n => balustraderef16_Plain.l0 n ((n0 + 1 : Nat) : Int) fs mn ss) v) → ((fs[n0].f4.drop k).all (fun b => !b.any namesI) = false → v = false) → Ev (fun n => balustraderef16_Plain.l1 n (n0 : Int) (k : Int) fs mn ss) v := by
 intro d
 induction d with
 | zero =>
  intro k hd hk h1 h2
  obtain rfl : k = fs[n0].f4.length := by omega
  refine Ev.step (fun n => ?_) (h1 (by simp))
  rw [balustraderef16_Plain.l1, if_pos (by omega), if_pos (by omega), rdF fs n0 hn, if_neg (by omega), wrap_succ n0 (by omega)]
 | succ d ih =>
  intro k hd hk h1 h2
  have hlt : k < fs[n0].f4.length := by omega
  have hl := ht.2.1
  rw [List.drop_eq_getElem_cons hlt, List.all_cons] at h1 h2
  refine Ev.step (fun n => ?_) (rp_l2 fs mn ss (n0 : Int) k (by omega) fs[n0].f4[k] (ht.2.2.2 _ (List.getElem_mem hlt)).1 (hr _ (List.getElem_mem hlt)) v fs[n0].f4[k].length 0 (by omega) (by omega) (fun h => ?_) (fun h => ?_))
  ·rw [balustraderef16_Plain.l1, if_pos (by omega), if_pos (by omega), rdF fs n0 hn, if_pos (by omega), if_pos (by omega), rdB _ k hlt]; rfl
  ·rw [List.drop_zero] at h
   rw [h, Bool.not_false, Bool.true_and] at h1 h2
   exact ih (k + 1) (by omega) (by omega) h1 h2
  ·rw [List.drop_zero] at h
   rw [h, Bool.not_true, Bool.false_and] at h2
   exact h2 rfl
theorem rp_l0 (fs : List S39) (mn : Int) (ss : List S48) (ht : Tiny fs ss) (hr : ∀ f ∈ fs, ∀ b ∈ f.f4, ∀ x ∈ b, rightI x = true) : ∀ d i, fs.length - i = d → i ≤ fs.length → Ev (fun k => balustraderef16_Plain.l0 k (i : Int) fs mn ss) ((fs.drop i).all plainF) := by
 have hl := ht.1
 intro d
 induction d with
 | zero =>
  intro i hd hi
  obtain rfl : i = fs.length := by omega
  rw [List.drop_length]
  refine Ev.step (f := fun _ => some true) (fun k => ?_) (Ev.now _)
  rw [balustraderef16_Plain.l0, if_neg (by omega)]
 | succ d ih =>
  intro i hd hi
  have hlt : i < fs.length := by omega
  have hf := ht.2.2 _ (List.getElem_mem hlt)
  rw [List.drop_eq_getElem_cons hlt, List.all_cons]
  refine Ev.step (fun k => ?_) (rp_l1 fs mn ss i hlt (by omega) hf (hr _ (List.getElem_mem hlt)) _ fs[i].f4.length 0 (by omega) (by omega) (fun h => ?_) (fun h => ?_))
  ·rw [balustraderef16_Plain.l0, if_pos (by omega)]; rfl
  ·rw [show plainF fs[i] = true from h, Bool.true_and]
   exact ih (i + 1) (by omega) (by omega)
  ·rw [show plainF fs[i] = false from h, Bool.false_and]
theorem rplain_ev (fs : List S39) (mn : Int) (ss : List S48) (ht : Tiny fs ss) : Ev (fun k => balustraderef16_Plain.f k fs mn ss) (plainV fs mn ss) := by
 unfold balustraderef16_Plain.f plainV
 refine Ev.bind (rcheck_ev fs mn ss ht) ?_
 by_cases c : (checkV fs mn ss).2.2.2 = 0
 ·rw [decide_eq_true c, Bool.true_and]
  have hc := (checkV_zero _ _ _).1 c
  exact Ev.congr (fun k => if_pos c) (rp_l0 fs mn ss ht (fun f hf => okF_ops (hc.2 f hf)) fs.length 0 (by omega) (by omega))
 ·rw [decide_eq_false c, Bool.false_and]
  exact Ev.congr (fun k => if_neg c) (Ev.now _)
end Go.Proofs.Ytgbpkbfghonllaa.P
set_option linter.unusedVariables false
set_option linter.unusedSimpArgs false
namespace Go.Proofs.Ytgbpkbfghonllaa.P
open Go Go.RowKit Go.Proofs.YtgbpkbfghonllaaW.PrintWords Go.Proofs.YtgbpkbfghonllaaW.PrintLast Go.Proofs.YtgbpkbfghonllaaW.PrintMore Go.Proofs.Ytgbpkbfghonllaa.Pure
def smallV (r : Int) : List S39 := [⟨(⟨#[109, 97, 105, 110]⟩ : ByteArray), 1, 1, [3, 1], [[⟨20, 1, 0, 0, 0, 0, 0, 0, []⟩, ⟨43, 0, r, 0, 0, 0, 0, 0, []⟩]]⟩]
theorem small_val (r : Int) : balustradelaw16_small.f r = some (smallV r, 0, []) := rfl
theorem small_tiny (r : Int) : Tiny (smallV r) [] := by
 refine ⟨by simp [smallV], by simp, fun f hf => ?_⟩
 obtain rfl := List.mem_singleton.1 hf
 refine ⟨by simp, by simp, by simp [sizeV], fun b hb => ?_⟩
 obtain rfl := List.mem_singleton.1 hb
 refine ⟨by simp, fun x hx => ?_⟩
 rcases List.mem_cons.1 hx with rfl | hx
 ·simp
 ·obtain rfl := List.mem_singleton.1 hx
  simp
theorem small_1 : checkV (smallV 1) 0 [] = (0, 0, 0, 0) := by decide
theorem small_0 : checkV (smallV 0) 0 [] = (0, 0, 1, 11) := by decide
theorem works_ev : Ev (fun k => balustradelaw16_works.f k) true := by
 unfold balustradelaw16_works.f
 refine Ev.congr (fun k => by rw [small_val, Option.bind_some]) ?_
 refine Ev.bind (check_ev _ _ _ (small_tiny 1)) ?_
 rw [small_1]
 refine Ev.congr (fun k => by rw [if_pos (by decide), small_val, Option.bind_some]) ?_
 refine Ev.bind (check_ev _ _ _ (small_tiny 0)) ?_
 rw [small_0]
 refine Ev.congr (fun k => by rw [if_pos (by decide), Option.bind_some]) ?_
 refine Ev.bind (plain_ev _ _ _ (small_tiny 1)) ?_
 rw [show plainV (smallV 1) 0 [] = true by unfold plainV; rw [small_1]; decide]
 refine Ev.congr (fun k => by rw [if_pos rfl, Option.bind_some]) ?_
 refine Ev.bind (count_ev _ _ _ (by decide) (by simp [smallV]) (by decide)) ?_
 exact Ev.now _
theorem sized_of {fs : List S39} {m : Nat} (hm : m = 140737488351232) (h1 : fs.length * 80 ≤ m) (h2 : ∀ f ∈ fs, f.f4.length * 24 ≤ m ∧ f.f3.length * 8 ≤ m ∧ ∀ b ∈ f.f4, b.length * 88 ≤ m ∧ ∀ x ∈ b, x.f8.length * 8 ≤ m) : Sized fs := by
 subst hm
 refine ⟨by omega, fun f hf => ?_⟩
 obtain ⟨g1, g2, g3⟩ := h2 f hf
 exact ⟨by omega, by omega, fun b hb => ⟨by have := (g3 b hb).1; omega, fun x hx => by have := (g3 b hb).2 x hx; omega⟩⟩
end Go.Proofs.Ytgbpkbfghonllaa.P
set_option linter.unusedVariables false
set_option linter.unusedSimpArgs false
namespace Go.Proofs.Ytgbpkbfghonllaa.P
open Go Go.RowKit Go.Proofs.YtgbpkbfghonllaaW.PrintWords Go.Proofs.YtgbpkbfghonllaaW.PrintLast Go.Proofs.YtgbpkbfghonllaaW.PrintMore Go.Proofs.Ytgbpkbfghonllaa.Pure
structure PSt (w : World) (g : Nat) (Af : Option Addr) (cf : Nat) (fs : List S39) (mn : Int) (As : Option Addr) (cs : Nat) (ss : List S48) (W : World) : Prop where
 B : Below w.heap.size w W
 p : W.heap[g]? = some (.cells #[.slice Af fs.length cf, .int .i64 mn, .slice As ss.length cs] 25 (0, 0))
 f0 : k39.C w Af fs.length fs
 fc : fs.length ≤ cf
 s0 : k48.C w As ss.length ss
 sc : ss.length ≤ cs
section
variable {w : World} {g : Nat} {Af : Option Addr} {cf : Nat} {fs : List S39} {mn : Int} {As : Option Addr} {cs : Nat} {ss : List S48} {W W1 : World}
theorem PSt.f (h : PSt w g Af cf fs mn As cs ss W) : k39.C W Af fs.length fs := Kd.C_below h.f0 h.B
theorem PSt.s (h : PSt w g Af cf fs mn As cs ss W) : k48.C W As ss.length ss := Kd.C_below h.s0 h.B
theorem PSt.step (h : PSt w g Af cf fs mn As cs ss W) (hb : Below W.heap.size W W1) : PSt w g Af cf fs mn As cs ss W1 := ⟨below_step h.B hb, blk_below h.p hb, h.f0, h.fc, h.s0, h.sc⟩
theorem PSt.alloc (h : PSt w g Af cf fs mn As cs ss W) (o : Obj) : PSt w g Af cf fs mn As cs ss (W.alloc o) := h.step (below_alloc (Below.refl _ _) o)
theorem PSt.drew (h : PSt w g Af cf fs mn As cs ss W) : PSt w g Af cf fs mn As cs ss W.drew := h.step (below_drew (Below.refl _ _))
theorem PSt.drewN (h : PSt w g Af cf fs mn As cs ss W) (n : Nat) : PSt w g Af cf fs mn As cs ss (W.drewN n) := h.step (pw_below_drewN (Below.refl _ _) n)
theorem PSt.at_ (h : PSt w g Af cf fs mn As cs ss W) (hb : Below W.heap.size W W1 := by with_reducible repeat (first | exact Below.refl _ _ | refine below_alloc ?_ _ | apply pw_below_drewN | apply below_drew)) : PSt w g Af cf fs mn As cs ss W1 := h.step hb
theorem PSt.start (hf : k39.C w Af fs.length fs) (hfc : fs.length ≤ cf) (hs : k48.C w As ss.length ss) (hsc : ss.length ≤ cs) : PSt w w.heap.size Af cf fs mn As cs ss (w.alloc (.cells #[.slice Af fs.length cf, .int .i64 mn, .slice As ss.length cs] 25)) :=
 ⟨below_alloc (Below.refl _ _) _, blk_new _ _, hf, hfc, hs, hsc⟩
theorem PSt.c0 (h : PSt w g Af cf fs mn As cs ss W) : W.cell? ⟨g, 0, none⟩ = some (.slice Af fs.length cf) := (blk_cell h.p 0).trans rfl
theorem PSt.c1 (h : PSt w g Af cf fs mn As cs ss W) : W.cell? ⟨g, 1, none⟩ = some (.int .i64 mn) := (blk_cell h.p 1).trans rfl
theorem PSt.c2 (h : PSt w g Af cf fs mn As cs ss W) : W.cell? ⟨g, 2, none⟩ = some (.slice As ss.length cs) := (blk_cell h.p 2).trans rfl
theorem blk_new1 (w : World) (o o' : Obj) : ((w.alloc o).alloc o').heap[w.heap.size + 1]? = some o' := by simpa using blk_new (w.alloc o) o'
theorem blkB {w W : World} {g : Nat} {o : Obj} (h : w.heap[g]? = some o) (hb : Below w.heap.size w W := by with_reducible repeat (first | exact Below.refl _ _ | refine below_alloc ?_ _ | apply pw_below_drewN | apply below_drew)) : W.heap[g]? = some o := blk_below h hb
theorem PSt.set4 (h : PSt w g Af cf fs mn As cs ss W) {q : Nat} {T : TypeId} {cv : Array Value} (hq : W.heap[q]? = some (.cells cv T (0, 0))) (hT : T ≠ 25) (h0 : w.heap.size ≤ q) (a b c d : Value) : PSt w g Af cf fs mn As cs ss ((((W.setCell ⟨q, 0, none⟩ a).setCell ⟨q, 1, none⟩ b).setCell ⟨q, 2, none⟩ c).setCell ⟨q, 3, none⟩ d) := by
 have hne : g ≠ q := by
  intro e
  have := h.p
  rw [e, hq] at this
  exact hT (Obj.cells.inj (Option.some.inj this)).2.1
 exact ⟨fin_below h.B h0, blk_far (blk_far (blk_far (blk_far h.p hne _) hne _) hne _) hne _, h.f0, h.fc, h.s0, h.sc⟩
theorem row4_far {q r : Nat} {T U : TypeId} {cv dv : Array Value} (hq : W.heap[q]? = some (.cells cv T (0, 0))) (hr : W.heap[r]? = some (.cells dv U (0, 0))) (hT : T ≠ U) (a b c d : Value) : ((((W.setCell ⟨q, 0, none⟩ a).setCell ⟨q, 1, none⟩ b).setCell ⟨q, 2, none⟩ c).setCell ⟨q, 3, none⟩ d).heap[r]? = some (.cells dv U (0, 0)) := by
 have hne : r ≠ q := by
  intro e
  rw [e, hq] at hr
  exact hT (Obj.cells.inj (Option.some.inj hr)).2.1
 exact blk_far (blk_far (blk_far (blk_far hr hne _) hne _) hne _) hne _
end
end Go.Proofs.Ytgbpkbfghonllaa.P

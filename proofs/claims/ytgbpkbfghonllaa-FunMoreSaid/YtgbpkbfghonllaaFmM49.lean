/- A part of it. -/
import Derived.Test.YtgbpkbfghonllaaFmM21
import Derived.Test.YtgbpkbfghonllaaFmP13
import Derived.Test.YtgbpkbfghonllaaFmM46
import Derived.Test.YtgbpkbfghonllaaFmM45
import Derived.Test.YtgbpkbfghonllaaFmFunP4
import Derived.Test.YtgbpkbfghonllaaFmP12
import Derived.Test.YtgbpkbfghonllaaFmM41
import Derived.Test.YtgbpkbfghonllaaFmP21
import Derived.Outline
namespace Go.Proofs.Ytgbpkbfghonllaa.P
open Go.RowKit Go.Proofs.YtgbpkbfghonllaaW.PrintWords Go.Proofs.YtgbpkbfghonllaaW.PrintLast Go.Proofs.YtgbpkbfghonllaaW.PrintMore
attribute [local go_sem] max2_int min2_int max_two min_two max_three min_three max_four min_four   
set_option linter.unusedVariables false
set_option linter.unusedSimpArgs false
end Go.Proofs.Ytgbpkbfghonllaa.P
namespace Go.Proofs.Ytgbpkbfghonllaa.P
open Go.RowKit Go.Proofs.YtgbpkbfghonllaaW.PrintWords Go.Proofs.YtgbpkbfghonllaaW.PrintLast Go.Proofs.YtgbpkbfghonllaaW.PrintMore
attribute [local go_sem] max2_int min2_int max_two min_two max_three min_three max_four min_four   
set_option linter.unusedVariables false
set_option linter.unusedSimpArgs false
end Go.Proofs.Ytgbpkbfghonllaa.P
set_option linter.unusedVariables false
set_option linter.unusedSimpArgs false
namespace Go.Proofs.Ytgbpkbfghonllaa.P
open Go Go.RowKit Go.Proofs.YtgbpkbfghonllaaW.PrintWords Go.Proofs.YtgbpkbfghonllaaW.PrintLast Go.Proofs.YtgbpkbfghonllaaW.PrintMore Go.Proofs.Ytgbpkbfghonllaa.Pure
def laOf (fs : List S39) (mn : Int) (ss : List S48) (f : S39) : LA := ⟨none, 0, fs, mn, none, 0, ss, f.f0, f.f1, f.f2, none, 0, f.f3, none, 0, f.f4, none, 0, predsV f.f4⟩
def fnCheck (fs : List S39) (mn : Int) (ss : List S48) (f : S39) : Int × Int × Int := funV fs mn ss f (headV f.f1 f.f2 f.f3 f.f4)
def checkL (fs : List S39) (mn : Int) (ss : List S48) : List S39 → Nat → Int × Int × Int × Int
 | [], _ => (0, 0, 0, 0)
 | f :: r, n => if (fnCheck fs mn ss f).2.2 = 0 then checkL fs mn ss r (n + 1) else ((n : Int), fnCheck fs mn ss f)
def wholeV (fs : List S39) (mn : Int) (ss : List S48) : Int :=
 if (fs.length : Int) > 200 ∨ (ss.length : Int) > 262144 then 3
 else if mn < 0 ∨ mn ≥ (fs.length : Int) ∨ (rd_T39 fs mn).f1 ≠ 1 ∨ (rd_T39 fs mn).f3.length = 0 ∨ rd (rd_T39 fs mn).f3 0 ≠ 3 ∨ (rd_T39 fs mn).f2 ≠ 1 then 13 else 0
def checkV (fs : List S39) (mn : Int) (ss : List S48) : Int × Int × Int × Int := if wholeV fs mn ss = 0 then checkL fs mn ss fs 0 else (-1, -1, -1, wholeV fs mn ss)
def TinyF (f : S39) : Prop := f.f3.length ≤ 100 ∧ f.f4.length ≤ 1000 ∧ sizeV f.f4 ≤ 1000 ∧ ∀ b ∈ f.f4, b.length ≤ 1000 ∧ ∀ x ∈ b, x.f8.length ≤ 40
def Tiny (fs : List S39) (ss : List S48) : Prop := fs.length ≤ 100 ∧ ss.length ≤ 1000 ∧ ∀ f ∈ fs, TinyF f
theorem sizeV_mem {bl : List (List S42)} {b : List S42} (h : b ∈ bl) : b.length ≤ sizeV bl := by
 induction bl with
 | nil => cases h
 | cons c bl ih =>
  have e : sizeV (c :: bl) = c.length + sizeV bl := by simp only [sizeV, List.map_cons, List.sum_cons]
  rcases List.mem_cons.1 h with rfl | h
  ·omega
  ·have := ih h; omega
theorem countV_mem {fs : List S39} {f : S39} (h : f ∈ fs) : sizeV f.f4 ≤ countV fs := by
 induction fs with
 | nil => cases h
 | cons c fs ih =>
  have e : countV (c :: fs) = sizeV c.f4 + countV fs := by simp only [countV, List.map_cons, List.sum_cons]
  rcases List.mem_cons.1 h with rfl | h
  ·omega
  ·have := ih h; omega
theorem few_tiny {m : Nat} (hm : m ≤ 1000) {fs : List S39} {ss : List S48} (h : fewV m fs ss = true) : Tiny fs ss ∧ countV fs ≤ m := by
 unfold fewV at h
 simp only [Bool.and_eq_true, decide_eq_true_eq, List.all_eq_true] at h
 obtain ⟨h1, ⟨h2, h3⟩, h4⟩ := h
 refine ⟨⟨by omega, by omega, fun f hf => ?_⟩, h4⟩
 have q := h1 f hf
 unfold fnFew argsFew at q
 simp only [Bool.and_eq_true, decide_eq_true_eq, List.all_eq_true] at q
 have := countV_mem hf
 exact ⟨q.1.1.1, by omega, by omega, fun b hb => ⟨by have := sizeV_mem hb; omega, q.2 b hb⟩⟩
theorem whole_j1 (b : Bool) (fs : List S39) (mn : Int) (ss : List S48) (hb : b = false → 0 ≤ mn ∧ mn < (fs.length : Int)) : Ev (fun k => fun_whole.j1 k b fs mn ss) (if b = true ∨ (rd_T39 fs mn).f1 ≠ 1 ∨ (rd_T39 fs mn).f3.length = 0 ∨ rd (rd_T39 fs mn).f3 0 ≠ 3 ∨ (rd_T39 fs mn).f2 ≠ 1 then 13 else 0) := by
 refine Ev.step (f := fun _ => some _) (fun k => ?_) (Ev.now _)
 rw [fun_whole.j1]
 cases b with
 | true => rw [if_pos rfl, if_pos (Or.inl rfl)]
 | false =>
  obtain ⟨h0, h1⟩ := hb rfl
  rw [if_neg (by simp), if_pos h0, if_pos h1]
  by_cases c1 : (rd_T39 fs mn).f1 = 1
  ·rw [if_pos c1]
   by_cases c2 : (rd_T39 fs mn).f3.length = 0
   ·rw [if_pos (by omega), if_pos (by simp [c2])]
   ·rw [if_neg (by omega), if_pos (by omega)]
    by_cases c3 : rd (rd_T39 fs mn).f3 0 = 3
    ·rw [if_pos c3]
     by_cases c4 : (rd_T39 fs mn).f2 = 1
     ·rw [if_pos c4, if_neg (by simp [c1, c2, c3, c4])]
     ·rw [if_neg c4, if_pos (by simp [c4])]
    ·rw [if_neg c3, if_pos (by simp [c3])]
  ·rw [if_neg c1, if_pos (by simp [c1])]
theorem whole_j0 (b : Bool) (fs : List S39) (mn : Int) (ss : List S48) (hb : b = decide ((fs.length : Int) > 200 ∨ (ss.length : Int) > 262144)) : Ev (fun k => fun_whole.j0 k b fs mn ss) (wholeV fs mn ss) := by
 unfold wholeV
 by_cases c0 : (fs.length : Int) > 200 ∨ (ss.length : Int) > 262144
 ·rw [if_pos c0]
  rw [decide_eq_true c0] at hb
  subst hb
  refine Ev.step (f := fun _ => some _) (fun k => ?_) (Ev.now _)
  rw [fun_whole.j0, if_pos rfl]
 ·rw [if_neg c0]
  rw [decide_eq_false c0] at hb
  subst hb
  by_cases c1 : mn < 0
  ·rw [if_pos (Or.inl c1)]
   have h := whole_j1 true fs mn ss (by simp)
   rw [if_pos (Or.inl rfl)] at h
   refine Ev.step (fun k => ?_) h
   rw [fun_whole.j0, if_neg (by simp), if_pos c1]
  ·by_cases c2 : mn ≥ (fs.length : Int)
   ·rw [if_pos (Or.inr (Or.inl c2))]
    have h := whole_j1 true fs mn ss (by simp)
    rw [if_pos (Or.inl rfl)] at h
    refine Ev.step (fun k => ?_) h
    rw [fun_whole.j0, if_neg (by simp), if_neg c1, decide_eq_true c2]
   ·have h := whole_j1 false fs mn ss (fun _ => by omega)
    refine Ev.step (f := fun k => fun_whole.j1 k false fs mn ss) (fun k => ?_) (cast ?_ h)
    ·rw [fun_whole.j0, if_neg (by simp), if_neg c1, decide_eq_false c2]
    ·simp [c1, c2]
theorem whole_ev (fs : List S39) (mn : Int) (ss : List S48) : Ev (fun k => fun_whole.f k fs mn ss) (wholeV fs mn ss) := by
 unfold fun_whole.f
 by_cases c : (fs.length : Int) > 200
 ·exact Ev.congr (fun k => if_pos c) (whole_j0 true fs mn ss (by rw [decide_eq_true (Or.inl c)]))
 ·exact Ev.congr (fun k => if_neg c) (whole_j0 _ fs mn ss (by rw [decide_eq_decide]; omega))
theorem tiny_ok {f : S39} (h : TinyF f) : fnOk f = true := by
 obtain ⟨h1, h2, h3, h4⟩ := h
 unfold fnOk
 simp only [Bool.and_eq_true, decide_eq_true_eq, List.all_eq_true]
 exact ⟨by omega, fun b hb => ⟨by have := (h4 b hb).1; omega, fun x hx => by have := (h4 b hb).2 x hx; omega⟩⟩
theorem function_ev (fs : List S39) (mn : Int) (ss : List S48) (n : Nat) (hn : n < fs.length) (ht : TinyF fs[n]) : Ev (fun k => fun_function.f k fs mn ss (n : Int)) ((n : Int), fnCheck fs mn ss fs[n]) := by
 unfold fun_function.f
 refine Ev.congr (fun k => by rw [if_pos (by omega), if_pos (by omega), rdF fs n hn, if_pos (tiny_ok ht)]) ?_
 refine Ev.bind (head_ev _ _ _ _ _ (by have := ht.1; omega) (by have := ht.2.1; omega) (by have := ht.2.2.1; omega)) ?_
 exact Ev.now _
theorem check_from (fs : List S39) (mn : Int) (ss : List S48) (ht : Tiny fs ss) : ∀ d i, fs.length - i = d → i ≤ fs.length → Ev (fun k => fun_Check.l0 k (fs.length : Int) (i : Int) fs mn ss) (checkL fs mn ss (fs.drop i) i) := by
 have hl := ht.1
 intro d
 induction d with
 | zero =>
  intro i hd hi
  obtain rfl : i = fs.length := by omega
  rw [List.drop_length]
  refine Ev.step (f := fun _ => some (0, 0, 0, 0)) (fun k => ?_) (Ev.now _)
  rw [fun_Check.l0, if_neg (by omega)]
 | succ d ih =>
  intro i hd hi
  have hlt : i < fs.length := by omega
  rw [List.drop_eq_getElem_cons hlt]
  apply Ev.step
  ·intro k
   rw [fun_Check.l0, if_pos (by omega)]
  ·refine Ev.bind (function_ev fs mn ss i hlt (ht.2.2 _ (List.getElem_mem hlt))) ?_
   unfold checkL
   by_cases c : (fnCheck fs mn ss fs[i]).2.2 = 0
   ·rw [if_pos c]
    refine Ev.congr (fun k => by rw [if_pos c, wrap_succ i (by omega)]) (ih (i + 1) (by omega) (by omega))
   ·rw [if_neg c]
    refine Ev.congr (fun k => if_neg c) (Ev.now _)
theorem check_ev (fs : List S39) (mn : Int) (ss : List S48) (ht : Tiny fs ss) : Ev (fun k => fun_Check.f k fs mn ss) (checkV fs mn ss) := by
 unfold fun_Check.f checkV
 refine Ev.bind (whole_ev fs mn ss) ?_
 by_cases c : wholeV fs mn ss = 0
 ·rw [if_pos c]
  exact Ev.congr (fun k => if_pos c) (check_from fs mn ss ht fs.length 0 (by omega) (by omega))
 ·rw [if_neg c]
  exact Ev.congr (fun k => if_neg c) (Ev.now _)
theorem getD_L {α : Type} (l : List α) (d : α) (k : Nat) (h : k < l.length) : l.getD k d = l[k] := by rw [List.getD_eq_getElem?_getD, List.getElem?_eq_getElem h]; rfl
end Go.Proofs.Ytgbpkbfghonllaa.P
namespace Go.Proofs.Ytgbpkbfghonllaa.P
open Go.RowKit Go.Proofs.YtgbpkbfghonllaaW.PrintWords Go.Proofs.YtgbpkbfghonllaaW.PrintLast Go.Proofs.YtgbpkbfghonllaaW.PrintMore
attribute [local go_sem] max2_int min2_int max_two min_two max_three min_three max_four min_four   
set_option linter.unusedVariables false
set_option linter.unusedSimpArgs false
end Go.Proofs.Ytgbpkbfghonllaa.P
set_option linter.unusedVariables false
set_option linter.unusedSimpArgs false
namespace Go.Proofs.Ytgbpkbfghonllaa.P
open Go Go.RowKit Go.Proofs.YtgbpkbfghonllaaW.PrintWords Go.Proofs.YtgbpkbfghonllaaW.PrintLast Go.Proofs.YtgbpkbfghonllaaW.PrintMore Go.Proofs.Ytgbpkbfghonllaa.Pure
theorem scanI_zero (L : LA) (k : Nat) (b : List S42) : ∀ d j last, (scanI L k b d j last).2 = 0 ↔ ∀ i, j ≤ i → i < j + d → insV L k b i = 0 := by
 intro d
 induction d with
 | zero => intro j last; unfold scanI; exact ⟨fun _ i h1 h2 => by omega, fun _ => rfl⟩
 | succ d ih =>
  intro j last
  unfold scanI
  by_cases c : insV L k b j = 0
  ·rw [if_neg (by simpa using c), ih]
   refine ⟨fun h i h1 h2 => ?_, fun h i h1 h2 => h i (by omega) (by omega)⟩
   by_cases e : i = j
   ·rw [e]; exact c
   ·exact h i (by omega) (by omega)
  ·rw [if_pos c]
   exact ⟨fun h => absurd h c, fun h => h j (by omega) (by omega)⟩
theorem scanB_zero (L : LA) (k : Nat) (b : List S42) : (scanB L k b).2 = 0 ↔ b.length ≠ 0 ∧ ∀ i, i < b.length → insV L k b i = 0 := by
 unfold scanB
 by_cases c : b.length = 0
 ·rw [if_pos c]; simp [c]
 ·rw [if_neg c, scanI_zero]
  exact ⟨fun h => ⟨c, fun i hi => h i (by omega) (by omega)⟩, fun h i h1 h2 => h.2 i (by omega)⟩
theorem scanBs_zero (L : LA) : ∀ d k last, (scanBs L d k last).2.2 = 0 ↔ ∀ q, k ≤ q → q < k + d → (scanB L q (L.bl.getD q [])).2 = 0 := by
 intro d
 induction d with
 | zero => intro j last; unfold scanBs; exact ⟨fun _ i h1 h2 => by omega, fun _ => rfl⟩
 | succ d ih =>
  intro j last
  unfold scanBs
  by_cases c : (scanB L j (L.bl.getD j [])).2 = 0
  ·rw [if_neg (by simpa using c), ih]
   refine ⟨fun h i h1 h2 => ?_, fun h i h1 h2 => h i (by omega) (by omega)⟩
   by_cases e : i = j
   ·rw [e]; exact c
   ·exact h i (by omega) (by omega)
  ·rw [if_pos c]
   exact ⟨fun h => absurd h c, fun h => h j (by omega) (by omega)⟩
def okF (fs : List S39) (mn : Int) (ss : List S48) (f : S39) : Prop := headV f.f1 f.f2 f.f3 f.f4 = 0 ∧ ∀ k, (hk : k < f.f4.length) → f.f4[k].length ≠ 0 ∧ ∀ j, j < f.f4[k].length → insV (laOf fs mn ss f) k f.f4[k] j = 0
theorem fnCheck_zero (fs : List S39) (mn : Int) (ss : List S48) (f : S39) : (fnCheck fs mn ss f).2.2 = 0 ↔ okF fs mn ss f := by
 unfold fnCheck funV okF
 by_cases c : headV f.f1 f.f2 f.f3 f.f4 = 0
 ·rw [if_neg (by simpa using c)]
  have h := scanBs_zero (laOf fs mn ss f) f.f4.length 0 (-1, -1)
  refine Iff.trans h ⟨fun h => ⟨c, fun k hk => ?_⟩, fun h q _ hq => ?_⟩
  ·have := h k (by omega) (by omega)
   rw [show (laOf fs mn ss f).bl.getD k [] = f.f4[k] from getD_L _ _ k hk, scanB_zero] at this
   exact this
  ·have hq' : q < f.f4.length := by omega
   rw [show (laOf fs mn ss f).bl.getD q [] = f.f4[q] from getD_L _ _ q hq', scanB_zero]
   exact h.2 q hq'
 ·rw [if_pos c]
  exact ⟨fun h => absurd h c, fun h => absurd h.1 c⟩
theorem checkL_zero (fs : List S39) (mn : Int) (ss : List S48) : ∀ l n, (checkL fs mn ss l n).2.2.2 = 0 ↔ ∀ f ∈ l, okF fs mn ss f := by
 intro l
 induction l with
 | nil => intro n; unfold checkL; simp
 | cons f l ih =>
  intro n
  unfold checkL
  by_cases c : (fnCheck fs mn ss f).2.2 = 0
  ·rw [if_pos c, ih, List.forall_mem_cons]
   exact ⟨fun h => ⟨(fnCheck_zero _ _ _ _).1 c, h⟩, fun h => h.2⟩
  ·rw [if_neg c, List.forall_mem_cons]
   exact ⟨fun h => absurd h c, fun h => (fnCheck_zero _ _ _ _).2 h.1⟩
theorem checkL_all (fs : List S39) (mn : Int) (ss : List S48) : ∀ l n, (∀ f ∈ l, okF fs mn ss f) → checkL fs mn ss l n = (0, 0, 0, 0) := by
 intro l
 induction l with
 | nil => intro n _; rfl
 | cons f l ih =>
  intro n h
  rw [List.forall_mem_cons] at h
  unfold checkL
  rw [if_pos ((fnCheck_zero _ _ _ _).2 h.1)]
  exact ih _ h.2
theorem checkV_zero (fs : List S39) (mn : Int) (ss : List S48) : (checkV fs mn ss).2.2.2 = 0 ↔ wholeV fs mn ss = 0 ∧ ∀ f ∈ fs, okF fs mn ss f := by
 unfold checkV
 by_cases c : wholeV fs mn ss = 0
 ·rw [if_pos c, checkL_zero]
  exact ⟨fun h => ⟨c, h⟩, fun h => h.2⟩
 ·rw [if_neg c]
  exact ⟨fun h => absurd h c, fun h => absurd h.1 c⟩
theorem checkV_all (fs : List S39) (mn : Int) (ss : List S48) (h : wholeV fs mn ss = 0) (h2 : ∀ f ∈ fs, okF fs mn ss f) : checkV fs mn ss = (0, 0, 0, 0) := by
 unfold checkV
 rw [if_pos h]
 exact checkL_all _ _ _ _ _ h2
theorem insV_right {L : LA} {k : Nat} {b : List S42} {j : Nat} (h : insV L k b j = 0) : rightI (b.getD j z42) = true ∧ thereV L k (b.getD j z42) = true ∧ fitsV L (b.getD j z42) = true := by
 have hf := insV_form h
 unfold insV at h
 rw [hf] at h
 simp only [Bool.not_true, Bool.false_eq_true, if_false] at h
 cases ht : thereV L k (b.getD j z42) with
 | false => rw [ht] at h; simp at h
 | true =>
  rw [ht] at h
  simp only [Bool.not_true, Bool.false_eq_true, if_false] at h
  cases hk : fitsV L (b.getD j z42) with
  | false => rw [hk] at h; simp at h
  | true => exact ⟨formV_right hf, rfl, rfl⟩
def namesI (x : S42) : Bool := decide (x.f0 = 44) || decide (x.f0 = 45)
theorem pl_index (b : List S42) (hl : b.length ≤ 1000) : ∀ d i, b.length - i = d → i ≤ b.length → ∃ v : Int, Ev (fun k => api_Instr_63.l0 k b (b.length : Int) (i : Int)) v ∧ decide (v ≥ 0) = (b.drop i).any namesI := by
 intro d
 induction d with
 | zero =>
  intro i hd hi
  obtain rfl : i = b.length := by omega
  refine ⟨-1, ?_, by simp⟩
  refine Ev.step (f := fun _ => some (-1)) (fun k => ?_) (Ev.now _)
  rw [api_Instr_63.l0, if_neg (by omega)]
 | succ d ih =>
  intro i hd hi
  have hlt : i < b.length := by omega
  rw [List.drop_eq_getElem_cons hlt]
  have hv : fun_Plain_1.f (b[i]).f0 (b[i]).f1 (b[i]).f2 (b[i]).f3 (b[i]).f4 (b[i]).f5 (b[i]).f6 (b[i]).f7 (b[i]).f8 = some (namesI b[i]) := by
   unfold fun_Plain_1.f namesI
   by_cases c : (b[i]).f0 = 44
   ·rw [if_pos c, decide_eq_true c]; rfl
   ·rw [if_neg c, decide_eq_false c, Bool.false_or]
    by_cases c2 : (b[i]).f0 = 45
    ·simp [c2]
    ·simp [c2]
  by_cases h : namesI b[i] = true
  ·refine ⟨(i : Int), ?_, by rw [List.any_cons, h]; simp⟩
   refine Ev.step (f := fun _ => some (i : Int)) (fun k => ?_) (Ev.now _)
   rw [api_Instr_63.l0, if_pos (by omega), if_pos (by omega), if_pos (by omega), rdX b i hlt, hv, Option.bind_some, if_pos h]
  ·simp only [Bool.not_eq_true] at h
   obtain ⟨v, h1, h2⟩ := ih (i + 1) (by omega) (by omega)
   refine ⟨v, ?_, by rw [h2, List.any_cons, h]; simp⟩
   refine Ev.step (fun k => ?_) h1
   rw [api_Instr_63.l0, if_pos (by omega), if_pos (by omega), if_pos (by omega), rdX b i hlt, hv, Option.bind_some, if_neg (by simp [h]), wrap_succ i (by omega)]
theorem pl_has (b : List S42) (hl : b.length ≤ 1000) : Ev (fun k => api_Instr_28.f k b) (b.any namesI) := by
 obtain ⟨v, h1, h2⟩ := pl_index b hl b.length 0 (by omega) (by omega)
 unfold api_Instr_28.f api_Instr_63.f
 refine Ev.bind h1 ?_
 rw [List.drop_zero] at h2
 rw [h2]
 exact Ev.now _
def plainF (f : S39) : Bool := f.f4.all (fun b => !b.any namesI)
theorem pl_l1 (fs : List S39) (n0 : Nat) (hn : n0 < 1000) (bl : List (List S42)) (hl : bl.length ≤ 1000) (hb : ∀ b ∈ bl, b.length ≤ 1000) (v : Bool) : ∀ d k, bl.length - k = d → k ≤ bl.length →
  ((bl.drop k).all (fun b => !b.any namesI) = true → Ev (fun n => fun_Plain.l0 n fs (fs.length : Int) ((n0 + 1 : Nat) : Int)) v) → ((bl.drop k).all (fun b => !b.any namesI) = false → v = false) → Ev (fun n => fun_Plain.l1 n fs (fs.length : Int) (n0 : Int) bl (bl.length : Int) (k : Int)) v := by
 intro d
 induction d with
 | zero =>
  intro k hd hk h1 h2
  obtain rfl : k = bl.length := by omega
  refine Ev.step (fun n => ?_) (h1 (by simp))
  rw [fun_Plain.l1, if_neg (by omega), wrap_succ n0 (by omega)]
 | succ d ih =>
  intro k hd hk h1 h2
  have hlt : k < bl.length := by omega
  rw [List.drop_eq_getElem_cons hlt, List.all_cons] at h1 h2
  apply Ev.step
  ·intro n
   rw [fun_Plain.l1, if_pos (by omega), if_pos (by omega), if_pos (by omega), rdB _ k hlt]
  ·refine Ev.bind (pl_has _ (hb _ (List.getElem_mem hlt))) ?_
   cases c : (bl[k]).any namesI with
   | true =>
    rw [c] at h2
    rw [h2 rfl]
    exact Ev.congr (fun n => if_pos rfl) (Ev.now _)
   | false =>
    rw [c, Bool.not_false, Bool.true_and] at h1 h2
    exact Ev.congr (fun n => by rw [if_neg (by simp), wrap_succ k (by omega)]) (ih (k + 1) (by omega) (by omega) h1 h2)
theorem pl_l0 (fs : List S39) (ss : List S48) (ht : Tiny fs ss) : ∀ d i, fs.length - i = d → i ≤ fs.length → Ev (fun k => fun_Plain.l0 k fs (fs.length : Int) (i : Int)) ((fs.drop i).all plainF) := by
 have hl := ht.1
 intro d
 induction d with
 | zero =>
  intro i hd hi
  obtain rfl : i = fs.length := by omega
  rw [List.drop_length]
  refine Ev.step (f := fun _ => some true) (fun k => ?_) (Ev.now _)
  rw [fun_Plain.l0, if_neg (by omega)]
 | succ d ih =>
  intro i hd hi
  have hlt : i < fs.length := by omega
  have hf := ht.2.2 _ (List.getElem_mem hlt)
  rw [List.drop_eq_getElem_cons hlt, List.all_cons]
  refine Ev.step (fun k => ?_) (pl_l1 fs i (by omega) fs[i].f4 hf.2.1 (fun b hb => (hf.2.2.2 b hb).1) _ fs[i].f4.length 0 (by omega) (by omega) (fun h => ?_) (fun h => ?_))
  ·rw [fun_Plain.l0, if_pos (by omega), if_pos (by omega), if_pos (by omega), rdF fs i hlt]; rfl
  ·rw [show plainF fs[i] = true from h, Bool.true_and]
   exact ih (i + 1) (by omega) (by omega)
  ·rw [show plainF fs[i] = false from h, Bool.false_and]
def plainV (fs : List S39) (mn : Int) (ss : List S48) : Bool := decide ((checkV fs mn ss).2.2.2 = 0) && fs.all plainF
theorem plain_ev (fs : List S39) (mn : Int) (ss : List S48) (ht : Tiny fs ss) : Ev (fun k => fun_Plain.f k fs mn ss) (plainV fs mn ss) := by
 unfold fun_Plain.f plainV
 refine Ev.bind (check_ev fs mn ss ht) ?_
 by_cases c : (checkV fs mn ss).2.2.2 = 0
 ·rw [decide_eq_true c, Bool.true_and]
  exact Ev.congr (fun k => if_pos c) (pl_l0 fs ss ht fs.length 0 (by omega) (by omega))
 ·rw [decide_eq_false c, Bool.false_and]
  exact Ev.congr (fun k => if_neg c) (Ev.now _)
end Go.Proofs.Ytgbpkbfghonllaa.P

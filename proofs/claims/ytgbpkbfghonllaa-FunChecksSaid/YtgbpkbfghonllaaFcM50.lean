/- A part of it. -/
import Derived.Test.YtgbpkbfghonllaaFcM48
import Derived.Test.YtgbpkbfghonllaaFcP12
import Derived.Test.YtgbpkbfghonllaaFcM39
import Derived.Test.YtgbpkbfghonllaaFcP21
import Derived.Test.YtgbpkbfghonllaaFcP25
import Derived.Outline
import Derived.Test.YtgbpkbfghonllaaFcZ
import Derived.Test.YtgbpkbfghonllaaFcP0
set_option linter.unusedVariables false
set_option linter.unusedSimpArgs false
namespace Go.Proofs.Ytgbpkbfghonllaa.P
open Go Go.RowKit Go.Proofs.YtgbpkbfghonllaaW.PrintWords Go.Proofs.YtgbpkbfghonllaaW.PrintLast Go.Proofs.YtgbpkbfghonllaaW.PrintMore Go.Proofs.Ytgbpkbfghonllaa.Pure
def laOf (fs : List S39) (mn : Int) (ss : List S48) (f : S39) : LA := ⟨none, 0, fs, mn, none, 0, ss, f.f0, f.f1, f.f2, none, 0, f.f3, none, 0, f.f4, none, 0, predsV f.f4⟩
def fnCheck (fs : List S39) (mn : Int) (ss : List S48) (f : S39) : Int × Int × Int := funV fs mn ss f (headV f.f1 f.f2 f.f3 f.f4)
def checkL (fs : List S39) (mn : Int) (ss : List S48) : List S39 → Nat → Int × Int × Int × Int
 | [], _ => (0, 0, 0, 0)
 | f :: r, n => if (fnCheck fs mn ss f).2.2 = 0 then checkL fs mn ss r (n + 1) else ((n : Int), fnCheck fs mn ss f)
def wholeV (fs : List S39) (mn : Int) (ss : List S48) : Int :=
 if (fs.length : Int) > 200 ∨ (ss.length : Int) > 262144 then 3
 else if mn < 0 ∨ mn ≥ (fs.length : Int) ∨ (rd_T39 fs mn).f1 ≠ 1 ∨ (rd_T39 fs mn).f3.length = 0 ∨ rd (rd_T39 fs mn).f3 0 ≠ 3 ∨ (rd_T39 fs mn).f2 ≠ 1 then 13 else 0
def checkV (fs : List S39) (mn : Int) (ss : List S48) : Int × Int × Int × Int := if wholeV fs mn ss = 0 then checkL fs mn ss fs 0 else (-1, -1, -1, wholeV fs mn ss)
def TinyF (f : S39) : Prop := f.f3.length ≤ 100 ∧ f.f4.length ≤ 1000 ∧ sizeV f.f4 ≤ 1000 ∧ ∀ b ∈ f.f4, b.length ≤ 1000 ∧ ∀ x ∈ b, x.f8.length ≤ 40
def Tiny (fs : List S39) (ss : List S48) : Prop := fs.length ≤ 100 ∧ ss.length ≤ 1000 ∧ ∀ f ∈ fs, TinyF f
theorem sizeV_mem {bl : List (List S42)} {b : List S42} (h : b ∈ bl) : b.length ≤ sizeV bl := by
 induction bl with
 | nil => cases h
 | cons c bl ih =>
  have e : sizeV (c :: bl) = c.length + sizeV bl := by simp only [sizeV, List.map_cons, List.sum_cons]
  rcases List.mem_cons.1 h with rfl | h
  ·omega
  ·have := ih h; omega
theorem countV_mem {fs : List S39} {f : S39} (h : f ∈ fs) : sizeV f.f4 ≤ countV fs := by
 induction fs with
 | nil => cases h
 | cons c fs ih =>
  have e : countV (c :: fs) = sizeV c.f4 + countV fs := by simp only [countV, List.map_cons, List.sum_cons]
  rcases List.mem_cons.1 h with rfl | h
  ·omega
  ·have := ih h; omega
theorem few_tiny {m : Nat} (hm : m ≤ 1000) {fs : List S39} {ss : List S48} (h : fewV m fs ss = true) : Tiny fs ss ∧ countV fs ≤ m := by
 unfold fewV at h
 simp only [Bool.and_eq_true, decide_eq_true_eq, List.all_eq_true] at h
 obtain ⟨h1, ⟨h2, h3⟩, h4⟩ := h
 refine ⟨⟨by omega, by omega, fun f hf => ?_⟩, h4⟩
 have q := h1 f hf
 unfold fnFew argsFew at q
 simp only [Bool.and_eq_true, decide_eq_true_eq, List.all_eq_true] at q
 have := countV_mem hf
 exact ⟨q.1.1.1, by omega, by omega, fun b hb => ⟨by have := sizeV_mem hb; omega, q.2 b hb⟩⟩
theorem whole_j1 (b : Bool) (fs : List S39) (mn : Int) (ss : List S48) (hb : b = false → 0 ≤ mn ∧ mn < (fs.length : Int)) : Ev (fun k => fun_whole.j1 k b fs mn ss) (if b = true ∨ (rd_T39 fs mn).f1 ≠ 1 ∨ (rd_T39 fs mn).f3.length = 0 ∨ rd (rd_T39 fs mn).f3 0 ≠ 3 ∨ (rd_T39 fs mn).f2 ≠ 1 then 13 else 0) := by
 refine Ev.step (f := fun _ => some _) (fun k => ?_) (Ev.now _)
 rw [fun_whole.j1]
 cases b with
 | true => rw [if_pos rfl, if_pos (Or.inl rfl)]
 | false =>
  obtain ⟨h0, h1⟩ := hb rfl
  rw [if_neg (by simp), if_pos h0, if_pos h1]
  by_cases c1 : (rd_T39 fs mn).f1 = 1
  ·rw [if_pos c1]
   by_cases c2 : (rd_T39 fs mn).f3.length = 0
   ·rw [if_pos (by omega), if_pos (by simp [c2])]
   ·rw [if_neg (by omega), if_pos (by omega)]
    by_cases c3 : rd (rd_T39 fs mn).f3 0 = 3
    ·rw [if_pos c3]
     by_cases c4 : (rd_T39 fs mn).f2 = 1
     ·rw [if_pos c4, if_neg (by simp [c1, c2, c3, c4])]
     ·rw [if_neg c4, if_pos (by simp [c4])]
    ·rw [if_neg c3, if_pos (by simp [c3])]
  ·rw [if_neg c1, if_pos (by simp [c1])]
theorem whole_j0 (b : Bool) (fs : List S39) (mn : Int) (ss : List S48) (hb : b = decide ((fs.length : Int) > 200 ∨ (ss.length : Int) > 262144)) : Ev (fun k => fun_whole.j0 k b fs mn ss) (wholeV fs mn ss) := by
 unfold wholeV
 by_cases c0 : (fs.length : Int) > 200 ∨ (ss.length : Int) > 262144
 ·rw [if_pos c0]
  rw [decide_eq_true c0] at hb
  subst hb
  refine Ev.step (f := fun _ => some _) (fun k => ?_) (Ev.now _)
  rw [fun_whole.j0, if_pos rfl]
 ·rw [if_neg c0]
  rw [decide_eq_false c0] at hb
  subst hb
  by_cases c1 : mn < 0
  ·rw [if_pos (Or.inl c1)]
   have h := whole_j1 true fs mn ss (by simp)
   rw [if_pos (Or.inl rfl)] at h
   refine Ev.step (fun k => ?_) h
   rw [fun_whole.j0, if_neg (by simp), if_pos c1]
  ·by_cases c2 : mn ≥ (fs.length : Int)
   ·rw [if_pos (Or.inr (Or.inl c2))]
    have h := whole_j1 true fs mn ss (by simp)
    rw [if_pos (Or.inl rfl)] at h
    refine Ev.step (fun k => ?_) h
    rw [fun_whole.j0, if_neg (by simp), if_neg c1, decide_eq_true c2]
   ·have h := whole_j1 false fs mn ss (fun _ => by omega)
    refine Ev.step (f := fun k => fun_whole.j1 k false fs mn ss) (fun k => ?_) (cast ?_ h)
    ·rw [fun_whole.j0, if_neg (by simp), if_neg c1, decide_eq_false c2]
    ·simp [c1, c2]
theorem whole_ev (fs : List S39) (mn : Int) (ss : List S48) : Ev (fun k => fun_whole.f k fs mn ss) (wholeV fs mn ss) := by
 unfold fun_whole.f
 by_cases c : (fs.length : Int) > 200
 ·exact Ev.congr (fun k => if_pos c) (whole_j0 true fs mn ss (by rw [decide_eq_true (Or.inl c)]))
 ·exact Ev.congr (fun k => if_neg c) (whole_j0 _ fs mn ss (by rw [decide_eq_decide]; omega))
theorem tiny_ok {f : S39} (h : TinyF f) : fnOk f = true := by
 obtain ⟨h1, h2, h3, h4⟩ := h
 unfold fnOk
 simp only [Bool.and_eq_true, decide_eq_true_eq, List.all_eq_true]
 exact ⟨by omega, fun b hb => ⟨by have := (h4 b hb).1; omega, fun x hx => by have := (h4 b hb).2 x hx; omega⟩⟩
theorem function_ev (fs : List S39) (mn : Int) (ss : List S48) (n : Nat) (hn : n < fs.length) (ht : TinyF fs[n]) : Ev (fun k => fun_function.f k fs mn ss (n : Int)) ((n : Int), fnCheck fs mn ss fs[n]) := by
 unfold fun_function.f
 refine Ev.congr (fun k => by rw [if_pos (by omega), if_pos (by omega), rdF fs n hn, if_pos (tiny_ok ht)]) ?_
 refine Ev.bind (head_ev _ _ _ _ _ (by have := ht.1; omega) (by have := ht.2.1; omega) (by have := ht.2.2.1; omega)) ?_
 exact Ev.now _
theorem check_from (fs : List S39) (mn : Int) (ss : List S48) (ht : Tiny fs ss) : ∀ d i, fs.length - i = d → i ≤ fs.length → Ev (fun k => fun_Check.l0 k (fs.length : Int) (i : Int) fs mn ss) (checkL fs mn ss (fs.drop i) i) := by
 have hl := ht.1
 intro d
 induction d with
 | zero =>
  intro i hd hi
  obtain rfl : i = fs.length := by omega
  rw [List.drop_length]
  refine Ev.step (f := fun _ => some (0, 0, 0, 0)) (fun k => ?_) (Ev.now _)
  rw [fun_Check.l0, if_neg (by omega)]
 | succ d ih =>
  intro i hd hi
  have hlt : i < fs.length := by omega
  rw [List.drop_eq_getElem_cons hlt]
  apply Ev.step
  ·intro k
   rw [fun_Check.l0, if_pos (by omega)]
  ·refine Ev.bind (function_ev fs mn ss i hlt (ht.2.2 _ (List.getElem_mem hlt))) ?_
   unfold checkL
   by_cases c : (fnCheck fs mn ss fs[i]).2.2 = 0
   ·rw [if_pos c]
    refine Ev.congr (fun k => by rw [if_pos c, wrap_succ i (by omega)]) (ih (i + 1) (by omega) (by omega))
   ·rw [if_neg c]
    refine Ev.congr (fun k => if_neg c) (Ev.now _)
theorem check_ev (fs : List S39) (mn : Int) (ss : List S48) (ht : Tiny fs ss) : Ev (fun k => fun_Check.f k fs mn ss) (checkV fs mn ss) := by
 unfold fun_Check.f checkV
 refine Ev.bind (whole_ev fs mn ss) ?_
 by_cases c : wholeV fs mn ss = 0
 ·rw [if_pos c]
  exact Ev.congr (fun k => if_pos c) (check_from fs mn ss ht fs.length 0 (by omega) (by omega))
 ·rw [if_neg c]
  exact Ev.congr (fun k => if_neg c) (Ev.now _)
theorem getD_L {α : Type} (l : List α) (d : α) (k : Nat) (h : k < l.length) : l.getD k d = l[k] := by rw [List.getD_eq_getElem?_getD, List.getElem?_eq_getElem h]; rfl
theorem rone_ev (fs : List S39) (mn : Int) (ss : List S48) (f : S39) (ht : TinyF f) (k j : Nat) (hk : k < f.f4.length) (hj : j < f.f4[k].length) (h : ∀ i, i < j → insV (laOf fs mn ss f) k f.f4[k] i = 0) :
  Ev (fun n => balustraderef16_one.f n fs mn ss f.f0 f.f1 f.f2 f.f3 f.f4 (k : Int) (j : Int)) (insV (laOf fs mn ss f) k f.f4[k] j) := by
 obtain ⟨h1, h2, h3, h4⟩ := ht
 rw [ins_same _ _ _ _ h]
 unfold balustraderef16_one.f
 have hok : rnOk f.f4 (f.f4.getD (k : Int).toNat []) = true := by
  rw [Int.toNat_natCast, getD_L _ _ k hk]
  unfold rnOk
  simp only [Bool.and_eq_true, decide_eq_true_eq, List.all_eq_true]
  exact ⟨⟨by omega, by have := (h4 _ (List.getElem_mem hk)).1; omega⟩, fun x hx => by have := (h4 _ (List.getElem_mem hk)).2 x hx; omega⟩
 refine Ev.congr (fun n => by rw [if_pos (by rw [Int.toNat_natCast, getD_L _ _ k hk]; omega), if_pos hok]) ?_
 refine Ev.bind (preds_ev f.f0 f.f1 f.f2 f.f3 f.f4 k hk (by omega) (fun b hb => ⟨by have := (h4 b hb).1; omega, fun x hx => by have := (h4 b hb).2 x hx; omega⟩)) ?_
 rw [Int.toNat_natCast, Int.toNat_natCast, getD_L _ _ k hk]
 rw [allV_congr (laOf fs mn ss f) ⟨none, 0, fs, mn, none, 0, ss, f.f0, f.f1, f.f2, none, 0, f.f3, none, 0, f.f4, none, 0, []⟩ rfl rfl rfl rfl rfl]
 exact Ev.now _
theorem rc_l2 (fs : List S39) (mn : Int) (ss : List S48) (f : S39) (ht : TinyF f) (n0 : Int) (k : Nat) (hk : k < f.f4.length) (v : Int × Int × Int × Int) : ∀ d j last, f.f4[k].length - j = d → j ≤ f.f4[k].length → (∀ i, i < j → insV (laOf fs mn ss f) k f.f4[k] i = 0) →
  (∀ p e, scanI (laOf fs mn ss f) k f.f4[k] (f.f4[k].length - j) j last = (p, e) → e ≠ 0 → v = (n0, (k : Int), p, e)) → (∀ p, scanI (laOf fs mn ss f) k f.f4[k] (f.f4[k].length - j) j last = (p, 0) → Ev (fun n => balustraderef16_Check.l1 n n0 ((k + 1 : Nat) : Int) fs mn ss f.f0 f.f1 f.f2 f.f3 f.f4) v) →
  Ev (fun n => balustraderef16_Check.l2 n n0 (k : Int) (j : Int) fs mn ss f.f0 f.f1 f.f2 f.f3 f.f4) v := by
 have hl := ht.2.1
 have hbl := (ht.2.2.2 _ (List.getElem_mem hk)).1
 intro d
 induction d with
 | zero =>
  intro j last hd hj h h1 h2
  obtain rfl : j = f.f4[k].length := by omega
  rw [Nat.sub_self] at h2
  refine Ev.step (fun n => ?_) (h2 last rfl)
  rw [balustraderef16_Check.l2, if_pos (by omega), if_pos (by omega), rdB _ k hk, if_neg (by omega), wrap_succ k (by omega)]
 | succ d ih =>
  intro j last hd hj h h1 h2
  have hlt : j < f.f4[k].length := by omega
  apply Ev.step
  ·intro n
   rw [balustraderef16_Check.l2, if_pos (by omega), if_pos (by omega), rdB _ k hk, if_pos (by omega)]
  ·refine Ev.bind (rone_ev fs mn ss f ht k j hk hlt h) ?_
   by_cases c : insV (laOf fs mn ss f) k f.f4[k] j = 0
   ·refine Ev.congr (fun n => by rw [if_pos c, wrap_succ j (by omega)]) ?_
    rw [scanI_ok _ _ _ hlt last c] at h1 h2
    refine ih (j + 1) (j : Int) (by omega) (by omega) (fun i hi => ?_) h1 h2
    by_cases e : i = j
    ·rw [e]; exact c
    ·exact h i (by omega)
   ·refine Ev.congr (fun n => if_neg c) ?_
    rw [h1 _ _ (scanI_bad _ _ _ hlt last rfl c) c]
    exact Ev.now _
theorem rc_l1 (fs : List S39) (mn : Int) (ss : List S48) (f : S39) (ht : TinyF f) (n0 : Nat) (hn : n0 < 1000) (v : Int × Int × Int × Int) : ∀ d k last, f.f4.length - k = d → k ≤ f.f4.length →
  (∀ q p e, scanBs (laOf fs mn ss f) (f.f4.length - k) k last = (q, p, e) → e ≠ 0 → v = ((n0 : Int), q, p, e)) → (∀ q p, scanBs (laOf fs mn ss f) (f.f4.length - k) k last = (q, p, 0) → Ev (fun n => balustraderef16_Check.l0 n ((n0 + 1 : Nat) : Int) fs mn ss) v) →
  Ev (fun n => balustraderef16_Check.l1 n (n0 : Int) (k : Int) fs mn ss f.f0 f.f1 f.f2 f.f3 f.f4) v := by
 have hl := ht.2.1
 intro d
 induction d with
 | zero =>
  intro k last hd hj h1 h2
  obtain rfl : k = f.f4.length := by omega
  rw [Nat.sub_self] at h2
  refine Ev.step (fun n => ?_) (h2 last.1 last.2 rfl)
  rw [balustraderef16_Check.l1, if_neg (by omega), wrap_succ n0 (by omega)]
 | succ d ih =>
  intro k last hd hj h1 h2
  have hlt : k < f.f4.length := by omega
  have hg : (laOf fs mn ss f).bl.getD k [] = f.f4[k] := getD_L _ _ k hlt
  by_cases c : f.f4[k].length = 0
  ·have hb : scanB (laOf fs mn ss f) k ((laOf fs mn ss f).bl.getD k []) = (-1, 5) := by rw [hg]; unfold scanB; rw [if_pos c]
   rw [h1 _ _ _ (scanBs_bad _ hlt last hb (by decide)) (by decide)]
   refine Ev.step (f := fun _ => some _) (fun n => ?_) (Ev.now _)
   rw [balustraderef16_Check.l1, if_pos (by omega), if_pos (by omega), rdB _ k hlt, if_pos (by omega)]
  ·have hb : scanB (laOf fs mn ss f) k ((laOf fs mn ss f).bl.getD k []) = scanI (laOf fs mn ss f) k f.f4[k] f.f4[k].length 0 (-1) := by rw [hg]; unfold scanB; rw [if_neg c]
   refine Ev.step (fun n => ?_) (rc_l2 fs mn ss f ht (n0 : Int) k hlt v f.f4[k].length 0 (-1) (by omega) (by omega) (fun i hi => absurd hi (Nat.not_lt_zero _)) (fun p e he hne => ?_) (fun p he => ?_))
   ·rw [balustraderef16_Check.l1, if_pos (by omega), if_pos (by omega), rdB _ k hlt, if_neg (by omega)]; rfl
   ·rw [Nat.sub_zero] at he
    exact h1 _ _ _ (scanBs_bad _ hlt last (hb.trans he) hne) hne
   ·rw [Nat.sub_zero] at he
    rw [scanBs_ok _ hlt last (hb.trans he)] at h1 h2
    exact ih (k + 1) _ (by omega) (by omega) h1 h2
theorem rc_l0 (fs : List S39) (mn : Int) (ss : List S48) (ht : Tiny fs ss) : ∀ d i, fs.length - i = d → i ≤ fs.length → Ev (fun k => balustraderef16_Check.l0 k (i : Int) fs mn ss) (checkL fs mn ss (fs.drop i) i) := by
 have hl := ht.1
 intro d
 induction d with
 | zero =>
  intro i hd hi
  obtain rfl : i = fs.length := by omega
  rw [List.drop_length]
  refine Ev.step (f := fun _ => some (0, 0, 0, 0)) (fun k => ?_) (Ev.now _)
  rw [balustraderef16_Check.l0, if_neg (by omega)]
 | succ d ih =>
  intro i hd hi
  have hlt : i < fs.length := by omega
  have hf := ht.2.2 _ (List.getElem_mem hlt)
  rw [List.drop_eq_getElem_cons hlt]
  apply Ev.step
  ·intro k
   rw [balustraderef16_Check.l0, if_pos (by omega), if_pos (by omega), rdF fs i hlt]
  ·refine Ev.bind (rhead_ev _ _ _ _ _ (by have := hf.1; omega) (by have := hf.2.1; omega) (by have := hf.2.2.1; omega)) ?_
   unfold checkL
   by_cases c : headV fs[i].f1 fs[i].f2 fs[i].f3 fs[i].f4 = 0
   ·have e : fnCheck fs mn ss fs[i] = scanBs (laOf fs mn ss fs[i]) fs[i].f4.length 0 (-1, -1) := by unfold fnCheck funV; rw [if_neg (by simpa using c)]; rfl
    refine Ev.congr (fun k => if_pos c) (rc_l1 fs mn ss fs[i] hf i (by omega) _ fs[i].f4.length 0 (-1, -1) (by omega) (by omega) (fun q p e' he hne => ?_) (fun q p he => ?_))
    ·rw [Nat.sub_zero] at he
     rw [e, he, if_neg hne]
    ·rw [Nat.sub_zero] at he
     rw [e, he, if_pos rfl]
     exact ih (i + 1) (by omega) (by omega)
   ·have e : fnCheck fs mn ss fs[i] = (-1, -1, headV fs[i].f1 fs[i].f2 fs[i].f3 fs[i].f4) := by unfold fnCheck funV; rw [if_pos c]
    rw [e, if_neg c]
    exact Ev.congr (fun k => if_neg c) (Ev.now _)
theorem rc_j1 (b : Bool) (fs : List S39) (mn : Int) (ss : List S48) (ht : Tiny fs ss) : Ev (fun k => balustraderef16_Check.j1 k b fs mn ss) (if b then (-1, -1, -1, 13) else checkL fs mn ss fs 0) := by
 cases b with
 | true =>
  refine Ev.step (f := fun _ => some _) (fun k => ?_) (Ev.now _)
  rw [balustraderef16_Check.j1, if_pos rfl, if_pos rfl]
 | false =>
  rw [if_neg (by simp)]
  have h := rc_l0 fs mn ss ht fs.length 0 (by omega) (by omega)
  refine Ev.step (fun k => ?_) h
  rw [balustraderef16_Check.j1, if_neg (by simp)]; rfl
theorem rc_j0 (b : Bool) (fs : List S39) (mn : Int) (ss : List S48) (ht : Tiny fs ss) (hb : b = decide ((fs.length : Int) > 200 ∨ (ss.length : Int) > 262144)) : Ev (fun k => balustraderef16_Check.j0 k b fs mn ss) (checkV fs mn ss) := by
 have q1 := rc_j1 true fs mn ss ht
 have q2 := rc_j1 false fs mn ss ht
 rw [if_pos rfl] at q1
 rw [if_neg (by simp)] at q2
 have w13 : (mn < 0 ∨ mn ≥ (fs.length : Int) ∨ (rd_T39 fs mn).f1 ≠ 1 ∨ (rd_T39 fs mn).f3.length = 0 ∨ rd (rd_T39 fs mn).f3 0 ≠ 3 ∨ (rd_T39 fs mn).f2 ≠ 1) → checkV fs mn ss = (-1, -1, -1, 13) := by
  intro h
  have hw : wholeV fs mn ss = 13 := by unfold wholeV; rw [if_neg (by have := ht.1; have := ht.2.1; omega), if_pos h]
  unfold checkV
  rw [hw, if_neg (by decide)]
 by_cases c0 : (fs.length : Int) > 200 ∨ (ss.length : Int) > 262144
 ·have := ht.1; have := ht.2.1; omega
 rw [decide_eq_false c0] at hb
 subst hb
 by_cases c1 : mn < 0
 ·rw [w13 (Or.inl c1)]
  refine Ev.step (fun k => ?_) q1
  rw [balustraderef16_Check.j0, if_neg (by simp), if_pos c1]
 by_cases c2 : mn ≥ (fs.length : Int)
 ·rw [w13 (Or.inr (Or.inl c2))]
  refine Ev.step (fun k => ?_) q1
  rw [balustraderef16_Check.j0, if_neg (by simp), if_neg c1, if_pos c2]
 by_cases c3 : (rd_T39 fs mn).f1 = 1
 rotate_left
 ·rw [w13 (by simp [c3])]
  refine Ev.step (fun k => ?_) q1
  rw [balustraderef16_Check.j0, if_neg (by simp), if_neg c1, if_neg c2, if_pos (by omega), if_pos (by omega), if_neg c3]
 by_cases c4 : (rd_T39 fs mn).f3.length = 0
 ·rw [w13 (by simp [c4])]
  refine Ev.step (fun k => ?_) q1
  rw [balustraderef16_Check.j0, if_neg (by simp), if_neg c1, if_neg c2, if_pos (by omega), if_pos (by omega), if_pos c3, if_pos (by omega)]
 by_cases c5 : rd (rd_T39 fs mn).f3 0 = 3
 rotate_left
 ·rw [w13 (by simp [c5])]
  refine Ev.step (fun k => ?_) q1
  rw [balustraderef16_Check.j0, if_neg (by simp), if_neg c1, if_neg c2, if_pos (by omega), if_pos (by omega), if_pos c3, if_neg (by omega), if_pos (by omega), if_neg c5]
 by_cases c6 : (rd_T39 fs mn).f2 = 1
 rotate_left
 ·rw [w13 (by simp [c6])]
  refine Ev.step (fun k => ?_) q1
  rw [balustraderef16_Check.j0, if_neg (by simp), if_neg c1, if_neg c2, if_pos (by omega), if_pos (by omega), if_pos c3, if_neg (by omega), if_pos (by omega), if_pos c5, show ((rd_T39 fs mn).f2 != 1) = true by simpa using c6]
 have hw : wholeV fs mn ss = 0 := by unfold wholeV; rw [if_neg c0, if_neg (by intro h; rcases h with h | h | h | h | h | h <;> first | omega | exact h c3 | exact h c5 | exact h c6 | exact c4 h)]
 unfold checkV
 rw [hw, if_pos rfl]
 refine Ev.step (fun k => ?_) q2
 rw [balustraderef16_Check.j0, if_neg (by simp), if_neg c1, if_neg c2, if_pos (by omega), if_pos (by omega), if_pos c3, if_neg (by omega), if_pos (by omega), if_pos c5, show ((rd_T39 fs mn).f2 != 1) = false by simpa using c6]
theorem rcheck_ev (fs : List S39) (mn : Int) (ss : List S48) (ht : Tiny fs ss) : Ev (fun k => balustraderef16_Check.f k fs mn ss) (checkV fs mn ss) := by
 unfold balustraderef16_Check.f
 have := ht.1
 exact Ev.congr (fun k => if_neg (by omega)) (rc_j0 _ fs mn ss ht (by rw [decide_eq_decide]; omega))
end Go.Proofs.Ytgbpkbfghonllaa.P
namespace Go.Proofs.Ytgbpkbfghonllaa.P
open Go.RowKit Go.Proofs.YtgbpkbfghonllaaW.PrintWords Go.Proofs.YtgbpkbfghonllaaW.PrintLast Go.Proofs.YtgbpkbfghonllaaW.PrintMore
attribute [local go_sem] max2_int min2_int max_two min_two max_three min_three max_four min_four   
set_option linter.unusedVariables false
set_option linter.unusedSimpArgs false
mutual
def balustraderef16_Plain.l0 : Nat → Int → List (S39) → Int → List (S48) → Option (Bool)
 | 0, _, _, _, _ => none
 | k + 1, x3, x362000, x362001, x362002 => if x3 < (x362000.length : Int) then (balustraderef16_Plain.l1 k x3 0 x362000 x362001 x362002) else (some true)
def balustraderef16_Plain.l1 : Nat → Int → Int → List (S39) → Int → List (S48) → Option (Bool)
 | 0, _, _, _, _, _ => none
 | k + 1, x3, x4, x362000, x362001, x362002 => if 0 ≤ x3 then (if x3 < (x362000.length : Int) then (if x4 < (((rd_T39 x362000 x3).f4).length : Int) then (if 0 ≤ x4 then (balustraderef16_Plain.l2 k x3 x4 (rd_L5 ((rd_T39 x362000 x3).f4) x4) 0 x362000 x362001 x362002) else (none)) else (balustraderef16_Plain.l0 k (wrap64 (x3 + 1)) x362000 x362001 x362002)) else (none)) else (none)
def balustraderef16_Plain.l2 : Nat → Int → Int → List (S42) → Int → List (S39) → Int → List (S48) → Option (Bool)
 | 0, _, _, _, _, _, _, _ => none
 | k + 1, x3, x4, x5, x6, x362000, x362001, x362002 => if x6 < (x5.length : Int) then (if 0 ≤ x6 then (if ((rd_T42 x5 x6).f0) ≥ 44 then (some false) else (balustraderef16_Plain.l2 k x3 x4 x5 (wrap64 (x6 + 1)) x362000 x362001 x362002)) else (none)) else (balustraderef16_Plain.l1 k x3 (wrap64 (x4 + 1)) x362000 x362001 x362002)
end
def balustraderef16_Plain.f (k : Nat) (l0_0 : List (S39)) (a0_1 : Int) (l0_2 : List (S48)) : Option (Bool) := (balustraderef16_Check.f k l0_0 a0_1 l0_2).bind fun bt362 => (if bt362.2.2.2 = 0 then (balustraderef16_Plain.l0 k 0 l0_0 a0_1 l0_2) else (some false))
set_option maxHeartbeats 8000000 in
set_option maxRecDepth 100000 in
theorem balustraderef16_Plain.calls (k : Nat) (A0_0 : Option Addr) (c0_0 : Nat) (l0_0 : List (S39)) (a0_1 : Int) (A0_2 : Option Addr) (c0_2 : Nat) (l0_2 : List (S48)) (r : Bool) (w : World) (hr0_0 : Kd.C k39 w A0_0 l0_0.length l0_0) (hc0_0 : l0_0.length ≤ c0_0) (hr0_2 : Kd.C k48 w A0_2 l0_2.length l0_2) (hc0_2 : l0_2.length ≤ c0_2) (h : balustraderef16_Plain.f k l0_0 a0_1 l0_2 = some r) :
  Calls Try.prog 12 #[.agg #[.slice A0_0 l0_0.length c0_0, .int .i64 a0_1, .slice A0_2 l0_2.length c0_2]] w fun e w' => e = .returned (.bool r) ∧ Below w.heap.size w w' := by
 have hu25 := Try.underlying25
 have HR0_0 := Aside0.mk hr0_0
 have HC0_0 := Aside0.mk hc0_0
 clear hr0_0 hc0_0
 have HR0_2 := Aside0.mk hr0_2
 have HC0_2 := Aside0.mk hc0_2
 clear hr0_2 hc0_2
 have hfd32 : ∀ (a b c d : Int) (w : World), (Instr.field 32 (.agg #[.int .i64 a, .int .i64 b, .int .i64 c, .int .i64 d]) 3).run Try.prog w = .ok (.int .i64 d) w := fun _ _ _ _ _ => by kernel_rfl
 have HB := Aside0.mk (Below.refl w.heap.size w)
 have H : ((balustraderef16_Check.f k l0_0 a0_1 l0_2).bind fun bt362 => (if bt362.2.2.2 = 0 then (balustraderef16_Plain.l0 k 0 l0_0 a0_1 l0_2) else (some false))) = some r := h
 clear h
 replace H := Option.bind_eq_some_iff.mp H
 obtain ⟨⟨t362, t363, t364, t365⟩, A20, H⟩ := H
 replace H : (if t365 = 0 then (balustraderef16_Plain.l0 k 0 l0_0 a0_1 l0_2) else (some false)) = some r := H
 have A2 := Aside0.mk A20
 clear A20
 by_cases c3 : t365 = 0
 ·rw [if_pos c3] at H
  have c3b0 : (t365 == 0) = true := beq_iff_eq.mpr c3
  have c3b1 : (t365 != 0) = false := bne_eq_false_iff_eq.mpr c3
  clear c3
  have H' := Aside0.mk H
  clear H
  go_enter Try.func12, Try.ntmps12
  go_wp2_with (first | ((with_reducible refine gate_dst (N := 1) rfl ?_); refine box_event ?hg (N := 1) ?hd (cs := #[.slice A0_0 l0_0.length c0_0, .int .i64 a0_1, .slice A0_2 l0_2.length c0_2]) (t := 25) ?hr ?_; (case hd => rfl); (case hg => rfl); (case hr => first | (go_simp; done) | (go_simp; rfl)); intro gb361 hg w4 hbox hb; have n0_ := Aside0.mk (below_step (zB) hb); have n1_ := Aside0.mk (hbox); have n2_ := Aside0.mk (zH hg : w.heap.size ≤ gb361); have n3_ := Aside0.mk (zH hg : w.heap.size ≤ gb361); clear HB; have HB := n0_; have BK361 := n1_; have GW361 := n2_; have GE361 := n3_; clear n0_ n1_ n2_ n3_; clear hb hbox hg; obtain ⟨hcz5_0, hcz5_1, hcz5_2⟩ := zc3 BK361.out; obtain ⟨hfz5_0, hfz5_1, hfz5_2⟩ := zf3 BK361.out) | ((with_reducible refine gate_callee (f := 10) rfl ?_); refine goesL_ (some 8) rfl rfl Try.func10 (by kernel_rfl) rfl #[.agg #[.slice A0_0 l0_0.length c0_0, .int .i64 a0_1, .slice A0_2 l0_2.length c0_2]] rfl zE ?_; (with_reducible refine (balustraderef16_Check.calls k _ _ l0_0 a0_1 _ _ l0_2 t362 t363 t364 t365 _ ?side1 ?side2 ?side3 ?side4 A2.out).mono ?_); (case side1 => exact zC (Kd.C_below HR0_0.out HB.out)); (case side2 => exact HC0_0.out); (case side3 => exact zC (Kd.C_below HR0_2.out HB.out)); (case side4 => exact HC0_2.out); rintro e w6 ⟨rfl, hb⟩; refine ⟨_, rfl, ?_⟩; have n0_ := Aside0.mk (blk_below (g := gb361) (o := .cells #[.slice A0_0 l0_0.length c0_0, .int .i64 a0_1, .slice A0_2 l0_2.length c0_2] 25 (0, 0)) (zK BK361.out) hb); have n1_ := Aside0.mk (below_step (zG) hb); clear BK361; clear HB; have BK361 := n0_; have HB := n1_; clear n0_ n1_; (try clear hb); (try clear hb2); (try clear hk); (try clear hi)))
  go_loopg [3] k (fun kq v3 w' => ∃ (x3_1 : Int), v3 = .int .i64 x3_1 ∧ Aside0 (balustraderef16_Plain.l0 kq x3_1 l0_0 a0_1 l0_2 = some r) ∧ Aside0 (kq ≤ k) ∧ Aside0 (w'.heap[gb361]? = some (.cells #[(.slice A0_0 l0_0.length c0_0), .int .i64 a0_1, (.slice A0_2 l0_2.length c0_2)] 25 (0, 0))) ∧ Aside0 (Below w.heap.size w w'))
  case atStart => exact ⟨(0), zQ, H', ⟨Nat.le_refl _⟩, ⟨zK BK361.out⟩, ⟨zG⟩⟩
  case round =>
   clear H'
   (try clear c1); (try clear p2); (try clear c3); (try clear c3b0); (try clear c3b1); (try clear hcz5_0 hcz5_1 hcz5_2); (try clear hfz5_0 hfz5_1 hfz5_2)
   obtain ⟨x3_1, rfl, HA, HK1, BK361, HB⟩ := hrel
   cases gk with
   | zero => exact absurd HA.out (by simp [balustraderef16_Plain.l0])
   | succ k1 =>
    have H := HA.out
    clear HA
    simp only [balustraderef16_Plain.l0] at H
    by_cases c7 : x3_1 < (l0_0.length : Int)
    ·rw [if_pos c7] at H
     have c7b0 : decide (x3_1 < (l0_0.length : Int)) = true := decide_eq_true c7
     clear c7
     have H' := Aside0.mk H
     clear H
     have hcz8_0 : wr.cell? ⟨gb361, 0, none⟩ = some (.slice A0_0 l0_0.length c0_0) := (blk_cell BK361.out 0).trans rfl
     have hcz8_1 : wr.cell? ⟨gb361, 1, none⟩ = some (.int .i64 a0_1) := (blk_cell BK361.out 1).trans rfl
     have hcz8_2 : wr.cell? ⟨gb361, 2, none⟩ = some (.slice A0_2 l0_2.length c0_2) := (blk_cell BK361.out 2).trans rfl
     have hfz8_0 := blk_frozen BK361.out 0
     have hfz8_1 := blk_frozen BK361.out 1
     have hfz8_2 := blk_frozen BK361.out 2
     go_wp2
     go_loopg [4] k1 (fun kq v4 w' => ∃ (x4_2 : Int), v4 = .int .i64 x4_2 ∧ Aside0 (balustraderef16_Plain.l1 kq x3_1 x4_2 l0_0 a0_1 l0_2 = some r) ∧ Aside0 (kq ≤ k1) ∧ Aside0 (w'.heap[gb361]? = some (.cells #[(.slice A0_0 l0_0.length c0_0), .int .i64 a0_1, (.slice A0_2 l0_2.length c0_2)] 25 (0, 0))) ∧ Aside0 (Below w.heap.size w w'))
     case atStart => exact ⟨(0), zQ, H', ⟨Nat.le_refl _⟩, ⟨zK BK361.out⟩, ⟨zG⟩⟩
     case round =>
      clear H'
      (try clear c1); (try clear p2); (try clear c3); (try clear c3b0); (try clear c3b1); (try clear c7); (try clear c7b0); (try clear hcz5_0 hcz5_1 hcz5_2); (try clear hcz8_0 hcz8_1 hcz8_2); (try clear hfz5_0 hfz5_1 hfz5_2); (try clear hfz8_0 hfz8_1 hfz8_2); (try clear p2)
      obtain ⟨x4_2, rfl, HA, HK2, BK361, HB⟩ := hrel
      cases gk with
      | zero => exact absurd HA.out (by simp [balustraderef16_Plain.l1])
      | succ k2 =>
       have H := HA.out
       clear HA
       simp only [balustraderef16_Plain.l1] at H
       by_cases c9 : 0 ≤ x3_1
       ·rw [if_pos c9] at H
        have c9b0 : decide (0 ≤ x3_1) = true := decide_eq_true c9
        clear c9
        by_cases c10 : x3_1 < (l0_0.length : Int)
        ·rw [if_pos c10] at H
         have c10b0 : decide (x3_1 < (l0_0.length : Int)) = true := decide_eq_true c10
         clear c10
         by_cases c11 : x4_2 < (((rd_T39 l0_0 x3_1).f4).length : Int)
         ·rw [if_pos c11] at H
          have c11b0 : decide (x4_2 < (((rd_T39 l0_0 x3_1).f4).length : Int)) = true := decide_eq_true c11
          clear c11
          by_cases c12 : 0 ≤ x4_2
          ·rw [if_pos c12] at H
           have c12b0 : decide (0 ≤ x4_2) = true := decide_eq_true c12
           clear c12
           have H' := Aside0.mk H
           clear H
           have hcz13_0 : wr.cell? ⟨gb361, 0, none⟩ = some (.slice A0_0 l0_0.length c0_0) := (blk_cell BK361.out 0).trans rfl
           have hcz13_1 : wr.cell? ⟨gb361, 1, none⟩ = some (.int .i64 a0_1) := (blk_cell BK361.out 1).trans rfl
           have hcz13_2 : wr.cell? ⟨gb361, 2, none⟩ = some (.slice A0_2 l0_2.length c0_2) := (blk_cell BK361.out 2).trans rfl
           have hfz13_0 := blk_frozen BK361.out 0
           have hfz13_1 := blk_frozen BK361.out 1
           have hfz13_2 := blk_frozen BK361.out 2
           have p366 : 0 ≤ (x3_1 : Int) := zO
           have q366 : x3_1 < (l0_0.length : Int) := zO
           obtain ⟨ad366, A366_3, c366_3, A366_4, c366_4, e366, hx366_0, hx366_1, hx366_2, hx366_3, hx366_4, hl366_3, hi366_3, hl366_4, hi366_4⟩ := at_T39 HR0_0.out x3_1 p366 q366
           cases e366
           replace hx366_0 := pw_cell_below HB.out hx366_0
           replace hx366_1 := pw_cell_below HB.out hx366_1
           replace hx366_2 := pw_cell_below HB.out hx366_2
           replace hx366_3 := pw_cell_below HB.out hx366_3
           replace hx366_4 := pw_cell_below HB.out hx366_4
           have HR366_3 := Aside0.mk hi366_3
           have HC366_3 := Aside0.mk hl366_3
           clear hi366_3 hl366_3
           have HR366_4 := Aside0.mk hi366_4
           have HC366_4 := Aside0.mk hl366_4
           clear hi366_4 hl366_4
           replace p366 := eq_true p366
           replace q366 := eq_true q366
           have p367 : 0 ≤ (x3_1 : Int) := zO
           have q367 : x3_1 < (l0_0.length : Int) := zO
           obtain ⟨ad367, A367_3, c367_3, A367_4, c367_4, e367, hx367_0, hx367_1, hx367_2, hx367_3, hx367_4, hl367_3, hi367_3, hl367_4, hi367_4⟩ := at_T39 HR0_0.out x3_1 p367 q367
           obtain rfl : ad366 = ad367 := (by injection e367)
           replace hx367_0 := pw_cell_below HB.out hx367_0
           replace hx367_1 := pw_cell_below HB.out hx367_1
           replace hx367_2 := pw_cell_below HB.out hx367_2
           replace hx367_3 := pw_cell_below HB.out hx367_3
           replace hx367_4 := pw_cell_below HB.out hx367_4
           have HR367_3 := Aside0.mk hi367_3
           have HC367_3 := Aside0.mk hl367_3
           clear hi367_3 hl367_3
           have HR367_4 := Aside0.mk hi367_4
           have HC367_4 := Aside0.mk hl367_4
           clear hi367_4 hl367_4
           replace p367 := eq_true p367
           replace q367 := eq_true q367
           have ea_ := Option.some.inj (hx366_3.symm.trans hx367_3)
           injection ea_ with ea_ en_ ec_
           subst ea_
           subst ec_
           clear en_
           have ea_ := Option.some.inj (hx366_4.symm.trans hx367_4)
           injection ea_ with ea_ en_ ec_
           subst ea_
           subst ec_
           clear en_
           have p368 : 0 ≤ (x4_2 : Int) := zO
           have q368 : x4_2 < (((rd_T39 l0_0 x3_1).f4).length : Int) := zO
           obtain ⟨ad368, A368_0, c368_0, e368, hx368_0, hl368_0, hi368_0⟩ := at_L5 HR367_4.out x4_2 p368 q368
           cases e368
           replace hx368_0 := pw_cell_below HB.out hx368_0
           have HR368_0 := Aside0.mk hi368_0
           have HC368_0 := Aside0.mk hl368_0
           clear hi368_0 hl368_0
           replace p368 := eq_true p368
           replace q368 := eq_true q368
           go_wp2
           go_loopg [6] k2 (fun kq v6 w' => ∃ (x6_3 : Int), v6 = .int .i64 x6_3 ∧ Aside0 (balustraderef16_Plain.l2 kq x3_1 x4_2 (rd_L5 ((rd_T39 l0_0 x3_1).f4) x4_2) x6_3 l0_0 a0_1 l0_2 = some r) ∧ Aside0 (kq ≤ k2) ∧ Aside0 (w'.heap[gb361]? = some (.cells #[(.slice (some ad366) l0_0.length c0_0), .int .i64 a0_1, (.slice A0_2 l0_2.length c0_2)] 25 (0, 0))) ∧ Aside0 (Below w.heap.size w w'))
           case atStart => exact ⟨(0), zQ, H', ⟨Nat.le_refl _⟩, ⟨zK BK361.out⟩, ⟨zG⟩⟩
           case round =>
            clear H'
            (try clear c1); (try clear p2); (try clear c3); (try clear c3b0); (try clear c3b1); (try clear p3); (try clear q3); (try clear hx3); (try clear c7); (try clear c7b0); (try clear c9); (try clear c9b0); (try clear c10); (try clear c10b0); (try clear c11); (try clear c11b0); (try clear c12); (try clear c12b0); (try clear hcz13_0 hcz13_1 hcz13_2); (try clear hcz5_0)
            (try clear hcz5_1 hcz5_2); (try clear hcz8_0 hcz8_1 hcz8_2); (try clear hfz13_0 hfz13_1 hfz13_2); (try clear hfz5_0 hfz5_1 hfz5_2); (try clear hfz8_0 hfz8_1 hfz8_2); (try clear hx366_0); (try clear hx366_1); (try clear hx366_2); (try clear hx366_3); (try clear hx366_4); (try clear hx367_0)
            (try clear hx367_1); (try clear hx367_2); (try clear hx367_3); (try clear hx367_4); (try clear hx368_0); (try clear p2); (try clear p366); (try clear p367); (try clear p368); (try clear q366); (try clear q367); (try clear q368)
            obtain ⟨x6_3, rfl, HA, HK3, BK361, HB⟩ := hrel
            cases gk with
            | zero => exact absurd HA.out (by simp [balustraderef16_Plain.l2])
            | succ k3 =>
             have H := HA.out
             clear HA
             simp only [balustraderef16_Plain.l2] at H
             by_cases c14 : x6_3 < ((rd_L5 ((rd_T39 l0_0 x3_1).f4) x4_2).length : Int)
             ·rw [if_pos c14] at H
              have c14b0 : decide (x6_3 < ((rd_L5 ((rd_T39 l0_0 x3_1).f4) x4_2).length : Int)) = true := decide_eq_true c14
              clear c14
              by_cases c15 : 0 ≤ x6_3
              ·rw [if_pos c15] at H
               have c15b0 : decide (0 ≤ x6_3) = true := decide_eq_true c15
               clear c15
               by_cases c16 : ((rd_T42 (rd_L5 ((rd_T39 l0_0 x3_1).f4) x4_2) x6_3).f0) ≥ 44
               ·rw [if_pos c16] at H
                have c16b0 : decide (44 ≤ ((rd_T42 (rd_L5 ((rd_T39 l0_0 x3_1).f4) x4_2) x6_3).f0)) = true := decide_eq_true c16
                clear c16
                obtain rfl := Option.some.inj H
                have p369 : 0 ≤ (x6_3 : Int) := zO
                have q369 : x6_3 < ((rd_L5 ((rd_T39 l0_0 x3_1).f4) x4_2).length : Int) := zO
                obtain ⟨ad369, A369_8, c369_8, e369, hx369_0, hx369_1, hx369_2, hx369_3, hx369_4, hx369_5, hx369_6, hx369_7, hx369_8, hl369_8, hi369_8⟩ := at_T42 HR368_0.out x6_3 p369 q369
                cases e369
                replace hx369_0 := pw_cell_below HB.out hx369_0
                replace hx369_1 := pw_cell_below HB.out hx369_1
                replace hx369_2 := pw_cell_below HB.out hx369_2
                replace hx369_3 := pw_cell_below HB.out hx369_3
                replace hx369_4 := pw_cell_below HB.out hx369_4
                replace hx369_5 := pw_cell_below HB.out hx369_5
                replace hx369_6 := pw_cell_below HB.out hx369_6
                replace hx369_7 := pw_cell_below HB.out hx369_7
                replace hx369_8 := pw_cell_below HB.out hx369_8
                have HR369_8 := Aside0.mk hi369_8
                have HC369_8 := Aside0.mk hl369_8
                clear hi369_8 hl369_8
                replace p369 := eq_true p369
                replace q369 := eq_true q369
                go_wp2
                go_ret
                exact ⟨zV, zG⟩
               ·rw [if_neg c16] at H
                have c16b0 : decide (44 ≤ ((rd_T42 (rd_L5 ((rd_T39 l0_0 x3_1).f4) x4_2) x6_3).f0)) = false := decide_eq_false c16
                clear c16
                have H' := Aside0.mk H
                clear H
                have p369 : 0 ≤ (x6_3 : Int) := zO
                have q369 : x6_3 < ((rd_L5 ((rd_T39 l0_0 x3_1).f4) x4_2).length : Int) := zO
                obtain ⟨ad369, A369_8, c369_8, e369, hx369_0, hx369_1, hx369_2, hx369_3, hx369_4, hx369_5, hx369_6, hx369_7, hx369_8, hl369_8, hi369_8⟩ := at_T42 HR368_0.out x6_3 p369 q369
                cases e369
                replace hx369_0 := pw_cell_below HB.out hx369_0
                replace hx369_1 := pw_cell_below HB.out hx369_1
                replace hx369_2 := pw_cell_below HB.out hx369_2
                replace hx369_3 := pw_cell_below HB.out hx369_3
                replace hx369_4 := pw_cell_below HB.out hx369_4
                replace hx369_5 := pw_cell_below HB.out hx369_5
                replace hx369_6 := pw_cell_below HB.out hx369_6
                replace hx369_7 := pw_cell_below HB.out hx369_7
                replace hx369_8 := pw_cell_below HB.out hx369_8
                have HR369_8 := Aside0.mk hi369_8
                have HC369_8 := Aside0.mk hl369_8
                clear hi369_8 hl369_8
                replace p369 := eq_true p369
                replace q369 := eq_true q369
                go_wp2
                go_roundg k3
                case measure => have := HK1.out; have := HK2.out; have := HK3.out; omega
                case rel => exact ⟨(wrap64 (x6_3 + 1)), zQ, H', ⟨by have := HK1.out; have := HK2.out; have := HK3.out; omega⟩, ⟨zK BK361.out⟩, ⟨zG⟩⟩
              ·rw [if_neg c15] at H
               exact absurd H (by simp)
             ·rw [if_neg c14] at H
              have c14b0 : decide (x6_3 < ((rd_L5 ((rd_T39 l0_0 x3_1).f4) x4_2).length : Int)) = false := decide_eq_false c14
              clear c14
              have H' := Aside0.mk H
              clear H
              go_wp2
              go_roundg k3
              case measure => have := HK1.out; have := HK2.out; have := HK3.out; omega
              case rel => exact ⟨(wrap64 (x4_2 + 1)), zQ, H', ⟨by have := HK1.out; have := HK2.out; have := HK3.out; omega⟩, ⟨zK BK361.out⟩, ⟨zG⟩⟩
          ·rw [if_neg c12] at H
           exact absurd H (by simp)
         ·rw [if_neg c11] at H
          have c11b0 : decide (x4_2 < (((rd_T39 l0_0 x3_1).f4).length : Int)) = false := decide_eq_false c11
          clear c11
          have H' := Aside0.mk H
          clear H
          have hcz17_0 : wr.cell? ⟨gb361, 0, none⟩ = some (.slice A0_0 l0_0.length c0_0) := (blk_cell BK361.out 0).trans rfl
          have hcz17_1 : wr.cell? ⟨gb361, 1, none⟩ = some (.int .i64 a0_1) := (blk_cell BK361.out 1).trans rfl
          have hcz17_2 : wr.cell? ⟨gb361, 2, none⟩ = some (.slice A0_2 l0_2.length c0_2) := (blk_cell BK361.out 2).trans rfl
          have hfz17_0 := blk_frozen BK361.out 0
          have hfz17_1 := blk_frozen BK361.out 1
          have hfz17_2 := blk_frozen BK361.out 2
          have p366 : 0 ≤ (x3_1 : Int) := zO
          have q366 : x3_1 < (l0_0.length : Int) := zO
          obtain ⟨ad366, A366_3, c366_3, A366_4, c366_4, e366, hx366_0, hx366_1, hx366_2, hx366_3, hx366_4, hl366_3, hi366_3, hl366_4, hi366_4⟩ := at_T39 HR0_0.out x3_1 p366 q366
          cases e366
          replace hx366_0 := pw_cell_below HB.out hx366_0
          replace hx366_1 := pw_cell_below HB.out hx366_1
          replace hx366_2 := pw_cell_below HB.out hx366_2
          replace hx366_3 := pw_cell_below HB.out hx366_3
          replace hx366_4 := pw_cell_below HB.out hx366_4
          have HR366_3 := Aside0.mk hi366_3
          have HC366_3 := Aside0.mk hl366_3
          clear hi366_3 hl366_3
          have HR366_4 := Aside0.mk hi366_4
          have HC366_4 := Aside0.mk hl366_4
          clear hi366_4 hl366_4
          replace p366 := eq_true p366
          replace q366 := eq_true q366
          go_wp2
          go_roundg k2
          case measure => have := HK1.out; have := HK2.out; omega
          case rel => exact ⟨(wrap64 (x3_1 + 1)), zQ, H', ⟨by have := HK1.out; have := HK2.out; omega⟩, ⟨zK BK361.out⟩, ⟨zG⟩⟩
        ·rw [if_neg c10] at H
         exact absurd H (by simp)
       ·rw [if_neg c9] at H
        exact absurd H (by simp)
    ·rw [if_neg c7] at H
     have c7b0 : decide (x3_1 < (l0_0.length : Int)) = false := decide_eq_false c7
     clear c7
     obtain rfl := Option.some.inj H
     have hcz18_0 : wr.cell? ⟨gb361, 0, none⟩ = some (.slice A0_0 l0_0.length c0_0) := (blk_cell BK361.out 0).trans rfl
     have hcz18_1 : wr.cell? ⟨gb361, 1, none⟩ = some (.int .i64 a0_1) := (blk_cell BK361.out 1).trans rfl
     have hcz18_2 : wr.cell? ⟨gb361, 2, none⟩ = some (.slice A0_2 l0_2.length c0_2) := (blk_cell BK361.out 2).trans rfl
     have hfz18_0 := blk_frozen BK361.out 0
     have hfz18_1 := blk_frozen BK361.out 1
     have hfz18_2 := blk_frozen BK361.out 2
     go_wp2
     go_ret
     exact ⟨zV, zG⟩
 ·rw [if_neg c3] at H
  have c3b0 : (t365 == 0) = false := beq_eq_false_iff_ne.mpr c3
  have c3b1 : (t365 != 0) = true := bne_iff_ne.mpr c3
  obtain rfl := Option.some.inj H
  go_enter Try.func12, Try.ntmps12
  go_wp2_with (first | ((with_reducible refine gate_dst (N := 1) rfl ?_); refine box_event ?hg (N := 1) ?hd (cs := #[.slice A0_0 l0_0.length c0_0, .int .i64 a0_1, .slice A0_2 l0_2.length c0_2]) (t := 25) ?hr ?_; (case hd => rfl); (case hg => rfl); (case hr => first | (go_simp; done) | (go_simp; rfl)); intro gb361 hg w19 hbox hb; have n0_ := Aside0.mk (below_step (zB) hb); have n1_ := Aside0.mk (hbox); have n2_ := Aside0.mk (zH hg : w.heap.size ≤ gb361); have n3_ := Aside0.mk (zH hg : w.heap.size ≤ gb361); clear HB; have HB := n0_; have BK361 := n1_; have GW361 := n2_; have GE361 := n3_; clear n0_ n1_ n2_ n3_; clear hb hbox hg; obtain ⟨hcz20_0, hcz20_1, hcz20_2⟩ := zc3 BK361.out; obtain ⟨hfz20_0, hfz20_1, hfz20_2⟩ := zf3 BK361.out) | ((with_reducible refine gate_callee (f := 10) rfl ?_); refine goesL_ (some 8) rfl rfl Try.func10 (by kernel_rfl) rfl #[.agg #[.slice A0_0 l0_0.length c0_0, .int .i64 a0_1, .slice A0_2 l0_2.length c0_2]] rfl zE ?_; (with_reducible refine (balustraderef16_Check.calls k _ _ l0_0 a0_1 _ _ l0_2 t362 t363 t364 t365 _ ?side1 ?side2 ?side3 ?side4 A2.out).mono ?_); (case side1 => exact zC (Kd.C_below HR0_0.out HB.out)); (case side2 => exact HC0_0.out); (case side3 => exact zC (Kd.C_below HR0_2.out HB.out)); (case side4 => exact HC0_2.out); rintro e w21 ⟨rfl, hb⟩; refine ⟨_, rfl, ?_⟩; have n0_ := Aside0.mk (blk_below (g := gb361) (o := .cells #[.slice A0_0 l0_0.length c0_0, .int .i64 a0_1, .slice A0_2 l0_2.length c0_2] 25 (0, 0)) (zK BK361.out) hb); have n1_ := Aside0.mk (below_step (zG) hb); clear BK361; clear HB; have BK361 := n0_; have HB := n1_; clear n0_ n1_; (try clear hb); (try clear hb2); (try clear hk); (try clear hi)))
  go_ret
  exact ⟨zV, zG⟩
end Go.Proofs.Ytgbpkbfghonllaa.P

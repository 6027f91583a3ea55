/- A part of it. -/
import Derived.Test.YtgbpkbfghonllaaFcM46
import Derived.Test.YtgbpkbfghonllaaFcM39
import Derived.Test.YtgbpkbfghonllaaFcP19
import Derived.Outline
import Derived.Test.YtgbpkbfghonllaaFcP0
import Derived.Test.YtgbpkbfghonllaaFcP13
import Derived.Test.YtgbpkbfghonllaaFcRefFE
set_option linter.unusedVariables false
set_option linter.unusedSimpArgs false
namespace Go.Proofs.Ytgbpkbfghonllaa.P
open Go Go.RowKit Go.Proofs.YtgbpkbfghonllaaW.PrintWords Go.Proofs.YtgbpkbfghonllaaW.PrintLast Go.Proofs.YtgbpkbfghonllaaW.PrintMore Go.Proofs.Ytgbpkbfghonllaa.Pure
def argsFew (b : List S42) : Bool := b.all (fun i => decide (i.f8.length ≤ 40))
def fnFew (m : Nat) (f : S39) : Bool := (decide (f.f3.length ≤ 100) && decide (f.f4.length ≤ m) && decide (f.f0.size ≤ 100)) && f.f4.all argsFew
def fewV (m : Nat) (fs : List S39) (ss : List S48) : Bool := fs.all (fnFew m) && (decide (fs.length ≤ 10) && decide (ss.length ≤ 200) && decide (countV fs ≤ m))
def Sized (fs : List S39) : Prop := fs.length < 20000000000000 ∧ ∀ f ∈ fs, f.f4.length < 20000000000000 ∧ f.f3.length < 20000000000000 ∧ ∀ b ∈ f.f4, b.length < 20000000000000 ∧ ∀ x ∈ b, x.f8.length < 20000000000000
theorem rdF (fs : List S39) (n : Nat) (h : n < fs.length) : rd_T39 fs (n : Int) = fs[n] := by simp [rd_T39, List.getD_eq_getElem?_getD, h]
theorem rdB (bl : List (List S42)) (n : Nat) (h : n < bl.length) : rd_L5 bl (n : Int) = bl[n] := by simp [rd_L5, List.getD_eq_getElem?_getD, h]
theorem rdX (b : List S42) (n : Nat) (h : n < b.length) : rd_T42 b (n : Int) = b[n] := by simp [rd_T42, List.getD_eq_getElem?_getD, h]
theorem few_l2 (m x5 : Int) (fs : List S39) (mn : Int) (ss : List S48) (nm : ByteArray) (ps rt : Int) (rg : List Int) (bl : List (List S42)) (k : Nat) (hk : k < bl.length) (hl : bl.length < 20000000000000) (hb : bl[k].length < 20000000000000) (v : Bool) : ∀ d j, bl[k].length - j = d → j ≤ bl[k].length →
  (argsFew (bl[k].drop j) = true → Ev (fun n => balustraderef16_Few.l1 n m x5 ((k + 1 : Nat) : Int) fs mn ss nm ps rt rg bl) v) → (argsFew (bl[k].drop j) = false → v = false) → Ev (fun n => balustraderef16_Few.l2 n m x5 (k : Int) (j : Int) fs mn ss nm ps rt rg bl) v := by
 intro d
 induction d with
 | zero =>
  intro j hd hj h1 h2
  obtain rfl : j = bl[k].length := by omega
  refine Ev.step (fun n => ?_) (h1 (by simp [argsFew]))
  rw [balustraderef16_Few.l2, if_pos (by omega), if_pos (by omega), rdB bl k hk, if_neg (by omega), wrap_succ k (by omega)]
 | succ d ih =>
  intro j hd hj h1 h2
  have hlt : j < bl[k].length := by omega
  rw [List.drop_eq_getElem_cons hlt] at h1 h2
  by_cases h : (bl[k][j].f8.length : Int) > 40
  ·have e : argsFew (bl[k][j] :: bl[k].drop (j + 1)) = false := by
    unfold argsFew
    rw [List.all_cons, decide_eq_false (by omega), Bool.false_and]
   rw [h2 e]
   refine Ev.step (f := fun _ => some false) (fun n => ?_) (Ev.now _)
   rw [balustraderef16_Few.l2, if_pos (by omega), if_pos (by omega), rdB bl k hk, if_pos (by omega), if_pos (by omega), rdX _ j hlt, if_pos h]
  ·have e : argsFew (bl[k][j] :: bl[k].drop (j + 1)) = argsFew (bl[k].drop (j + 1)) := by
    unfold argsFew
    rw [List.all_cons, decide_eq_true (by omega), Bool.true_and]
   rw [e] at h1 h2
   refine Ev.step (fun n => ?_) (ih (j + 1) (by omega) (by omega) h1 h2)
   rw [balustraderef16_Few.l2, if_pos (by omega), if_pos (by omega), rdB bl k hk, if_pos (by omega), if_pos (by omega), rdX _ j hlt, if_neg h, wrap_succ j (by omega)]
theorem few_l1 (m : Int) (n0 : Nat) (hn : n0 < 20000000000000) (fs : List S39) (mn : Int) (ss : List S48) (nm : ByteArray) (ps rt : Int) (rg : List Int) (bl : List (List S42)) (hl : bl.length < 20000000000000) (hb : ∀ b ∈ bl, b.length < 20000000000000) (v : Bool) : ∀ d k, bl.length - k = d → k ≤ bl.length →
  ((bl.drop k).all argsFew = true → Ev (fun n => balustraderef16_Few.l0 n m ((n0 + 1 : Nat) : Int) fs mn ss) v) → ((bl.drop k).all argsFew = false → v = false) → Ev (fun n => balustraderef16_Few.l1 n m (n0 : Int) (k : Int) fs mn ss nm ps rt rg bl) v := by
 intro d
 induction d with
 | zero =>
  intro k hd hj h1 h2
  obtain rfl : k = bl.length := by omega
  refine Ev.step (fun n => ?_) (h1 (by simp))
  rw [balustraderef16_Few.l1, if_neg (by omega), wrap_succ n0 (by omega)]
 | succ d ih =>
  intro k hd hj h1 h2
  have hlt : k < bl.length := by omega
  rw [List.drop_eq_getElem_cons hlt, List.all_cons] at h1 h2
  refine Ev.step (fun n => ?_) (few_l2 m n0 fs mn ss nm ps rt rg bl k hlt hl (hb _ (List.getElem_mem hlt)) v bl[k].length 0 (by omega) (by omega) (fun h => ?_) (fun h => ?_))
  ·rw [balustraderef16_Few.l1, if_pos (by omega)]; rfl
  ·rw [List.drop_zero] at h
   rw [h, Bool.true_and] at h1 h2
   exact ih (k + 1) (by omega) (by omega) h1 h2
  ·rw [List.drop_zero] at h
   rw [h, Bool.false_and] at h2
   exact h2 rfl
theorem few_j1 (m : Int) (n0 : Nat) (hn : n0 < 20000000000000) (q : Bool) (fs : List S39) (mn : Int) (ss : List S48) (nm : ByteArray) (ps rt : Int) (rg : List Int) (bl : List (List S42)) (hl : bl.length < 20000000000000) (hb : ∀ b ∈ bl, b.length < 20000000000000) (v : Bool)
  (h1 : (!q && bl.all argsFew) = true → Ev (fun n => balustraderef16_Few.l0 n m ((n0 + 1 : Nat) : Int) fs mn ss) v) (h2 : (!q && bl.all argsFew) = false → v = false) : Ev (fun n => balustraderef16_Few.j1 n m (n0 : Int) q fs mn ss nm ps rt rg bl) v := by
 cases q with
 | true =>
  rw [h2 (by simp)]
  refine Ev.step (f := fun _ => some false) (fun n => ?_) (Ev.now _)
  rw [balustraderef16_Few.j1, if_pos rfl]
 | false =>
  rw [Bool.not_false, Bool.true_and] at h1 h2
  refine Ev.step (fun n => ?_) (few_l1 m n0 hn fs mn ss nm ps rt rg bl hl hb v bl.length 0 (by omega) (by omega) (by simpa using h1) (by simpa using h2))
  rw [balustraderef16_Few.j1, if_neg (by simp)]; rfl
theorem count_bound (fs : List S39) (m : Nat) (hs : Sized fs) (hm : m ≤ 1000) (h : fs.all (fnFew m) = true) (h10 : fs.length ≤ 10) : countV fs < 4611686018427387904 := by
 have key : ∀ f ∈ fs, sizeV f.f4 ≤ 20000000000000000 := by
  intro f hf
  have h1 := List.all_eq_true.1 h f hf
  unfold fnFew at h1
  simp only [Bool.and_eq_true, decide_eq_true_eq] at h1
  have h2 : ∀ bl : List (List S42), (∀ b ∈ bl, b.length < 20000000000000) → sizeV bl ≤ bl.length * 20000000000000 := by
   intro bl
   induction bl with
   | nil => intro _; simp [sizeV]
   | cons b bl ih =>
    intro hb
    have := ih (fun c hc => hb c (List.mem_cons_of_mem _ hc))
    have := hb b List.mem_cons_self
    have e : sizeV (b :: bl) = b.length + sizeV bl := by simp only [sizeV, List.map_cons, List.sum_cons]
    rw [e, List.length_cons]
    omega
  have h3 := h2 f.f4 (fun b hb => ((hs.2 f hf).2.2 b hb).1)
  have : f.f4.length ≤ 1000 := by omega
  omega
 have h4 : ∀ l : List S39, (∀ f ∈ l, sizeV f.f4 ≤ 20000000000000000) → countV l ≤ l.length * (20000000000000000) := by
  intro l
  induction l with
  | nil => intro _; simp [countV]
  | cons f l ih =>
   intro hb
   have := ih (fun c hc => hb c (List.mem_cons_of_mem _ hc))
   have := hb f List.mem_cons_self
   have e : countV (f :: l) = sizeV f.f4 + countV l := by simp only [countV, List.map_cons, List.sum_cons]
   rw [e, List.length_cons]
   omega
 have := h4 fs key
 omega
theorem few_l0 (m : Nat) (hm : m ≤ 1000) (fs : List S39) (mn : Int) (ss : List S48) (hs : Sized fs) : ∀ d i, fs.length - i = d → i ≤ fs.length → (∀ j, (h : j < fs.length) → j < i → fnFew m fs[j] = true) → Ev (fun k => balustraderef16_Few.l0 k (m : Int) (i : Int) fs mn ss) (fewV m fs ss) := by
 intro d
 induction d with
 | zero =>
  intro i hd hi hp
  obtain rfl : i = fs.length := by omega
  have ha : fs.all (fnFew m) = true := by
   rw [List.all_eq_true]
   intro f hf
   obtain ⟨j, hj, rfl⟩ := List.mem_iff_getElem.1 hf
   exact hp j hj hj
  unfold fewV
  rw [ha, Bool.true_and]
  by_cases c1 : fs.length ≤ 10
  ·rw [decide_eq_true c1, Bool.true_and]
   by_cases c2 : ss.length ≤ 200
   ·rw [decide_eq_true c2, Bool.true_and]
    refine Ev.step (f := fun n => (balustraderef16_Count.f n fs mn ss).bind fun t => some (decide (t ≤ (m : Int)))) (fun n => ?_) (Ev.bind (rcount_ev fs mn ss (by have := hs.1; omega) (fun f hf => by have := (hs.2 f hf).1; omega) (count_bound fs m hs hm ha c1)) ?_)
    ·rw [balustraderef16_Few.l0, if_neg (by omega), if_pos (by omega), if_pos (by omega)]
    ·rw [show decide (countV fs ≤ m) = decide ((countV fs : Int) ≤ (m : Int)) from decide_eq_decide.2 (by omega)]
     exact Ev.now _
   ·rw [decide_eq_false c2, Bool.false_and]
    refine Ev.step (f := fun _ => some false) (fun n => ?_) (Ev.now _)
    rw [balustraderef16_Few.l0, if_neg (by omega), if_pos (by omega), if_neg (by omega)]
  ·rw [decide_eq_false c1, Bool.false_and, Bool.false_and]
   refine Ev.step (f := fun _ => some false) (fun n => ?_) (Ev.now _)
   rw [balustraderef16_Few.l0, if_neg (by omega), if_neg (by omega)]
 | succ d ih =>
  intro i hd hi hp
  have hlt : i < fs.length := by omega
  have hf := hs.2 fs[i] (List.getElem_mem hlt)
  have hn := hs.1
  have bad : fnFew m fs[i] = false → fewV m fs ss = false := by
   intro h
   unfold fewV
   rw [List.all_eq_false.2 ⟨fs[i], List.getElem_mem hlt, by rw [h]; simp⟩, Bool.false_and]
  have good : fnFew m fs[i] = true → Ev (fun k => balustraderef16_Few.l0 k (m : Int) ((i + 1 : Nat) : Int) fs mn ss) (fewV m fs ss) := by
   intro h
   refine ih (i + 1) (by omega) (by omega) (fun j hj hl => ?_)
   by_cases he : j = i
   ·subst he; exact h
   ·exact hp j hj (by omega)
  have j := fun q => few_j1 (m : Int) i (by omega) q fs mn ss fs[i].f0 fs[i].f1 fs[i].f2 fs[i].f3 fs[i].f4 hf.1 (fun b hb => (hf.2.2 b hb).1) (fewV m fs ss)
  by_cases c1 : (fs[i].f3.length : Int) > 100
  ·refine Ev.step (fun n => ?_) (j true (fun h => by simp at h) (fun _ => bad ?_))
   ·rw [balustraderef16_Few.l0, if_pos (by omega), if_pos (by omega), rdF fs i hlt, if_pos c1]
   ·unfold fnFew; rw [decide_eq_false (by omega)]; rfl
  ·by_cases c2 : (fs[i].f4.length : Int) > (m : Int)
   ·refine Ev.step (fun n => ?_) (j true (fun h => by simp at h) (fun _ => bad ?_))
    ·rw [balustraderef16_Few.l0, if_pos (by omega), if_pos (by omega), rdF fs i hlt, if_neg c1, if_pos c2]
    ·unfold fnFew; rw [decide_eq_false (p := fs[i].f4.length ≤ m) (by omega), Bool.and_false]; rfl
   ·have e : fnFew m fs[i] = (!decide ((fs[i].f0.size : Int) > 100) && fs[i].f4.all argsFew) := by
     unfold fnFew
     rw [decide_eq_true (p := fs[i].f4.length ≤ m) (by omega), decide_eq_true (p := fs[i].f3.length ≤ 100) (by omega), Bool.true_and, Bool.true_and, ← decide_not]
     congr 1
     rw [decide_eq_decide]
     omega
    refine Ev.step (fun n => ?_) (j (decide ((fs[i].f0.size : Int) > 100)) (fun h => good (e.trans h)) (fun h => bad (e.trans h)))
    rw [balustraderef16_Few.l0, if_pos (by omega), if_pos (by omega), rdF fs i hlt, if_neg c1, if_neg c2]
theorem few_ev (m : Nat) (hm : m ≤ 1000) (fs : List S39) (mn : Int) (ss : List S48) (hs : Sized fs) : Ev (fun k => balustraderef16_Few.f k fs mn ss (m : Int)) (fewV m fs ss) := few_l0 m hm fs mn ss hs fs.length 0 (by omega) (by omega) (fun j hj h => absurd h (Nat.not_lt_zero _))
end Go.Proofs.Ytgbpkbfghonllaa.P
namespace Go.Proofs.Ytgbpkbfghonllaa.P
open Go.RowKit Go.Proofs.YtgbpkbfghonllaaW.PrintWords Go.Proofs.YtgbpkbfghonllaaW.PrintLast Go.Proofs.YtgbpkbfghonllaaW.PrintMore
attribute [local go_sem] max2_int min2_int max_two min_two max_three min_three max_four min_four   
set_option linter.unusedVariables false
set_option linter.unusedSimpArgs false
def rnOk (l4 : List (List S42)) (b : List S42) : Bool := decide (l4.length < 100000) && decide (b.length < 100000) && b.all (fun i => decide (i.f8.length < 100000))
def balustraderef16_one.f (k : Nat) (l0_0 : List S39) (a0_1 : Int) (l0_2 : List S48) (a1_0 : ByteArray) (a1_1 : Int) (a1_2 : Int) (l1_3 : List Int) (l1_4 : List (List S42)) (a2 : Int) (a3 : Int) : Option Int :=
 if 0 ≤ a2 ∧ a2 < (l1_4.length : Int) ∧ 0 ≤ a3 ∧ a3 < ((l1_4.getD a2.toNat []).length : Int) then (if rnOk l1_4 (l1_4.getD a2.toNat []) = true then (balustraderef16_Preds.f k a1_0 a1_1 a1_2 l1_3 l1_4 a2).bind fun pv => some (oneV ⟨none, 0, l0_0, a0_1, none, 0, l0_2, a1_0, a1_1, a1_2, none, 0, l1_3, none, 0, l1_4, none, 0, []⟩ pv (l1_4.getD a2.toNat []) a3.toNat) else none) else none
theorem balustraderef16_one.calls (k : Nat) (A0_0 : Option Addr) (c0_0 : Nat) (l0_0 : List S39) (a0_1 : Int) (A0_2 : Option Addr) (c0_2 : Nat) (l0_2 : List S48) (a1_0 : ByteArray) (a1_1 : Int) (a1_2 : Int) (A1_3 : Option Addr) (c1_3 : Nat) (l1_3 : List Int) (A1_4 : Option Addr) (c1_4 : Nat) (l1_4 : List (List S42)) (a2 : Int) (a3 : Int) (r : Int) (w : World) (hr0_0 : Kd.C k39 w A0_0 l0_0.length l0_0) (hc0_0 : l0_0.length ≤ c0_0) (hr0_2 : Kd.C k48 w A0_2 l0_2.length l0_2) (hc0_2 : l0_2.length ≤ c0_2) (hr1_3 : Kd.C (Kd.int .i64) w A1_3 l1_3.length l1_3) (hc1_3 : l1_3.length ≤ c1_3) (hr1_4 : Kd.C (Kd.slice 42 k42) w A1_4 l1_4.length l1_4) (hc1_4 : l1_4.length ≤ c1_4) (h : balustraderef16_one.f k l0_0 a0_1 l0_2 a1_0 a1_1 a1_2 l1_3 l1_4 a2 a3 = some r) :
  Calls Try.prog 27 #[.agg #[.slice A0_0 l0_0.length c0_0, .int .i64 a0_1, .slice A0_2 l0_2.length c0_2], .agg #[.string a1_0, .int .i64 a1_1, .int .i64 a1_2, .slice A1_3 l1_3.length c1_3, .slice A1_4 l1_4.length c1_4], .int .i64 a2, .int .i64 a3] w fun e w' => e = .returned (.int .i64 r) ∧ Below w.heap.size w w' := by
 unfold balustraderef16_one.f at h
 by_cases h0 : 0 ≤ a2 ∧ a2 < (l1_4.length : Int) ∧ 0 ≤ a3 ∧ a3 < ((l1_4.getD a2.toNat []).length : Int)
 rotate_left
 ·rw [if_neg h0] at h; cases h
 by_cases h2 : rnOk l1_4 (l1_4.getD a2.toNat []) = true
 rotate_left
 ·rw [if_pos h0, if_neg h2] at h; cases h
 rw [if_pos h0, if_pos h2] at h
 obtain ⟨pv, hp, hq⟩ := Option.bind_eq_some_iff.mp h
 clear h
 obtain ⟨g0, g1, g2, g3⟩ := h0
 obtain ⟨n, rfl⟩ := Int.eq_ofNat_of_zero_le g0
 obtain ⟨m, rfl⟩ := Int.eq_ofNat_of_zero_le g2
 have hq' := Option.some.inj hq
 unfold rnOk at h2
 simp only [Bool.and_eq_true, decide_eq_true_eq, List.all_eq_true, Int.toNat_natCast] at h2 hq' g3
 refine rone_at ⟨A0_0, c0_0, l0_0, a0_1, A0_2, c0_2, l0_2, a1_0, a1_1, a1_2, A1_3, c1_3, l1_3, A1_4, c1_4, l1_4, none, 0, []⟩ n m w ⟨hr0_0, hc0_0, hr0_2, hc0_2, hr1_3, hc1_3, hr1_4, hc1_4, Kd.C_nil _ _, Nat.zero_le _⟩ (show n < l1_4.length by omega) (show l1_4.length < 1000000 by omega) (l1_4.getD n []) rfl (by omega) h2.1.2 (fun i hi => h2.2 _ ?_) k pv hp r ?_
 ·rw [List.getD_eq_getElem?_getD (l := l1_4.getD n []), List.getElem?_eq_getElem hi]; exact List.getElem_mem hi
 ·rw [← hq']; rfl
end Go.Proofs.Ytgbpkbfghonllaa.P

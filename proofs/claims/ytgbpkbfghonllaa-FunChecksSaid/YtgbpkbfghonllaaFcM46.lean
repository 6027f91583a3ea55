/- A part of it. -/
import Derived.Test.YtgbpkbfghonllaaFcM42
import Derived.Test.YtgbpkbfghonllaaFcRefFE
import Derived.Test.YtgbpkbfghonllaaFcP4
import Derived.Test.YtgbpkbfghonllaaFcP13
import Derived.Outline
import Derived.Test.YtgbpkbfghonllaaFcP10
set_option linter.unusedVariables false
set_option linter.unusedSimpArgs false
namespace Go.Proofs.Ytgbpkbfghonllaa.P
open Go Go.RowKit Go.Proofs.YtgbpkbfghonllaaW.PrintWords Go.Proofs.YtgbpkbfghonllaaW.PrintLast Go.Proofs.YtgbpkbfghonllaaW.PrintMore Go.Proofs.Ytgbpkbfghonllaa.Pure
theorem targets_nodup (x : S42) : (targetsI x).Nodup := by
 unfold targetsI targetsV
 split
 ·rename_i h
  unfold rr_rightV rr_tailV at h
  simp only [Bool.and_eq_true] at h
  have h2 := h.2
  split
  ·simp
  ·split
   ·rename_i h41 h42
    rw [if_neg (by omega), if_neg (by omega), if_neg (by omega)] at h2
    split at h2
    ·cases h2
    ·(repeat (first | rw [if_neg (by omega)] at h2 | rw [if_pos (by omega)] at h2))
     have := of_decide_eq_true h2
     have h3 : x.f5 ≠ x.f6 := by omega
     simp [h3]
   ·simp
 ·simp
def goesB (k : Int) (b : List S42) : Bool := decide (0 < b.length) && decide (k ∈ targetsI (b.getD (b.length - 1) z42))
def predCount (k : Int) (bl : List (List S42)) : Nat := (bl.map (fun b => if goesB k b then 1 else 0)).sum
theorem predCount_cons (k : Int) (b : List S42) (bl : List (List S42)) : predCount k (b :: bl) = (if goesB k b then 1 else 0) + predCount k bl := by
 simp only [predCount, List.map_cons, List.sum_cons]
theorem predStep_get (pr : List Int) (t : Int) (k c : Nat) (hk : k < pr.length) (ht : 0 ≤ t) (hc : pr.getD k 0 = (c : Int)) (hb : c < 4611686018427387904) : (predStep pr t).getD k 0 = ((c + (if t = (k : Int) then 1 else 0) : Nat) : Int) := by
 unfold predStep
 by_cases hlt : t < (pr.length : Int)
 ·rw [if_pos hlt]
  obtain ⟨n, rfl⟩ := Int.eq_ofNat_of_zero_le ht
  have hr : rd pr (n : Int) = pr.getD n 0 := rfl
  rw [hr]
  simp only [Int.toNat_natCast]
  by_cases he : n = k
  ·subst he
   rw [hc, wrap_succ c hb]
   simp [List.getD_eq_getElem?_getD, hk]
  ·have he' : ¬ ((n : Int) = (k : Int)) := by omega
   rw [if_neg he', Nat.add_zero, ← hc]
   simp [List.getD_eq_getElem?_getD, List.getElem?_set_ne he]
 ·rw [if_neg hlt, if_neg (show ¬ t = (k : Int) by omega), Nat.add_zero, hc]
theorem predFold_get (k : Nat) : ∀ (l : List Int) (pr : List Int) (c : Nat), l.Nodup → (∀ t ∈ l, 0 ≤ t) → k < pr.length → pr.getD k 0 = (c : Int) → c + l.length < 4000000000000000000 → (l.foldl predStep pr).getD k 0 = ((c + (if (k : Int) ∈ l then 1 else 0) : Nat) : Int) := by
 intro l
 induction l with
 | nil => intro pr c _ _ _ hc _; simpa using hc
 | cons t l ih =>
  intro pr c hn hp hk hc hb
  rw [List.nodup_cons] at hn
  rw [List.foldl_cons]
  have h1 := predStep_get pr t k c hk (hp t List.mem_cons_self) hc (by omega)
  by_cases he : t = (k : Int)
  ·subst he
   rw [if_pos rfl] at h1
   rw [List.length_cons] at hb
   have h2 := ih (predStep pr (k : Int)) (c + 1) hn.2 (fun u hu => hp u (List.mem_cons_of_mem _ hu)) (by rw [predStep_len]; exact hk) h1 (by omega)
   rw [h2, if_neg hn.1, if_pos List.mem_cons_self]
  ·rw [if_neg he, Nat.add_zero] at h1
   have h2 := ih (predStep pr t) c hn.2 (fun u hu => hp u (List.mem_cons_of_mem _ hu)) (by rw [predStep_len]; exact hk) h1 (by rw [List.length_cons] at hb; omega)
   rw [h2]
   by_cases hm : (k : Int) ∈ l
   ·rw [if_pos hm, if_pos (List.mem_cons_of_mem _ hm)]
   ·rw [if_neg hm, if_neg (fun h => (List.mem_cons.1 h).elim (fun h => he h.symm) hm)]
theorem predB_get (k : Nat) (b : List S42) (pr : List Int) (c : Nat) (hk : k < pr.length) (hc : pr.getD k 0 = (c : Int)) (hb : c < 3900000000000000000) : (predB pr b).getD k 0 = ((c + (if goesB (k : Int) b then 1 else 0) : Nat) : Int) := by
 unfold predB goesB
 by_cases h : b.length = 0
 ·rw [if_pos h, decide_eq_false (by omega), Bool.false_and, if_neg (by simp), Nat.add_zero, hc]
 ·rw [if_neg h, decide_eq_true (by omega), Bool.true_and, predFold_get k _ pr c (targets_nodup _) (targets_pos _) hk hc (by have : (targetsI (b.getD (b.length - 1) z42)).length < 1000 := targetsV_len _ _ _ _ _ _ _ _ _; omega)]
  by_cases hm : (k : Int) ∈ targetsI (b.getD (b.length - 1) z42)
  ·rw [if_pos hm, decide_eq_true hm, if_pos rfl]
  ·rw [if_neg hm, decide_eq_false hm, if_neg (by simp)]
theorem predsFold_get (k : Nat) : ∀ (bl : List (List S42)) (pr : List Int) (c : Nat), k < pr.length → pr.getD k 0 = (c : Int) → c + bl.length < 3900000000000000000 → (bl.foldl predB pr).getD k 0 = ((c + predCount (k : Int) bl : Nat) : Int) := by
 intro bl
 induction bl with
 | nil => intro pr c _ hc _; simpa [predCount] using hc
 | cons b bl ih =>
  intro pr c hk hc hb
  rw [List.length_cons] at hb
  rw [List.foldl_cons, predCount_cons, ← Nat.add_assoc]
  exact ih (predB pr b) _ (by rw [predB_len]; exact hk) (predB_get k b pr c hk hc (by omega)) (by split <;> omega)
theorem predsV_get (k : Nat) (bl : List (List S42)) (hk : k < bl.length) (hb : bl.length < 3900000000000000000) : (predsV bl).getD k 0 = (predCount (k : Int) bl : Int) := by
 unfold predsV
 have h := predsFold_get k bl (List.replicate bl.length 0) 0 (by simpa using hk) (by simp [List.getD_eq_getElem?_getD, hk]) (by omega)
 simpa using h
theorem preds_from (nm : ByteArray) (ps rt : Int) (rg : List Int) (bl : List (List S42)) (k : Int) (hl : bl.length < 4000000000000000000) (hb : ∀ b ∈ bl, b.length < 4611686018427387904 ∧ ∀ x ∈ b, x.f8.length < 4611686018427387904) : ∀ d i (acc : Nat), bl.length - i = d → i ≤ bl.length → acc ≤ i → Ev (fun n => balustraderef16_Preds.l0 n k (acc : Int) (i : Int) nm ps rt rg bl) ((acc + predCount k (bl.drop i) : Nat) : Int) := by
 intro d
 induction d with
 | zero =>
  intro i acc hd hi ha
  obtain rfl : i = bl.length := by omega
  apply Ev.step
  ·intro n
   rw [balustraderef16_Preds.l0, if_neg (by omega)]
  ·simp [predCount]
   exact Ev.now _
 | succ d ih =>
  intro i acc hd hi ha
  have hlt : i < bl.length := by omega
  rw [List.drop_eq_getElem_cons hlt, predCount_cons]
  have hr : rd_L5 bl (i : Int) = bl[i] := by simp [rd_L5, List.getD_eq_getElem?_getD, hlt]
  obtain ⟨b, eb⟩ : ∃ b, bl[i] = b := ⟨_, rfl⟩
  rw [eb] at hr ⊢
  obtain ⟨hb1, hb2⟩ := hb b (by rw [← eb]; exact List.getElem_mem hlt)
  by_cases h0 : b.length = 0
  ·have hg : goesB k b = false := by unfold goesB; rw [decide_eq_false (by omega), Bool.false_and]
   rw [hg, if_neg (by simp), Nat.zero_add]
   apply Ev.step
   ·intro n
    rw [balustraderef16_Preds.l0, if_pos (by omega), if_pos (by omega), hr, if_neg (by omega), wrap_succ i (by omega)]
   ·exact ih (i + 1) acc (by omega) (by omega) (by omega)
  ·have hw : wrap64 ((b.length : Int) - 1) = ((b.length - 1 : Nat) : Int) := by rw [wrap_id] <;> omega
   have hx : rd_T42 b ((b.length - 1 : Nat) : Int) = b.getD (b.length - 1) z42 := rfl
   obtain ⟨x, ex⟩ : ∃ x, b.getD (b.length - 1) z42 = x := ⟨_, rfl⟩
   rw [ex] at hx
   have hxm : x ∈ b := by
    rw [← ex, List.getD_eq_getElem?_getD, List.getElem?_eq_getElem (show b.length - 1 < b.length by omega)]
    exact List.getElem_mem _
   have hg : goesB k b = decide (k ∈ targetsI x) := by unfold goesB; rw [decide_eq_true (by omega), Bool.true_and, ex]
   rw [hg]
   apply Ev.step
   ·intro n
    rw [balustraderef16_Preds.l0, if_pos (by omega), if_pos (by omega), hr, if_pos (by omega), hw, if_pos (by omega), if_pos (by omega), hx, wrap_succ i (by omega)]
   ·refine Ev.bind (refTargets_ev x.f0 x.f1 x.f2 x.f3 x.f4 x.f5 x.f6 x.f7 x.f8 (hb2 x hxm)) ?_
    refine Ev.bind (hasInt_ev _ k ?_) ?_
    ·have := targetsV_len x.f0 x.f1 x.f2 x.f3 x.f4 x.f5 x.f6 x.f7 x.f8; omega
    ·by_cases hm : k ∈ targetsI x
     ·rw [decide_eq_true hm]
      refine Ev.congr (fun n => by rw [if_pos (decide_eq_true (show k ∈ targetsV x.f0 x.f1 x.f2 x.f3 x.f4 x.f5 x.f6 x.f7 x.f8 from hm)), wrap_succ acc (by omega)]) ?_
      rw [if_pos rfl, ← Nat.add_assoc]
      exact ih (i + 1) (acc + 1) (by omega) (by omega) (by omega)
     ·rw [decide_eq_false hm]
      refine Ev.congr (fun n => by rw [if_neg (by simpa using (show ¬ k ∈ targetsV x.f0 x.f1 x.f2 x.f3 x.f4 x.f5 x.f6 x.f7 x.f8 from hm))]) ?_
      rw [if_neg (by simp), Nat.zero_add]
      exact ih (i + 1) acc (by omega) (by omega) (by omega)
theorem preds_ev (nm : ByteArray) (ps rt : Int) (rg : List Int) (bl : List (List S42)) (k : Nat) (hk : k < bl.length) (hl : bl.length < 3900000000000000000) (hb : ∀ b ∈ bl, b.length < 4611686018427387904 ∧ ∀ x ∈ b, x.f8.length < 4611686018427387904) : Ev (fun n => balustraderef16_Preds.f n nm ps rt rg bl (k : Int)) ((predsV bl).getD k 0) := by
 have h := preds_from nm ps rt rg bl (k : Int) (by omega) hb bl.length 0 0 (by omega) (by omega) (by omega)
 rw [predsV_get k bl hk hl]
 simpa [balustraderef16_Preds.f] using h
end Go.Proofs.Ytgbpkbfghonllaa.P
set_option linter.unusedVariables false
set_option linter.unusedSimpArgs false
namespace Go.Proofs.Ytgbpkbfghonllaa.P
open Go Go.RowKit Go.Proofs.YtgbpkbfghonllaaW.PrintWords Go.Proofs.YtgbpkbfghonllaaW.PrintLast Go.Proofs.YtgbpkbfghonllaaW.PrintMore Go.Proofs.Ytgbpkbfghonllaa.Pure
theorem uses_eq (x : S42) (hR : rightI x = true) : usesI x = (if (rr_twoV x.f0 || (rr_oneV x.f0 || (decide (x.f0 = 30) || decide (x.f0 = 45)))) = true then [x.f2] else []) ++ (if (rr_twoV x.f0 || (decide (x.f0 = 30) || (decide (x.f0 = 45) && x.f6 != 21))) = true then [x.f3] else []) ++ (if decide (x.f0 = 30) = true then [x.f4] else []) ++ x.f8 := by
  have hr := right_range _ _ _ _ _ _ _ _ _ hR
  obtain ⟨_, e2, e3, e4⟩ := has_words x.f0 x.f6 hr
  unfold usesI usesV
  rw [if_pos (show rr_rightV _ _ _ _ _ _ _ _ _ = true from hR)]
  unfold usV
  rw [e2, e3, e4]
theorem args_nil (x : S42) (hR : rightI x = true) (h39 : x.f0 ≠ 39) (h44 : x.f0 ≠ 44) : x.f8 = [] := by
  have ht := (right_parts x hR).2.2.2.2.2.2.2
  unfold rr_tailV at ht
  rw [if_neg h39, if_neg h44] at ht
  cases hl : x.f8 with
  | nil => rfl
  | cons a l =>
    rw [hl, List.length_cons] at ht
    split at ht
    · exact absurd (of_decide_eq_true ht).2.2 (by omega)
    · rw [if_pos (by omega)] at ht
      cases ht
theorem def_eq (x : S42) (hR : rightI x = true) : defI x = if rr_wrV x.f0 = true then x.f1 else -1 := by
  unfold defI defV
  rw [show rr_rightV _ _ _ _ _ _ _ _ _ = true from hR, Bool.true_and]
theorem kinds_same (L : LA) (x : S42) (hR : rightI x = true) (hne : x.f0 ≠ 23) : (kindsV L x).2 = readsR L x ∧ (rr_wrV x.f0 = true → (kindsV L x).1 = writesR L x) := by
  have hu := uses_eq x hR
  have hn := args_nil x hR
  have hr := right_range _ _ _ _ _ _ _ _ _ hR
  clear hR
  unfold kindsV readsR writesR
  rw [hu]
  clear hu
  obtain ⟨op, dst, a, b, c, n, m, site, l⟩ := x
  simp only at *
  have ho : op = 3 ∨ op = 4 ∨ op = 5 ∨ op = 6 ∨ op = 7 ∨ op = 8 ∨ op = 9 ∨ op = 10 ∨ op = 11 ∨ op = 12 ∨ op = 13 ∨ op = 14 ∨ op = 15 ∨ op = 16 ∨ op = 20 ∨ op = 21 ∨ op = 22 ∨ op = 24 ∨ op = 25 ∨ op = 26 ∨ op = 27 ∨ op = 28 ∨ op = 29 ∨ op = 30 ∨ op = 31 ∨ op = 32 ∨ op = 33 ∨ op = 34 ∨ op = 35 ∨ op = 36 ∨ op = 37 ∨ op = 38 ∨ op = 39 ∨ op = 40 ∨ op = 41 ∨ op = 42 ∨ op = 43 ∨ op = 44 ∨ op = 45 := by omega
  rcases ho with rfl | rfl | rfl | rfl | rfl | rfl | rfl | rfl | rfl | rfl | rfl | rfl | rfl | rfl | rfl | rfl | rfl | rfl | rfl | rfl | rfl | rfl | rfl | rfl | rfl | rfl | rfl | rfl | rfl | rfl | rfl | rfl | rfl | rfl | rfl | rfl | rfl | rfl | rfl
  all_goals first
    | (simp [rr_twoV, rr_oneV, rr_wrV, List.replicate]; done)
    | (rw [hn (by omega) (by omega)]; simp [rr_twoV, rr_oneV, rr_wrV, List.replicate]; done)
    | (rw [hn (by omega) (by omega)]
       by_cases m1 : m = 21
       · simp [rr_twoV, rr_oneV, rr_wrV, m1, List.replicate]
       · by_cases m2 : m = 20
         · simp [rr_twoV, rr_oneV, rr_wrV, m1, m2, List.replicate]
         · simp [rr_twoV, rr_oneV, rr_wrV, m1, m2, List.replicate])
theorem fits_same (L : LA) (x : S42) (hR : rightI x = true) : fitsV L x = !(!allV L.rg (usesI x) (readsR L x) || (rr_wrV x.f0 && !decide (rd L.rg x.f1 = writesR L x))) := by
  have hd := def_eq x hR
  have h1 := (right_parts x hR).2.1
  by_cases h23 : x.f0 = 23
  · have hu : usesI x = [x.f2] := by
      rw [uses_eq x hR, args_nil x hR (by omega) (by omega), h23]
      simp [rr_twoV, rr_oneV]
    rw [show rr_wrV x.f0 = true by rw [h23]; decide, if_pos rfl] at hd
    unfold fitsV allV
    rw [hu, hd]
    have hk : kindsV L x = (rd L.rg x.f2, [rd L.rg x.f2]) := by unfold kindsV; simp [h23]
    have hq : readsR L x = [rd L.rg x.f1] := by unfold readsR; simp [h23]
    have hw : writesR L x = rd L.rg x.f1 := by unfold writesR; simp [h23]
    rw [hk, hq, hw, h23]
    rw [decide_eq_false (show ¬ x.f1 < 0 by omega)]
    simp [List.range_succ]
    exact eq_comm
  · obtain ⟨k1, k2⟩ := kinds_same L x hR h23
    unfold fitsV allV
    rw [k1, hd]
    cases hw : rr_wrV x.f0 with
    | false => simp [eq_comm]
    | true =>
      rw [k2 hw, if_pos rfl, decide_eq_false (show ¬ x.f1 < 0 by omega)]
      simp [eq_comm]
theorem there_same (L : LA) (k : Nat) (x : S42) : thereV L k x = thereP L (L.pr.getD k 0) x := rfl
theorem form_same (b : List S42) : ∀ j, (∀ i, i < j → formV b i = true) → formV b j = formR b j := by
  intro j
  induction j using Nat.strongRecOn with
  | _ j ih =>
    intro h
    unfold formV formR
    congr 1
    by_cases h44 : (b.getD j z42).f0 = 44
    · rw [decide_eq_true h44]
      by_cases h0 : 0 < j
      · rw [decide_eq_true h0, Bool.true_and, Bool.true_and, Bool.not_not, Bool.not_true, Bool.false_or]
        by_cases hp : (b.getD (j - 1) z42).f0 = 44
        · rw [decide_eq_true hp]
          have hf := ih (j - 1) (by omega) (fun i hi => h i (by omega))
          rw [h (j - 1) (by omega)] at hf
          symm
          rw [List.all_eq_true]
          intro i hi
          rw [List.mem_range] at hi
          by_cases he : i = j - 1
          · rw [he]; exact decide_eq_true hp
          · have hf' := hf.symm
            unfold formR at hf'
            simp only [Bool.and_eq_true] at hf'
            have := hf'.2
            rw [decide_eq_true hp, Bool.not_true, Bool.false_or, List.all_eq_true] at this
            exact this i (List.mem_range.2 (by omega))
        · rw [decide_eq_false hp]
          symm
          rw [List.all_eq_false]
          exact ⟨j - 1, List.mem_range.2 (by omega), by simpa using hp⟩
      · obtain rfl : j = 0 := by omega
        simp
    · rw [decide_eq_false h44]
      simp
theorem insV_form {L : LA} {k : Nat} {b : List S42} {j : Nat} (h : insV L k b j = 0) : formV b j = true := by
  unfold insV at h
  cases hf : formV b j with
  | true => rfl
  | false => rw [hf] at h; simp at h
theorem ins_same (L : LA) (k : Nat) (b : List S42) (j : Nat) (h : ∀ i, i < j → insV L k b i = 0) : insV L k b j = oneV L (L.pr.getD k 0) b j := by
  have hf := form_same b j (fun i hi => insV_form (h i hi))
  unfold insV oneV
  rw [← hf, ← there_same]
  cases hv : formV b j with
  | false => rfl
  | true =>
    rw [fits_same L _ (formV_right hv)]
    rw [Bool.not_not]
theorem allV_congr (L M : LA) (hr : L.rg = M.rg) (hf : L.fs = M.fs) (ht : L.rt = M.rt) (hb : L.bl = M.bl) (hs : L.ss = M.ss) (pv : Int) (b : List S42) (j : Nat) : oneV L pv b j = oneV M pv b j := by
  unfold oneV thereP readsR writesR
  rw [hr, hf, ht, hb, hs]
end Go.Proofs.Ytgbpkbfghonllaa.P

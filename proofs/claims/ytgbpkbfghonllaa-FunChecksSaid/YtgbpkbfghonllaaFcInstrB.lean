/- A part of it. -/
import Derived.Test.YtgbpkbfghonllaaFcM29
import Derived.Test.YtgbpkbfghonllaaFcM23
import Derived.Test.YtgbpkbfghonllaaFcP4
import Derived.Test.YtgbpkbfghonllaaFcP5
import Derived.Test.YtgbpkbfghonllaaFcP6
import Derived.Test.YtgbpkbfghonllaaFcP8
import Derived.Test.YtgbpkbfghonllaaFcP10
import Derived.Test.YtgbpkbfghonllaaFcP11
namespace Go.Proofs.Ytgbpkbfghonllaa.Pure
open Go.RowKit Go.Proofs.Ytgbpkbfghonllaa.P Go.Proofs.YtgbpkbfghonllaaW.PrintWords Go.Proofs.YtgbpkbfghonllaaW.PrintLast Go.Proofs.YtgbpkbfghonllaaW.PrintMore
theorem fit_eq (h bit x : Int) : fitV2 h ⟨bit, x⟩ = rr_fitsV (bt h bit) x := by
 unfold fitV2 rr_fitsV
 cases bt h bit <;> simp only [Bool.true_or, Bool.false_or, Bool.and_true, Bool.true_and, Bool.false_and, Bool.or_false] <;> rw [Bool.eq_iff_iff] <;> simp <;> omega
theorem nonneg_nil (l : List Int) (h : l.length = 0) : nonneg l = true := by
 have : l = [] := List.eq_nil_of_length_eq_zero h
 subst this; rfl
theorem right_same (op dst a b c n m site : Int) (l : List Int) : rightV2 op dst a b c n m site l = rr_rightV op dst a b c n m site l := by
 by_cases h0 : 3 ≤ op ∧ op ≤ 45 ∧ ¬ (16 < op ∧ op < 20)
 ·by_cases h1 : op ≤ 16
  ·have hv : hasV op = 7 := if_pos (by omega)
   have b1 : bt 7 1 = true := by decide
   have b2 : bt 7 2 = true := by decide
   have b4 : bt 7 4 = true := by decide
   have b8 : bt 7 8 = false := by decide
   have b16 : bt 7 16 = false := by decide
   have b32 : bt 7 32 = false := by decide
   have b64 : bt 7 64 = false := by decide
   have b128 : bt 7 128 = false := by decide
   have b256 : bt 7 256 = false := by decide
   have b512 : bt 7 512 = false := by decide
   have b1024 : bt 7 1024 = false := by decide
   have b2048 : bt 7 2048 = false := by decide
   have e1 : rr_wrV op = true := by unfold rr_wrV; simp; omega
   have e2 : rr_bV op = true := by unfold rr_bV rr_twoV; simp; omega
   have e3 : rr_oneV op = false := by unfold rr_oneV; simp; omega
   have e4 : rr_ckV op = false := by unfold rr_ckV; simp; omega
   have e5 : decide (3 ≤ op ∧ op ≤ 45 ∧ ¬ (16 < op ∧ op < 20)) = true := decide_eq_true (by omega)
   have e6 : rr_tailV op n m l.length = (if 0 < l.length then false else decide (n = 0 ∧ m = 0)) := by unfold rr_tailV; rw [if_neg (by omega), if_neg (by omega), if_neg (by omega)]; split; rfl; rw [if_neg (by omega), if_neg (by omega), if_neg (by omega), if_neg (by omega)]
   have q30 : decide (op = 30) = false := decide_eq_false (by omega)
   have q45 : decide (op = 45) = false := decide_eq_false (by omega)
   have q39 : decide (op = 39) = false := decide_eq_false (by omega)
   have q46 : decide (op ≠ 45) = true := decide_eq_true (by omega)
   unfold rightV2 rr_rightV fieldsV argsV
   rw [hv, e1, e2, e3, e4, e5, e6, q30, q46, q39]
   simp only [List.all_cons, List.all_nil, fit_eq, b1, b2, b4, b8, b16, b32, b64, b128, b256, b512, b1024, b2048]
   exact (by
  have hn := nonneg_nil l
  have hq : (l.all fun x => decide (0 ≤ x)) = nonneg l := rfl
  rw [hq]
  generalize nonneg l = nn at hn ⊢
  generalize l.length = len at hn ⊢
  clear hv b1 b2 b4 b8 b16 b32 b64 b128 b256 b512 b1024 b2048 e1 e2 e3 e4 e5 e6 q30 q45 q39 q46
  unfold rr_fitsV
  rw [Bool.eq_iff_iff]
  cases nn <;> simp at hn ⊢ <;> omega)
  ·have h2 : op = 20 ∨ op = 21 ∨ op = 22 ∨ op = 23 ∨ op = 24 ∨ op = 25 ∨ op = 26 ∨ op = 27 ∨ op = 28 ∨ op = 29 ∨ op = 30 ∨ op = 31 ∨ op = 32 ∨ op = 33 ∨ op = 34 ∨ op = 35 ∨ op = 36 ∨ op = 37 ∨ op = 38 ∨ op = 39 ∨ op = 40 ∨ op = 41 ∨ op = 42 ∨ op = 43 ∨ op = 44 ∨ op = 45 := by omega
   rcases h2 with rfl | rfl | rfl | rfl | rfl | rfl | rfl | rfl | rfl | rfl | rfl | rfl | rfl | rfl | rfl | rfl | rfl | rfl | rfl | rfl | rfl | rfl | rfl | rfl | rfl | rfl
   ·have hv : hasV (20 : Int) = 17 := by decide
    have b1 : bt 17 1 = true := by decide
    have b2 : bt 17 2 = false := by decide
    have b4 : bt 17 4 = false := by decide
    have b8 : bt 17 8 = false := by decide
    have b16 : bt 17 16 = true := by decide
    have b32 : bt 17 32 = false := by decide
    have b64 : bt 17 64 = false := by decide
    have b128 : bt 17 128 = false := by decide
    have b256 : bt 17 256 = false := by decide
    have b512 : bt 17 512 = false := by decide
    have b1024 : bt 17 1024 = false := by decide
    have b2048 : bt 17 2048 = false := by decide
    have e1 : rr_wrV (20 : Int) = true := by decide
    have e2 : rr_bV (20 : Int) = false := by decide
    have e3 : rr_oneV (20 : Int) = false := by decide
    have e4 : rr_ckV (20 : Int) = false := by decide
    have e5 : decide (3 ≤ (20 : Int) ∧ (20 : Int) ≤ 45 ∧ ¬ (16 < (20 : Int) ∧ (20 : Int) < 20)) = true := decide_eq_true (by omega)
    have e6 : rr_tailV 20 n m l.length = (if 0 < l.length then false else decide (m = 0)) := rfl
    have q30 : decide ((20 : Int) = 30) = false := decide_eq_false (by omega)
    have q45 : decide ((20 : Int) = 45) = false := decide_eq_false (by omega)
    have q39 : decide ((20 : Int) = 39) = false := decide_eq_false (by omega)
    have q46 : decide ((20 : Int) ≠ 45) = true := decide_eq_true (by omega)
    unfold rightV2 rr_rightV fieldsV argsV
    rw [hv, e1, e2, e3, e4, e5, e6, q30, q46, q39]
    simp only [List.all_cons, List.all_nil, fit_eq, b1, b2, b4, b8, b16, b32, b64, b128, b256, b512, b1024, b2048]
    exact (by
  have hn := nonneg_nil l
  have hq : (l.all fun x => decide (0 ≤ x)) = nonneg l := rfl
  rw [hq]
  generalize nonneg l = nn at hn ⊢
  generalize l.length = len at hn ⊢
  clear hv b1 b2 b4 b8 b16 b32 b64 b128 b256 b512 b1024 b2048 e1 e2 e3 e4 e5 e6 q30 q45 q39 q46
  unfold rr_fitsV
  rw [Bool.eq_iff_iff]
  cases nn <;> simp at hn ⊢ <;> omega)
   ·have hv : hasV (21 : Int) = 33 := by decide
    have b1 : bt 33 1 = true := by decide
    have b2 : bt 33 2 = false := by decide
    have b4 : bt 33 4 = false := by decide
    have b8 : bt 33 8 = false := by decide
    have b16 : bt 33 16 = false := by decide
    have b32 : bt 33 32 = true := by decide
    have b64 : bt 33 64 = false := by decide
    have b128 : bt 33 128 = false := by decide
    have b256 : bt 33 256 = false := by decide
    have b512 : bt 33 512 = false := by decide
    have b1024 : bt 33 1024 = false := by decide
    have b2048 : bt 33 2048 = false := by decide
    have e1 : rr_wrV (21 : Int) = true := by decide
    have e2 : rr_bV (21 : Int) = false := by decide
    have e3 : rr_oneV (21 : Int) = false := by decide
    have e4 : rr_ckV (21 : Int) = false := by decide
    have e5 : decide (3 ≤ (21 : Int) ∧ (21 : Int) ≤ 45 ∧ ¬ (16 < (21 : Int) ∧ (21 : Int) < 20)) = true := decide_eq_true (by omega)
    have e6 : rr_tailV 21 n m l.length = (if 0 < l.length then false else decide (m = 0 ∧ (n = 0 ∨ n = 1))) := rfl
    have q30 : decide ((21 : Int) = 30) = false := decide_eq_false (by omega)
    have q45 : decide ((21 : Int) = 45) = false := decide_eq_false (by omega)
    have q39 : decide ((21 : Int) = 39) = false := decide_eq_false (by omega)
    have q46 : decide ((21 : Int) ≠ 45) = true := decide_eq_true (by omega)
    unfold rightV2 rr_rightV fieldsV argsV
    rw [hv, e1, e2, e3, e4, e5, e6, q30, q46, q39]
    simp only [List.all_cons, List.all_nil, fit_eq, b1, b2, b4, b8, b16, b32, b64, b128, b256, b512, b1024, b2048]
    exact (by
  have hn := nonneg_nil l
  have hq : (l.all fun x => decide (0 ≤ x)) = nonneg l := rfl
  rw [hq]
  generalize nonneg l = nn at hn ⊢
  generalize l.length = len at hn ⊢
  clear hv b1 b2 b4 b8 b16 b32 b64 b128 b256 b512 b1024 b2048 e1 e2 e3 e4 e5 e6 q30 q45 q39 q46
  unfold rr_fitsV
  rw [Bool.eq_iff_iff]
  cases nn <;> simp at hn ⊢ <;> omega)
   ·have hv : hasV (22 : Int) = 1 := by decide
    have b1 : bt 1 1 = true := by decide
    have b2 : bt 1 2 = false := by decide
    have b4 : bt 1 4 = false := by decide
    have b8 : bt 1 8 = false := by decide
    have b16 : bt 1 16 = false := by decide
    have b32 : bt 1 32 = false := by decide
    have b64 : bt 1 64 = false := by decide
    have b128 : bt 1 128 = false := by decide
    have b256 : bt 1 256 = false := by decide
    have b512 : bt 1 512 = false := by decide
    have b1024 : bt 1 1024 = false := by decide
    have b2048 : bt 1 2048 = false := by decide
    have e1 : rr_wrV (22 : Int) = true := by decide
    have e2 : rr_bV (22 : Int) = false := by decide
    have e3 : rr_oneV (22 : Int) = false := by decide
    have e4 : rr_ckV (22 : Int) = false := by decide
    have e5 : decide (3 ≤ (22 : Int) ∧ (22 : Int) ≤ 45 ∧ ¬ (16 < (22 : Int) ∧ (22 : Int) < 20)) = true := decide_eq_true (by omega)
    have e6 : rr_tailV 22 n m l.length = (if 0 < l.length then false else decide (n = 0 ∧ m = 0)) := rfl
    have q30 : decide ((22 : Int) = 30) = false := decide_eq_false (by omega)
    have q45 : decide ((22 : Int) = 45) = false := decide_eq_false (by omega)
    have q39 : decide ((22 : Int) = 39) = false := decide_eq_false (by omega)
    have q46 : decide ((22 : Int) ≠ 45) = true := decide_eq_true (by omega)
    unfold rightV2 rr_rightV fieldsV argsV
    rw [hv, e1, e2, e3, e4, e5, e6, q30, q46, q39]
    simp only [List.all_cons, List.all_nil, fit_eq, b1, b2, b4, b8, b16, b32, b64, b128, b256, b512, b1024, b2048]
    exact (by
  have hn := nonneg_nil l
  have hq : (l.all fun x => decide (0 ≤ x)) = nonneg l := rfl
  rw [hq]
  generalize nonneg l = nn at hn ⊢
  generalize l.length = len at hn ⊢
  clear hv b1 b2 b4 b8 b16 b32 b64 b128 b256 b512 b1024 b2048 e1 e2 e3 e4 e5 e6 q30 q45 q39 q46
  unfold rr_fitsV
  rw [Bool.eq_iff_iff]
  cases nn <;> simp at hn ⊢ <;> omega)
   ·have hv : hasV (23 : Int) = 3 := by decide
    have b1 : bt 3 1 = true := by decide
    have b2 : bt 3 2 = true := by decide
    have b4 : bt 3 4 = false := by decide
    have b8 : bt 3 8 = false := by decide
    have b16 : bt 3 16 = false := by decide
    have b32 : bt 3 32 = false := by decide
    have b64 : bt 3 64 = false := by decide
    have b128 : bt 3 128 = false := by decide
    have b256 : bt 3 256 = false := by decide
    have b512 : bt 3 512 = false := by decide
    have b1024 : bt 3 1024 = false := by decide
    have b2048 : bt 3 2048 = false := by decide
    have e1 : rr_wrV (23 : Int) = true := by decide
    have e2 : rr_bV (23 : Int) = false := by decide
    have e3 : rr_oneV (23 : Int) = true := by decide
    have e4 : rr_ckV (23 : Int) = false := by decide
    have e5 : decide (3 ≤ (23 : Int) ∧ (23 : Int) ≤ 45 ∧ ¬ (16 < (23 : Int) ∧ (23 : Int) < 20)) = true := decide_eq_true (by omega)
    have e6 : rr_tailV 23 n m l.length = (if 0 < l.length then false else decide (n = 0 ∧ m = 0)) := rfl
    have q30 : decide ((23 : Int) = 30) = false := decide_eq_false (by omega)
    have q45 : decide ((23 : Int) = 45) = false := decide_eq_false (by omega)
    have q39 : decide ((23 : Int) = 39) = false := decide_eq_false (by omega)
    have q46 : decide ((23 : Int) ≠ 45) = true := decide_eq_true (by omega)
    unfold rightV2 rr_rightV fieldsV argsV
    rw [hv, e1, e2, e3, e4, e5, e6, q30, q46, q39]
    simp only [List.all_cons, List.all_nil, fit_eq, b1, b2, b4, b8, b16, b32, b64, b128, b256, b512, b1024, b2048]
    exact (by
  have hn := nonneg_nil l
  have hq : (l.all fun x => decide (0 ≤ x)) = nonneg l := rfl
  rw [hq]
  generalize nonneg l = nn at hn ⊢
  generalize l.length = len at hn ⊢
  clear hv b1 b2 b4 b8 b16 b32 b64 b128 b256 b512 b1024 b2048 e1 e2 e3 e4 e5 e6 q30 q45 q39 q46
  unfold rr_fitsV
  rw [Bool.eq_iff_iff]
  cases nn <;> simp at hn ⊢ <;> omega)
   ·have hv : hasV (24 : Int) = 3 := by decide
    have b1 : bt 3 1 = true := by decide
    have b2 : bt 3 2 = true := by decide
    have b4 : bt 3 4 = false := by decide
    have b8 : bt 3 8 = false := by decide
    have b16 : bt 3 16 = false := by decide
    have b32 : bt 3 32 = false := by decide
    have b64 : bt 3 64 = false := by decide
    have b128 : bt 3 128 = false := by decide
    have b256 : bt 3 256 = false := by decide
    have b512 : bt 3 512 = false := by decide
    have b1024 : bt 3 1024 = false := by decide
    have b2048 : bt 3 2048 = false := by decide
    have e1 : rr_wrV (24 : Int) = true := by decide
    have e2 : rr_bV (24 : Int) = false := by decide
    have e3 : rr_oneV (24 : Int) = true := by decide
    have e4 : rr_ckV (24 : Int) = false := by decide
    have e5 : decide (3 ≤ (24 : Int) ∧ (24 : Int) ≤ 45 ∧ ¬ (16 < (24 : Int) ∧ (24 : Int) < 20)) = true := decide_eq_true (by omega)
    have e6 : rr_tailV 24 n m l.length = (if 0 < l.length then false else decide (n = 0 ∧ m = 0)) := rfl
    have q30 : decide ((24 : Int) = 30) = false := decide_eq_false (by omega)
    have q45 : decide ((24 : Int) = 45) = false := decide_eq_false (by omega)
    have q39 : decide ((24 : Int) = 39) = false := decide_eq_false (by omega)
    have q46 : decide ((24 : Int) ≠ 45) = true := decide_eq_true (by omega)
    unfold rightV2 rr_rightV fieldsV argsV
    rw [hv, e1, e2, e3, e4, e5, e6, q30, q46, q39]
    simp only [List.all_cons, List.all_nil, fit_eq, b1, b2, b4, b8, b16, b32, b64, b128, b256, b512, b1024, b2048]
    exact (by
  have hn := nonneg_nil l
  have hq : (l.all fun x => decide (0 ≤ x)) = nonneg l := rfl
  rw [hq]
  generalize nonneg l = nn at hn ⊢
  generalize l.length = len at hn ⊢
  clear hv b1 b2 b4 b8 b16 b32 b64 b128 b256 b512 b1024 b2048 e1 e2 e3 e4 e5 e6 q30 q45 q39 q46
  unfold rr_fitsV
  rw [Bool.eq_iff_iff]
  cases nn <;> simp at hn ⊢ <;> omega)
   ·have hv : hasV (25 : Int) = 3 := by decide
    have b1 : bt 3 1 = true := by decide
    have b2 : bt 3 2 = true := by decide
    have b4 : bt 3 4 = false := by decide
    have b8 : bt 3 8 = false := by decide
    have b16 : bt 3 16 = false := by decide
    have b32 : bt 3 32 = false := by decide
    have b64 : bt 3 64 = false := by decide
    have b128 : bt 3 128 = false := by decide
    have b256 : bt 3 256 = false := by decide
    have b512 : bt 3 512 = false := by decide
    have b1024 : bt 3 1024 = false := by decide
    have b2048 : bt 3 2048 = false := by decide
    have e1 : rr_wrV (25 : Int) = true := by decide
    have e2 : rr_bV (25 : Int) = false := by decide
    have e3 : rr_oneV (25 : Int) = true := by decide
    have e4 : rr_ckV (25 : Int) = false := by decide
    have e5 : decide (3 ≤ (25 : Int) ∧ (25 : Int) ≤ 45 ∧ ¬ (16 < (25 : Int) ∧ (25 : Int) < 20)) = true := decide_eq_true (by omega)
    have e6 : rr_tailV 25 n m l.length = (if 0 < l.length then false else decide (n = 0 ∧ m = 0)) := rfl
    have q30 : decide ((25 : Int) = 30) = false := decide_eq_false (by omega)
    have q45 : decide ((25 : Int) = 45) = false := decide_eq_false (by omega)
    have q39 : decide ((25 : Int) = 39) = false := decide_eq_false (by omega)
    have q46 : decide ((25 : Int) ≠ 45) = true := decide_eq_true (by omega)
    unfold rightV2 rr_rightV fieldsV argsV
    rw [hv, e1, e2, e3, e4, e5, e6, q30, q46, q39]
    simp only [List.all_cons, List.all_nil, fit_eq, b1, b2, b4, b8, b16, b32, b64, b128, b256, b512, b1024, b2048]
    exact (by
  have hn := nonneg_nil l
  have hq : (l.all fun x => decide (0 ≤ x)) = nonneg l := rfl
  rw [hq]
  generalize nonneg l = nn at hn ⊢
  generalize l.length = len at hn ⊢
  clear hv b1 b2 b4 b8 b16 b32 b64 b128 b256 b512 b1024 b2048 e1 e2 e3 e4 e5 e6 q30 q45 q39 q46
  unfold rr_fitsV
  rw [Bool.eq_iff_iff]
  cases nn <;> simp at hn ⊢ <;> omega)
   ·have hv : hasV (26 : Int) = 3 := by decide
    have b1 : bt 3 1 = true := by decide
    have b2 : bt 3 2 = true := by decide
    have b4 : bt 3 4 = false := by decide
    have b8 : bt 3 8 = false := by decide
    have b16 : bt 3 16 = false := by decide
    have b32 : bt 3 32 = false := by decide
    have b64 : bt 3 64 = false := by decide
    have b128 : bt 3 128 = false := by decide
    have b256 : bt 3 256 = false := by decide
    have b512 : bt 3 512 = false := by decide
    have b1024 : bt 3 1024 = false := by decide
    have b2048 : bt 3 2048 = false := by decide
    have e1 : rr_wrV (26 : Int) = true := by decide
    have e2 : rr_bV (26 : Int) = false := by decide
    have e3 : rr_oneV (26 : Int) = true := by decide
    have e4 : rr_ckV (26 : Int) = false := by decide
    have e5 : decide (3 ≤ (26 : Int) ∧ (26 : Int) ≤ 45 ∧ ¬ (16 < (26 : Int) ∧ (26 : Int) < 20)) = true := decide_eq_true (by omega)
    have e6 : rr_tailV 26 n m l.length = (if 0 < l.length then false else decide (n = 0 ∧ m = 0)) := rfl
    have q30 : decide ((26 : Int) = 30) = false := decide_eq_false (by omega)
    have q45 : decide ((26 : Int) = 45) = false := decide_eq_false (by omega)
    have q39 : decide ((26 : Int) = 39) = false := decide_eq_false (by omega)
    have q46 : decide ((26 : Int) ≠ 45) = true := decide_eq_true (by omega)
    unfold rightV2 rr_rightV fieldsV argsV
    rw [hv, e1, e2, e3, e4, e5, e6, q30, q46, q39]
    simp only [List.all_cons, List.all_nil, fit_eq, b1, b2, b4, b8, b16, b32, b64, b128, b256, b512, b1024, b2048]
    exact (by
  have hn := nonneg_nil l
  have hq : (l.all fun x => decide (0 ≤ x)) = nonneg l := rfl
  rw [hq]
  generalize nonneg l = nn at hn ⊢
  generalize l.length = len at hn ⊢
  clear hv b1 b2 b4 b8 b16 b32 b64 b128 b256 b512 b1024 b2048 e1 e2 e3 e4 e5 e6 q30 q45 q39 q46
  unfold rr_fitsV
  rw [Bool.eq_iff_iff]
  cases nn <;> simp at hn ⊢ <;> omega)
   ·have hv : hasV (27 : Int) = 3 := by decide
    have b1 : bt 3 1 = true := by decide
    have b2 : bt 3 2 = true := by decide
    have b4 : bt 3 4 = false := by decide
    have b8 : bt 3 8 = false := by decide
    have b16 : bt 3 16 = false := by decide
    have b32 : bt 3 32 = false := by decide
    have b64 : bt 3 64 = false := by decide
    have b128 : bt 3 128 = false := by decide
    have b256 : bt 3 256 = false := by decide
    have b512 : bt 3 512 = false := by decide
    have b1024 : bt 3 1024 = false := by decide
    have b2048 : bt 3 2048 = false := by decide
    have e1 : rr_wrV (27 : Int) = true := by decide
    have e2 : rr_bV (27 : Int) = false := by decide
    have e3 : rr_oneV (27 : Int) = true := by decide
    have e4 : rr_ckV (27 : Int) = false := by decide
    have e5 : decide (3 ≤ (27 : Int) ∧ (27 : Int) ≤ 45 ∧ ¬ (16 < (27 : Int) ∧ (27 : Int) < 20)) = true := decide_eq_true (by omega)
    have e6 : rr_tailV 27 n m l.length = (if 0 < l.length then false else decide (n = 0 ∧ m = 0)) := rfl
    have q30 : decide ((27 : Int) = 30) = false := decide_eq_false (by omega)
    have q45 : decide ((27 : Int) = 45) = false := decide_eq_false (by omega)
    have q39 : decide ((27 : Int) = 39) = false := decide_eq_false (by omega)
    have q46 : decide ((27 : Int) ≠ 45) = true := decide_eq_true (by omega)
    unfold rightV2 rr_rightV fieldsV argsV
    rw [hv, e1, e2, e3, e4, e5, e6, q30, q46, q39]
    simp only [List.all_cons, List.all_nil, fit_eq, b1, b2, b4, b8, b16, b32, b64, b128, b256, b512, b1024, b2048]
    exact (by
  have hn := nonneg_nil l
  have hq : (l.all fun x => decide (0 ≤ x)) = nonneg l := rfl
  rw [hq]
  generalize nonneg l = nn at hn ⊢
  generalize l.length = len at hn ⊢
  clear hv b1 b2 b4 b8 b16 b32 b64 b128 b256 b512 b1024 b2048 e1 e2 e3 e4 e5 e6 q30 q45 q39 q46
  unfold rr_fitsV
  rw [Bool.eq_iff_iff]
  cases nn <;> simp at hn ⊢ <;> omega)
   ·have hv : hasV (28 : Int) = 3 := by decide
    have b1 : bt 3 1 = true := by decide
    have b2 : bt 3 2 = true := by decide
    have b4 : bt 3 4 = false := by decide
    have b8 : bt 3 8 = false := by decide
    have b16 : bt 3 16 = false := by decide
    have b32 : bt 3 32 = false := by decide
    have b64 : bt 3 64 = false := by decide
    have b128 : bt 3 128 = false := by decide
    have b256 : bt 3 256 = false := by decide
    have b512 : bt 3 512 = false := by decide
    have b1024 : bt 3 1024 = false := by decide
    have b2048 : bt 3 2048 = false := by decide
    have e1 : rr_wrV (28 : Int) = true := by decide
    have e2 : rr_bV (28 : Int) = false := by decide
    have e3 : rr_oneV (28 : Int) = true := by decide
    have e4 : rr_ckV (28 : Int) = false := by decide
    have e5 : decide (3 ≤ (28 : Int) ∧ (28 : Int) ≤ 45 ∧ ¬ (16 < (28 : Int) ∧ (28 : Int) < 20)) = true := decide_eq_true (by omega)
    have e6 : rr_tailV 28 n m l.length = (if 0 < l.length then false else decide (n = 0 ∧ m = 0)) := rfl
    have q30 : decide ((28 : Int) = 30) = false := decide_eq_false (by omega)
    have q45 : decide ((28 : Int) = 45) = false := decide_eq_false (by omega)
    have q39 : decide ((28 : Int) = 39) = false := decide_eq_false (by omega)
    have q46 : decide ((28 : Int) ≠ 45) = true := decide_eq_true (by omega)
    unfold rightV2 rr_rightV fieldsV argsV
    rw [hv, e1, e2, e3, e4, e5, e6, q30, q46, q39]
    simp only [List.all_cons, List.all_nil, fit_eq, b1, b2, b4, b8, b16, b32, b64, b128, b256, b512, b1024, b2048]
    exact (by
  have hn := nonneg_nil l
  have hq : (l.all fun x => decide (0 ≤ x)) = nonneg l := rfl
  rw [hq]
  generalize nonneg l = nn at hn ⊢
  generalize l.length = len at hn ⊢
  clear hv b1 b2 b4 b8 b16 b32 b64 b128 b256 b512 b1024 b2048 e1 e2 e3 e4 e5 e6 q30 q45 q39 q46
  unfold rr_fitsV
  rw [Bool.eq_iff_iff]
  cases nn <;> simp at hn ⊢ <;> omega)
   ·have hv : hasV (29 : Int) = 7 := by decide
    have b1 : bt 7 1 = true := by decide
    have b2 : bt 7 2 = true := by decide
    have b4 : bt 7 4 = true := by decide
    have b8 : bt 7 8 = false := by decide
    have b16 : bt 7 16 = false := by decide
    have b32 : bt 7 32 = false := by decide
    have b64 : bt 7 64 = false := by decide
    have b128 : bt 7 128 = false := by decide
    have b256 : bt 7 256 = false := by decide
    have b512 : bt 7 512 = false := by decide
    have b1024 : bt 7 1024 = false := by decide
    have b2048 : bt 7 2048 = false := by decide
    have e1 : rr_wrV (29 : Int) = true := by decide
    have e2 : rr_bV (29 : Int) = true := by decide
    have e3 : rr_oneV (29 : Int) = false := by decide
    have e4 : rr_ckV (29 : Int) = false := by decide
    have e5 : decide (3 ≤ (29 : Int) ∧ (29 : Int) ≤ 45 ∧ ¬ (16 < (29 : Int) ∧ (29 : Int) < 20)) = true := decide_eq_true (by omega)
    have e6 : rr_tailV 29 n m l.length = (if 0 < l.length then false else decide (n = 0 ∧ m = 0)) := rfl
    have q30 : decide ((29 : Int) = 30) = false := decide_eq_false (by omega)
    have q45 : decide ((29 : Int) = 45) = false := decide_eq_false (by omega)
    have q39 : decide ((29 : Int) = 39) = false := decide_eq_false (by omega)
    have q46 : decide ((29 : Int) ≠ 45) = true := decide_eq_true (by omega)
    unfold rightV2 rr_rightV fieldsV argsV
    rw [hv, e1, e2, e3, e4, e5, e6, q30, q46, q39]
    simp only [List.all_cons, List.all_nil, fit_eq, b1, b2, b4, b8, b16, b32, b64, b128, b256, b512, b1024, b2048]
    exact (by
  have hn := nonneg_nil l
  have hq : (l.all fun x => decide (0 ≤ x)) = nonneg l := rfl
  rw [hq]
  generalize nonneg l = nn at hn ⊢
  generalize l.length = len at hn ⊢
  clear hv b1 b2 b4 b8 b16 b32 b64 b128 b256 b512 b1024 b2048 e1 e2 e3 e4 e5 e6 q30 q45 q39 q46
  unfold rr_fitsV
  rw [Bool.eq_iff_iff]
  cases nn <;> simp at hn ⊢ <;> omega)
   ·have hv : hasV (30 : Int) = 14 := by decide
    have b1 : bt 14 1 = false := by decide
    have b2 : bt 14 2 = true := by decide
    have b4 : bt 14 4 = true := by decide
    have b8 : bt 14 8 = true := by decide
    have b16 : bt 14 16 = false := by decide
    have b32 : bt 14 32 = false := by decide
    have b64 : bt 14 64 = false := by decide
    have b128 : bt 14 128 = false := by decide
    have b256 : bt 14 256 = false := by decide
    have b512 : bt 14 512 = false := by decide
    have b1024 : bt 14 1024 = false := by decide
    have b2048 : bt 14 2048 = false := by decide
    have e1 : rr_wrV (30 : Int) = false := by decide
    have e2 : rr_bV (30 : Int) = true := by decide
    have e3 : rr_oneV (30 : Int) = false := by decide
    have e4 : rr_ckV (30 : Int) = false := by decide
    have e5 : decide (3 ≤ (30 : Int) ∧ (30 : Int) ≤ 45 ∧ ¬ (16 < (30 : Int) ∧ (30 : Int) < 20)) = true := decide_eq_true (by omega)
    have e6 : rr_tailV 30 n m l.length = (if 0 < l.length then false else decide (n = 0 ∧ m = 0)) := rfl
    have q30 : decide ((30 : Int) = 30) = true := decide_eq_true rfl
    have q45 : decide ((30 : Int) = 45) = false := decide_eq_false (by omega)
    have q39 : decide ((30 : Int) = 39) = false := decide_eq_false (by omega)
    have q46 : decide ((30 : Int) ≠ 45) = true := decide_eq_true (by omega)
    unfold rightV2 rr_rightV fieldsV argsV
    rw [hv, e1, e2, e3, e4, e5, e6, q30, q46, q39]
    simp only [List.all_cons, List.all_nil, fit_eq, b1, b2, b4, b8, b16, b32, b64, b128, b256, b512, b1024, b2048]
    exact (by
  have hn := nonneg_nil l
  have hq : (l.all fun x => decide (0 ≤ x)) = nonneg l := rfl
  rw [hq]
  generalize nonneg l = nn at hn ⊢
  generalize l.length = len at hn ⊢
  clear hv b1 b2 b4 b8 b16 b32 b64 b128 b256 b512 b1024 b2048 e1 e2 e3 e4 e5 e6 q30 q45 q39 q46
  unfold rr_fitsV
  rw [Bool.eq_iff_iff]
  cases nn <;> simp at hn ⊢ <;> omega)
   ·have hv : hasV (31 : Int) = 258 := by decide
    have b1 : bt 258 1 = false := by decide
    have b2 : bt 258 2 = true := by decide
    have b4 : bt 258 4 = false := by decide
    have b8 : bt 258 8 = false := by decide
    have b16 : bt 258 16 = false := by decide
    have b32 : bt 258 32 = false := by decide
    have b64 : bt 258 64 = false := by decide
    have b128 : bt 258 128 = false := by decide
    have b256 : bt 258 256 = true := by decide
    have b512 : bt 258 512 = false := by decide
    have b1024 : bt 258 1024 = false := by decide
    have b2048 : bt 258 2048 = false := by decide
    have e1 : rr_wrV (31 : Int) = false := by decide
    have e2 : rr_bV (31 : Int) = false := by decide
    have e3 : rr_oneV (31 : Int) = true := by decide
    have e4 : rr_ckV (31 : Int) = true := by decide
    have e5 : decide (3 ≤ (31 : Int) ∧ (31 : Int) ≤ 45 ∧ ¬ (16 < (31 : Int) ∧ (31 : Int) < 20)) = true := decide_eq_true (by omega)
    have e6 : rr_tailV 31 n m l.length = (if 0 < l.length then false else decide (n = 0 ∧ m = 0)) := rfl
    have q30 : decide ((31 : Int) = 30) = false := decide_eq_false (by omega)
    have q45 : decide ((31 : Int) = 45) = false := decide_eq_false (by omega)
    have q39 : decide ((31 : Int) = 39) = false := decide_eq_false (by omega)
    have q46 : decide ((31 : Int) ≠ 45) = true := decide_eq_true (by omega)
    unfold rightV2 rr_rightV fieldsV argsV
    rw [hv, e1, e2, e3, e4, e5, e6, q30, q46, q39]
    simp only [List.all_cons, List.all_nil, fit_eq, b1, b2, b4, b8, b16, b32, b64, b128, b256, b512, b1024, b2048]
    exact (by
  have hn := nonneg_nil l
  have hq : (l.all fun x => decide (0 ≤ x)) = nonneg l := rfl
  rw [hq]
  generalize nonneg l = nn at hn ⊢
  generalize l.length = len at hn ⊢
  clear hv b1 b2 b4 b8 b16 b32 b64 b128 b256 b512 b1024 b2048 e1 e2 e3 e4 e5 e6 q30 q45 q39 q46
  unfold rr_fitsV
  rw [Bool.eq_iff_iff]
  cases nn <;> simp at hn ⊢ <;> omega)
   ·have hv : hasV (32 : Int) = 262 := by decide
    have b1 : bt 262 1 = false := by decide
    have b2 : bt 262 2 = true := by decide
    have b4 : bt 262 4 = true := by decide
    have b8 : bt 262 8 = false := by decide
    have b16 : bt 262 16 = false := by decide
    have b32 : bt 262 32 = false := by decide
    have b64 : bt 262 64 = false := by decide
    have b128 : bt 262 128 = false := by decide
    have b256 : bt 262 256 = true := by decide
    have b512 : bt 262 512 = false := by decide
    have b1024 : bt 262 1024 = false := by decide
    have b2048 : bt 262 2048 = false := by decide
    have e1 : rr_wrV (32 : Int) = false := by decide
    have e2 : rr_bV (32 : Int) = true := by decide
    have e3 : rr_oneV (32 : Int) = false := by decide
    have e4 : rr_ckV (32 : Int) = true := by decide
    have e5 : decide (3 ≤ (32 : Int) ∧ (32 : Int) ≤ 45 ∧ ¬ (16 < (32 : Int) ∧ (32 : Int) < 20)) = true := decide_eq_true (by omega)
    have e6 : rr_tailV 32 n m l.length = (if 0 < l.length then false else decide (n = 0 ∧ m = 0)) := rfl
    have q30 : decide ((32 : Int) = 30) = false := decide_eq_false (by omega)
    have q45 : decide ((32 : Int) = 45) = false := decide_eq_false (by omega)
    have q39 : decide ((32 : Int) = 39) = false := decide_eq_false (by omega)
    have q46 : decide ((32 : Int) ≠ 45) = true := decide_eq_true (by omega)
    unfold rightV2 rr_rightV fieldsV argsV
    rw [hv, e1, e2, e3, e4, e5, e6, q30, q46, q39]
    simp only [List.all_cons, List.all_nil, fit_eq, b1, b2, b4, b8, b16, b32, b64, b128, b256, b512, b1024, b2048]
    exact (by
  have hn := nonneg_nil l
  have hq : (l.all fun x => decide (0 ≤ x)) = nonneg l := rfl
  rw [hq]
  generalize nonneg l = nn at hn ⊢
  generalize l.length = len at hn ⊢
  clear hv b1 b2 b4 b8 b16 b32 b64 b128 b256 b512 b1024 b2048 e1 e2 e3 e4 e5 e6 q30 q45 q39 q46
  unfold rr_fitsV
  rw [Bool.eq_iff_iff]
  cases nn <;> simp at hn ⊢ <;> omega)
   ·have hv : hasV (33 : Int) = 262 := by decide
    have b1 : bt 262 1 = false := by decide
    have b2 : bt 262 2 = true := by decide
    have b4 : bt 262 4 = true := by decide
    have b8 : bt 262 8 = false := by decide
    have b16 : bt 262 16 = false := by decide
    have b32 : bt 262 32 = false := by decide
    have b64 : bt 262 64 = false := by decide
    have b128 : bt 262 128 = false := by decide
    have b256 : bt 262 256 = true := by decide
    have b512 : bt 262 512 = false := by decide
    have b1024 : bt 262 1024 = false := by decide
    have b2048 : bt 262 2048 = false := by decide
    have e1 : rr_wrV (33 : Int) = false := by decide
    have e2 : rr_bV (33 : Int) = true := by decide
    have e3 : rr_oneV (33 : Int) = false := by decide
    have e4 : rr_ckV (33 : Int) = true := by decide
    have e5 : decide (3 ≤ (33 : Int) ∧ (33 : Int) ≤ 45 ∧ ¬ (16 < (33 : Int) ∧ (33 : Int) < 20)) = true := decide_eq_true (by omega)
    have e6 : rr_tailV 33 n m l.length = (if 0 < l.length then false else decide (n = 0 ∧ m = 0)) := rfl
    have q30 : decide ((33 : Int) = 30) = false := decide_eq_false (by omega)
    have q45 : decide ((33 : Int) = 45) = false := decide_eq_false (by omega)
    have q39 : decide ((33 : Int) = 39) = false := decide_eq_false (by omega)
    have q46 : decide ((33 : Int) ≠ 45) = true := decide_eq_true (by omega)
    unfold rightV2 rr_rightV fieldsV argsV
    rw [hv, e1, e2, e3, e4, e5, e6, q30, q46, q39]
    simp only [List.all_cons, List.all_nil, fit_eq, b1, b2, b4, b8, b16, b32, b64, b128, b256, b512, b1024, b2048]
    exact (by
  have hn := nonneg_nil l
  have hq : (l.all fun x => decide (0 ≤ x)) = nonneg l := rfl
  rw [hq]
  generalize nonneg l = nn at hn ⊢
  generalize l.length = len at hn ⊢
  clear hv b1 b2 b4 b8 b16 b32 b64 b128 b256 b512 b1024 b2048 e1 e2 e3 e4 e5 e6 q30 q45 q39 q46
  unfold rr_fitsV
  rw [Bool.eq_iff_iff]
  cases nn <;> simp at hn ⊢ <;> omega)
   ·have hv : hasV (34 : Int) = 262 := by decide
    have b1 : bt 262 1 = false := by decide
    have b2 : bt 262 2 = true := by decide
    have b4 : bt 262 4 = true := by decide
    have b8 : bt 262 8 = false := by decide
    have b16 : bt 262 16 = false := by decide
    have b32 : bt 262 32 = false := by decide
    have b64 : bt 262 64 = false := by decide
    have b128 : bt 262 128 = false := by decide
    have b256 : bt 262 256 = true := by decide
    have b512 : bt 262 512 = false := by decide
    have b1024 : bt 262 1024 = false := by decide
    have b2048 : bt 262 2048 = false := by decide
    have e1 : rr_wrV (34 : Int) = false := by decide
    have e2 : rr_bV (34 : Int) = true := by decide
    have e3 : rr_oneV (34 : Int) = false := by decide
    have e4 : rr_ckV (34 : Int) = true := by decide
    have e5 : decide (3 ≤ (34 : Int) ∧ (34 : Int) ≤ 45 ∧ ¬ (16 < (34 : Int) ∧ (34 : Int) < 20)) = true := decide_eq_true (by omega)
    have e6 : rr_tailV 34 n m l.length = (if 0 < l.length then false else decide (n = 0 ∧ m = 0)) := rfl
    have q30 : decide ((34 : Int) = 30) = false := decide_eq_false (by omega)
    have q45 : decide ((34 : Int) = 45) = false := decide_eq_false (by omega)
    have q39 : decide ((34 : Int) = 39) = false := decide_eq_false (by omega)
    have q46 : decide ((34 : Int) ≠ 45) = true := decide_eq_true (by omega)
    unfold rightV2 rr_rightV fieldsV argsV
    rw [hv, e1, e2, e3, e4, e5, e6, q30, q46, q39]
    simp only [List.all_cons, List.all_nil, fit_eq, b1, b2, b4, b8, b16, b32, b64, b128, b256, b512, b1024, b2048]
    exact (by
  have hn := nonneg_nil l
  have hq : (l.all fun x => decide (0 ≤ x)) = nonneg l := rfl
  rw [hq]
  generalize nonneg l = nn at hn ⊢
  generalize l.length = len at hn ⊢
  clear hv b1 b2 b4 b8 b16 b32 b64 b128 b256 b512 b1024 b2048 e1 e2 e3 e4 e5 e6 q30 q45 q39 q46
  unfold rr_fitsV
  rw [Bool.eq_iff_iff]
  cases nn <;> simp at hn ⊢ <;> omega)
   ·have hv : hasV (35 : Int) = 262 := by decide
    have b1 : bt 262 1 = false := by decide
    have b2 : bt 262 2 = true := by decide
    have b4 : bt 262 4 = true := by decide
    have b8 : bt 262 8 = false := by decide
    have b16 : bt 262 16 = false := by decide
    have b32 : bt 262 32 = false := by decide
    have b64 : bt 262 64 = false := by decide
    have b128 : bt 262 128 = false := by decide
    have b256 : bt 262 256 = true := by decide
    have b512 : bt 262 512 = false := by decide
    have b1024 : bt 262 1024 = false := by decide
    have b2048 : bt 262 2048 = false := by decide
    have e1 : rr_wrV (35 : Int) = false := by decide
    have e2 : rr_bV (35 : Int) = true := by decide
    have e3 : rr_oneV (35 : Int) = false := by decide
    have e4 : rr_ckV (35 : Int) = true := by decide
    have e5 : decide (3 ≤ (35 : Int) ∧ (35 : Int) ≤ 45 ∧ ¬ (16 < (35 : Int) ∧ (35 : Int) < 20)) = true := decide_eq_true (by omega)
    have e6 : rr_tailV 35 n m l.length = (if 0 < l.length then false else decide (n = 0 ∧ m = 0)) := rfl
    have q30 : decide ((35 : Int) = 30) = false := decide_eq_false (by omega)
    have q45 : decide ((35 : Int) = 45) = false := decide_eq_false (by omega)
    have q39 : decide ((35 : Int) = 39) = false := decide_eq_false (by omega)
    have q46 : decide ((35 : Int) ≠ 45) = true := decide_eq_true (by omega)
    unfold rightV2 rr_rightV fieldsV argsV
    rw [hv, e1, e2, e3, e4, e5, e6, q30, q46, q39]
    simp only [List.all_cons, List.all_nil, fit_eq, b1, b2, b4, b8, b16, b32, b64, b128, b256, b512, b1024, b2048]
    exact (by
  have hn := nonneg_nil l
  have hq : (l.all fun x => decide (0 ≤ x)) = nonneg l := rfl
  rw [hq]
  generalize nonneg l = nn at hn ⊢
  generalize l.length = len at hn ⊢
  clear hv b1 b2 b4 b8 b16 b32 b64 b128 b256 b512 b1024 b2048 e1 e2 e3 e4 e5 e6 q30 q45 q39 q46
  unfold rr_fitsV
  rw [Bool.eq_iff_iff]
  cases nn <;> simp at hn ⊢ <;> omega)
   ·have hv : hasV (36 : Int) = 258 := by decide
    have b1 : bt 258 1 = false := by decide
    have b2 : bt 258 2 = true := by decide
    have b4 : bt 258 4 = false := by decide
    have b8 : bt 258 8 = false := by decide
    have b16 : bt 258 16 = false := by decide
    have b32 : bt 258 32 = false := by decide
    have b64 : bt 258 64 = false := by decide
    have b128 : bt 258 128 = false := by decide
    have b256 : bt 258 256 = true := by decide
    have b512 : bt 258 512 = false := by decide
    have b1024 : bt 258 1024 = false := by decide
    have b2048 : bt 258 2048 = false := by decide
    have e1 : rr_wrV (36 : Int) = false := by decide
    have e2 : rr_bV (36 : Int) = false := by decide
    have e3 : rr_oneV (36 : Int) = true := by decide
    have e4 : rr_ckV (36 : Int) = true := by decide
    have e5 : decide (3 ≤ (36 : Int) ∧ (36 : Int) ≤ 45 ∧ ¬ (16 < (36 : Int) ∧ (36 : Int) < 20)) = true := decide_eq_true (by omega)
    have e6 : rr_tailV 36 n m l.length = (if 0 < l.length then false else decide (n = 0 ∧ m = 0)) := rfl
    have q30 : decide ((36 : Int) = 30) = false := decide_eq_false (by omega)
    have q45 : decide ((36 : Int) = 45) = false := decide_eq_false (by omega)
    have q39 : decide ((36 : Int) = 39) = false := decide_eq_false (by omega)
    have q46 : decide ((36 : Int) ≠ 45) = true := decide_eq_true (by omega)
    unfold rightV2 rr_rightV fieldsV argsV
    rw [hv, e1, e2, e3, e4, e5, e6, q30, q46, q39]
    simp only [List.all_cons, List.all_nil, fit_eq, b1, b2, b4, b8, b16, b32, b64, b128, b256, b512, b1024, b2048]
    exact (by
  have hn := nonneg_nil l
  have hq : (l.all fun x => decide (0 ≤ x)) = nonneg l := rfl
  rw [hq]
  generalize nonneg l = nn at hn ⊢
  generalize l.length = len at hn ⊢
  clear hv b1 b2 b4 b8 b16 b32 b64 b128 b256 b512 b1024 b2048 e1 e2 e3 e4 e5 e6 q30 q45 q39 q46
  unfold rr_fitsV
  rw [Bool.eq_iff_iff]
  cases nn <;> simp at hn ⊢ <;> omega)
   ·have hv : hasV (37 : Int) = 262 := by decide
    have b1 : bt 262 1 = false := by decide
    have b2 : bt 262 2 = true := by decide
    have b4 : bt 262 4 = true := by decide
    have b8 : bt 262 8 = false := by decide
    have b16 : bt 262 16 = false := by decide
    have b32 : bt 262 32 = false := by decide
    have b64 : bt 262 64 = false := by decide
    have b128 : bt 262 128 = false := by decide
    have b256 : bt 262 256 = true := by decide
    have b512 : bt 262 512 = false := by decide
    have b1024 : bt 262 1024 = false := by decide
    have b2048 : bt 262 2048 = false := by decide
    have e1 : rr_wrV (37 : Int) = false := by decide
    have e2 : rr_bV (37 : Int) = true := by decide
    have e3 : rr_oneV (37 : Int) = false := by decide
    have e4 : rr_ckV (37 : Int) = true := by decide
    have e5 : decide (3 ≤ (37 : Int) ∧ (37 : Int) ≤ 45 ∧ ¬ (16 < (37 : Int) ∧ (37 : Int) < 20)) = true := decide_eq_true (by omega)
    have e6 : rr_tailV 37 n m l.length = (if 0 < l.length then false else decide (n = 0 ∧ m = 0)) := rfl
    have q30 : decide ((37 : Int) = 30) = false := decide_eq_false (by omega)
    have q45 : decide ((37 : Int) = 45) = false := decide_eq_false (by omega)
    have q39 : decide ((37 : Int) = 39) = false := decide_eq_false (by omega)
    have q46 : decide ((37 : Int) ≠ 45) = true := decide_eq_true (by omega)
    unfold rightV2 rr_rightV fieldsV argsV
    rw [hv, e1, e2, e3, e4, e5, e6, q30, q46, q39]
    simp only [List.all_cons, List.all_nil, fit_eq, b1, b2, b4, b8, b16, b32, b64, b128, b256, b512, b1024, b2048]
    exact (by
  have hn := nonneg_nil l
  have hq : (l.all fun x => decide (0 ≤ x)) = nonneg l := rfl
  rw [hq]
  generalize nonneg l = nn at hn ⊢
  generalize l.length = len at hn ⊢
  clear hv b1 b2 b4 b8 b16 b32 b64 b128 b256 b512 b1024 b2048 e1 e2 e3 e4 e5 e6 q30 q45 q39 q46
  unfold rr_fitsV
  rw [Bool.eq_iff_iff]
  cases nn <;> simp at hn ⊢ <;> omega)
   ·have hv : hasV (38 : Int) = 258 := by decide
    have b1 : bt 258 1 = false := by decide
    have b2 : bt 258 2 = true := by decide
    have b4 : bt 258 4 = false := by decide
    have b8 : bt 258 8 = false := by decide
    have b16 : bt 258 16 = false := by decide
    have b32 : bt 258 32 = false := by decide
    have b64 : bt 258 64 = false := by decide
    have b128 : bt 258 128 = false := by decide
    have b256 : bt 258 256 = true := by decide
    have b512 : bt 258 512 = false := by decide
    have b1024 : bt 258 1024 = false := by decide
    have b2048 : bt 258 2048 = false := by decide
    have e1 : rr_wrV (38 : Int) = false := by decide
    have e2 : rr_bV (38 : Int) = false := by decide
    have e3 : rr_oneV (38 : Int) = true := by decide
    have e4 : rr_ckV (38 : Int) = true := by decide
    have e5 : decide (3 ≤ (38 : Int) ∧ (38 : Int) ≤ 45 ∧ ¬ (16 < (38 : Int) ∧ (38 : Int) < 20)) = true := decide_eq_true (by omega)
    have e6 : rr_tailV 38 n m l.length = (if 0 < l.length then false else decide (n = 0 ∧ m = 0)) := rfl
    have q30 : decide ((38 : Int) = 30) = false := decide_eq_false (by omega)
    have q45 : decide ((38 : Int) = 45) = false := decide_eq_false (by omega)
    have q39 : decide ((38 : Int) = 39) = false := decide_eq_false (by omega)
    have q46 : decide ((38 : Int) ≠ 45) = true := decide_eq_true (by omega)
    unfold rightV2 rr_rightV fieldsV argsV
    rw [hv, e1, e2, e3, e4, e5, e6, q30, q46, q39]
    simp only [List.all_cons, List.all_nil, fit_eq, b1, b2, b4, b8, b16, b32, b64, b128, b256, b512, b1024, b2048]
    exact (by
  have hn := nonneg_nil l
  have hq : (l.all fun x => decide (0 ≤ x)) = nonneg l := rfl
  rw [hq]
  generalize nonneg l = nn at hn ⊢
  generalize l.length = len at hn ⊢
  clear hv b1 b2 b4 b8 b16 b32 b64 b128 b256 b512 b1024 b2048 e1 e2 e3 e4 e5 e6 q30 q45 q39 q46
  unfold rr_fitsV
  rw [Bool.eq_iff_iff]
  cases nn <;> simp at hn ⊢ <;> omega)
   ·have hv : hasV (39 : Int) = 577 := by decide
    have b1 : bt 577 1 = true := by decide
    have b2 : bt 577 2 = false := by decide
    have b4 : bt 577 4 = false := by decide
    have b8 : bt 577 8 = false := by decide
    have b16 : bt 577 16 = false := by decide
    have b32 : bt 577 32 = false := by decide
    have b64 : bt 577 64 = true := by decide
    have b128 : bt 577 128 = false := by decide
    have b256 : bt 577 256 = false := by decide
    have b512 : bt 577 512 = true := by decide
    have b1024 : bt 577 1024 = false := by decide
    have b2048 : bt 577 2048 = false := by decide
    have e1 : rr_wrV (39 : Int) = true := by decide
    have e2 : rr_bV (39 : Int) = false := by decide
    have e3 : rr_oneV (39 : Int) = false := by decide
    have e4 : rr_ckV (39 : Int) = false := by decide
    have e5 : decide (3 ≤ (39 : Int) ∧ (39 : Int) ≤ 45 ∧ ¬ (16 < (39 : Int) ∧ (39 : Int) < 20)) = true := decide_eq_true (by omega)
    have e6 : rr_tailV 39 n m l.length = decide (0 ≤ n ∧ m = 0 ∧ l.length ≤ 8) := rfl
    have q30 : decide ((39 : Int) = 30) = false := decide_eq_false (by omega)
    have q45 : decide ((39 : Int) = 45) = false := decide_eq_false (by omega)
    have q39 : decide ((39 : Int) = 39) = true := decide_eq_true rfl
    have q46 : decide ((39 : Int) ≠ 45) = true := decide_eq_true (by omega)
    unfold rightV2 rr_rightV fieldsV argsV
    rw [hv, e1, e2, e3, e4, e5, e6, q30, q46, q39]
    simp only [List.all_cons, List.all_nil, fit_eq, b1, b2, b4, b8, b16, b32, b64, b128, b256, b512, b1024, b2048]
    exact (by
  have hn := nonneg_nil l
  have hq : (l.all fun x => decide (0 ≤ x)) = nonneg l := rfl
  rw [hq]
  generalize nonneg l = nn at hn ⊢
  generalize l.length = len at hn ⊢
  clear hv b1 b2 b4 b8 b16 b32 b64 b128 b256 b512 b1024 b2048 e1 e2 e3 e4 e5 e6 q30 q45 q39 q46
  unfold rr_fitsV
  rw [Bool.eq_iff_iff]
  cases nn <;> simp at hn ⊢ <;> omega)
   ·have hv : hasV (40 : Int) = 2 := by decide
    have b1 : bt 2 1 = false := by decide
    have b2 : bt 2 2 = true := by decide
    have b4 : bt 2 4 = false := by decide
    have b8 : bt 2 8 = false := by decide
    have b16 : bt 2 16 = false := by decide
    have b32 : bt 2 32 = false := by decide
    have b64 : bt 2 64 = false := by decide
    have b128 : bt 2 128 = false := by decide
    have b256 : bt 2 256 = false := by decide
    have b512 : bt 2 512 = false := by decide
    have b1024 : bt 2 1024 = false := by decide
    have b2048 : bt 2 2048 = false := by decide
    have e1 : rr_wrV (40 : Int) = false := by decide
    have e2 : rr_bV (40 : Int) = false := by decide
    have e3 : rr_oneV (40 : Int) = true := by decide
    have e4 : rr_ckV (40 : Int) = false := by decide
    have e5 : decide (3 ≤ (40 : Int) ∧ (40 : Int) ≤ 45 ∧ ¬ (16 < (40 : Int) ∧ (40 : Int) < 20)) = true := decide_eq_true (by omega)
    have e6 : rr_tailV 40 n m l.length = (if 0 < l.length then false else decide (n = 0 ∧ m = 0)) := rfl
    have q30 : decide ((40 : Int) = 30) = false := decide_eq_false (by omega)
    have q45 : decide ((40 : Int) = 45) = false := decide_eq_false (by omega)
    have q39 : decide ((40 : Int) = 39) = false := decide_eq_false (by omega)
    have q46 : decide ((40 : Int) ≠ 45) = true := decide_eq_true (by omega)
    unfold rightV2 rr_rightV fieldsV argsV
    rw [hv, e1, e2, e3, e4, e5, e6, q30, q46, q39]
    simp only [List.all_cons, List.all_nil, fit_eq, b1, b2, b4, b8, b16, b32, b64, b128, b256, b512, b1024, b2048]
    exact (by
  have hn := nonneg_nil l
  have hq : (l.all fun x => decide (0 ≤ x)) = nonneg l := rfl
  rw [hq]
  generalize nonneg l = nn at hn ⊢
  generalize l.length = len at hn ⊢
  clear hv b1 b2 b4 b8 b16 b32 b64 b128 b256 b512 b1024 b2048 e1 e2 e3 e4 e5 e6 q30 q45 q39 q46
  unfold rr_fitsV
  rw [Bool.eq_iff_iff]
  cases nn <;> simp at hn ⊢ <;> omega)
   ·have hv : hasV (41 : Int) = 64 := by decide
    have b1 : bt 64 1 = false := by decide
    have b2 : bt 64 2 = false := by decide
    have b4 : bt 64 4 = false := by decide
    have b8 : bt 64 8 = false := by decide
    have b16 : bt 64 16 = false := by decide
    have b32 : bt 64 32 = false := by decide
    have b64 : bt 64 64 = true := by decide
    have b128 : bt 64 128 = false := by decide
    have b256 : bt 64 256 = false := by decide
    have b512 : bt 64 512 = false := by decide
    have b1024 : bt 64 1024 = false := by decide
    have b2048 : bt 64 2048 = false := by decide
    have e1 : rr_wrV (41 : Int) = false := by decide
    have e2 : rr_bV (41 : Int) = false := by decide
    have e3 : rr_oneV (41 : Int) = false := by decide
    have e4 : rr_ckV (41 : Int) = false := by decide
    have e5 : decide (3 ≤ (41 : Int) ∧ (41 : Int) ≤ 45 ∧ ¬ (16 < (41 : Int) ∧ (41 : Int) < 20)) = true := decide_eq_true (by omega)
    have e6 : rr_tailV 41 n m l.length = (if 0 < l.length then false else decide (m = 0 ∧ 0 ≤ n)) := rfl
    have q30 : decide ((41 : Int) = 30) = false := decide_eq_false (by omega)
    have q45 : decide ((41 : Int) = 45) = false := decide_eq_false (by omega)
    have q39 : decide ((41 : Int) = 39) = false := decide_eq_false (by omega)
    have q46 : decide ((41 : Int) ≠ 45) = true := decide_eq_true (by omega)
    unfold rightV2 rr_rightV fieldsV argsV
    rw [hv, e1, e2, e3, e4, e5, e6, q30, q46, q39]
    simp only [List.all_cons, List.all_nil, fit_eq, b1, b2, b4, b8, b16, b32, b64, b128, b256, b512, b1024, b2048]
    exact (by
  have hn := nonneg_nil l
  have hq : (l.all fun x => decide (0 ≤ x)) = nonneg l := rfl
  rw [hq]
  generalize nonneg l = nn at hn ⊢
  generalize l.length = len at hn ⊢
  clear hv b1 b2 b4 b8 b16 b32 b64 b128 b256 b512 b1024 b2048 e1 e2 e3 e4 e5 e6 q30 q45 q39 q46
  unfold rr_fitsV
  rw [Bool.eq_iff_iff]
  cases nn <;> simp at hn ⊢ <;> omega)
   ·have hv : hasV (42 : Int) = 194 := by decide
    have b1 : bt 194 1 = false := by decide
    have b2 : bt 194 2 = true := by decide
    have b4 : bt 194 4 = false := by decide
    have b8 : bt 194 8 = false := by decide
    have b16 : bt 194 16 = false := by decide
    have b32 : bt 194 32 = false := by decide
    have b64 : bt 194 64 = true := by decide
    have b128 : bt 194 128 = true := by decide
    have b256 : bt 194 256 = false := by decide
    have b512 : bt 194 512 = false := by decide
    have b1024 : bt 194 1024 = false := by decide
    have b2048 : bt 194 2048 = false := by decide
    have e1 : rr_wrV (42 : Int) = false := by decide
    have e2 : rr_bV (42 : Int) = false := by decide
    have e3 : rr_oneV (42 : Int) = true := by decide
    have e4 : rr_ckV (42 : Int) = false := by decide
    have e5 : decide (3 ≤ (42 : Int) ∧ (42 : Int) ≤ 45 ∧ ¬ (16 < (42 : Int) ∧ (42 : Int) < 20)) = true := decide_eq_true (by omega)
    have e6 : rr_tailV 42 n m l.length = (if 0 < l.length then false else decide (0 ≤ m ∧ 0 ≤ n ∧ m ≠ n)) := rfl
    have q30 : decide ((42 : Int) = 30) = false := decide_eq_false (by omega)
    have q45 : decide ((42 : Int) = 45) = false := decide_eq_false (by omega)
    have q39 : decide ((42 : Int) = 39) = false := decide_eq_false (by omega)
    have q46 : decide ((42 : Int) ≠ 45) = true := decide_eq_true (by omega)
    unfold rightV2 rr_rightV fieldsV argsV
    rw [hv, e1, e2, e3, e4, e5, e6, q30, q46, q39]
    simp only [List.all_cons, List.all_nil, fit_eq, b1, b2, b4, b8, b16, b32, b64, b128, b256, b512, b1024, b2048]
    exact (by
  have hn := nonneg_nil l
  have hq : (l.all fun x => decide (0 ≤ x)) = nonneg l := rfl
  rw [hq]
  generalize nonneg l = nn at hn ⊢
  generalize l.length = len at hn ⊢
  clear hv b1 b2 b4 b8 b16 b32 b64 b128 b256 b512 b1024 b2048 e1 e2 e3 e4 e5 e6 q30 q45 q39 q46
  unfold rr_fitsV
  rw [Bool.eq_iff_iff]
  cases nn <;> simp at hn ⊢ <;> omega)
   ·have hv : hasV (43 : Int) = 2 := by decide
    have b1 : bt 2 1 = false := by decide
    have b2 : bt 2 2 = true := by decide
    have b4 : bt 2 4 = false := by decide
    have b8 : bt 2 8 = false := by decide
    have b16 : bt 2 16 = false := by decide
    have b32 : bt 2 32 = false := by decide
    have b64 : bt 2 64 = false := by decide
    have b128 : bt 2 128 = false := by decide
    have b256 : bt 2 256 = false := by decide
    have b512 : bt 2 512 = false := by decide
    have b1024 : bt 2 1024 = false := by decide
    have b2048 : bt 2 2048 = false := by decide
    have e1 : rr_wrV (43 : Int) = false := by decide
    have e2 : rr_bV (43 : Int) = false := by decide
    have e3 : rr_oneV (43 : Int) = true := by decide
    have e4 : rr_ckV (43 : Int) = false := by decide
    have e5 : decide (3 ≤ (43 : Int) ∧ (43 : Int) ≤ 45 ∧ ¬ (16 < (43 : Int) ∧ (43 : Int) < 20)) = true := decide_eq_true (by omega)
    have e6 : rr_tailV 43 n m l.length = (if 0 < l.length then false else decide (n = 0 ∧ m = 0)) := rfl
    have q30 : decide ((43 : Int) = 30) = false := decide_eq_false (by omega)
    have q45 : decide ((43 : Int) = 45) = false := decide_eq_false (by omega)
    have q39 : decide ((43 : Int) = 39) = false := decide_eq_false (by omega)
    have q46 : decide ((43 : Int) ≠ 45) = true := decide_eq_true (by omega)
    unfold rightV2 rr_rightV fieldsV argsV
    rw [hv, e1, e2, e3, e4, e5, e6, q30, q46, q39]
    simp only [List.all_cons, List.all_nil, fit_eq, b1, b2, b4, b8, b16, b32, b64, b128, b256, b512, b1024, b2048]
    exact (by
  have hn := nonneg_nil l
  have hq : (l.all fun x => decide (0 ≤ x)) = nonneg l := rfl
  rw [hq]
  generalize nonneg l = nn at hn ⊢
  generalize l.length = len at hn ⊢
  clear hv b1 b2 b4 b8 b16 b32 b64 b128 b256 b512 b1024 b2048 e1 e2 e3 e4 e5 e6 q30 q45 q39 q46
  unfold rr_fitsV
  rw [Bool.eq_iff_iff]
  cases nn <;> simp at hn ⊢ <;> omega)
   ·have hv : hasV (44 : Int) = 1537 := by decide
    have b1 : bt 1537 1 = true := by decide
    have b2 : bt 1537 2 = false := by decide
    have b4 : bt 1537 4 = false := by decide
    have b8 : bt 1537 8 = false := by decide
    have b16 : bt 1537 16 = false := by decide
    have b32 : bt 1537 32 = false := by decide
    have b64 : bt 1537 64 = false := by decide
    have b128 : bt 1537 128 = false := by decide
    have b256 : bt 1537 256 = false := by decide
    have b512 : bt 1537 512 = true := by decide
    have b1024 : bt 1537 1024 = true := by decide
    have b2048 : bt 1537 2048 = false := by decide
    have e1 : rr_wrV (44 : Int) = true := by decide
    have e2 : rr_bV (44 : Int) = false := by decide
    have e3 : rr_oneV (44 : Int) = false := by decide
    have e4 : rr_ckV (44 : Int) = false := by decide
    have e5 : decide (3 ≤ (44 : Int) ∧ (44 : Int) ≤ 45 ∧ ¬ (16 < (44 : Int) ∧ (44 : Int) < 20)) = true := decide_eq_true (by omega)
    have e6 : rr_tailV 44 n m l.length = decide (n = 0 ∧ m = 0 ∧ 1 ≤ l.length) := rfl
    have q30 : decide ((44 : Int) = 30) = false := decide_eq_false (by omega)
    have q45 : decide ((44 : Int) = 45) = false := decide_eq_false (by omega)
    have q39 : decide ((44 : Int) = 39) = false := decide_eq_false (by omega)
    have q46 : decide ((44 : Int) ≠ 45) = true := decide_eq_true (by omega)
    unfold rightV2 rr_rightV fieldsV argsV
    rw [hv, e1, e2, e3, e4, e5, e6, q30, q46, q39]
    simp only [List.all_cons, List.all_nil, fit_eq, b1, b2, b4, b8, b16, b32, b64, b128, b256, b512, b1024, b2048]
    exact (by
  have hn := nonneg_nil l
  have hq : (l.all fun x => decide (0 ≤ x)) = nonneg l := rfl
  rw [hq]
  generalize nonneg l = nn at hn ⊢
  generalize l.length = len at hn ⊢
  clear hv b1 b2 b4 b8 b16 b32 b64 b128 b256 b512 b1024 b2048 e1 e2 e3 e4 e5 e6 q30 q45 q39 q46
  unfold rr_fitsV
  rw [Bool.eq_iff_iff]
  cases nn <;> simp at hn ⊢ <;> omega)
   ·have hv : hasV (45 : Int) = 2055 := by decide
    have b1 : bt 2055 1 = true := by decide
    have b2 : bt 2055 2 = true := by decide
    have b4 : bt 2055 4 = true := by decide
    have b8 : bt 2055 8 = false := by decide
    have b16 : bt 2055 16 = false := by decide
    have b32 : bt 2055 32 = false := by decide
    have b64 : bt 2055 64 = false := by decide
    have b128 : bt 2055 128 = false := by decide
    have b256 : bt 2055 256 = false := by decide
    have b512 : bt 2055 512 = false := by decide
    have b1024 : bt 2055 1024 = false := by decide
    have b2048 : bt 2055 2048 = true := by decide
    have e1 : rr_wrV (45 : Int) = true := by decide
    have e2 : rr_bV (45 : Int) = true := by decide
    have e3 : rr_oneV (45 : Int) = false := by decide
    have e4 : rr_ckV (45 : Int) = false := by decide
    have e5 : decide (3 ≤ (45 : Int) ∧ (45 : Int) ≤ 45 ∧ ¬ (16 < (45 : Int) ∧ (45 : Int) < 20)) = true := decide_eq_true (by omega)
    have e6 : rr_tailV 45 n m l.length = decide (n = 0 ∧ (3 ≤ m ∧ m ≤ 8 ∨ m = 20 ∨ m = 21) ∧ l.length = 0) := rfl
    have q30 : decide ((45 : Int) = 30) = false := decide_eq_false (by omega)
    have q45 : decide ((45 : Int) = 45) = true := decide_eq_true rfl
    have q39 : decide ((45 : Int) = 39) = false := decide_eq_false (by omega)
    have q46 : decide ((45 : Int) ≠ 45) = false := decide_eq_false (by omega)
    unfold rightV2 rr_rightV fieldsV argsV
    rw [hv, e1, e2, e3, e4, e5, e6, q30, q46, q39]
    simp only [List.all_cons, List.all_nil, fit_eq, b1, b2, b4, b8, b16, b32, b64, b128, b256, b512, b1024, b2048]
    exact (by
  have hn := nonneg_nil l
  have hq : (l.all fun x => decide (0 ≤ x)) = nonneg l := rfl
  rw [hq]
  generalize nonneg l = nn at hn ⊢
  generalize l.length = len at hn ⊢
  clear hv b1 b2 b4 b8 b16 b32 b64 b128 b256 b512 b1024 b2048 e1 e2 e3 e4 e5 e6 q30 q45 q39 q46
  unfold rr_fitsV
  rw [Bool.eq_iff_iff]
  cases nn <;> simp at hn ⊢ <;> omega)
 ·have hv : hasV op = 0 := by
   unfold hasV
   rw [if_neg (by omega), if_neg (by omega)]
   unfold assoc
   have : hasTab.find? (fun p => p.1 == op) = none := by
    rw [List.find?_eq_none]
    intro p hp
    have key : ∀ p ∈ hasTab, 20 ≤ p.1 ∧ p.1 ≤ 45 := by decide
    have := key p hp
    simp
    omega
   rw [this]
   rfl
  unfold rightV2 rr_rightV
  rw [hv, decide_eq_false h0]
  simp
theorem instrRight_ev (op dst a b c n m site : Int) (l : List Int) (hl : l.length < 4611686018427387904) : Ev (fun k => instr_Right.f k op dst a b c n m site l) (rr_rightV op dst a b c n m site l) := right_same op dst a b c n m site l ▸ right_ev2 op dst a b c n m site l hl
theorem refRight_val (op dst a b c n m site : Int) (l : List Int) (hl : l.length < 4611686018427387904) : balustraderef15_Right.f op dst a b c n m site l = some (rr_rightV op dst a b c n m site l) := if_pos hl
theorem has_words (op m : Int) (h : 3 ≤ op ∧ op ≤ 45 ∧ ¬ (16 < op ∧ op < 20)) :
  bt (hasV op) 1 = rr_wrV op ∧ (Go.bits .and .i64 (hasV op) 2 != 0) = (rr_twoV op || (rr_oneV op || (decide (op = 30) || decide (op = 45)))) ∧
  ((Go.bits .and .i64 (hasV op) 4 != 0) && ((Go.bits .and .i64 (hasV op) 2048 == 0) || m != 21)) = (rr_twoV op || (decide (op = 30) || (decide (op = 45) && m != 21))) ∧ (Go.bits .and .i64 (hasV op) 8 != 0) = decide (op = 30) := by
 by_cases h1 : op ≤ 16
 ·have hv : hasV op = 7 := if_pos (by omega)
  have e1 : rr_wrV op = true := by unfold rr_wrV; simp; omega
  have e2 : rr_twoV op = true := by unfold rr_twoV; simp; omega
  have e3 : decide (op = 30) = false := decide_eq_false (by omega)
  rw [hv, e1, e2, e3]
  exact ⟨by decide, by rw [Bool.true_or]; decide, by simp only [show (Go.bits .and .i64 7 4 != 0) = true by decide, show (Go.bits .and .i64 7 2048 == 0) = true by decide, Bool.true_or, Bool.and_self], by decide⟩
 ·have h2 : op = 20 ∨ op = 21 ∨ op = 22 ∨ op = 23 ∨ op = 24 ∨ op = 25 ∨ op = 26 ∨ op = 27 ∨ op = 28 ∨ op = 29 ∨ op = 30 ∨ op = 31 ∨ op = 32 ∨ op = 33 ∨ op = 34 ∨ op = 35 ∨ op = 36 ∨ op = 37 ∨ op = 38 ∨ op = 39 ∨ op = 40 ∨ op = 41 ∨ op = 42 ∨ op = 43 ∨ op = 44 ∨ op = 45 := by omega
  rcases h2 with rfl | rfl | rfl | rfl | rfl | rfl | rfl | rfl | rfl | rfl | rfl | rfl | rfl | rfl | rfl | rfl | rfl | rfl | rfl | rfl | rfl | rfl | rfl | rfl | rfl | rfl
  all_goals
   refine ⟨by decide, by decide, ?_, by decide⟩
   cases m != 21 <;> decide
theorem right_range (op dst a b c n m site : Int) (l : List Int) (h : rr_rightV op dst a b c n m site l = true) : 3 ≤ op ∧ op ≤ 45 ∧ ¬ (16 < op ∧ op < 20) := by
 unfold rr_rightV at h
 simp only [Bool.and_eq_true] at h
 exact of_decide_eq_true h.1.1.1.1.1.1.1
def defV (op dst a b c n m site : Int) (l : List Int) : Int := if rr_rightV op dst a b c n m site l && rr_wrV op then dst else -1
theorem instrDef_ev (op dst a b c n m site : Int) (l : List Int) (hl : l.length < 4611686018427387904) : Ev (fun k => instr_Def.f k op dst a b c n m site l) (defV op dst a b c n m site l) := by
 unfold instr_Def.f defV
 refine Ev.bind (instrRight_ev op dst a b c n m site l hl) ?_
 cases hr : rr_rightV op dst a b c n m site l with
 | false => exact Ev.congr (fun k => by rw [if_neg (by simp)]) (by simpa using Ev.now _)
 | true =>
  have hw := (has_words op m (right_range _ _ _ _ _ _ _ _ _ hr)).1
  refine Ev.congr (f := fun _ => some (if rr_wrV op then dst else -1)) (fun k => ?_) (by simpa using Ev.now _)
  rw [if_pos rfl]
  unfold instr_has.f
  rw [Option.bind_some, ← hw]
  unfold bt
  by_cases c : Go.bits .and .i64 (hasV op) 1 = 0
  ·rw [if_pos c]; simp [c]
  ·rw [if_neg c]; simp [c]
theorem refDef_val (op dst a b c n m site : Int) (l : List Int) (hl : l.length < 4611686018427387904) : balustraderef15_Def.f op dst a b c n m site l = some (defV op dst a b c n m site l) := by
 unfold balustraderef15_Def.f defV
 rw [refRight_val op dst a b c n m site l hl, Option.bind_some, rr_wr_val]
 cases rr_rightV op dst a b c n m site l <;> cases rr_wrV op <;> rfl
def usesV (op dst a b c n m site : Int) (l : List Int) : List Int := if rr_rightV op dst a b c n m site l then usV op a b c m l else []
theorem instrUses_ev (op dst a b c n m site : Int) (l : List Int) (hl : l.length < 17592186044413) : Ev (fun k => instr_Uses.f k op dst a b c n m site l) (usesV op dst a b c n m site l) := by
 unfold instr_Uses.f usesV
 refine Ev.congr (fun k => if_pos hl) ?_
 refine Ev.bind (instrRight_ev op dst a b c n m site l (by omega)) ?_
 cases rr_rightV op dst a b c n m site l <;> exact Ev.now _
theorem refUses2 (x3 : List Int) (x49 : Bool) (op dst a b c n m site : Int) (l : List Int) (k : Nat) (h1 : x3.length < 10) (hl : l.length < 17592186044413 - 20) :
  balustraderef15_Uses.j2 (k + 1) x3 x49 op dst a b c n m site l = some (x3 ++ (if x49 then [b] else []) ++ (if decide (op = 30) then [c] else []) ++ l) := by
 rw [balustraderef15_Uses.j2]
 cases x49 with
 | true =>
  rw [if_pos rfl, if_pos (by omega), Option.bind_some]
  by_cases e : op = 30
  ·rw [if_pos e, if_pos (by simp; omega), Option.bind_some, if_pos (by simp; omega)]; simp [e]
  ·rw [if_neg e, if_pos (by simp; omega)]; simp [e]
 | false =>
  rw [if_neg (by simp)]
  by_cases e : op = 30
  ·rw [if_pos e, if_pos (by omega), Option.bind_some, if_pos (by simp; omega)]; simp [e]
  ·rw [if_neg e, if_pos (by omega)]; simp [e]
theorem refUses1 (x3 : List Int) (op dst a b c n m site : Int) (l : List Int) (h1 : x3.length < 10) (hl : l.length < 17592186044413 - 20) :
  Ev (fun k => balustraderef15_Uses.j1 k x3 op dst a b c n m site l) (x3 ++ (if (rr_twoV op || (decide (op = 30) || (decide (op = 45) && m != 21))) then [b] else []) ++ (if decide (op = 30) then [c] else []) ++ l) := by
 refine Ev.step (f := fun k => (balustraderef15_two.f k op).bind fun t156 => (if t156 = true then (balustraderef15_Uses.j2 k x3 true op dst a b c n m site l) else (if op = 30 then (balustraderef15_Uses.j2 k x3 true op dst a b c n m site l) else (if op = 45 then (balustraderef15_Uses.j2 k x3 (m != 21) op dst a b c n m site l) else (balustraderef15_Uses.j2 k x3 false op dst a b c n m site l))))) (fun k => by rw [balustraderef15_Uses.j1]) ?_
 refine Ev.bind (rr_two_ev op) ?_
 have key : ∀ x49 : Bool, Ev (fun k => balustraderef15_Uses.j2 k x3 x49 op dst a b c n m site l) (x3 ++ (if x49 then [b] else []) ++ (if decide (op = 30) then [c] else []) ++ l) := fun x49 => Ev.step (f := fun _ => some _) (fun k => refUses2 x3 x49 op dst a b c n m site l k h1 hl) (Ev.now _)
 cases rr_twoV op with
 | true => exact Ev.congr (fun k => if_pos rfl) (key true)
 | false =>
  refine Ev.congr (fun k => if_neg (by simp)) ?_
  by_cases e : op = 30
  ·refine Ev.congr (fun k => if_pos e) ?_
   have := key true
   simpa [e] using this
  ·refine Ev.congr (fun k => if_neg e) ?_
   by_cases e2 : op = 45
   ·refine Ev.congr (fun k => if_pos e2) ?_
    have := key (m != 21)
    simpa [e2] using this
   ·refine Ev.congr (fun k => if_neg e2) ?_
    have := key false
    simpa [e, e2] using this
theorem refUses0 (x26 : Bool) (op dst a b c n m site : Int) (l : List Int) (hl : l.length < 17592186044413 - 20) :
  Ev (fun k => balustraderef15_Uses.j0 k [] x26 op dst a b c n m site l) ((if x26 then [a] else []) ++ (if (rr_twoV op || (decide (op = 30) || (decide (op = 45) && m != 21))) then [b] else []) ++ (if decide (op = 30) then [c] else []) ++ l) := by
 cases x26 with
 | true => exact Ev.step (fun k => by rw [balustraderef15_Uses.j0, if_pos rfl, if_pos (by simp)]; rfl) (refUses1 [a] op dst a b c n m site l (by simp) hl)
 | false => exact Ev.step (fun k => by rw [balustraderef15_Uses.j0, if_neg (by simp)]) (refUses1 [] op dst a b c n m site l (by simp) hl)
theorem refUses_ev (op dst a b c n m site : Int) (l : List Int) (hl : l.length < 17592186044413 - 20) : Ev (fun k => balustraderef15_Uses.f k op dst a b c n m site l) (usesV op dst a b c n m site l) := by
 unfold balustraderef15_Uses.f usesV
 refine Ev.congr (fun k => Option.bind_some _ _) ?_
 refine Ev.congr (fun k => by rw [refRight_val op dst a b c n m site l (by omega), Option.bind_some]) ?_
 cases hr : rr_rightV op dst a b c n m site l with
 | false => exact Ev.congr (fun k => if_neg (by simp)) (Ev.now _)
 | true =>
  obtain ⟨_, e2, e3, e4⟩ := has_words op m (right_range _ _ _ _ _ _ _ _ _ hr)
  rw [if_pos rfl]
  unfold usV
  rw [e2, e3, e4]
  refine Ev.congr (fun k => if_pos rfl) ?_
  refine Ev.bind (rr_two_ev op) ?_
  have u0 := fun x => refUses0 x op dst a b c n m site l hl
  cases ht : rr_twoV op with
  | true => rw [ht] at u0; exact Ev.congr (fun k => if_pos rfl) (by simpa using u0 true)
  | false =>
   rw [ht] at u0
   refine Ev.congr (fun k => if_neg (by simp)) ?_
   refine Ev.bind (rr_one_ev op) ?_
   cases rr_oneV op with
   | true => exact Ev.congr (fun k => if_pos rfl) (by simpa using u0 true)
   | false =>
    refine Ev.congr (fun k => if_neg (by simp)) ?_
    by_cases e : op = 30
    ·exact Ev.congr (fun k => if_pos e) (by simpa [e] using u0 true)
    ·refine Ev.congr (fun k => if_neg e) ?_
     have := u0 (op == 45)
     simpa [e] using this
def targetsV (op dst a b c n m site : Int) (l : List Int) : List Int := if rr_rightV op dst a b c n m site l then (if op = 41 then [n] else if op = 42 then [n, m] else []) else []
theorem instrTargets_ev (op dst a b c n m site : Int) (l : List Int) (hl : l.length < 4611686018427387904) : Ev (fun k => instr_Targets.f k op dst a b c n m site l) (targetsV op dst a b c n m site l) := by
 have key : ∀ x : Bool, Ev (fun k => instr_Targets.j0 k x op dst a b c n m site l) (if x = true then [] else if op = 41 then [n] else [n, m]) := fun x => by
  refine Ev.step (f := fun _ => some _) (fun k => ?_) (Ev.now _)
  rw [instr_Targets.j0]
  cases x
  ·show (if op = 41 then some [n] else some [n, m]) = some (if op = 41 then [n] else [n, m])
   split <;> rfl
  ·rfl
 unfold instr_Targets.f targetsV
 refine Ev.bind (instrRight_ev op dst a b c n m site l hl) ?_
 cases rr_rightV op dst a b c n m site l with
 | false => exact Ev.congr (fun k => if_neg (by simp)) (key true)
 | true =>
  refine Ev.congr (fun k => if_pos rfl) ?_
  unfold instr_Ends.f
  by_cases h1 : op ≥ 41
  ·rw [if_pos h1]
   refine Ev.congr (fun k => Option.bind_some _ _) ?_
   by_cases h2 : op ≤ 43
   ·rw [decide_eq_true h2]
    refine Ev.congr (fun k => if_pos rfl) ?_
    have h3 : op = 41 ∨ op = 42 ∨ op = 43 := by omega
    rcases h3 with rfl | rfl | rfl
    ·exact key false
    ·exact key false
    ·exact key true
   ·rw [decide_eq_false h2, if_pos rfl, if_neg (by omega), if_neg (by omega)]
    exact Ev.congr (fun k => if_neg (by simp)) (key true)
  ·rw [if_neg h1, if_pos rfl, if_neg (by omega), if_neg (by omega)]
   refine Ev.congr (fun k => Option.bind_some _ _) ?_
   exact Ev.congr (fun k => if_neg (by simp)) (key true)
theorem refTargets_ev (op dst a b c n m site : Int) (l : List Int) (hl : l.length < 4611686018427387904) : Ev (fun k => balustraderef15_Targets.f k op dst a b c n m site l) (targetsV op dst a b c n m site l) := by
 have key : ∀ x : Bool, Ev (fun k => balustraderef15_Targets.j0 k x op dst a b c n m site l) (if x = true then [n] else if rr_rightV op dst a b c n m site l = true then (if op = 42 then [n, m] else []) else []) := fun x => by
  refine Ev.step (f := fun _ => some _) (fun k => ?_) (Ev.now _)
  rw [balustraderef15_Targets.j0, refRight_val op dst a b c n m site l hl, Option.bind_some]
  cases x
  ·cases rr_rightV op dst a b c n m site l
   ·rfl
   ·show (if op = 42 then some [n, m] else some []) = some (if op = 42 then [n, m] else [])
    split <;> rfl
  ·rfl
 unfold balustraderef15_Targets.f targetsV
 refine Ev.congr (fun k => by rw [refRight_val op dst a b c n m site l hl, Option.bind_some]) ?_
 cases hr : rr_rightV op dst a b c n m site l with
 | false =>
  have := key false
  rw [hr] at this
  exact Ev.congr (fun k => if_neg (by simp)) (by simpa using this)
 | true =>
  have := key (op == 41)
  rw [hr] at this
  refine Ev.congr (fun k => if_pos rfl) ?_
  by_cases h1 : op = 41
  ·subst h1; exact this
  ·simpa [h1] using this
theorem check_val (op : Int) : instr_Check.f op = balustraderef15_Check.f op := rfl
theorem ends_val (op : Int) : instr_Ends.f op = balustraderef15_Ends.f op := rfl
theorem trap_val (op : Int) : ∃ v, instr_Trap.f op = some v ∧ balustraderef15_Trap.f op = some v := by
 unfold instr_Trap.f balustraderef15_Trap.f instr_Check.f balustraderef15_Check.f
 rw [Option.bind_some]
 by_cases h1 : op ≥ 31
 ·rw [if_pos h1, Option.bind_some, Option.bind_some]
  by_cases h2 : op ≤ 38
  ·rw [decide_eq_true h2, if_pos rfl, if_pos rfl]
   have h3 : op = 31 ∨ op = 32 ∨ op = 33 ∨ op = 34 ∨ op = 35 ∨ op = 36 ∨ op = 37 ∨ op = 38 := by omega
   rcases h3 with rfl | rfl | rfl | rfl | rfl | rfl | rfl | rfl <;> exact ⟨_, rfl, by decide +kernel⟩
  ·rw [decide_eq_false h2]; exact ⟨_, rfl, rfl⟩
 ·rw [if_neg h1]; exact ⟨_, rfl, rfl⟩
theorem targetsV_len (op dst a b c n m site : Int) (l : List Int) : (targetsV op dst a b c n m site l).length < 1000 := by
 unfold targetsV
 repeat' split
 all_goals simp
end Go.Proofs.Ytgbpkbfghonllaa.Pure

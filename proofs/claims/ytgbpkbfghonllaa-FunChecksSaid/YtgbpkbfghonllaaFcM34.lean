/- A part of it. -/
import Derived.Test.YtgbpkbfghonllaaFcM33
import Derived.Test.YtgbpkbfghonllaaFcP4
import Derived.Test.YtgbpkbfghonllaaFcM29
import Derived.Test.YtgbpkbfghonllaaFcP10
import Derived.Test.YtgbpkbfghonllaaFcP11
import Derived.Outline
import Derived.Test.YtgbpkbfghonllaaFcP0
set_option linter.unusedVariables false
set_option linter.unusedSimpArgs false
namespace Go.Proofs.Ytgbpkbfghonllaa.P
open Go Go.RowKit Go.Proofs.YtgbpkbfghonllaaW.PrintWords Go.Proofs.YtgbpkbfghonllaaW.PrintLast Go.Proofs.YtgbpkbfghonllaaW.PrintMore Go.Proofs.Ytgbpkbfghonllaa.Pure
attribute [local go_sem] max2_int min2_int max_two min_two
def all_to (l : List Int) (p : Int → Bool) (b0 : Bool) (j : Nat) : Bool := b0 && (l.take j).all p
theorem all_to_zero (l : List Int) (p : Int → Bool) (b0 : Bool) : all_to l p b0 0 = b0 := by simp [all_to]
theorem all_to_all (l : List Int) (p : Int → Bool) (b0 : Bool) : all_to l p b0 l.length = (b0 && l.all p) := by simp [all_to]
theorem all_to_succ (l : List Int) (p : Int → Bool) (b0 : Bool) (j : Nat) (h : j < l.length) : all_to l p b0 (j + 1) = (all_to l p b0 j && p (l.getD j 0)) := by
 unfold all_to
 rw [List.take_add_one, List.all_append, ← Bool.and_assoc, List.getD_eq_getElem?_getD, List.getElem?_eq_getElem h]
 simp
theorem bd_meas2 (n j : Nat) (v : Int) (hv : v = ((j + 1 : Nat) : Int)) (h : j < n) : n - (intOf (.int .i64 v)).toNat < n - (intOf (.int .i64 (j : Int))).toNat := by
 subst hv
 show n - ((j + 1 : Nat) : Int).toNat < n - ((j : Nat) : Int).toNat
 omega
theorem usesI_le (x : S42) (h : x.f8.length < 100000) : (usesI x).length < 200000 := by
 unfold usesI usesV
 split
 ·have := usL_len x.f0 x.f6 x.f2 x.f3 x.f4 x.f8
  have e : usV x.f0 x.f2 x.f3 x.f4 x.f6 x.f8 = usL x.f0 x.f6 x.f2 x.f3 x.f4 x.f8 := rfl
  rw [e]; omega
 ·simp
theorem targetsI_le (x : S42) : (targetsI x).length ≤ 2 := by
 unfold targetsI targetsV
 (repeat' split) <;> simp
theorem right_f7 (x : S42) (h : rightI x = true) : 0 ≤ x.f7 := by
 unfold rightI rr_rightV at h
 simp only [Bool.and_eq_true] at h
 have := h.1.1.2
 unfold rr_fitsV at this
 simp only [Bool.or_eq_true, Bool.and_eq_true, decide_eq_true_eq] at this
 omega
theorem there_ends (op : Int) : (op = 39 ∧ True) ∨ (op ≠ 39 ∧ op = 44) ∨ (op ≠ 39 ∧ op ≠ 44 ∧ checkI op = true) ∨ (op ≠ 39 ∧ op ≠ 44 ∧ checkI op = false) := by
 by_cases h1 : op = 39
 ·exact .inl ⟨h1, trivial⟩
 ·by_cases h2 : op = 44
  ·exact .inr (.inl ⟨h1, h2⟩)
  ·cases h : checkI op
   ·exact .inr (.inr (.inr ⟨h1, h2, rfl⟩))
   ·exact .inr (.inr (.inl ⟨h1, h2, rfl⟩))
theorem quiet_of_drawn2 {P : Program} {f : Nat} {xs : Array Value} {w : World} {a n : Nat} {v : Value} (h : Calls P f xs (w.drewN (a + n)) fun e w' => e = .returned v ∧ Drawn0 (w.drewN (a + n)) w') : Calls P f xs (w.drewN (a + n)) fun e w'' => e = .returned v ∧ ∃ m, w'' = w.drewN (a + m) :=
 h.mono fun _ _ ⟨e_, ⟨m, hm⟩⟩ => ⟨e_, n + m, by rw [hm, World.drewN_drewN, Nat.add_assoc]⟩
set_option maxHeartbeats 16000000 in
theorem there_at (L : LA) (k : Nat) (x : S42) (A8 : Option Addr) (c8 : Nat) (w : World) (hL : LOk L w) (hk : k < L.pr.length) (hA : (Kd.int .i64).C w A8 x.f8.length x.f8) (hc : x.f8.length ≤ c8) (hl : x.f8.length < 100000) (hR : rightI x = true) :
  Calls Try.prog 54 #[.agg #[.slice L.Af L.fs.length L.cf, .int .i64 L.mn, .slice L.As L.ss.length L.cs, .string L.nm, .int .i64 L.ps, .int .i64 L.rt, .slice L.Ar L.rg.length L.cr, .slice L.Ab L.bl.length L.cb, .slice L.Aq L.pr.length L.cq], .int .i64 (k : Int), .agg #[.int .i64 x.f0, .int .i64 x.f1, .int .i64 x.f2, .int .i64 x.f3, .int .i64 x.f4, .int .i64 x.f5, .int .i64 x.f6, .int .i64 x.f7, .slice A8 x.f8.length c8]] w fun e w' => e = .returned (.int .i64 (if thereV L k x then 0 else 2)) ∧ Below w.heap.size w w' := by
 obtain ⟨res, hres⟩ : ∃ r : Int, (if thereV L k x then 0 else 2) = r := ⟨_, rfl⟩
 rw [hres]
 unfold thereV at hres
 obtain ⟨kD, hD⟩ := def_ev x hl
 obtain ⟨kU, hU⟩ := uses_ev x hl
 obtain ⟨kT, hT⟩ := targets_ev x hl
 have hu := usesI_le x hl
 have ht := targetsI_le x
 obtain ⟨dv, ed⟩ : ∃ r, defI x = r := ⟨_, rfl⟩
 obtain ⟨uv, eu⟩ : ∃ r, usesI x = r := ⟨_, rfl⟩
 obtain ⟨tv, et⟩ : ∃ r, targetsI x = r := ⟨_, rfl⟩
 rw [ed] at hD hres
 rw [eu] at hU hres hu
 rw [et] at hT hres ht
 have h7 := right_f7 x hR
 obtain ⟨B0, eB0⟩ : ∃ r, decide (dv < (L.rg.length : Int)) = r := ⟨_, rfl⟩
 rw [eB0] at hres
 have EB0 := Aside0.mk eB0
 have HD := Aside0.mk hD
 have HU := Aside0.mk hU
 have HT := Aside0.mk hT
 have HRES := Aside0.mk hres
 have LU := Aside0.mk hu
 have LT := Aside0.mk (show tv.length < 200000 by omega)
 have H7 := Aside0.mk h7
 have HK := Aside0.mk hk
 have HS := Aside0.mk (LSt.start hL hA hc)
 have HC := Aside0.mk (check_f x.f0)
 have HTR := Aside0.mk (trap_f x.f0)
 clear hres hD hU hT hu ht ed eu et h7 hR hL hA hc hl hk eB0
 go_enter Try.func54, Try.ntmps54
 go_upto_region 1 with (fail)
 generalize ((w.alloc (.cells #[.slice L.Af L.fs.length L.cf, .int .i64 L.mn, .slice L.As L.ss.length L.cs, .string L.nm, .int .i64 L.ps, .int .i64 L.rt, .slice L.Ar L.rg.length L.cr, .slice L.Ab L.bl.length L.cb, .slice L.Aq L.pr.length L.cq] 74)).alloc (.cells #[.int .i64 x.f0, .int .i64 x.f1, .int .i64 x.f2, .int .i64 x.f3, .int .i64 x.f4, .int .i64 x.f5, .int .i64 x.f6, .int .i64 x.f7, .slice A8 x.f8.length c8] 42)) = W at *
 go_region_held3 (fun w' => (w'.cell? ⟨w.heap.size, 0, none⟩ = some (.slice L.Af L.fs.length L.cf) ∧ w'.cell? ⟨w.heap.size, 1, none⟩ = some (.int .i64 L.mn) ∧ w'.cell? ⟨w.heap.size, 2, none⟩ = some (.slice L.As L.ss.length L.cs) ∧ w'.cell? ⟨w.heap.size, 3, none⟩ = some (.string L.nm) ∧ w'.cell? ⟨w.heap.size, 4, none⟩ = some (.int .i64 L.ps) ∧ w'.cell? ⟨w.heap.size, 5, none⟩ = some (.int .i64 L.rt) ∧ w'.cell? ⟨w.heap.size, 6, none⟩ = some (.slice L.Ar L.rg.length L.cr) ∧ w'.cell? ⟨w.heap.size, 7, none⟩ = some (.slice L.Ab L.bl.length L.cb) ∧ w'.cell? ⟨w.heap.size, 8, none⟩ = some (.slice L.Aq L.pr.length L.cq)) ∧ (w'.cell? ⟨w.heap.size + 1, 0, none⟩ = some (.int .i64 x.f0) ∧ w'.cell? ⟨w.heap.size + 1, 1, none⟩ = some (.int .i64 x.f1) ∧ w'.cell? ⟨w.heap.size + 1, 2, none⟩ = some (.int .i64 x.f2) ∧ w'.cell? ⟨w.heap.size + 1, 3, none⟩ = some (.int .i64 x.f3) ∧ w'.cell? ⟨w.heap.size + 1, 4, none⟩ = some (.int .i64 x.f4) ∧ w'.cell? ⟨w.heap.size + 1, 5, none⟩ = some (.int .i64 x.f5) ∧ w'.cell? ⟨w.heap.size + 1, 6, none⟩ = some (.int .i64 x.f6) ∧ w'.cell? ⟨w.heap.size + 1, 7, none⟩ = some (.int .i64 x.f7) ∧ w'.cell? ⟨w.heap.size + 1, 8, none⟩ = some (.slice A8 x.f8.length c8))) (first | exact ⟨HS.out.lc, HS.out.xc⟩ | exact ⟨HS.out.draw.lc, HS.out.draw.xc⟩ | go_keep) (first | (go_at_call 74; ((with_reducible refine (instr_Def.calls kD x.f0 x.f1 x.f2 x.f3 x.f4 x.f5 x.f6 x.f7 A8 c8 x.f8 dv _ (LSt.a (by first | exact HS.out | exact HS.out.draw | exact HS.out.drawN _)) HS.out.ac HD.out).mono ?_); rintro e w' ⟨rfl, hb⟩; (first | replace HS := Aside0.mk (HS.out.step hb) | replace HS := Aside0.mk (HS.out.draw.step hb) | replace HS := Aside0.mk ((HS.out.drawN _).step hb)); clear hb; obtain ⟨l0, l1, l2, l3, l4, l5, l6, l7, l8⟩ := HS.out.lc; obtain ⟨z0, z1, z2, z3, z4, z5, z6, z7, z8⟩ := HS.out.xc)) | (go_at_call 73; ((with_reducible refine (reg_at L dv _).mono ?_); rintro e w' ⟨rfl, hb⟩; (first | replace HS := Aside0.mk (HS.out.step hb) | replace HS := Aside0.mk (HS.out.draw.step hb) | replace HS := Aside0.mk ((HS.out.drawN _).step hb)); clear hb; obtain ⟨l0, l1, l2, l3, l4, l5, l6, l7, l8⟩ := HS.out.lc; obtain ⟨z0, z1, z2, z3, z4, z5, z6, z7, z8⟩ := HS.out.xc)))
 go_wp2_with ((go_at_call 75; ((with_reducible refine (instr_Uses.calls kU x.f0 x.f1 x.f2 x.f3 x.f4 x.f5 x.f6 x.f7 A8 c8 x.f8 uv _ (LSt.a (by first | exact HS.out | exact HS.out.draw | exact HS.out.drawN _)) HS.out.ac HU.out).mono ?_); rintro e w' ⟨v_, rfl, hR_, hb⟩; obtain ⟨Au, cu, rfl⟩ := Kd.R_slice hR_; have HR := Aside0.mk (Kd.R_reads' hR_).2.2; (first | replace HS := Aside0.mk (HS.out.step hb) | replace HS := Aside0.mk (HS.out.draw.step hb) | replace HS := Aside0.mk ((HS.out.drawN _).step hb)); clear hb hR_; obtain ⟨l0, l1, l2, l3, l4, l5, l6, l7, l8⟩ := HS.out.lc; obtain ⟨z0, z1, z2, z3, z4, z5, z6, z7, z8⟩ := HS.out.xc)))
 go_loopw [7, 19] (fun v7 v19 wr => ∃ (j : Nat) (b : Bool), v19 = .int .i64 (j : Int) ∧ v7 = .bool b ∧ Aside0 (j ≤ uv.length ∧ all_to uv (fun r => decide (r < (L.rg.length : Int))) B0 j = b) ∧ Aside0 (LSt w L x A8 c8 wr) ∧ Aside0 ((Kd.int .i64).C wr Au uv.length uv)) (fun v7 v19 wr => uv.length - (intOf v19).toNat)
 case atStart => exact ⟨0, B0, rfl, by rw [EB0.out], ⟨Nat.zero_le _, all_to_zero _ _ _⟩, HS, HR⟩
 case round =>
  clear HS HR
  obtain ⟨j, b, rfl, rfl, HJ, HS, HR⟩ := hrel
  obtain ⟨l0, l1, l2, l3, l4, l5, l6, l7, l8⟩ := HS.out.lc
  obtain ⟨z0, z1, z2, z3, z4, z5, z6, z7, z8⟩ := HS.out.xc
  by_cases hlt : j < uv.length
  ·have HLT := Aside0.mk hlt
   have t1 : decide ((j : Int) < (uv.length : Int)) = true := decide_eq_true (by omega)
   have t2 : decide (j < uv.length) = true := decide_eq_true hlt
   have p1 : (0 : Int) ≤ (j : Int) := by omega
   have p2 : (j : Int) < (uv.length : Int) := by omega
   have hwr : wrap64 ((j : Int) + 1) = ((j + 1 : Nat) : Int) := by have := LU.out; unfold wrap64; omega
   have HWR := Aside0.mk hwr
   clear hwr
   obtain ⟨q, eq_, cq⟩ := Kd.at_int HR.out (j : Int) p1 p2
   subst eq_
   rw [show rd uv (j : Int) = uv.getD j 0 from rfl] at cq
   (try simp only [Int.toNat_natCast] at cq)
   obtain ⟨y, hy⟩ : ∃ y, uv.getD j 0 = y := ⟨_, rfl⟩
   rw [hy] at cq
   have HJ2 : Aside0 (all_to uv (fun r => decide (r < (L.rg.length : Int))) B0 (j + 1) = (b && (fun r => decide (r < (L.rg.length : Int))) y)) := ⟨by rw [← HJ.out.2, ← hy]; exact all_to_succ _ _ _ _ hlt⟩
   clear hy
   cases b
   ·go_wp2
    go_round
    case rel => exact ⟨j + 1, false, by first | (rw [HWR.out]; done) | (rw [HWR.out]) | go_num, rfl, ⟨by have := HLT.out; omega, HJ2.out⟩, HS, HR⟩
    case measure => exact bd_meas2 _ _ _ (by first | exact HWR.out | omega) HLT.out
   ·go_wp2_with ((go_at_call 73; ((with_reducible refine (reg_at L y _).mono ?_); rintro e w' ⟨rfl, hb⟩; (first | replace HS := Aside0.mk (HS.out.step hb) | replace HS := Aside0.mk (HS.out.draw.step hb) | replace HS := Aside0.mk ((HS.out.drawN _).step hb)); replace HR := Aside0.mk (Kd.C_below HR.out hb); clear hb; obtain ⟨l0, l1, l2, l3, l4, l5, l6, l7, l8⟩ := HS.out.lc; obtain ⟨z0, z1, z2, z3, z4, z5, z6, z7, z8⟩ := HS.out.xc)))
    go_round
    case rel => exact ⟨j + 1, _, by first | (rw [HWR.out]; done) | (rw [HWR.out]) | go_num, rfl, ⟨by have := HLT.out; omega, by rw [HJ2.out]; rfl⟩, HS, HR⟩
    case measure => exact bd_meas2 _ _ _ (by first | exact HWR.out | omega) HLT.out
  have e_ : j = uv.length := by have := HJ.out.1; omega
  subst e_
  have t1 : decide ((uv.length : Int) < (uv.length : Int)) = false := decide_eq_false (by omega)
  have t2 : decide (uv.length < uv.length) = false := decide_eq_false (by omega)
  obtain ⟨B1, eB1⟩ : ∃ r, (B0 && uv.all (fun r => decide (r < (L.rg.length : Int)))) = r := ⟨_, rfl⟩
  have hj := HJ.out.2
  rw [all_to_all, eB1] at hj
  subst hj
  have EB1 := Aside0.mk eB1
  clear HR hlt  eB1 HJ
  go_wp2_with ((go_at_call 50; ((with_reducible refine (instr_Targets.calls kT x.f0 x.f1 x.f2 x.f3 x.f4 x.f5 x.f6 x.f7 A8 c8 x.f8 tv _ (LSt.a (by first | exact HS.out | exact HS.out.draw | exact HS.out.drawN _)) HS.out.ac HT.out).mono ?_); rintro e w' ⟨v_, rfl, hR_, hb⟩; obtain ⟨At, ct, rfl⟩ := Kd.R_slice hR_; have HR := Aside0.mk (Kd.R_reads' hR_).2.2; (first | replace HS := Aside0.mk (HS.out.step hb) | replace HS := Aside0.mk (HS.out.draw.step hb) | replace HS := Aside0.mk ((HS.out.drawN _).step hb)); clear hb hR_; obtain ⟨l0, l1, l2, l3, l4, l5, l6, l7, l8⟩ := HS.out.lc; obtain ⟨z0, z1, z2, z3, z4, z5, z6, z7, z8⟩ := HS.out.xc)))
  go_loopw [7, 33] (fun v7 v33 wr => ∃ (j : Nat) (b : Bool), v33 = .int .i64 (j : Int) ∧ v7 = .bool b ∧ Aside0 (j ≤ tv.length ∧ all_to tv (fun t => decide (0 < t) && decide (t < (L.bl.length : Int))) B1 j = b) ∧ Aside0 (LSt w L x A8 c8 wr) ∧ Aside0 ((Kd.int .i64).C wr At tv.length tv)) (fun v7 v33 wr => tv.length - (intOf v33).toNat)
  case atStart => exact ⟨0, B1, rfl, rfl, ⟨Nat.zero_le _, all_to_zero _ _ _⟩, HS, HR⟩
  case round =>
   clear HS HR
   obtain ⟨j, b, rfl, rfl, HJ, HS, HR⟩ := hrel
   obtain ⟨l0, l1, l2, l3, l4, l5, l6, l7, l8⟩ := HS.out.lc
   obtain ⟨z0, z1, z2, z3, z4, z5, z6, z7, z8⟩ := HS.out.xc
   by_cases hlt : j < tv.length
   ·have HLT := Aside0.mk hlt
    have t1 : decide ((j : Int) < (tv.length : Int)) = true := decide_eq_true (by omega)
    have t2 : decide (j < tv.length) = true := decide_eq_true hlt
    have p1 : (0 : Int) ≤ (j : Int) := by omega
    have p2 : (j : Int) < (tv.length : Int) := by omega
    have hwr : wrap64 ((j : Int) + 1) = ((j + 1 : Nat) : Int) := by have := LT.out; unfold wrap64; omega
    have HWR := Aside0.mk hwr
    clear hwr
    obtain ⟨q, eq_, cq⟩ := Kd.at_int HR.out (j : Int) p1 p2
    subst eq_
    rw [show rd tv (j : Int) = tv.getD j 0 from rfl] at cq
    (try simp only [Int.toNat_natCast] at cq)
    obtain ⟨y, hy⟩ : ∃ y, tv.getD j 0 = y := ⟨_, rfl⟩
    rw [hy] at cq
    have HJ2 : Aside0 (all_to tv (fun t => decide (0 < t) && decide (t < (L.bl.length : Int))) B1 (j + 1) = (b && (fun t => decide (0 < t) && decide (t < (L.bl.length : Int))) y)) := ⟨by rw [← HJ.out.2, ← hy]; exact all_to_succ _ _ _ _ hlt⟩
    clear hy
    cases b
    ·go_wp2
     go_round
     case rel => exact ⟨j + 1, false, by first | (rw [HWR.out]; done) | (rw [HWR.out]) | go_num, rfl, ⟨by have := HLT.out; omega, HJ2.out⟩, HS, HR⟩
     case measure => exact bd_meas2 _ _ _ (by first | exact HWR.out | omega) HLT.out
    ·go_wp2_with ((go_at_call 76; ((with_reducible refine (block_at L y _).mono ?_); rintro e w' ⟨rfl, hb⟩; (first | replace HS := Aside0.mk (HS.out.step hb) | replace HS := Aside0.mk (HS.out.draw.step hb) | replace HS := Aside0.mk ((HS.out.drawN _).step hb)); replace HR := Aside0.mk (Kd.C_below HR.out hb); clear hb; obtain ⟨l0, l1, l2, l3, l4, l5, l6, l7, l8⟩ := HS.out.lc; obtain ⟨z0, z1, z2, z3, z4, z5, z6, z7, z8⟩ := HS.out.xc)))
     go_round
     case rel => exact ⟨j + 1, _, by first | (rw [HWR.out]; done) | (rw [HWR.out]) | go_num, rfl, ⟨by have := HLT.out; omega, by rw [HJ2.out]; rfl⟩, HS, HR⟩
     case measure => exact bd_meas2 _ _ _ (by first | exact HWR.out | omega) HLT.out
   have e_ : j = tv.length := by have := HJ.out.1; omega
   subst e_
   have t1 : decide ((tv.length : Int) < (tv.length : Int)) = false := decide_eq_false (by omega)
   have t2 : decide (tv.length < tv.length) = false := decide_eq_false (by omega)
   obtain ⟨B2, eB2⟩ : ∃ r, (B1 && tv.all (fun t => decide (0 < t) && decide (t < (L.bl.length : Int)))) = r := ⟨_, rfl⟩
   have hj := HJ.out.2
   rw [all_to_all, eB2] at hj
   subst hj
   have hres := HRES.out
   rw [EB1.out, eB2] at hres
   have HRES := Aside0.mk hres
   clear HR hlt eB2 HJ hres
   rcases there_ends x.f0 with ⟨h1, _⟩ | ⟨h1, h2⟩ | ⟨h1, h2, h3⟩ | ⟨h1, h2, h3⟩
   ·have hres := HRES.out
    rw [if_pos h1] at hres
    obtain ⟨D, eD⟩ : ∃ r, decide (x.f5 < (L.fs.length : Int)) = r := ⟨_, rfl⟩
    rw [eD] at hres
    have s1 : (x.f0 == 39) = true := beq_iff_eq.mpr h1
    have HRES := Aside0.mk hres
    clear hres h1
    cases B2 <;> cases D
    all_goals
     go_wp2
     go_ret
     exact ⟨by rw [← HRES.out]; rfl, HS.out.B⟩
   ·have hres := HRES.out
    rw [if_neg h1, if_pos h2] at hres
    obtain ⟨pk, ep⟩ : ∃ r, L.pr.getD k 0 = r := ⟨_, rfl⟩
    obtain ⟨D, eD⟩ : ∃ r, decide ((x.f8.length : Int) = pk) = r := ⟨_, rfl⟩
    rw [ep, eD] at hres
    have s1 : (x.f0 == 39) = false := beq_eq_false_iff_ne.mpr h1
    have s2 : (x.f0 == 44) = true := beq_iff_eq.mpr h2
    have HRES := Aside0.mk hres
    have p1 : (0 : Int) ≤ (k : Int) := by omega
    have p2 : (k : Int) < (L.pr.length : Int) := by have := HK.out; omega
    obtain ⟨qa, ea, ca⟩ := Kd.at_int HS.out.l.q (k : Int) p1 p2
    rw [ea] at l8
    rw [show rd L.pr (k : Int) = L.pr.getD k 0 from rfl, ep] at ca
    (try simp only [Int.toNat_natCast] at ca)
    have s3 : ((x.f8.length : Int) == pk) = D := by rw [← eD, Bool.eq_iff_iff]; simp
    clear hres h1 h2 eD ea ep
    cases B2 <;> cases D
    all_goals
     go_upto_region 15 with (fail)
     go_quiet (fail)
     go_wp2
     go_ret
     exact ⟨by rw [← HRES.out]; rfl, by first | exact HS.out.B | exact (HS.out.drawN _).B | (rw [← World.drewN_drewN]; exact (HS.out.drawN _).B)⟩
   ·have hres := HRES.out
    rw [if_neg h1, if_neg h2, if_pos h3] at hres
    obtain ⟨D, eD⟩ : ∃ r, decide (x.f7 < (L.ss.length : Int)) = r := ⟨_, rfl⟩
    obtain ⟨M, eM⟩ : ∃ r, decide ((rd_T48 L.ss x.f7).f0 = trapI x.f0) = r := ⟨_, rfl⟩
    obtain ⟨tr, etr⟩ : ∃ r, trapI x.f0 = r := ⟨_, rfl⟩
    rw [eD, eM] at hres
    rw [etr] at eM
    have htr := HTR.out
    rw [etr] at htr
    have HTR := Aside0.mk htr
    have hc_ := HC.out
    rw [h3] at hc_
    have HC := Aside0.mk hc_
    have s1 : (x.f0 == 39) = false := beq_eq_false_iff_ne.mpr h1
    have s2 : (x.f0 == 44) = false := beq_eq_false_iff_ne.mpr h2
    have s3 : ((rd_T48 L.ss x.f7).f0 == tr) = M := by rw [← eM, Bool.eq_iff_iff]; simp
    have s4 : (0 : Int) ≤ x.f7 := H7.out
    have HRES := Aside0.mk hres
    clear hres h1 h2 h3 eM etr hc_ htr
    go_upto_region 17 with ((go_at_call 77; ((with_reducible refine (instr_Check.calls x.f0 _ _ HC.out).mono ?_); rintro e w' ⟨rfl, ⟨nd, rfl⟩⟩)))
    cases B2
    ·go_quiet (fail)
     go_wp2
     go_ret
     exact ⟨by rw [← HRES.out]; rfl, by first | exact HS.out.B | exact (HS.out.drawN _).B | (rw [← World.drewN_drewN]; exact (HS.out.drawN _).B)⟩
    cases D
    ·go_quiet (fail)
     go_wp2
     go_ret
     exact ⟨by rw [← HRES.out]; rfl, by first | exact HS.out.B | exact (HS.out.drawN _).B | (rw [← World.drewN_drewN]; exact (HS.out.drawN _).B)⟩
    have s5 : x.f7 < (L.ss.length : Int) := of_decide_eq_true eD
    obtain ⟨sa, es, cs0, cs1⟩ := at_T48 HS.out.l.s x.f7 s4 s5
    rw [es] at l2
    cases M
    all_goals
     go_quiet ((go_at_call 78; exact quiet_of_drawn2 (instr_Trap.calls x.f0 tr _ HTR.out)))
     go_wp2
     go_ret
     exact ⟨by rw [← HRES.out]; rfl, by first | exact HS.out.B | exact (HS.out.drawN _).B | (rw [← World.drewN_drewN]; exact (HS.out.drawN _).B)⟩
   ·have hres := HRES.out
    rw [if_neg h1, if_neg h2, h3, if_neg Bool.false_ne_true] at hres
    have hc_ := HC.out
    rw [h3] at hc_
    have HC := Aside0.mk hc_
    have s1 : (x.f0 == 39) = false := beq_eq_false_iff_ne.mpr h1
    have s2 : (x.f0 == 44) = false := beq_eq_false_iff_ne.mpr h2
    have HRES := Aside0.mk hres
    clear hres h1 h2 h3 hc_
    cases B2
    all_goals
     go_wp2_with ((go_at_call 77; ((with_reducible refine (instr_Check.calls x.f0 _ _ HC.out).mono ?_); rintro e w' ⟨rfl, ⟨nd, rfl⟩⟩)))
     go_ret
     exact ⟨by rw [← HRES.out]; rfl, by first | exact HS.out.B | exact (HS.out.drawN _).B | (rw [← World.drewN_drewN]; exact (HS.out.drawN _).B)⟩
end Go.Proofs.Ytgbpkbfghonllaa.P
set_option linter.unusedVariables false
set_option linter.unusedSimpArgs false
namespace Go.Proofs.Ytgbpkbfghonllaa.P
open Go Go.RowKit Go.Proofs.YtgbpkbfghonllaaW.PrintWords Go.Proofs.YtgbpkbfghonllaaW.PrintLast Go.Proofs.YtgbpkbfghonllaaW.PrintMore Go.Proofs.Ytgbpkbfghonllaa.Pure
attribute [local go_sem] max2_int min2_int max_two min_two
theorem kc_lit (W : World) (l : List Int) (hm : l.length ≤ 1000) : (Kd.int .i64).C (W.alloc (.cells (nums .i64 l).toArray 3)) (some ⟨W.heap.size, 0, none⟩) l.length l := by
 have h := own_lit W 0 3 .i64 l (Nat.zero_le _) (by omega)
 have h2 : (W.alloc (.cells (nums .i64 l).toArray 3)).ownsRow 0 3 1 (.slice (some ⟨W.heap.size, 0, none⟩) l.length l.length) l.length (encs (Value.int .i64) l) := h
 exact (Kd.R_reads' (Kd.R_of_own (ok := fun _ => True) (h1 := fun _ => rfl) h2 (fun _ _ => trivial))).2.2
theorem kc_nil {w W : World} {k : Int} (hb : Below w.heap.size w W) : ∃ (A : Option Addr) (c : Nat), Ending.returned (.tuple #[.int .i64 k, .slice none 0 0]) = .returned (.tuple #[.int .i64 k, .slice A ([] : List Int).length c]) ∧ (Kd.int .i64).C W A ([] : List Int).length [] ∧ ([] : List Int).length ≤ c ∧ Below w.heap.size w W :=
 ⟨_, _, rfl, Kd.C_nil _ _, Nat.le_refl _, hb⟩
def piV (x : S42) : Int × List Int := if x.f6 = 21 then (3, [3]) else if x.f6 = 20 then (1, [1, 3]) else (1, [1, 1])
set_option maxHeartbeats 4000000 in
theorem pi_at (L : LA) (x : S42) (A8 : Option Addr) (c8 : Nat) (w : World) (hL : LOk L w) (hA : (Kd.int .i64).C w A8 x.f8.length x.f8) (hc : x.f8.length ≤ c8) (kq : Int) (rq : List Int) (hq : piV x = (kq, rq)) :
  Calls Try.prog 90 #[.agg #[.slice L.Af L.fs.length L.cf, .int .i64 L.mn, .slice L.As L.ss.length L.cs, .string L.nm, .int .i64 L.ps, .int .i64 L.rt, .slice L.Ar L.rg.length L.cr, .slice L.Ab L.bl.length L.cb, .slice L.Aq L.pr.length L.cq], .agg #[.int .i64 x.f0, .int .i64 x.f1, .int .i64 x.f2, .int .i64 x.f3, .int .i64 x.f4, .int .i64 x.f5, .int .i64 x.f6, .int .i64 x.f7, .slice A8 x.f8.length c8]] w fun e w' => ∃ (A : Option Addr) (c : Nat), e = .returned (.tuple #[.int .i64 kq, .slice A (rq).length c]) ∧ (Kd.int .i64).C w' A (rq).length (rq) ∧ (rq).length ≤ c ∧ Below w.heap.size w w' := by
 unfold piV at hq
 have HS := Aside0.mk (LSt.start hL hA hc)
 clear hL hA hc
 by_cases h1 : x.f6 = 21
 ·rw [if_pos h1] at hq
  cases hq
  have s1 : (x.f6 == 21) = true := beq_iff_eq.mpr h1
  clear h1
  go_enter Try.func90, Try.ntmps90
  go_upto_region 1 with (fail)
  generalize ((w.alloc (.cells #[.slice L.Af L.fs.length L.cf, .int .i64 L.mn, .slice L.As L.ss.length L.cs, .string L.nm, .int .i64 L.ps, .int .i64 L.rt, .slice L.Ar L.rg.length L.cr, .slice L.Ab L.bl.length L.cb, .slice L.Aq L.pr.length L.cq] 74)).alloc (.cells #[.int .i64 x.f0, .int .i64 x.f1, .int .i64 x.f2, .int .i64 x.f3, .int .i64 x.f4, .int .i64 x.f5, .int .i64 x.f6, .int .i64 x.f7, .slice A8 x.f8.length c8] 42)) = W at *
  obtain ⟨l0, l1, l2, l3, l4, l5, l6, l7, l8⟩ := HS.out.lc; obtain ⟨z0, z1, z2, z3, z4, z5, z6, z7, z8⟩ := HS.out.xc
  go_wp2
  go_ret2
  exact ⟨_, _, rfl, kc_lit _ [3] (by simp), Nat.le_refl _, below_alloc HS.out.B _⟩
 rw [if_neg h1] at hq
 have s1 : (x.f6 == 21) = false := beq_eq_false_iff_ne.mpr h1
 by_cases h2 : x.f6 = 20
 ·rw [if_pos h2] at hq
  cases hq
  have s2 : (x.f6 == 20) = true := beq_iff_eq.mpr h2
  clear h2
  go_enter Try.func90, Try.ntmps90
  go_upto_region 1 with (fail)
  generalize ((w.alloc (.cells #[.slice L.Af L.fs.length L.cf, .int .i64 L.mn, .slice L.As L.ss.length L.cs, .string L.nm, .int .i64 L.ps, .int .i64 L.rt, .slice L.Ar L.rg.length L.cr, .slice L.Ab L.bl.length L.cb, .slice L.Aq L.pr.length L.cq] 74)).alloc (.cells #[.int .i64 x.f0, .int .i64 x.f1, .int .i64 x.f2, .int .i64 x.f3, .int .i64 x.f4, .int .i64 x.f5, .int .i64 x.f6, .int .i64 x.f7, .slice A8 x.f8.length c8] 42)) = W at *
  obtain ⟨l0, l1, l2, l3, l4, l5, l6, l7, l8⟩ := HS.out.lc; obtain ⟨z0, z1, z2, z3, z4, z5, z6, z7, z8⟩ := HS.out.xc
  go_wp2
  go_ret2
  exact ⟨_, _, rfl, kc_lit _ [1, 3] (by simp), Nat.le_refl _, below_alloc HS.out.B _⟩
 rw [if_neg h2] at hq
 have s2 : (x.f6 == 20) = false := beq_eq_false_iff_ne.mpr h2
 cases hq
 go_enter Try.func90, Try.ntmps90
 go_upto_region 1 with (fail)
 generalize ((w.alloc (.cells #[.slice L.Af L.fs.length L.cf, .int .i64 L.mn, .slice L.As L.ss.length L.cs, .string L.nm, .int .i64 L.ps, .int .i64 L.rt, .slice L.Ar L.rg.length L.cr, .slice L.Ab L.bl.length L.cb, .slice L.Aq L.pr.length L.cq] 74)).alloc (.cells #[.int .i64 x.f0, .int .i64 x.f1, .int .i64 x.f2, .int .i64 x.f3, .int .i64 x.f4, .int .i64 x.f5, .int .i64 x.f6, .int .i64 x.f7, .slice A8 x.f8.length c8] 42)) = W at *
 obtain ⟨l0, l1, l2, l3, l4, l5, l6, l7, l8⟩ := HS.out.lc; obtain ⟨z0, z1, z2, z3, z4, z5, z6, z7, z8⟩ := HS.out.xc
 go_wp2
 go_ret2
 exact ⟨_, _, rfl, kc_lit _ [1, 1] (by simp), Nat.le_refl _, below_alloc HS.out.B _⟩
theorem rep_f (q : Int) (n : Nat) (h : n < 1000000) : slices_Repeat_int_int.f [q] (n : Int) = some (List.replicate n q) := by
 unfold slices_Repeat_int_int.f
 rw [if_pos ⟨rfl, by omega, by omega⟩]
 rfl
theorem kinds_ends (op : Int) (h : 3 ≤ op ∧ op ≤ 45 ∧ ¬ (16 < op ∧ op < 20)) : (op = 3 ∨ op = 4) ∨ (5 ≤ op ∧ op ≤ 8) ∨ (9 ≤ op ∧ op ≤ 16) ∨ op = 20 ∨ op = 21 ∨ op = 22 ∨ op = 23 ∨ op = 25 ∨ op = 26 ∨ op = 27 ∨ op = 28 ∨ op = 29 ∨ op = 30 ∨ op = 31 ∨ op = 32 ∨ op = 39 ∨ op = 42 ∨ op = 43 ∨ op = 41 ∨ op = 44 ∨ op = 45 ∨ (op = 24 ∨ op = 40 ∨ (33 ≤ op ∧ op ≤ 38)) := by omega
set_option maxHeartbeats 16000000 in
set_option maxRecDepth 100000 in
theorem kinds_at (L : LA) (x : S42) (A8 : Option Addr) (c8 : Nat) (w : World) (hL : LOk L w) (hA : (Kd.int .i64).C w A8 x.f8.length x.f8) (hc : x.f8.length ≤ c8) (hl : x.f8.length < 100000) (hop : 3 ≤ x.f0 ∧ x.f0 ≤ 45 ∧ ¬ (16 < x.f0 ∧ x.f0 < 20)) (h2 : x.f0 = 3 ∨ x.f0 = 4 ∨ x.f0 = 23 → 0 ≤ x.f2 ∧ x.f2 < (L.rg.length : Int)) (h1 : x.f0 = 44 → 0 ≤ x.f1 ∧ x.f1 < (L.rg.length : Int)) (h5 : x.f0 = 39 → 0 ≤ x.f5 ∧ x.f5 < (L.fs.length : Int)) (kq : Int) (rq : List Int) (hq : kindsV L x = (kq, rq)) :
  Calls Try.prog 79 #[.agg #[.slice L.Af L.fs.length L.cf, .int .i64 L.mn, .slice L.As L.ss.length L.cs, .string L.nm, .int .i64 L.ps, .int .i64 L.rt, .slice L.Ar L.rg.length L.cr, .slice L.Ab L.bl.length L.cb, .slice L.Aq L.pr.length L.cq], .agg #[.int .i64 x.f0, .int .i64 x.f1, .int .i64 x.f2, .int .i64 x.f3, .int .i64 x.f4, .int .i64 x.f5, .int .i64 x.f6, .int .i64 x.f7, .slice A8 x.f8.length c8]] w fun e w' => ∃ (A : Option Addr) (c : Nat), e = .returned (.tuple #[.int .i64 kq, .slice A (rq).length c]) ∧ (Kd.int .i64).C w' A (rq).length (rq) ∧ (rq).length ≤ c ∧ Below w.heap.size w w' := by
 have HS := Aside0.mk (LSt.start hL hA hc)
 have HL := Aside0.mk hl
 clear hL hA hc hl
 go_enter Try.func79, Try.ntmps79
 go_upto_region 1 with (fail)
 generalize ((w.alloc (.cells #[.slice L.Af L.fs.length L.cf, .int .i64 L.mn, .slice L.As L.ss.length L.cs, .string L.nm, .int .i64 L.ps, .int .i64 L.rt, .slice L.Ar L.rg.length L.cr, .slice L.Ab L.bl.length L.cb, .slice L.Aq L.pr.length L.cq] 74)).alloc (.cells #[.int .i64 x.f0, .int .i64 x.f1, .int .i64 x.f2, .int .i64 x.f3, .int .i64 x.f4, .int .i64 x.f5, .int .i64 x.f6, .int .i64 x.f7, .slice A8 x.f8.length c8] 42)) = W at *
 obtain ⟨l0, l1, l2, l3, l4, l5, l6, l7, l8⟩ := HS.out.lc
 obtain ⟨z0, z1, z2, z3, z4, z5, z6, z7, z8⟩ := HS.out.xc
 rcases kinds_ends x.f0 hop with h | h | h | h | h | h | h | h | h | h | h | h | h | h | h | h | h | h | h | h | h | h
 ·have hrg := h2 (by omega)
  unfold kindsV at hq
  rw [if_pos h] at hq
  cases hq
  clear hop h1 h2 h5
  obtain ⟨qr, er, cr_⟩ := Kd.at_int HS.out.l.r x.f2 hrg.1 hrg.2
  rw [er] at l6
  have p1 := hrg.1
  have p2 := hrg.2
  clear hrg er
  have s1 : (x.f0 == 4) = !(x.f0 == 3) := by
   rcases h with h | h <;> rw [h] <;> rfl
  rcases h with h | h
  all_goals
   go_wp2
   go_ret2
   exact ⟨_, _, rfl, kc_lit _ [rd L.rg x.f2, rd L.rg x.f2] (by simp), Nat.le_refl _, below_alloc HS.out.B _⟩
 ·unfold kindsV at hq
  rw [if_neg (by omega), if_pos (by omega)] at hq
  cases hq
  clear hop h1 h2 h5
  have s1 : (x.f0 == 3) = false := beq_eq_false_iff_ne.mpr (by omega)
  have s2 : (x.f0 == 4) = false := beq_eq_false_iff_ne.mpr (by omega)
  have s3 : decide (x.f0 ≤ 8) = true := decide_eq_true (by omega)
  have s4 : decide (x.f0 ≤ 16) = true := decide_eq_true (by omega)
  go_wp2
  go_ret2
  exact ⟨_, _, rfl, kc_lit _ [1, 1] (by simp), Nat.le_refl _, below_alloc HS.out.B _⟩
 ·unfold kindsV at hq
  rw [if_neg (by omega), if_neg (by omega), if_pos (by omega)] at hq
  cases hq
  clear hop h1 h2 h5
  have s1 : (x.f0 == 3) = false := beq_eq_false_iff_ne.mpr (by omega)
  have s2 : (x.f0 == 4) = false := beq_eq_false_iff_ne.mpr (by omega)
  have s3 : decide (x.f0 ≤ 8) = false := decide_eq_false (by omega)
  have s4 : decide (x.f0 ≤ 16) = true := decide_eq_true (by omega)
  go_wp2
  go_ret2
  exact ⟨_, _, rfl, kc_lit _ [1, 1] (by simp), Nat.le_refl _, below_alloc HS.out.B _⟩
 ·unfold kindsV at hq
  repeat (first | rw [if_pos (by omega)] at hq | rw [if_neg (by omega)] at hq)
  cases hq
  clear hop h1 h2 h5
  go_wp2
  go_ret2
  exact kc_nil HS.out.B
 ·unfold kindsV at hq
  repeat (first | rw [if_pos (by omega)] at hq | rw [if_neg (by omega)] at hq)
  cases hq
  clear hop h1 h2 h5
  go_wp2
  go_ret2
  exact kc_nil HS.out.B
 ·unfold kindsV at hq
  repeat (first | rw [if_pos (by omega)] at hq | rw [if_neg (by omega)] at hq)
  cases hq
  clear hop h1 h2 h5
  go_wp2
  go_ret2
  exact kc_nil HS.out.B
 ·have hrg := h2 (by omega)
  unfold kindsV at hq
  repeat (first | rw [if_pos (by omega)] at hq | rw [if_neg (by omega)] at hq)
  cases hq
  clear hop h1 h2 h5
  obtain ⟨qr, er, cr_⟩ := Kd.at_int HS.out.l.r x.f2 hrg.1 hrg.2
  rw [er] at l6
  have p1 := hrg.1
  have p2 := hrg.2
  clear hrg er
  go_upto_region 17 with (fail)
  clear h
  go_region_held3 (fun w' => w'.cell? ⟨w.heap.size, 6, none⟩ = some (.slice (some qr) L.rg.length L.cr) ∧ w'.cell? ⟨w.heap.size + 1, 2, none⟩ = some (.int .i64 x.f2) ∧ w'.cell? (qr.add x.f2.toNat) = some (.int .i64 (rd L.rg x.f2))) (first | exact ⟨l6, z2, cr_⟩ | go_keep) (fail)
  all_goals
   go_wp2
   go_ret2
   exact ⟨_, _, rfl, kc_lit _ [rd L.rg x.f2] (by simp), Nat.le_refl _, below_drew (below_alloc HS.out.B _)⟩
 ·unfold kindsV at hq
  repeat (first | rw [if_pos (by omega)] at hq | rw [if_neg (by omega)] at hq)
  cases hq
  clear hop h1 h2 h5
  go_wp2
  go_ret2
  exact ⟨_, _, rfl, kc_lit _ [2] (by simp), Nat.le_refl _, below_alloc HS.out.B _⟩
 ·unfold kindsV at hq
  repeat (first | rw [if_pos (by omega)] at hq | rw [if_neg (by omega)] at hq)
  cases hq
  clear hop h1 h2 h5
  go_wp2
  go_ret2
  exact ⟨_, _, rfl, kc_lit _ [3] (by simp), Nat.le_refl _, below_alloc HS.out.B _⟩
 ·unfold kindsV at hq
  repeat (first | rw [if_pos (by omega)] at hq | rw [if_neg (by omega)] at hq)
  cases hq
  clear hop h1 h2 h5
  go_wp2
  go_ret2
  exact ⟨_, _, rfl, kc_lit _ [3] (by simp), Nat.le_refl _, below_alloc HS.out.B _⟩
 ·unfold kindsV at hq
  repeat (first | rw [if_pos (by omega)] at hq | rw [if_neg (by omega)] at hq)
  cases hq
  clear hop h1 h2 h5
  go_wp2
  go_ret2
  exact ⟨_, _, rfl, kc_lit _ [1] (by simp), Nat.le_refl _, below_alloc HS.out.B _⟩
 ·unfold kindsV at hq
  repeat (first | rw [if_pos (by omega)] at hq | rw [if_neg (by omega)] at hq)
  cases hq
  clear hop h1 h2 h5
  go_wp2
  go_ret2
  exact ⟨_, _, rfl, kc_lit _ [3, 1] (by simp), Nat.le_refl _, below_alloc HS.out.B _⟩
 ·unfold kindsV at hq
  repeat (first | rw [if_pos (by omega)] at hq | rw [if_neg (by omega)] at hq)
  cases hq
  clear hop h1 h2 h5
  go_wp2
  go_ret2
  exact ⟨_, _, rfl, kc_lit _ [3, 1, 1] (by simp), Nat.le_refl _, below_alloc HS.out.B _⟩
 ·unfold kindsV at hq
  repeat (first | rw [if_pos (by omega)] at hq | rw [if_neg (by omega)] at hq)
  cases hq
  clear hop h1 h2 h5
  go_wp2
  go_ret2
  exact ⟨_, _, rfl, kc_lit _ [3] (by simp), Nat.le_refl _, below_alloc HS.out.B _⟩
 ·unfold kindsV at hq
  repeat (first | rw [if_pos (by omega)] at hq | rw [if_neg (by omega)] at hq)
  cases hq
  clear hop h1 h2 h5
  go_wp2
  go_ret2
  exact ⟨_, _, rfl, kc_lit _ [3, 1] (by simp), Nat.le_refl _, below_alloc HS.out.B _⟩
 ·have hfs := h5 h
  unfold kindsV at hq
  repeat (first | rw [if_pos (by omega)] at hq | rw [if_neg (by omega)] at hq)
  clear hop h1 h2 h5
  have p1 := hfs.1
  have p2 := hfs.2
  obtain ⟨qf, f3, c3, f4, c4, ef, y0, y1, y2, y3, y4, ly3, Cy3, ly4, Cy4⟩ := at_T39 HS.out.l.f x.f5 hfs.1 hfs.2
  rw [ef] at l0
  obtain ⟨fn_, efn⟩ : ∃ r, rd_T39 L.fs x.f5 = r := ⟨_, rfl⟩
  rw [efn] at y0 y1 y2 y3 y4 ly3 Cy3 ly4 Cy4
  rw [efn] at hq
  clear ef efn hfs
  have CY := Aside0.mk Cy3
  have LY := Aside0.mk ly3
  clear Cy3 Cy4 ly3 ly4
  obtain ⟨ps, eps⟩ : ∃ r, fn_.f1 = r := ⟨_, rfl⟩
  rw [eps] at y1
  obtain ⟨n3, en3⟩ : ∃ r, fn_.f3.length = r := ⟨_, rfl⟩
  obtain ⟨i3, hi3, _⟩ := Option.map_eq_some_iff.1 info3
  have hcut : ∀ j : Int, 0 ≤ j → j ≤ n3 → ∀ W : World, (Instr.slice 36 (.slice f3 n3 c3) none (some (.int .i64 j)) none).run Try.prog W = .ok (.slice f3 j.toNat c3) W := fun j h0 h1 => cut_to 36 3 .i64 Try.underlying36 hi3 f3 n3 c3 j h0 h1 (by rw [← en3]; exact LY.out)
  have htake : ∀ j : Int, 0 ≤ j → j ≤ n3 → ∀ W1, Below W.heap.size W W1 → (Kd.int .i64).C W1 f3 (fn_.f3.take j.toNat).length (fn_.f3.take j.toNat) ∧ (fn_.f3.take j.toNat).length = j.toNat := fun j h0 h1 W1 hb => ⟨Kd.C_take (Kd.C_below CY.out hb) (by omega), by rw [List.length_take]; omega⟩
  have hn3 : (0 : Int) ≤ (n3 : Int) := by omega
  rw [eps, en3] at hq
  have hj : max 0 (min ps (n3 : Int)) = (if 0 < (if (n3 : Int) < ps then (n3 : Int) else ps) then (if (n3 : Int) < ps then (n3 : Int) else ps) else 0) := by
   (repeat' split) <;> omega
  rw [hj] at hq
  obtain ⟨m1, em1⟩ : ∃ r, (if (n3 : Int) < ps then (n3 : Int) else ps) = r := ⟨_, rfl⟩
  rw [em1] at hq
  have hm1 : m1 ≤ n3 := by rw [← em1]; split <;> omega
  obtain ⟨m2, em2⟩ : ∃ r, (if 0 < m1 then m1 else 0) = r := ⟨_, rfl⟩
  rw [em2] at hq
  cases hq
  have hm2 : 0 ≤ m2 ∧ m2 ≤ n3 := by rw [← em2]; constructor <;> split <;> omega
  rw [en3] at y3
  have hc2 := hcut m2 hm2.1 hm2.2
  have ht2 := htake m2 hm2.1 hm2.2
  have EM1 := Aside0.mk em1
  have EM2 := Aside0.mk em2
  have HT2 := Aside0.mk ht2
  have HM2 := Aside0.mk (show m2.toNat ≤ c3 by have := LY.out; omega)
  have em1_ := EM1.out
  have em2_ := EM2.out
  clear hcut htake hn3 hj hm1 hm2 hi3 ht2 em1 em2
  go_upto_region 36 with (fail)
  have BF := blk_new W (.cells #[.string fn_.f0, .int .i64 ps, .int .i64 fn_.f2, .slice f3 n3 c3, .slice f4 fn_.f4.length c4] 39)
  have q1 := blk_cell BF 1
  have q2 := blk_cell BF 2
  have q3 := blk_cell BF 3
  simp only [List.getElem?_toArray, List.getElem?_cons_zero, List.getElem?_cons_succ] at q1 q2 q3
  have HB3 := Aside0.mk (below_alloc (Below.refl W.heap.size W) (.cells #[.string fn_.f0, .int .i64 ps, .int .i64 fn_.f2, .slice f3 n3 c3, .slice f4 fn_.f4.length c4] 39))
  go_quiet (fail)
  go_wp2
  go_ret2
  exact ⟨f3, c3, by rw [(HT2.out W (Below.refl _ _)).2]; rfl, (HT2.out _ (pw_below_drewN HB3.out _)).1, by rw [(HT2.out W (Below.refl _ _)).2]; exact HM2.out, below_step HS.out.B (pw_below_drewN HB3.out _)⟩
 ·unfold kindsV at hq
  repeat (first | rw [if_pos (by omega)] at hq | rw [if_neg (by omega)] at hq)
  cases hq
  clear hop h1 h2 h5
  go_wp2
  go_ret2
  exact ⟨_, _, rfl, kc_lit _ [2] (by simp), Nat.le_refl _, below_alloc HS.out.B _⟩
 ·unfold kindsV at hq
  repeat (first | rw [if_pos (by omega)] at hq | rw [if_neg (by omega)] at hq)
  cases hq
  clear hop h1 h2 h5
  go_upto_region 40 with (fail)
  clear h
  go_region_held3 (fun w' => w'.cell? ⟨w.heap.size, 5, none⟩ = some (.int .i64 L.rt)) (first | exact l5 | go_keep) (fail)
  all_goals
   go_wp2
   go_ret2
   exact ⟨_, _, rfl, kc_lit _ [L.rt] (by simp), Nat.le_refl _, below_drew (below_alloc HS.out.B _)⟩
 ·unfold kindsV at hq
  repeat (first | rw [if_pos (by omega)] at hq | rw [if_neg (by omega)] at hq)
  cases hq
  clear hop h1 h2 h5
  go_wp2
  go_ret2
  exact kc_nil HS.out.B
 ·have hrg := h1 h
  unfold kindsV at hq
  repeat (first | rw [if_pos (by omega)] at hq | rw [if_neg (by omega)] at hq)
  cases hq
  clear hop h1 h2 h5
  obtain ⟨qr, er, cr_⟩ := Kd.at_int HS.out.l.r x.f1 hrg.1 hrg.2
  rw [er] at l6
  have p1 := hrg.1
  have p2 := hrg.2
  clear hrg er
  have HKL : Aside0 ((Kd.int .i64).C (W.alloc (.cells #[.int .i64 (rd L.rg x.f1)] 3)) (some ⟨W.heap.size, 0, none⟩) [rd L.rg x.f1].length [rd L.rg x.f1]) := ⟨kc_lit W [rd L.rg x.f1] (by simp)⟩
  have HRP : Aside0 (slices_Repeat_int_int.f [rd L.rg x.f1] (x.f8.length : Int) = some (List.replicate x.f8.length (rd L.rg x.f1))) := ⟨rep_f _ _ (by have := HL.out; omega)⟩
  have z8_ := pw_cell_below (below_alloc (Below.refl _ _) (.cells #[.int .i64 (rd L.rg x.f1)] 3)) z8
  go_wp2_with ((go_at_call 89; ((refine (slices_Repeat_int_int.calls (some ⟨W.heap.size, 0, none⟩) 1 [rd L.rg x.f1] (x.f8.length : Int) _ _ HKL.out (Nat.le_refl _) HRP.out).mono ?_); rintro e w'' ⟨v_, rfl, hR_, hb⟩; obtain ⟨Az, cz, rfl⟩ := Kd.R_slice hR_; have HRZ := Aside0.mk (Kd.R_reads' hR_).2; have HBZ := Aside0.mk (below_step (below_alloc HS.out.B _) hb); clear hb hR_)))
  go_ret2
  exact ⟨Az, cz, by first | rfl | (rw [List.length_replicate]; rfl), HRZ.out.2, HRZ.out.1, HBZ.out⟩
 ·unfold kindsV at hq
  repeat (first | rw [if_pos (by omega)] at hq | rw [if_neg (by omega)] at hq)
  have HQ := Aside0.mk (show piV x = (kq, rq) from hq)
  have g1 : (x.f0 == 3) = false ∧ (x.f0 == 4) = false ∧ decide (x.f0 ≤ 8) = false ∧ decide (x.f0 ≤ 16) = false ∧ (x.f0 == 20) = false ∧ (x.f0 == 21) = false ∧ (x.f0 == 22) = false ∧ (x.f0 == 23) = false ∧ (x.f0 == 25) = false ∧ (x.f0 == 26) = false ∧ (x.f0 == 27) = false ∧ (x.f0 == 28) = false ∧ (x.f0 == 29) = false ∧ (x.f0 == 30) = false ∧ (x.f0 == 31) = false ∧ (x.f0 == 32) = false ∧ (x.f0 == 39) = false ∧ (x.f0 == 42) = false ∧ (x.f0 == 43) = false ∧ (x.f0 == 41) = false ∧ (x.f0 == 44) = false ∧ (x.f0 == 45) = true := by
   rw [h]
   decide
  obtain ⟨g1, g2, g3, g4, g5, g6, g7, g8, g9, g10, g11, g12, g13, g14, g15, g16, g17, g18, g19, g20, g21, g22⟩ := g1
  clear hop h1 h2 h5 hq h
  go_wp2_with ((go_at_call 90; ((with_reducible refine (pi_at L x A8 c8 _ HS.out.l HS.out.a HS.out.ac kq rq HQ.out).mono ?_); rintro e w'' ⟨Az, cz, rfl, hR_, hc_, hb⟩; have HRZ := Aside0.mk (And.intro hR_ hc_); have HBZ := Aside0.mk (below_step HS.out.B hb); clear hb hR_ hc_)))
  go_ret2
  exact ⟨_, _, rfl, HRZ.out.1, HRZ.out.2, HBZ.out⟩
 ·unfold kindsV at hq
  repeat (first | rw [if_pos (by omega)] at hq | rw [if_neg (by omega)] at hq)
  obtain ⟨kU, hU⟩ := uses_ev x HL.out
  have hul := usesI_le x HL.out
  obtain ⟨uv, eu⟩ : ∃ r, usesI x = r := ⟨_, rfl⟩
  rw [eu] at hU hul hq
  cases hq
  clear hop h1 h2 h5 eu
  have HU := Aside0.mk hU
  have HKL : Aside0 ((Kd.int .i64).C (W.alloc (.cells #[.int .i64 1] 3)) (some ⟨W.heap.size, 0, none⟩) [(1 : Int)].length [1]) := ⟨kc_lit W [1] (by simp)⟩
  have HRP : Aside0 (slices_Repeat_int_int.f [1] (uv.length : Int) = some (List.replicate uv.length 1)) := ⟨rep_f _ _ (by omega)⟩
  have HS1 := Aside0.mk (HS.out.step (below_alloc (Below.refl _ _) (.cells #[.int .i64 1] 3)))
  clear hU hul
  have f1 : ∀ n : Int, (n = 24 ∨ n = 40 ∨ 33 ≤ n ∧ n ≤ 38) → (n == 3) = false ∧ (n == 4) = false ∧ decide (n ≤ 8) = false ∧ decide (n ≤ 16) = false ∧ (n == 20) = false ∧ (n == 21) = false ∧ (n == 22) = false ∧ (n == 23) = false ∧ (n == 25) = false ∧ (n == 26) = false ∧ (n == 27) = false ∧ (n == 28) = false ∧ (n == 29) = false ∧ (n == 30) = false ∧ (n == 31) = false ∧ (n == 32) = false ∧ (n == 39) = false ∧ (n == 42) = false ∧ (n == 43) = false ∧ (n == 41) = false ∧ (n == 44) = false ∧ (n == 45) = false := by
   intro n hn
   refine ⟨?_, ?_, ?_, ?_, ?_, ?_, ?_, ?_, ?_, ?_, ?_, ?_, ?_, ?_, ?_, ?_, ?_, ?_, ?_, ?_, ?_, ?_⟩
   all_goals first | exact decide_eq_false (by omega) | exact beq_eq_false_iff_ne.mpr (by omega)
  obtain ⟨g1, g2, g3, g4, g5, g6, g7, g8, g9, g10, g11, g12, g13, g14, g15, g16, g17, g18, g19, g20, g21, g22⟩ := f1 _ h
  clear f1 h
  obtain ⟨z0_, z1_, z2_, z3_, z4_, z5_, z6_, z7_, z8_⟩ := HS1.out.xc
  go_wp2_with (first | (go_at_call 75; ((with_reducible refine (instr_Uses.calls kU x.f0 x.f1 x.f2 x.f3 x.f4 x.f5 x.f6 x.f7 A8 c8 x.f8 uv _ HS1.out.a HS1.out.ac HU.out).mono ?_); rintro e w' ⟨v_, rfl, hR_, hb⟩; obtain ⟨Au, cu, rfl⟩ := Kd.R_slice hR_; have HS2 := Aside0.mk (HS1.out.step hb); have HKL2 := Aside0.mk (Kd.C_below HKL.out hb); clear hb hR_)) | (go_at_call 89; ((refine (slices_Repeat_int_int.calls (some ⟨W.heap.size, 0, none⟩) 1 [1] (uv.length : Int) _ _ HKL2.out (Nat.le_refl _) HRP.out).mono ?_); rintro e w'' ⟨v_, rfl, hR_, hb⟩; obtain ⟨Az, cz, rfl⟩ := Kd.R_slice hR_; have HRZ := Aside0.mk (Kd.R_reads' hR_).2; have HBZ := Aside0.mk (below_step HS2.out.B hb); clear hb hR_)))
  go_ret2
  exact ⟨Az, cz, by first | rfl | (rw [List.length_replicate]; rfl), HRZ.out.2, HRZ.out.1, HBZ.out⟩
end Go.Proofs.Ytgbpkbfghonllaa.P

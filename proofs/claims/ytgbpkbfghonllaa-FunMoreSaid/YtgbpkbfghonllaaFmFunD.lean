/- A part of it. -/
import Derived.Test.YtgbpkbfghonllaaFmFunC
import Derived.Test.YtgbpkbfghonllaaFmM21
import Derived.Test.YtgbpkbfghonllaaFmP9
import Derived.Test.YtgbpkbfghonllaaFmP10
import Derived.Test.YtgbpkbfghonllaaFmP11
import Derived.Outline
set_option linter.unusedVariables false
set_option linter.unusedSimpArgs false
namespace Go.Proofs.Ytgbpkbfghonllaa.P
open Go Go.RowKit Go.Proofs.YtgbpkbfghonllaaW.PrintWords Go.Proofs.YtgbpkbfghonllaaW.PrintLast Go.Proofs.YtgbpkbfghonllaaW.PrintMore Go.Proofs.Ytgbpkbfghonllaa.Pure
attribute [local go_sem] max2_int min2_int max_two min_two
def all_to (l : List Int) (p : Int → Bool) (b0 : Bool) (j : Nat) : Bool := b0 && (l.take j).all p
theorem all_to_zero (l : List Int) (p : Int → Bool) (b0 : Bool) : all_to l p b0 0 = b0 := by simp [all_to]
theorem all_to_all (l : List Int) (p : Int → Bool) (b0 : Bool) : all_to l p b0 l.length = (b0 && l.all p) := by simp [all_to]
theorem all_to_succ (l : List Int) (p : Int → Bool) (b0 : Bool) (j : Nat) (h : j < l.length) : all_to l p b0 (j + 1) = (all_to l p b0 j && p (l.getD j 0)) := by
 unfold all_to
 rw [List.take_add_one, List.all_append, ← Bool.and_assoc, List.getD_eq_getElem?_getD, List.getElem?_eq_getElem h]
 simp
theorem bd_meas2 (n j : Nat) (v : Int) (hv : v = ((j + 1 : Nat) : Int)) (h : j < n) : n - (intOf (.int .i64 v)).toNat < n - (intOf (.int .i64 (j : Int))).toNat := by
 subst hv
 show n - ((j + 1 : Nat) : Int).toNat < n - ((j : Nat) : Int).toNat
 omega
theorem usesI_le (x : S42) (h : x.f8.length < 100000) : (usesI x).length < 200000 := by
 unfold usesI usesV
 split
 ·have := usL_len x.f0 x.f6 x.f2 x.f3 x.f4 x.f8
  have e : usV x.f0 x.f2 x.f3 x.f4 x.f6 x.f8 = usL x.f0 x.f6 x.f2 x.f3 x.f4 x.f8 := rfl
  rw [e]; omega
 ·simp
theorem targetsI_le (x : S42) : (targetsI x).length ≤ 2 := by
 unfold targetsI targetsV
 (repeat' split) <;> simp
theorem right_f7 (x : S42) (h : rightI x = true) : 0 ≤ x.f7 := by
 unfold rightI rr_rightV at h
 simp only [Bool.and_eq_true] at h
 have := h.1.1.2
 unfold rr_fitsV at this
 simp only [Bool.or_eq_true, Bool.and_eq_true, decide_eq_true_eq] at this
 omega
theorem there_ends (op : Int) : (op = 39 ∧ True) ∨ (op ≠ 39 ∧ op = 44) ∨ (op ≠ 39 ∧ op ≠ 44 ∧ checkI op = true) ∨ (op ≠ 39 ∧ op ≠ 44 ∧ checkI op = false) := by
 by_cases h1 : op = 39
 ·exact .inl ⟨h1, trivial⟩
 ·by_cases h2 : op = 44
  ·exact .inr (.inl ⟨h1, h2⟩)
  ·cases h : checkI op
   ·exact .inr (.inr (.inr ⟨h1, h2, rfl⟩))
   ·exact .inr (.inr (.inl ⟨h1, h2, rfl⟩))
theorem quiet_of_drawn2 {P : Program} {f : Nat} {xs : Array Value} {w : World} {a n : Nat} {v : Value} (h : Calls P f xs (w.drewN (a + n)) fun e w' => e = .returned v ∧ Drawn0 (w.drewN (a + n)) w') : Calls P f xs (w.drewN (a + n)) fun e w'' => e = .returned v ∧ ∃ m, w'' = w.drewN (a + m) :=
 h.mono fun _ _ ⟨e_, ⟨m, hm⟩⟩ => ⟨e_, n + m, by rw [hm, World.drewN_drewN, Nat.add_assoc]⟩
set_option maxHeartbeats 16000000 in
theorem there_at (L : LA) (k : Nat) (x : S42) (A8 : Option Addr) (c8 : Nat) (w : World) (hL : LOk L w) (hk : k < L.pr.length) (hA : (Kd.int .i64).C w A8 x.f8.length x.f8) (hc : x.f8.length ≤ c8) (hl : x.f8.length < 100000) (hR : rightI x = true) :
  Calls Try.prog 54 #[.agg #[.slice L.Af L.fs.length L.cf, .int .i64 L.mn, .slice L.As L.ss.length L.cs, .string L.nm, .int .i64 L.ps, .int .i64 L.rt, .slice L.Ar L.rg.length L.cr, .slice L.Ab L.bl.length L.cb, .slice L.Aq L.pr.length L.cq], .int .i64 (k : Int), .agg #[.int .i64 x.f0, .int .i64 x.f1, .int .i64 x.f2, .int .i64 x.f3, .int .i64 x.f4, .int .i64 x.f5, .int .i64 x.f6, .int .i64 x.f7, .slice A8 x.f8.length c8]] w fun e w' => e = .returned (.int .i64 (if thereV L k x then 0 else 2)) ∧ Below w.heap.size w w' := by
 obtain ⟨res, hres⟩ : ∃ r : Int, (if thereV L k x then 0 else 2) = r := ⟨_, rfl⟩
 rw [hres]
 unfold thereV at hres
 obtain ⟨kD, hD⟩ := def_ev x hl
 obtain ⟨kU, hU⟩ := uses_ev x hl
 obtain ⟨kT, hT⟩ := targets_ev x hl
 have hu := usesI_le x hl
 have ht := targetsI_le x
 obtain ⟨dv, ed⟩ : ∃ r, defI x = r := ⟨_, rfl⟩
 obtain ⟨uv, eu⟩ : ∃ r, usesI x = r := ⟨_, rfl⟩
 obtain ⟨tv, et⟩ : ∃ r, targetsI x = r := ⟨_, rfl⟩
 rw [ed] at hD hres
 rw [eu] at hU hres hu
 rw [et] at hT hres ht
 have h7 := right_f7 x hR
 obtain ⟨B0, eB0⟩ : ∃ r, decide (dv < (L.rg.length : Int)) = r := ⟨_, rfl⟩
 rw [eB0] at hres
 have EB0 := Aside0.mk eB0
 have HD := Aside0.mk hD
 have HU := Aside0.mk hU
 have HT := Aside0.mk hT
 have HRES := Aside0.mk hres
 have LU := Aside0.mk hu
 have LT := Aside0.mk (show tv.length < 200000 by omega)
 have H7 := Aside0.mk h7
 have HK := Aside0.mk hk
 have HS := Aside0.mk (LSt.start hL hA hc)
 have HC := Aside0.mk (check_f x.f0)
 have HTR := Aside0.mk (trap_f x.f0)
 clear hres hD hU hT hu ht ed eu et h7 hR hL hA hc hl hk eB0
 go_enter Try.func54, Try.ntmps54
 go_upto_region 1 with (fail)
 generalize ((w.alloc (.cells #[.slice L.Af L.fs.length L.cf, .int .i64 L.mn, .slice L.As L.ss.length L.cs, .string L.nm, .int .i64 L.ps, .int .i64 L.rt, .slice L.Ar L.rg.length L.cr, .slice L.Ab L.bl.length L.cb, .slice L.Aq L.pr.length L.cq] 74)).alloc (.cells #[.int .i64 x.f0, .int .i64 x.f1, .int .i64 x.f2, .int .i64 x.f3, .int .i64 x.f4, .int .i64 x.f5, .int .i64 x.f6, .int .i64 x.f7, .slice A8 x.f8.length c8] 42)) = W at *
 go_region_held3 (fun w' => (w'.cell? ⟨w.heap.size, 0, none⟩ = some (.slice L.Af L.fs.length L.cf) ∧ w'.cell? ⟨w.heap.size, 1, none⟩ = some (.int .i64 L.mn) ∧ w'.cell? ⟨w.heap.size, 2, none⟩ = some (.slice L.As L.ss.length L.cs) ∧ w'.cell? ⟨w.heap.size, 3, none⟩ = some (.string L.nm) ∧ w'.cell? ⟨w.heap.size, 4, none⟩ = some (.int .i64 L.ps) ∧ w'.cell? ⟨w.heap.size, 5, none⟩ = some (.int .i64 L.rt) ∧ w'.cell? ⟨w.heap.size, 6, none⟩ = some (.slice L.Ar L.rg.length L.cr) ∧ w'.cell? ⟨w.heap.size, 7, none⟩ = some (.slice L.Ab L.bl.length L.cb) ∧ w'.cell? ⟨w.heap.size, 8, none⟩ = some (.slice L.Aq L.pr.length L.cq)) ∧ (w'.cell? ⟨w.heap.size + 1, 0, none⟩ = some (.int .i64 x.f0) ∧ w'.cell? ⟨w.heap.size + 1, 1, none⟩ = some (.int .i64 x.f1) ∧ w'.cell? ⟨w.heap.size + 1, 2, none⟩ = some (.int .i64 x.f2) ∧ w'.cell? ⟨w.heap.size + 1, 3, none⟩ = some (.int .i64 x.f3) ∧ w'.cell? ⟨w.heap.size + 1, 4, none⟩ = some (.int .i64 x.f4) ∧ w'.cell? ⟨w.heap.size + 1, 5, none⟩ = some (.int .i64 x.f5) ∧ w'.cell? ⟨w.heap.size + 1, 6, none⟩ = some (.int .i64 x.f6) ∧ w'.cell? ⟨w.heap.size + 1, 7, none⟩ = some (.int .i64 x.f7) ∧ w'.cell? ⟨w.heap.size + 1, 8, none⟩ = some (.slice A8 x.f8.length c8))) (first | exact ⟨HS.out.lc, HS.out.xc⟩ | exact ⟨HS.out.draw.lc, HS.out.draw.xc⟩ | go_keep) (first | (go_at_call 74; ((with_reducible refine (instr_Def.calls kD x.f0 x.f1 x.f2 x.f3 x.f4 x.f5 x.f6 x.f7 A8 c8 x.f8 dv _ (LSt.a (by first | exact HS.out | exact HS.out.draw | exact HS.out.drawN _)) HS.out.ac HD.out).mono ?_); rintro e w' ⟨rfl, hb⟩; (first | replace HS := Aside0.mk (HS.out.step hb) | replace HS := Aside0.mk (HS.out.draw.step hb) | replace HS := Aside0.mk ((HS.out.drawN _).step hb)); clear hb; obtain ⟨l0, l1, l2, l3, l4, l5, l6, l7, l8⟩ := HS.out.lc; obtain ⟨z0, z1, z2, z3, z4, z5, z6, z7, z8⟩ := HS.out.xc)) | (go_at_call 73; ((with_reducible refine (reg_at L dv _).mono ?_); rintro e w' ⟨rfl, hb⟩; (first | replace HS := Aside0.mk (HS.out.step hb) | replace HS := Aside0.mk (HS.out.draw.step hb) | replace HS := Aside0.mk ((HS.out.drawN _).step hb)); clear hb; obtain ⟨l0, l1, l2, l3, l4, l5, l6, l7, l8⟩ := HS.out.lc; obtain ⟨z0, z1, z2, z3, z4, z5, z6, z7, z8⟩ := HS.out.xc)))
 go_wp2_with ((go_at_call 75; ((with_reducible refine (instr_Uses.calls kU x.f0 x.f1 x.f2 x.f3 x.f4 x.f5 x.f6 x.f7 A8 c8 x.f8 uv _ (LSt.a (by first | exact HS.out | exact HS.out.draw | exact HS.out.drawN _)) HS.out.ac HU.out).mono ?_); rintro e w' ⟨v_, rfl, hR_, hb⟩; obtain ⟨Au, cu, rfl⟩ := Kd.R_slice hR_; have HR := Aside0.mk (Kd.R_reads' hR_).2.2; (first | replace HS := Aside0.mk (HS.out.step hb) | replace HS := Aside0.mk (HS.out.draw.step hb) | replace HS := Aside0.mk ((HS.out.drawN _).step hb)); clear hb hR_; obtain ⟨l0, l1, l2, l3, l4, l5, l6, l7, l8⟩ := HS.out.lc; obtain ⟨z0, z1, z2, z3, z4, z5, z6, z7, z8⟩ := HS.out.xc)))
 go_loopw [7, 19] (fun v7 v19 wr => ∃ (j : Nat) (b : Bool), v19 = .int .i64 (j : Int) ∧ v7 = .bool b ∧ Aside0 (j ≤ uv.length ∧ all_to uv (fun r => decide (r < (L.rg.length : Int))) B0 j = b) ∧ Aside0 (LSt w L x A8 c8 wr) ∧ Aside0 ((Kd.int .i64).C wr Au uv.length uv)) (fun v7 v19 wr => uv.length - (intOf v19).toNat)
 case atStart => exact ⟨0, B0, rfl, by rw [EB0.out], ⟨Nat.zero_le _, all_to_zero _ _ _⟩, HS, HR⟩
 case round =>
  clear HS HR
  obtain ⟨j, b, rfl, rfl, HJ, HS, HR⟩ := hrel
  obtain ⟨l0, l1, l2, l3, l4, l5, l6, l7, l8⟩ := HS.out.lc
  obtain ⟨z0, z1, z2, z3, z4, z5, z6, z7, z8⟩ := HS.out.xc
  by_cases hlt : j < uv.length
  ·have HLT := Aside0.mk hlt
   have t1 : decide ((j : Int) < (uv.length : Int)) = true := decide_eq_true (by omega)
   have t2 : decide (j < uv.length) = true := decide_eq_true hlt
   have p1 : (0 : Int) ≤ (j : Int) := by omega
   have p2 : (j : Int) < (uv.length : Int) := by omega
   have hwr : wrap64 ((j : Int) + 1) = ((j + 1 : Nat) : Int) := by have := LU.out; unfold wrap64; omega
   have HWR := Aside0.mk hwr
   clear hwr
   obtain ⟨q, eq_, cq⟩ := Kd.at_int HR.out (j : Int) p1 p2
   subst eq_
   rw [show rd uv (j : Int) = uv.getD j 0 from rfl] at cq
   (try simp only [Int.toNat_natCast] at cq)
   obtain ⟨y, hy⟩ : ∃ y, uv.getD j 0 = y := ⟨_, rfl⟩
   rw [hy] at cq
   have HJ2 : Aside0 (all_to uv (fun r => decide (r < (L.rg.length : Int))) B0 (j + 1) = (b && (fun r => decide (r < (L.rg.length : Int))) y)) := ⟨by rw [← HJ.out.2, ← hy]; exact all_to_succ _ _ _ _ hlt⟩
   clear hy
   cases b
   ·go_wp2
    go_round
    case rel => exact ⟨j + 1, false, by first | (rw [HWR.out]; done) | (rw [HWR.out]) | go_num, rfl, ⟨by have := HLT.out; omega, HJ2.out⟩, HS, HR⟩
    case measure => exact bd_meas2 _ _ _ (by first | exact HWR.out | omega) HLT.out
   ·go_wp2_with ((go_at_call 73; ((with_reducible refine (reg_at L y _).mono ?_); rintro e w' ⟨rfl, hb⟩; (first | replace HS := Aside0.mk (HS.out.step hb) | replace HS := Aside0.mk (HS.out.draw.step hb) | replace HS := Aside0.mk ((HS.out.drawN _).step hb)); replace HR := Aside0.mk (Kd.C_below HR.out hb); clear hb; obtain ⟨l0, l1, l2, l3, l4, l5, l6, l7, l8⟩ := HS.out.lc; obtain ⟨z0, z1, z2, z3, z4, z5, z6, z7, z8⟩ := HS.out.xc)))
    go_round
    case rel => exact ⟨j + 1, _, by first | (rw [HWR.out]; done) | (rw [HWR.out]) | go_num, rfl, ⟨by have := HLT.out; omega, by rw [HJ2.out]; rfl⟩, HS, HR⟩
    case measure => exact bd_meas2 _ _ _ (by first | exact HWR.out | omega) HLT.out
  have e_ : j = uv.length := by have := HJ.out.1; omega
  subst e_
  have t1 : decide ((uv.length : Int) < (uv.length : Int)) = false := decide_eq_false (by omega)
  have t2 : decide (uv.length < uv.length) = false := decide_eq_false (by omega)
  obtain ⟨B1, eB1⟩ : ∃ r, (B0 && uv.all (fun r => decide (r < (L.rg.length : Int)))) = r := ⟨_, rfl⟩
  have hj := HJ.out.2
  rw [all_to_all, eB1] at hj
  subst hj
  have EB1 := Aside0.mk eB1
  clear HR hlt  eB1 HJ
  go_wp2_with ((go_at_call 50; ((with_reducible refine (instr_Targets.calls kT x.f0 x.f1 x.f2 x.f3 x.f4 x.f5 x.f6 x.f7 A8 c8 x.f8 tv _ (LSt.a (by first | exact HS.out | exact HS.out.draw | exact HS.out.drawN _)) HS.out.ac HT.out).mono ?_); rintro e w' ⟨v_, rfl, hR_, hb⟩; obtain ⟨At, ct, rfl⟩ := Kd.R_slice hR_; have HR := Aside0.mk (Kd.R_reads' hR_).2.2; (first | replace HS := Aside0.mk (HS.out.step hb) | replace HS := Aside0.mk (HS.out.draw.step hb) | replace HS := Aside0.mk ((HS.out.drawN _).step hb)); clear hb hR_; obtain ⟨l0, l1, l2, l3, l4, l5, l6, l7, l8⟩ := HS.out.lc; obtain ⟨z0, z1, z2, z3, z4, z5, z6, z7, z8⟩ := HS.out.xc)))
  go_loopw [7, 33] (fun v7 v33 wr => ∃ (j : Nat) (b : Bool), v33 = .int .i64 (j : Int) ∧ v7 = .bool b ∧ Aside0 (j ≤ tv.length ∧ all_to tv (fun t => decide (0 < t) && decide (t < (L.bl.length : Int))) B1 j = b) ∧ Aside0 (LSt w L x A8 c8 wr) ∧ Aside0 ((Kd.int .i64).C wr At tv.length tv)) (fun v7 v33 wr => tv.length - (intOf v33).toNat)
  case atStart => exact ⟨0, B1, rfl, rfl, ⟨Nat.zero_le _, all_to_zero _ _ _⟩, HS, HR⟩
  case round =>
   clear HS HR
   obtain ⟨j, b, rfl, rfl, HJ, HS, HR⟩ := hrel
   obtain ⟨l0, l1, l2, l3, l4, l5, l6, l7, l8⟩ := HS.out.lc
   obtain ⟨z0, z1, z2, z3, z4, z5, z6, z7, z8⟩ := HS.out.xc
   by_cases hlt : j < tv.length
   ·have HLT := Aside0.mk hlt
    have t1 : decide ((j : Int) < (tv.length : Int)) = true := decide_eq_true (by omega)
    have t2 : decide (j < tv.length) = true := decide_eq_true hlt
    have p1 : (0 : Int) ≤ (j : Int) := by omega
    have p2 : (j : Int) < (tv.length : Int) := by omega
    have hwr : wrap64 ((j : Int) + 1) = ((j + 1 : Nat) : Int) := by have := LT.out; unfold wrap64; omega
    have HWR := Aside0.mk hwr
    clear hwr
    obtain ⟨q, eq_, cq⟩ := Kd.at_int HR.out (j : Int) p1 p2
    subst eq_
    rw [show rd tv (j : Int) = tv.getD j 0 from rfl] at cq
    (try simp only [Int.toNat_natCast] at cq)
    obtain ⟨y, hy⟩ : ∃ y, tv.getD j 0 = y := ⟨_, rfl⟩
    rw [hy] at cq
    have HJ2 : Aside0 (all_to tv (fun t => decide (0 < t) && decide (t < (L.bl.length : Int))) B1 (j + 1) = (b && (fun t => decide (0 < t) && decide (t < (L.bl.length : Int))) y)) := ⟨by rw [← HJ.out.2, ← hy]; exact all_to_succ _ _ _ _ hlt⟩
    clear hy
    cases b
    ·go_wp2
     go_round
     case rel => exact ⟨j + 1, false, by first | (rw [HWR.out]; done) | (rw [HWR.out]) | go_num, rfl, ⟨by have := HLT.out; omega, HJ2.out⟩, HS, HR⟩
     case measure => exact bd_meas2 _ _ _ (by first | exact HWR.out | omega) HLT.out
    ·go_wp2_with ((go_at_call 76; ((with_reducible refine (block_at L y _).mono ?_); rintro e w' ⟨rfl, hb⟩; (first | replace HS := Aside0.mk (HS.out.step hb) | replace HS := Aside0.mk (HS.out.draw.step hb) | replace HS := Aside0.mk ((HS.out.drawN _).step hb)); replace HR := Aside0.mk (Kd.C_below HR.out hb); clear hb; obtain ⟨l0, l1, l2, l3, l4, l5, l6, l7, l8⟩ := HS.out.lc; obtain ⟨z0, z1, z2, z3, z4, z5, z6, z7, z8⟩ := HS.out.xc)))
     go_round
     case rel => exact ⟨j + 1, _, by first | (rw [HWR.out]; done) | (rw [HWR.out]) | go_num, rfl, ⟨by have := HLT.out; omega, by rw [HJ2.out]; rfl⟩, HS, HR⟩
     case measure => exact bd_meas2 _ _ _ (by first | exact HWR.out | omega) HLT.out
   have e_ : j = tv.length := by have := HJ.out.1; omega
   subst e_
   have t1 : decide ((tv.length : Int) < (tv.length : Int)) = false := decide_eq_false (by omega)
   have t2 : decide (tv.length < tv.length) = false := decide_eq_false (by omega)
   obtain ⟨B2, eB2⟩ : ∃ r, (B1 && tv.all (fun t => decide (0 < t) && decide (t < (L.bl.length : Int)))) = r := ⟨_, rfl⟩
   have hj := HJ.out.2
   rw [all_to_all, eB2] at hj
   subst hj
   have hres := HRES.out
   rw [EB1.out, eB2] at hres
   have HRES := Aside0.mk hres
   clear HR hlt eB2 HJ hres
   rcases there_ends x.f0 with ⟨h1, _⟩ | ⟨h1, h2⟩ | ⟨h1, h2, h3⟩ | ⟨h1, h2, h3⟩
   ·have hres := HRES.out
    rw [if_pos h1] at hres
    obtain ⟨D, eD⟩ : ∃ r, decide (x.f5 < (L.fs.length : Int)) = r := ⟨_, rfl⟩
    rw [eD] at hres
    have s1 : (x.f0 == 39) = true := beq_iff_eq.mpr h1
    have HRES := Aside0.mk hres
    clear hres h1
    cases B2 <;> cases D
    all_goals
     go_wp2
     go_ret
     exact ⟨by rw [← HRES.out]; rfl, HS.out.B⟩
   ·have hres := HRES.out
    rw [if_neg h1, if_pos h2] at hres
    obtain ⟨pk, ep⟩ : ∃ r, L.pr.getD k 0 = r := ⟨_, rfl⟩
    obtain ⟨D, eD⟩ : ∃ r, decide ((x.f8.length : Int) = pk) = r := ⟨_, rfl⟩
    rw [ep, eD] at hres
    have s1 : (x.f0 == 39) = false := beq_eq_false_iff_ne.mpr h1
    have s2 : (x.f0 == 44) = true := beq_iff_eq.mpr h2
    have HRES := Aside0.mk hres
    have p1 : (0 : Int) ≤ (k : Int) := by omega
    have p2 : (k : Int) < (L.pr.length : Int) := by have := HK.out; omega
    obtain ⟨qa, ea, ca⟩ := Kd.at_int HS.out.l.q (k : Int) p1 p2
    rw [ea] at l8
    rw [show rd L.pr (k : Int) = L.pr.getD k 0 from rfl, ep] at ca
    (try simp only [Int.toNat_natCast] at ca)
    have s3 : ((x.f8.length : Int) == pk) = D := by rw [← eD, Bool.eq_iff_iff]; simp
    clear hres h1 h2 eD ea ep
    cases B2 <;> cases D
    all_goals
     go_upto_region 15 with (fail)
     go_quiet (fail)
     go_wp2
     go_ret
     exact ⟨by rw [← HRES.out]; rfl, by first | exact HS.out.B | exact (HS.out.drawN _).B | (rw [← World.drewN_drewN]; exact (HS.out.drawN _).B)⟩
   ·have hres := HRES.out
    rw [if_neg h1, if_neg h2, if_pos h3] at hres
    obtain ⟨D, eD⟩ : ∃ r, decide (x.f7 < (L.ss.length : Int)) = r := ⟨_, rfl⟩
    obtain ⟨M, eM⟩ : ∃ r, decide ((rd_T48 L.ss x.f7).f0 = trapI x.f0) = r := ⟨_, rfl⟩
    obtain ⟨tr, etr⟩ : ∃ r, trapI x.f0 = r := ⟨_, rfl⟩
    rw [eD, eM] at hres
    rw [etr] at eM
    have htr := HTR.out
    rw [etr] at htr
    have HTR := Aside0.mk htr
    have hc_ := HC.out
    rw [h3] at hc_
    have HC := Aside0.mk hc_
    have s1 : (x.f0 == 39) = false := beq_eq_false_iff_ne.mpr h1
    have s2 : (x.f0 == 44) = false := beq_eq_false_iff_ne.mpr h2
    have s3 : ((rd_T48 L.ss x.f7).f0 == tr) = M := by rw [← eM, Bool.eq_iff_iff]; simp
    have s4 : (0 : Int) ≤ x.f7 := H7.out
    have HRES := Aside0.mk hres
    clear hres h1 h2 h3 eM etr hc_ htr
    go_upto_region 17 with ((go_at_call 77; ((with_reducible refine (instr_Check.calls x.f0 _ _ HC.out).mono ?_); rintro e w' ⟨rfl, ⟨nd, rfl⟩⟩)))
    cases B2
    ·go_quiet (fail)
     go_wp2
     go_ret
     exact ⟨by rw [← HRES.out]; rfl, by first | exact HS.out.B | exact (HS.out.drawN _).B | (rw [← World.drewN_drewN]; exact (HS.out.drawN _).B)⟩
    cases D
    ·go_quiet (fail)
     go_wp2
     go_ret
     exact ⟨by rw [← HRES.out]; rfl, by first | exact HS.out.B | exact (HS.out.drawN _).B | (rw [← World.drewN_drewN]; exact (HS.out.drawN _).B)⟩
    have s5 : x.f7 < (L.ss.length : Int) := of_decide_eq_true eD
    obtain ⟨sa, es, cs0, cs1⟩ := at_T48 HS.out.l.s x.f7 s4 s5
    rw [es] at l2
    cases M
    all_goals
     go_quiet ((go_at_call 78; exact quiet_of_drawn2 (instr_Trap.calls x.f0 tr _ HTR.out)))
     go_wp2
     go_ret
     exact ⟨by rw [← HRES.out]; rfl, by first | exact HS.out.B | exact (HS.out.drawN _).B | (rw [← World.drewN_drewN]; exact (HS.out.drawN _).B)⟩
   ·have hres := HRES.out
    rw [if_neg h1, if_neg h2, h3, if_neg Bool.false_ne_true] at hres
    have hc_ := HC.out
    rw [h3] at hc_
    have HC := Aside0.mk hc_
    have s1 : (x.f0 == 39) = false := beq_eq_false_iff_ne.mpr h1
    have s2 : (x.f0 == 44) = false := beq_eq_false_iff_ne.mpr h2
    have HRES := Aside0.mk hres
    clear hres h1 h2 h3 hc_
    cases B2
    all_goals
     go_wp2_with ((go_at_call 77; ((with_reducible refine (instr_Check.calls x.f0 _ _ HC.out).mono ?_); rintro e w' ⟨rfl, ⟨nd, rfl⟩⟩)))
     go_ret
     exact ⟨by rw [← HRES.out]; rfl, by first | exact HS.out.B | exact (HS.out.drawN _).B | (rw [← World.drewN_drewN]; exact (HS.out.drawN _).B)⟩
end Go.Proofs.Ytgbpkbfghonllaa.P

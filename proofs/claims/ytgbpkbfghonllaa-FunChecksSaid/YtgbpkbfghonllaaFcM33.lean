/- A part of it. -/
import Derived.Test.YtgbpkbfghonllaaFcInstrB
import Derived.Test.YtgbpkbfghonllaaFcP4
import Derived.Test.YtgbpkbfghonllaaFcP8
import Derived.Test.YtgbpkbfghonllaaFcM29
import Derived.Test.YtgbpkbfghonllaaFcP10
import Derived.Test.YtgbpkbfghonllaaFcP11
import Derived.Outline
set_option linter.unusedVariables false
set_option linter.unusedSimpArgs false
namespace Go.Proofs.Ytgbpkbfghonllaa.P
open Go Go.RowKit Go.Proofs.YtgbpkbfghonllaaW.PrintWords Go.Proofs.YtgbpkbfghonllaaW.PrintLast Go.Proofs.YtgbpkbfghonllaaW.PrintMore Go.Proofs.Ytgbpkbfghonllaa.Pure
attribute [local go_sem] max2_int min2_int max_two min_two
def rightI (x : S42) : Bool := rr_rightV x.f0 x.f1 x.f2 x.f3 x.f4 x.f5 x.f6 x.f7 x.f8
def defI (x : S42) : Int := defV x.f0 x.f1 x.f2 x.f3 x.f4 x.f5 x.f6 x.f7 x.f8
def usesI (x : S42) : List Int := usesV x.f0 x.f1 x.f2 x.f3 x.f4 x.f5 x.f6 x.f7 x.f8
def targetsI (x : S42) : List Int := targetsV x.f0 x.f1 x.f2 x.f3 x.f4 x.f5 x.f6 x.f7 x.f8
def endsI (op : Int) : Bool := decide (41 ≤ op) && decide (op ≤ 43)
def checkI (op : Int) : Bool := decide (31 ≤ op) && decide (op ≤ 38)
def trapI (op : Int) : Int := if checkI op then (if op = 31 then 1 else if op = 32 then 2 else if op = 37 then 4 else if op = 38 then 5 else 3) else 0
theorem ends_f (op : Int) : instr_Ends.f op = some (endsI op) := by
 unfold instr_Ends.f endsI
 by_cases h : op ≥ 41
 ·rw [if_pos h]; simp [h]
 ·rw [if_neg h]; simp [show ¬ (41 ≤ op) from h]
theorem check_f (op : Int) : instr_Check.f op = some (checkI op) := by
 unfold instr_Check.f checkI
 by_cases h : op ≥ 31
 ·rw [if_pos h]; simp [h]
 ·rw [if_neg h]; simp [show ¬ (31 ≤ op) from h]
theorem trap_f (op : Int) : instr_Trap.f op = some (trapI op) := by
 unfold instr_Trap.f trapI
 rw [check_f, Option.bind_some]
 (repeat' split) <;> rfl
theorem right_ev (x : S42) (h : x.f8.length < 100000) : ∃ k, instr_Right.f k x.f0 x.f1 x.f2 x.f3 x.f4 x.f5 x.f6 x.f7 x.f8 = some (rightI x) := (instrRight_ev x.f0 x.f1 x.f2 x.f3 x.f4 x.f5 x.f6 x.f7 x.f8 (by omega)).rounds
theorem def_ev (x : S42) (h : x.f8.length < 100000) : ∃ k, instr_Def.f k x.f0 x.f1 x.f2 x.f3 x.f4 x.f5 x.f6 x.f7 x.f8 = some (defI x) := (instrDef_ev x.f0 x.f1 x.f2 x.f3 x.f4 x.f5 x.f6 x.f7 x.f8 (by omega)).rounds
theorem uses_ev (x : S42) (h : x.f8.length < 100000) : ∃ k, instr_Uses.f k x.f0 x.f1 x.f2 x.f3 x.f4 x.f5 x.f6 x.f7 x.f8 = some (usesI x) := (instrUses_ev x.f0 x.f1 x.f2 x.f3 x.f4 x.f5 x.f6 x.f7 x.f8 (by omega)).rounds
theorem targets_ev (x : S42) (h : x.f8.length < 100000) : ∃ k, instr_Targets.f k x.f0 x.f1 x.f2 x.f3 x.f4 x.f5 x.f6 x.f7 x.f8 = some (targetsI x) := (instrTargets_ev x.f0 x.f1 x.f2 x.f3 x.f4 x.f5 x.f6 x.f7 x.f8 (by omega)).rounds
structure LA where
 Af : Option Addr
 cf : Nat
 fs : List S39
 mn : Int
 As : Option Addr
 cs : Nat
 ss : List S48
 nm : ByteArray
 ps : Int
 rt : Int
 Ar : Option Addr
 cr : Nat
 rg : List Int
 Ab : Option Addr
 cb : Nat
 bl : List (List S42)
 Aq : Option Addr
 cq : Nat
 pr : List Int
structure LOk (L : LA) (w : World) : Prop where
 f : k39.C w L.Af L.fs.length L.fs
 fc : L.fs.length ≤ L.cf
 s : k48.C w L.As L.ss.length L.ss
 sc : L.ss.length ≤ L.cs
 r : (Kd.int .i64).C w L.Ar L.rg.length L.rg
 rc : L.rg.length ≤ L.cr
 b : (Kd.slice 42 k42).C w L.Ab L.bl.length L.bl
 bc : L.bl.length ≤ L.cb
 q : (Kd.int .i64).C w L.Aq L.pr.length L.pr
 qc : L.pr.length ≤ L.cq
theorem LOk.below {L : LA} {w w1 : World} (h : LOk L w) (hb : Below w.heap.size w w1) : LOk L w1 :=
 ⟨Kd.C_below h.f hb, h.fc, Kd.C_below h.s hb, h.sc, Kd.C_below h.r hb, h.rc, Kd.C_below h.b hb, h.bc, Kd.C_below h.q hb, h.qc⟩
def formV (b : List S42) (at_ : Nat) : Bool :=
 rightI (b.getD at_ z42) && (endsI (b.getD at_ z42).f0 == decide ((at_ : Int) = (b.length : Int) - 1)) && !((decide ((b.getD at_ z42).f0 = 44) && decide (0 < at_)) && !decide ((b.getD (at_ - 1) z42).f0 = 44))
def thereV (L : LA) (k : Nat) (x : S42) : Bool :=
 decide (defI x < (L.rg.length : Int)) && (usesI x).all (fun r => decide (r < (L.rg.length : Int))) && (targetsI x).all (fun t => decide (0 < t) && decide (t < (L.bl.length : Int))) &&
  (if x.f0 = 39 then decide (x.f5 < (L.fs.length : Int)) else if x.f0 = 44 then decide ((x.f8.length : Int) = L.pr.getD k 0) else if checkI x.f0 then decide (x.f7 < (L.ss.length : Int)) && decide ((rd_T48 L.ss x.f7).f0 = trapI x.f0) else true)
def kindsV (L : LA) (x : S42) : Int × List Int :=
 if x.f0 = 3 ∨ x.f0 = 4 then (2, [rd L.rg x.f2, rd L.rg x.f2])
 else if x.f0 ≤ 8 then (2, [1, 1])
 else if x.f0 ≤ 16 then (1, [1, 1])
 else if x.f0 = 20 then (1, [])
 else if x.f0 = 21 then (2, [])
 else if x.f0 = 22 then (3, [])
 else if x.f0 = 23 then (rd L.rg x.f2, [rd L.rg x.f2])
 else if x.f0 = 25 then (2, [2])
 else if x.f0 = 26 then (2, [3])
 else if x.f0 = 27 then (1, [3])
 else if x.f0 = 28 then (3, [1])
 else if x.f0 = 29 then (1, [3, 1])
 else if x.f0 = 30 then (0, [3, 1, 1])
 else if x.f0 = 31 then (0, [3])
 else if x.f0 = 32 then (0, [3, 1])
 else if x.f0 = 39 then ((rd_T39 L.fs x.f5).f2, (rd_T39 L.fs x.f5).f3.take (max 0 (min (rd_T39 L.fs x.f5).f1 ((rd_T39 L.fs x.f5).f3.length : Int))).toNat)
 else if x.f0 = 42 then (0, [2])
 else if x.f0 = 43 then (0, [L.rt])
 else if x.f0 = 41 then (0, [])
 else if x.f0 = 44 then (rd L.rg x.f1, List.replicate x.f8.length (rd L.rg x.f1))
 else if x.f0 = 45 then (if x.f6 = 21 then (3, [3]) else if x.f6 = 20 then (1, [1, 3]) else (1, [1, 1]))
 else (1, List.replicate (usesI x).length 1)
def fitsV (L : LA) (x : S42) : Bool :=
 decide ((kindsV L x).2.length = (usesI x).length) && (List.range (usesI x).length).all (fun j => decide (rd L.rg ((usesI x).getD j 0) = (kindsV L x).2.getD j 0)) && (decide (defI x < 0) || decide (rd L.rg (defI x) = (kindsV L x).1))
end Go.Proofs.Ytgbpkbfghonllaa.P
set_option linter.unusedVariables false
set_option linter.unusedSimpArgs false
namespace Go.Proofs.Ytgbpkbfghonllaa.P
open Go Go.RowKit Go.Proofs.YtgbpkbfghonllaaW.PrintWords Go.Proofs.YtgbpkbfghonllaaW.PrintLast Go.Proofs.YtgbpkbfghonllaaW.PrintMore Go.Proofs.Ytgbpkbfghonllaa.Pure
attribute [local go_sem] max2_int min2_int max_two min_two
theorem form_cases : ∀ R E La P G M : Bool, (R = false) ∨ (R = true ∧ E = !La) ∨ (R = true ∧ E = La ∧ P = false) ∨ (R = true ∧ E = La ∧ P = true ∧ G = false) ∨ (R = true ∧ E = La ∧ P = true ∧ G = true ∧ M = false) ∨ (R = true ∧ E = La ∧ P = true ∧ G = true ∧ M = true) := by intro R E La P G M; cases R <;> cases E <;> cases La <;> cases P <;> cases G <;> cases M <;> simp
set_option maxHeartbeats 8000000 in
theorem form_at (L : LA) (Ax : Option Addr) (cx : Nat) (b : List S42) (at_ : Nat) (w : World) (hb : k42.C w Ax b.length b) (hc : b.length ≤ cx) (ha : at_ < b.length) (hl : ∀ i, i < b.length → (b.getD i z42).f8.length < 100000) :
  Calls Try.prog 52 #[.agg #[.slice L.Af L.fs.length L.cf, .int .i64 L.mn, .slice L.As L.ss.length L.cs, .string L.nm, .int .i64 L.ps, .int .i64 L.rt, .slice L.Ar L.rg.length L.cr, .slice L.Ab L.bl.length L.cb, .slice L.Aq L.pr.length L.cq], .slice Ax b.length cx, .int .i64 (at_ : Int)] w fun e w' => e = .returned (.int .i64 (if formV b at_ then 0 else 5)) ∧ Below w.heap.size w w' := by
 have hm : b.length ≤ 9223372036854775807 := Kd.C_max hb
 obtain ⟨res, hres⟩ : ∃ r : Int, (if formV b at_ then 0 else 5) = r := ⟨_, rfl⟩
 rw [hres]
 unfold formV at hres
 have hW := Kd.C_alloc hb (.cells #[.slice L.Af L.fs.length L.cf, .int .i64 L.mn, .slice L.As L.ss.length L.cs, .string L.nm, .int .i64 L.ps, .int .i64 L.rt, .slice L.Ar L.rg.length L.cr, .slice L.Ab L.bl.length L.cb, .slice L.Aq L.pr.length L.cq] 74)
 have hB := below_alloc (Below.refl w.heap.size w) (.cells #[.slice L.Af L.fs.length L.cf, .int .i64 L.mn, .slice L.As L.ss.length L.cs, .string L.nm, .int .i64 L.ps, .int .i64 L.rt, .slice L.Ar L.rg.length L.cr, .slice L.Ab L.bl.length L.cb, .slice L.Aq L.pr.length L.cq] 74)
 obtain ⟨ad, A8, c8, rfl, x0, x1, x2, x3, x4, x5, x6, x7, x8, hl8, hr8⟩ := at_T42 hW (at_ : Int) (by omega) (by omega)
 rw [show rd_T42 b (at_ : Int) = b.getD at_ z42 from rfl] at x0 x1 x2 x3 x4 x5 x6 x7 x8 hl8 hr8
 have hxl := hl at_ ha
 obtain ⟨x, hx⟩ : ∃ x, b.getD at_ z42 = x := ⟨_, rfl⟩
 rw [hx] at hres x0 x1 x2 x3 x4 x5 x6 x7 x8 hl8 hr8 hxl
 obtain ⟨kR, hR⟩ := right_ev x hxl
 have hE := ends_f x.f0
 obtain ⟨R, eR⟩ : ∃ r, rightI x = r := ⟨_, rfl⟩
 obtain ⟨E, eE⟩ : ∃ r, endsI x.f0 = r := ⟨_, rfl⟩
 obtain ⟨La, eL⟩ : ∃ r, decide ((at_ : Int) = (b.length : Int) - 1) = r := ⟨_, rfl⟩
 obtain ⟨P, eP⟩ : ∃ r, decide (x.f0 = 44) = r := ⟨_, rfl⟩
 obtain ⟨G, eG⟩ : ∃ r, decide (0 < at_) = r := ⟨_, rfl⟩
 obtain ⟨y, hy⟩ : ∃ y, b.getD (at_ - 1) z42 = y := ⟨_, rfl⟩
 obtain ⟨M, eM⟩ : ∃ r, decide (y.f0 = 44) = r := ⟨_, rfl⟩
 rw [eR] at hR hres
 rw [eE] at hE hres
 rw [hy] at hres
 rw [eL, eP, eG, eM] at hres
 have hy0 : G = true → (w.alloc (.cells #[.slice L.Af L.fs.length L.cf, .int .i64 L.mn, .slice L.As L.ss.length L.cs, .string L.nm, .int .i64 L.ps, .int .i64 L.rt, .slice L.Ar L.rg.length L.cr, .slice L.Ab L.bl.length L.cb, .slice L.Aq L.pr.length L.cq] 74)).cell? (ad.add ((at_ - 1) * 9)) = some (.int .i64 y.f0) := by
  intro hG
  rw [hG] at eG
  have hG' := of_decide_eq_true eG
  obtain ⟨ad', B8, d8, e', y0, _⟩ := at_T42 hW ((at_ - 1 : Nat) : Int) (by omega) (by omega)
  cases e'
  rw [show rd_T42 b ((at_ - 1 : Nat) : Int) = b.getD (at_ - 1) z42 from rfl, hy] at y0
  simpa using y0
 have HY := Aside0.mk hy0
 have HR := Aside0.mk hR
 have HE := Aside0.mk hE
 have HRES := Aside0.mk hres
 have HB := Aside0.mk hB
 have HC8 := Aside0.mk hl8
 have HR8 := Aside0.mk hr8
 have hw1 : wrap64 ((b.length : Int) - 1) = (b.length : Int) - 1 := by unfold wrap64; omega
 have hd1 : ((at_ : Int) == (b.length : Int) - 1) = La := by rw [← eL]; rw [Bool.eq_iff_iff]; simp
 have hd2 : (x.f0 == 44) = P := by rw [← eP]; rw [Bool.eq_iff_iff]; simp
 have hd3 : decide ((0 : Int) < (at_ : Int)) = G := by rw [← eG]; rw [Bool.eq_iff_iff]; simp
 have hd4 : (y.f0 != 44) = !M := by rw [← eM]; rw [Bool.eq_iff_iff]; simp
 have p1 : (0 : Int) ≤ (at_ : Int) := by omega
 have p2 : (at_ : Int) < (b.length : Int) := by omega
 simp only [Int.toNat_natCast] at x0 x1 x2 x3 x4 x5 x6 x7 x8
 clear hy0 hR hE hres hB hl8 hr8 hW hb eR eE eL eP eM hy hx hl hxl
 have BX : ((w.alloc (.cells #[.slice L.Af L.fs.length L.cf, .int .i64 L.mn, .slice L.As L.ss.length L.cs, .string L.nm, .int .i64 L.ps, .int .i64 L.rt, .slice L.Ar L.rg.length L.cr, .slice L.Ab L.bl.length L.cb, .slice L.Aq L.pr.length L.cq] 74)).alloc (.cells #[.int .i64 x.f0, .int .i64 x.f1, .int .i64 x.f2, .int .i64 x.f3, .int .i64 x.f4, .int .i64 x.f5, .int .i64 x.f6, .int .i64 x.f7, .slice A8 x.f8.length c8] 42)).heap[w.heap.size + 1]? = some (.cells #[.int .i64 x.f0, .int .i64 x.f1, .int .i64 x.f2, .int .i64 x.f3, .int .i64 x.f4, .int .i64 x.f5, .int .i64 x.f6, .int .i64 x.f7, .slice A8 x.f8.length c8] 42 (0, 0)) := by have h := blk_new (w.alloc (.cells #[.slice L.Af L.fs.length L.cf, .int .i64 L.mn, .slice L.As L.ss.length L.cs, .string L.nm, .int .i64 L.ps, .int .i64 L.rt, .slice L.Ar L.rg.length L.cr, .slice L.Ab L.bl.length L.cb, .slice L.Aq L.pr.length L.cq] 74)) (.cells #[.int .i64 x.f0, .int .i64 x.f1, .int .i64 x.f2, .int .i64 x.f3, .int .i64 x.f4, .int .i64 x.f5, .int .i64 x.f6, .int .i64 x.f7, .slice A8 x.f8.length c8] 42); simpa only [World.size_alloc] using h
 have BX := Aside0.mk BX
 have HB := Aside0.mk (below_alloc HB.out (.cells #[.int .i64 x.f0, .int .i64 x.f1, .int .i64 x.f2, .int .i64 x.f3, .int .i64 x.f4, .int .i64 x.f5, .int .i64 x.f6, .int .i64 x.f7, .slice A8 x.f8.length c8] 42))
 have HR8 := Aside0.mk (Kd.C_alloc HR8.out (.cells #[.int .i64 x.f0, .int .i64 x.f1, .int .i64 x.f2, .int .i64 x.f3, .int .i64 x.f4, .int .i64 x.f5, .int .i64 x.f6, .int .i64 x.f7, .slice A8 x.f8.length c8] 42))
 have HY : Aside0 (G = true → ((w.alloc (.cells #[.slice L.Af L.fs.length L.cf, .int .i64 L.mn, .slice L.As L.ss.length L.cs, .string L.nm, .int .i64 L.ps, .int .i64 L.rt, .slice L.Ar L.rg.length L.cr, .slice L.Ab L.bl.length L.cb, .slice L.Aq L.pr.length L.cq] 74)).alloc (.cells #[.int .i64 x.f0, .int .i64 x.f1, .int .i64 x.f2, .int .i64 x.f3, .int .i64 x.f4, .int .i64 x.f5, .int .i64 x.f6, .int .i64 x.f7, .slice A8 x.f8.length c8] 42)).cell? (ad.add ((at_ - 1) * 9)) = some (.int .i64 y.f0)) := ⟨fun h => pw_cell_below (below_alloc (Below.refl _ _) _) (HY.out h)⟩
 go_enter Try.func52, Try.ntmps52
 go_upto_region 2 with (fail)
 generalize ((w.alloc (.cells #[.slice L.Af L.fs.length L.cf, .int .i64 L.mn, .slice L.As L.ss.length L.cs, .string L.nm, .int .i64 L.ps, .int .i64 L.rt, .slice L.Ar L.rg.length L.cr, .slice L.Ab L.bl.length L.cb, .slice L.Aq L.pr.length L.cq] 74)).alloc (.cells #[.int .i64 x.f0, .int .i64 x.f1, .int .i64 x.f2, .int .i64 x.f3, .int .i64 x.f4, .int .i64 x.f5, .int .i64 x.f6, .int .i64 x.f7, .slice A8 x.f8.length c8] 42)) = W at *
 go_upto_region 3 with (fail)
 have z0 := blk_cell BX.out 0
 have z1 := blk_cell BX.out 1
 have z2 := blk_cell BX.out 2
 have z3 := blk_cell BX.out 3
 have z4 := blk_cell BX.out 4
 have z5 := blk_cell BX.out 5
 have z6 := blk_cell BX.out 6
 have z7 := blk_cell BX.out 7
 have z8 := blk_cell BX.out 8
 simp only [List.getElem?_toArray, List.getElem?_cons_zero, List.getElem?_cons_succ] at z0 z1 z2 z3 z4 z5 z6 z7 z8
 have q0 : (0 : Int) ≤ (at_ : Int) - 1 ∨ G = false := by
  cases G
  ·exact .inr rfl
  ·exact .inl (by have := of_decide_eq_true eG; omega)
 have q1 : (at_ : Int) - 1 < (b.length : Int) := by omega
 have q2 : wrap64 ((at_ : Int) - 1) = (at_ : Int) - 1 := by unfold wrap64; omega
 have q3 : ((at_ : Int) - 1).toNat = at_ - 1 := by omega
 have hd5 := eG
 clear eG
 rcases form_cases R E La P G M with rfl | ⟨rfl, rfl⟩ | ⟨rfl, rfl, rfl⟩ | ⟨rfl, rfl, rfl, rfl⟩ | ⟨rfl, rfl, rfl, rfl, rfl⟩ | ⟨rfl, rfl, rfl, rfl, rfl⟩
 all_goals first | cases La | cases E
 all_goals
  go_wp2_with (first | (go_at_call 71; ((with_reducible refine (instr_Right.calls kR x.f0 x.f1 x.f2 x.f3 x.f4 x.f5 x.f6 x.f7 A8 c8 x.f8 _ _ HR8.out HC8.out HR.out).mono ?_); rintro e w' ⟨rfl, hb⟩; replace BX := Aside0.mk (blk_below BX.out hb); replace HB := Aside0.mk (below_step HB.out hb); replace HY := Aside0.mk (fun h => pw_cell_below hb (HY.out h)); clear HR8 hb; have z0 := blk_cell BX.out 0; have z1 := blk_cell BX.out 1; have z2 := blk_cell BX.out 2; have z3 := blk_cell BX.out 3; have z4 := blk_cell BX.out 4; have z5 := blk_cell BX.out 5; have z6 := blk_cell BX.out 6; have z7 := blk_cell BX.out 7; have z8 := blk_cell BX.out 8; simp only [List.getElem?_toArray, List.getElem?_cons_zero, List.getElem?_cons_succ] at z0 z1 z2 z3 z4 z5 z6 z7 z8; (try (have y0 := HY.out rfl; have q4 := q0.resolve_right (by decide))))) | (go_at_call 72; ((with_reducible refine (instr_Ends.calls x.f0 _ _ HE.out).mono ?_); rintro e w' ⟨rfl, ⟨nd, rfl⟩⟩)))
  go_ret
  exact ⟨by rw [← HRES.out]; rfl, by first | exact HB.out | exact pw_below_drewN HB.out _⟩
end Go.Proofs.Ytgbpkbfghonllaa.P
set_option linter.unusedVariables false
set_option linter.unusedSimpArgs false
namespace Go.Proofs.Ytgbpkbfghonllaa.P
open Go Go.RowKit Go.Proofs.YtgbpkbfghonllaaW.PrintWords Go.Proofs.YtgbpkbfghonllaaW.PrintLast Go.Proofs.YtgbpkbfghonllaaW.PrintMore Go.Proofs.Ytgbpkbfghonllaa.Pure
attribute [local go_sem] max2_int min2_int max_two min_two
structure LSt (w : World) (L : LA) (x : S42) (A8 : Option Addr) (c8 : Nat) (W : World) : Prop where
 B : Below w.heap.size w W
 l : LOk L W
 a : (Kd.int .i64).C W A8 x.f8.length x.f8
 ac : x.f8.length ≤ c8
 bl : W.heap[w.heap.size]? = some (.cells #[.slice L.Af L.fs.length L.cf, .int .i64 L.mn, .slice L.As L.ss.length L.cs, .string L.nm, .int .i64 L.ps, .int .i64 L.rt, .slice L.Ar L.rg.length L.cr, .slice L.Ab L.bl.length L.cb, .slice L.Aq L.pr.length L.cq] 74 (0, 0))
 bx : W.heap[w.heap.size + 1]? = some (.cells #[.int .i64 x.f0, .int .i64 x.f1, .int .i64 x.f2, .int .i64 x.f3, .int .i64 x.f4, .int .i64 x.f5, .int .i64 x.f6, .int .i64 x.f7, .slice A8 x.f8.length c8] 42 (0, 0))
section
variable {w W W1 : World} {L : LA} {x : S42} {A8 : Option Addr} {c8 : Nat}
theorem LSt.step (h : LSt w L x A8 c8 W) (hb : Below W.heap.size W W1) : LSt w L x A8 c8 W1 :=
 ⟨below_step h.B hb, h.l.below hb, Kd.C_below h.a hb, h.ac, blk_below h.bl hb, blk_below h.bx hb⟩
theorem LSt.drawN (h : LSt w L x A8 c8 W) (n : Nat) : LSt w L x A8 c8 (W.drewN n) := h.step (pw_below_drewN (Below.refl _ _) n)
theorem LSt.draw (h : LSt w L x A8 c8 W) : LSt w L x A8 c8 W.drew := h.step (below_drew (Below.refl _ _))
theorem LSt.start (hL : LOk L w) (hA : (Kd.int .i64).C w A8 x.f8.length x.f8) (hc : x.f8.length ≤ c8) : LSt w L x A8 c8 ((w.alloc (.cells #[.slice L.Af L.fs.length L.cf, .int .i64 L.mn, .slice L.As L.ss.length L.cs, .string L.nm, .int .i64 L.ps, .int .i64 L.rt, .slice L.Ar L.rg.length L.cr, .slice L.Ab L.bl.length L.cb, .slice L.Aq L.pr.length L.cq] 74)).alloc (.cells #[.int .i64 x.f0, .int .i64 x.f1, .int .i64 x.f2, .int .i64 x.f3, .int .i64 x.f4, .int .i64 x.f5, .int .i64 x.f6, .int .i64 x.f7, .slice A8 x.f8.length c8] 42)) := by
 have b1 := below_alloc (Below.refl w.heap.size w) (.cells #[.slice L.Af L.fs.length L.cf, .int .i64 L.mn, .slice L.As L.ss.length L.cs, .string L.nm, .int .i64 L.ps, .int .i64 L.rt, .slice L.Ar L.rg.length L.cr, .slice L.Ab L.bl.length L.cb, .slice L.Aq L.pr.length L.cq] 74)
 have b2 : Below (w.alloc (.cells #[.slice L.Af L.fs.length L.cf, .int .i64 L.mn, .slice L.As L.ss.length L.cs, .string L.nm, .int .i64 L.ps, .int .i64 L.rt, .slice L.Ar L.rg.length L.cr, .slice L.Ab L.bl.length L.cb, .slice L.Aq L.pr.length L.cq] 74)).heap.size (w.alloc (.cells #[.slice L.Af L.fs.length L.cf, .int .i64 L.mn, .slice L.As L.ss.length L.cs, .string L.nm, .int .i64 L.ps, .int .i64 L.rt, .slice L.Ar L.rg.length L.cr, .slice L.Ab L.bl.length L.cb, .slice L.Aq L.pr.length L.cq] 74)) ((w.alloc (.cells #[.slice L.Af L.fs.length L.cf, .int .i64 L.mn, .slice L.As L.ss.length L.cs, .string L.nm, .int .i64 L.ps, .int .i64 L.rt, .slice L.Ar L.rg.length L.cr, .slice L.Ab L.bl.length L.cb, .slice L.Aq L.pr.length L.cq] 74)).alloc (.cells #[.int .i64 x.f0, .int .i64 x.f1, .int .i64 x.f2, .int .i64 x.f3, .int .i64 x.f4, .int .i64 x.f5, .int .i64 x.f6, .int .i64 x.f7, .slice A8 x.f8.length c8] 42)) := below_alloc (Below.refl _ _) _
 refine ⟨below_step b1 b2, (hL.below b1).below b2, Kd.C_below (Kd.C_below hA b1) b2, hc, blk_below (blk_new _ _) b2, ?_⟩
 have h := blk_new (w.alloc (.cells #[.slice L.Af L.fs.length L.cf, .int .i64 L.mn, .slice L.As L.ss.length L.cs, .string L.nm, .int .i64 L.ps, .int .i64 L.rt, .slice L.Ar L.rg.length L.cr, .slice L.Ab L.bl.length L.cb, .slice L.Aq L.pr.length L.cq] 74)) (.cells #[.int .i64 x.f0, .int .i64 x.f1, .int .i64 x.f2, .int .i64 x.f3, .int .i64 x.f4, .int .i64 x.f5, .int .i64 x.f6, .int .i64 x.f7, .slice A8 x.f8.length c8] 42)
 simpa only [World.size_alloc] using h
theorem LSt.lc (h : LSt w L x A8 c8 W) : W.cell? ⟨w.heap.size, 0, none⟩ = some (.slice L.Af L.fs.length L.cf) ∧ W.cell? ⟨w.heap.size, 1, none⟩ = some (.int .i64 L.mn) ∧ W.cell? ⟨w.heap.size, 2, none⟩ = some (.slice L.As L.ss.length L.cs) ∧ W.cell? ⟨w.heap.size, 3, none⟩ = some (.string L.nm) ∧ W.cell? ⟨w.heap.size, 4, none⟩ = some (.int .i64 L.ps) ∧ W.cell? ⟨w.heap.size, 5, none⟩ = some (.int .i64 L.rt) ∧ W.cell? ⟨w.heap.size, 6, none⟩ = some (.slice L.Ar L.rg.length L.cr) ∧ W.cell? ⟨w.heap.size, 7, none⟩ = some (.slice L.Ab L.bl.length L.cb) ∧ W.cell? ⟨w.heap.size, 8, none⟩ = some (.slice L.Aq L.pr.length L.cq) := by
 refine ⟨?_, ?_, ?_, ?_, ?_, ?_, ?_, ?_, ?_⟩
 all_goals exact (blk_cell h.bl _).trans rfl
theorem LSt.xc (h : LSt w L x A8 c8 W) : W.cell? ⟨w.heap.size + 1, 0, none⟩ = some (.int .i64 x.f0) ∧ W.cell? ⟨w.heap.size + 1, 1, none⟩ = some (.int .i64 x.f1) ∧ W.cell? ⟨w.heap.size + 1, 2, none⟩ = some (.int .i64 x.f2) ∧ W.cell? ⟨w.heap.size + 1, 3, none⟩ = some (.int .i64 x.f3) ∧ W.cell? ⟨w.heap.size + 1, 4, none⟩ = some (.int .i64 x.f4) ∧ W.cell? ⟨w.heap.size + 1, 5, none⟩ = some (.int .i64 x.f5) ∧ W.cell? ⟨w.heap.size + 1, 6, none⟩ = some (.int .i64 x.f6) ∧ W.cell? ⟨w.heap.size + 1, 7, none⟩ = some (.int .i64 x.f7) ∧ W.cell? ⟨w.heap.size + 1, 8, none⟩ = some (.slice A8 x.f8.length c8) := by
 refine ⟨?_, ?_, ?_, ?_, ?_, ?_, ?_, ?_, ?_⟩
 all_goals exact (blk_cell h.bx _).trans rfl
end
theorem reg_at (L : LA) (r : Int) (w : World) : Calls Try.prog 73 #[.agg #[.slice L.Af L.fs.length L.cf, .int .i64 L.mn, .slice L.As L.ss.length L.cs, .string L.nm, .int .i64 L.ps, .int .i64 L.rt, .slice L.Ar L.rg.length L.cr, .slice L.Ab L.bl.length L.cb, .slice L.Aq L.pr.length L.cq], .int .i64 r] w fun e w' => e = .returned (.bool (decide (r < (L.rg.length : Int)))) ∧ Below w.heap.size w w' := by
 go_enter Try.func73, Try.ntmps73
 go_wp2
 go_ret
 exact ⟨rfl, below_alloc (Below.refl _ _) _⟩
theorem block_at (L : LA) (r : Int) (w : World) : Calls Try.prog 76 #[.agg #[.slice L.Af L.fs.length L.cf, .int .i64 L.mn, .slice L.As L.ss.length L.cs, .string L.nm, .int .i64 L.ps, .int .i64 L.rt, .slice L.Ar L.rg.length L.cr, .slice L.Ab L.bl.length L.cb, .slice L.Aq L.pr.length L.cq], .int .i64 r] w fun e w' => e = .returned (.bool (decide (0 < r) && decide (r < (L.bl.length : Int)))) ∧ Below w.heap.size w w' := by
 obtain ⟨q, hq⟩ : ∃ q, (decide (0 < r) && decide (r < (L.bl.length : Int))) = q := ⟨_, rfl⟩
 rw [hq]
 have HQ := Aside0.mk hq
 clear hq
 by_cases h : 0 < r
 ·have t1 : decide (0 < r) = true := decide_eq_true h
  go_enter Try.func76, Try.ntmps76
  go_wp2
  go_ret
  exact ⟨by rw [← HQ.out, t1]; rfl, below_alloc (Below.refl _ _) _⟩
 ·have t1 : decide (0 < r) = false := decide_eq_false h
  go_enter Try.func76, Try.ntmps76
  go_wp2
  go_ret
  exact ⟨by rw [← HQ.out, t1]; rfl, below_alloc (Below.refl _ _) _⟩
end Go.Proofs.Ytgbpkbfghonllaa.P

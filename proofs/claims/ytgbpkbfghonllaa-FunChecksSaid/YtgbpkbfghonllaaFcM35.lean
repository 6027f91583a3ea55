/- A part of it. -/
import Derived.Test.YtgbpkbfghonllaaFcM34
import Derived.Test.YtgbpkbfghonllaaFcM29
import Derived.Test.YtgbpkbfghonllaaFcP10
import Derived.Outline
import Derived.Test.YtgbpkbfghonllaaFcP4
import Derived.Test.YtgbpkbfghonllaaFcP6
set_option linter.unusedVariables false
set_option linter.unusedSimpArgs false
namespace Go.Proofs.Ytgbpkbfghonllaa.P
open Go Go.RowKit Go.Proofs.YtgbpkbfghonllaaW.PrintWords Go.Proofs.YtgbpkbfghonllaaW.PrintLast Go.Proofs.YtgbpkbfghonllaaW.PrintMore Go.Proofs.Ytgbpkbfghonllaa.Pure
attribute [local go_sem] max2_int min2_int max_two min_two
def fit_to (rg uv rq : List Int) (b0 : Bool) (j : Nat) : Bool := b0 && (List.range j).all (fun i => decide (rd rg (uv.getD i 0) = rq.getD i 0))
theorem fit_zero (rg uv rq : List Int) (b0 : Bool) : fit_to rg uv rq b0 0 = b0 := by simp [fit_to]
theorem fit_succ (rg uv rq : List Int) (b0 : Bool) (j : Nat) : fit_to rg uv rq b0 (j + 1) = (fit_to rg uv rq b0 j && decide (rd rg (uv.getD j 0) = rq.getD j 0)) := by
 unfold fit_to
 rw [List.range_succ, List.all_append, ← Bool.and_assoc]
 simp
theorem fit_false (rg uv rq : List Int) (b0 : Bool) (j n : Nat) (h : j ≤ n) (hf : fit_to rg uv rq b0 j = false) : fit_to rg uv rq b0 n = false := by
 obtain ⟨d, rfl⟩ : ∃ d, n = j + d := ⟨n - j, by omega⟩
 clear h
 induction d with
 | zero => exact hf
 | succ d ih => rw [← Nat.add_assoc, fit_succ, ih]; rfl
theorem fit_b0 (rg uv rq : List Int) (b0 : Bool) (j : Nat) (h : fit_to rg uv rq b0 j = true) : b0 = true := by
 unfold fit_to at h
 simp only [Bool.and_eq_true] at h
 exact h.1
set_option maxHeartbeats 16000000 in
set_option maxRecDepth 100000 in
theorem fits_at (L : LA) (x : S42) (A8 : Option Addr) (c8 : Nat) (w : World) (hL : LOk L w) (hA : (Kd.int .i64).C w A8 x.f8.length x.f8) (hc : x.f8.length ≤ c8) (hl : x.f8.length < 100000) (hop : 3 ≤ x.f0 ∧ x.f0 ≤ 45 ∧ ¬ (16 < x.f0 ∧ x.f0 < 20)) (h2 : x.f0 = 3 ∨ x.f0 = 4 ∨ x.f0 = 23 → 0 ≤ x.f2 ∧ x.f2 < (L.rg.length : Int)) (h1 : x.f0 = 44 → 0 ≤ x.f1 ∧ x.f1 < (L.rg.length : Int)) (h5 : x.f0 = 39 → 0 ≤ x.f5 ∧ x.f5 < (L.fs.length : Int)) (hu : ∀ i, i < (usesI x).length → 0 ≤ (usesI x).getD i 0 ∧ (usesI x).getD i 0 < (L.rg.length : Int)) (hd : defI x < (L.rg.length : Int)) :
  Calls Try.prog 56 #[.agg #[.slice L.Af L.fs.length L.cf, .int .i64 L.mn, .slice L.As L.ss.length L.cs, .string L.nm, .int .i64 L.ps, .int .i64 L.rt, .slice L.Ar L.rg.length L.cr, .slice L.Ab L.bl.length L.cb, .slice L.Aq L.pr.length L.cq], .agg #[.int .i64 x.f0, .int .i64 x.f1, .int .i64 x.f2, .int .i64 x.f3, .int .i64 x.f4, .int .i64 x.f5, .int .i64 x.f6, .int .i64 x.f7, .slice A8 x.f8.length c8]] w fun e w' => e = .returned (.int .i64 (if fitsV L x then 0 else 11)) ∧ Below w.heap.size w w' := by
 obtain ⟨res, hres⟩ : ∃ r : Int, (if fitsV L x then 0 else 11) = r := ⟨_, rfl⟩
 rw [hres]
 unfold fitsV at hres
 obtain ⟨kq, rq, hq⟩ : ∃ k r, kindsV L x = (k, r) := ⟨_, _, rfl⟩
 rw [hq] at hres
 dsimp only at hres
 obtain ⟨kU, hU⟩ := uses_ev x hl
 obtain ⟨kD, hD⟩ := def_ev x hl
 have hul := usesI_le x hl
 obtain ⟨uv, eu⟩ : ∃ r, usesI x = r := ⟨_, rfl⟩
 obtain ⟨dv, ed⟩ : ∃ r, defI x = r := ⟨_, rfl⟩
 rw [eu] at hU hres hul hu
 rw [ed] at hD hres hd
 obtain ⟨B0, eB0⟩ : ∃ r, decide (rq.length = uv.length) = r := ⟨_, rfl⟩
 rw [eB0] at hres
 have HQ := Aside0.mk hq
 have HH := Aside0.mk (And.intro hl (And.intro hop (And.intro h2 (And.intro h1 h5))))
 have HUS := Aside0.mk hu
 have HDV := Aside0.mk hd
 have EB0 := Aside0.mk eB0
 have HU := Aside0.mk hU
 have HD := Aside0.mk hD
 have HRES := Aside0.mk hres
 have LU := Aside0.mk hul
 have HS := Aside0.mk (LSt.start hL hA hc)
 clear hL hA hc hl hop h2 h1 h5 hu hd hres hq hU hD hul eu ed eB0
 go_enter Try.func56, Try.ntmps56
 go_upto_region 1 with (fail)
 generalize ((w.alloc (.cells #[.slice L.Af L.fs.length L.cf, .int .i64 L.mn, .slice L.As L.ss.length L.cs, .string L.nm, .int .i64 L.ps, .int .i64 L.rt, .slice L.Ar L.rg.length L.cr, .slice L.Ab L.bl.length L.cb, .slice L.Aq L.pr.length L.cq] 74)).alloc (.cells #[.int .i64 x.f0, .int .i64 x.f1, .int .i64 x.f2, .int .i64 x.f3, .int .i64 x.f4, .int .i64 x.f5, .int .i64 x.f6, .int .i64 x.f7, .slice A8 x.f8.length c8] 42)) = W at *
 obtain ⟨l0, l1, l2, l3, l4, l5, l6, l7, l8⟩ := HS.out.lc
 obtain ⟨z0, z1, z2, z3, z4, z5, z6, z7, z8⟩ := HS.out.xc
 have eb : ((rq.length : Int) == (uv.length : Int)) = B0 := by rw [← EB0.out, Bool.eq_iff_iff]; simp; omega
 go_wp2_with (first | (go_at_call 79; ((with_reducible refine (kinds_at L x A8 c8 _ HS.out.l HS.out.a HS.out.ac HH.out.1 HH.out.2.1 HH.out.2.2.1 HH.out.2.2.2.1 HH.out.2.2.2.2 kq rq HQ.out).mono ?_); rintro e w' ⟨Az, cz, rfl, hz_, hzc_, hb⟩; have HZ := Aside0.mk hz_; have HZC := Aside0.mk hzc_; (first | replace HS := Aside0.mk (HS.out.step hb) | replace HS := Aside0.mk (HS.out.draw.step hb) | replace HS := Aside0.mk ((HS.out.drawN _).step hb)); clear hb hz_ hzc_; obtain ⟨l0, l1, l2, l3, l4, l5, l6, l7, l8⟩ := HS.out.lc; obtain ⟨z0, z1, z2, z3, z4, z5, z6, z7, z8⟩ := HS.out.xc)) | (go_at_call 75; ((with_reducible refine (instr_Uses.calls kU x.f0 x.f1 x.f2 x.f3 x.f4 x.f5 x.f6 x.f7 A8 c8 x.f8 uv _ (LSt.a (by first | exact HS.out | exact HS.out.draw | exact HS.out.drawN _)) HS.out.ac HU.out).mono ?_); rintro e w' ⟨v_, rfl, hR_, hb⟩; obtain ⟨Au, cu, rfl⟩ := Kd.R_slice hR_; have HR := Aside0.mk (Kd.R_reads' hR_).2.2; replace HZ := Aside0.mk (Kd.C_below HZ.out hb); (first | replace HS := Aside0.mk (HS.out.step hb) | replace HS := Aside0.mk (HS.out.draw.step hb) | replace HS := Aside0.mk ((HS.out.drawN _).step hb)); clear hb hR_; obtain ⟨l0, l1, l2, l3, l4, l5, l6, l7, l8⟩ := HS.out.lc; obtain ⟨z0, z1, z2, z3, z4, z5, z6, z7, z8⟩ := HS.out.xc)))
 go_loopw [8, 9] (fun v8 v9 wr => ∃ (j : Nat) (b : Bool), v9 = .int .i64 (j : Int) ∧ v8 = .bool b ∧ Aside0 (j ≤ uv.length ∧ fit_to L.rg uv rq B0 j = b) ∧ Aside0 (LSt w L x A8 c8 wr) ∧ Aside0 ((Kd.int .i64).C wr Au uv.length uv) ∧ Aside0 ((Kd.int .i64).C wr Az rq.length rq)) (fun v8 v9 wr => uv.length - (intOf v9).toNat)
 case atStart => exact ⟨0, B0, rfl, by first | rfl | rw [eb], ⟨Nat.zero_le _, fit_zero _ _ _ _⟩, HS, HR, ⟨by first | exact HZ.out | exact Kd.C_below HZ.out HZB.out⟩⟩
 case round =>
  clear HS HR HZ
  obtain ⟨j, b, rfl, rfl, HJ, HS, HR, HZ⟩ := hrel
  obtain ⟨l0, l1, l2, l3, l4, l5, l6, l7, l8⟩ := HS.out.lc
  obtain ⟨z0, z1, z2, z3, z4, z5, z6, z7, z8⟩ := HS.out.xc
  by_cases hgo : b = true ∧ j < uv.length
  ·obtain ⟨rfl, hlt⟩ := hgo
   have HLT := Aside0.mk hlt
   have hb0 := EB0.out
   rw [fit_b0 _ _ _ _ _ HJ.out.2] at hb0
   have hlen : rq.length = uv.length := of_decide_eq_true hb0
   clear hb0
   have t1 : decide ((j : Int) < (uv.length : Int)) = true := decide_eq_true (by omega)
   have t2 : decide (j < uv.length) = true := decide_eq_true hlt
   have p1 : (0 : Int) ≤ (j : Int) := by omega
   have p2 : (j : Int) < (uv.length : Int) := by omega
   have p3 : (j : Int) < (rq.length : Int) := by omega
   have hwr : wrap64 ((j : Int) + 1) = ((j + 1 : Nat) : Int) := by have := LU.out; unfold wrap64; omega
   have HWR := Aside0.mk hwr
   have hy := HUS.out j hlt
   obtain ⟨q, eq_, cq⟩ := Kd.at_int HR.out (j : Int) p1 p2
   subst eq_
   obtain ⟨qz, eq_, cz_⟩ := Kd.at_int HZ.out (j : Int) p1 p3
   subst eq_
   rw [show rd uv (j : Int) = uv.getD j 0 from rfl] at cq
   rw [show rd rq (j : Int) = rq.getD j 0 from rfl] at cz_
   (try simp only [Int.toNat_natCast] at cq cz_)
   obtain ⟨y, ey⟩ : ∃ y, uv.getD j 0 = y := ⟨_, rfl⟩
   obtain ⟨kz, ekz⟩ : ∃ y, rq.getD j 0 = y := ⟨_, rfl⟩
   rw [ey] at cq hy
   rw [ekz] at cz_
   have p4 := hy.1
   have p5 := hy.2
   obtain ⟨qr, er, cr_⟩ := Kd.at_int HS.out.l.r y p4 p5
   rw [er] at l6
   obtain ⟨E, eE⟩ : ∃ r, decide (rd L.rg y = kz) = r := ⟨_, rfl⟩
   have s1 : (rd L.rg y == kz) = E := by rw [← eE, Bool.eq_iff_iff]; simp
   have HF : Aside0 (fit_to L.rg uv rq B0 (j + 1) = E) := ⟨by rw [fit_succ, HJ.out.2, ey, ekz, eE]; rfl⟩
   clear eE ey ekz er hwr hlen hy
   go_upto_region 7 with (fail)
   go_quiet (fail)
   go_wp2
   go_round
   case rel => exact ⟨j + 1, E, by first | (rw [HWR.out]; done) | (rw [HWR.out]) | go_num, by first | rfl | rw [s1], ⟨by have := HLT.out; omega, HF.out⟩, ⟨HS.out.drawN _⟩, ⟨Kd.C_drewN HR.out _⟩, ⟨Kd.C_drewN HZ.out _⟩⟩
   case measure => exact bd_meas2 _ _ _ (by first | exact HWR.out | omega) HLT.out
  have hfin : fit_to L.rg uv rq B0 uv.length = b := by
   cases b with
   | false => exact fit_false _ _ _ _ _ _ HJ.out.1 HJ.out.2
   | true =>
    have : j = uv.length := by
     have := HJ.out.1
     rcases Nat.lt_or_ge j uv.length with h | h
     ·exact absurd ⟨rfl, h⟩ hgo
     ·omega
    rw [← this]
    exact HJ.out.2
  have hres := HRES.out
  rw [show (B0 && (List.range uv.length).all fun i => decide (rd L.rg (uv.getD i 0) = rq.getD i 0)) = b from hfin] at hres
  have t0 : (b && decide ((j : Int) < (uv.length : Int))) = false := by
   cases b
   ·rfl
   ·have : ¬ j < uv.length := fun h => hgo ⟨rfl, h⟩
    simp
    omega
  have t3 : b = true → decide ((j : Int) < (uv.length : Int)) = false ∧ decide (j < uv.length) = false := by
   intro hb
   have : ¬ j < uv.length := fun h => hgo ⟨hb, h⟩
   exact ⟨decide_eq_false (by omega), decide_eq_false this⟩
  have HT3 := Aside0.mk t3
  clear hgo hfin t0 t3
  by_cases hn : dv < 0
  ·have s1 : decide (0 ≤ dv) = false := decide_eq_false (by omega)
   have s2 : decide (dv ≥ 0) = false := decide_eq_false (by omega)
   rw [decide_eq_true hn, Bool.true_or, Bool.and_true] at hres
   have HRES := Aside0.mk hres
   clear hres hn
   cases b
   all_goals
    (try (obtain ⟨t1, t2⟩ := HT3.out rfl))
    go_wp2_with ((go_at_call 74; ((with_reducible refine (instr_Def.calls kD x.f0 x.f1 x.f2 x.f3 x.f4 x.f5 x.f6 x.f7 A8 c8 x.f8 dv _ (LSt.a (by first | exact HS.out | exact HS.out.draw | exact HS.out.drawN _)) HS.out.ac HD.out).mono ?_); rintro e w' ⟨rfl, hb⟩; (first | replace HS := Aside0.mk (HS.out.step hb) | replace HS := Aside0.mk (HS.out.draw.step hb) | replace HS := Aside0.mk ((HS.out.drawN _).step hb)); clear hb; obtain ⟨l0, l1, l2, l3, l4, l5, l6, l7, l8⟩ := HS.out.lc; obtain ⟨z0, z1, z2, z3, z4, z5, z6, z7, z8⟩ := HS.out.xc)))
    go_ret
    exact ⟨by rw [← HRES.out]; rfl, HS.out.B⟩
  have s1 : decide (0 ≤ dv) = true := decide_eq_true (by omega)
  have s2 : decide (dv ≥ 0) = true := decide_eq_true (by omega)
  have p4 : (0 : Int) ≤ dv := by omega
  have p5 := HDV.out
  rw [decide_eq_false hn, Bool.false_or] at hres
  obtain ⟨E, eE⟩ : ∃ r, decide (rd L.rg dv = kq) = r := ⟨_, rfl⟩
  rw [eE] at hres
  have s3 : (rd L.rg dv == kq) = E := by rw [← eE, Bool.eq_iff_iff]; simp
  obtain ⟨qr, er, cr_⟩ := Kd.at_int HS.out.l.r dv p4 p5
  have HER := Aside0.mk er
  have HCR := Aside0.mk cr_
  have HRES := Aside0.mk hres
  clear hres hn eE cr_ er
  cases b <;> cases E
  all_goals
   (try (obtain ⟨t1, t2⟩ := HT3.out rfl))
   go_wp2_with ((go_at_call 74; ((with_reducible refine (instr_Def.calls kD x.f0 x.f1 x.f2 x.f3 x.f4 x.f5 x.f6 x.f7 A8 c8 x.f8 dv _ (LSt.a (by first | exact HS.out | exact HS.out.draw | exact HS.out.drawN _)) HS.out.ac HD.out).mono ?_); rintro e w' ⟨rfl, hb⟩; (first | replace HS := Aside0.mk (HS.out.step hb) | replace HS := Aside0.mk (HS.out.draw.step hb) | replace HS := Aside0.mk ((HS.out.drawN _).step hb)); have cr_ := pw_cell_below hb HCR.out; clear hb; obtain ⟨l0, l1, l2, l3, l4, l5, l6, l7, l8⟩ := HS.out.lc; obtain ⟨z0, z1, z2, z3, z4, z5, z6, z7, z8⟩ := HS.out.xc; rw [HER.out] at l6)))
   go_ret
   exact ⟨by rw [← HRES.out]; rfl, HS.out.B⟩
end Go.Proofs.Ytgbpkbfghonllaa.P
set_option linter.unusedVariables false
set_option linter.unusedSimpArgs false
namespace Go.Proofs.Ytgbpkbfghonllaa.P
open Go Go.RowKit Go.Proofs.YtgbpkbfghonllaaW.PrintWords Go.Proofs.YtgbpkbfghonllaaW.PrintLast Go.Proofs.YtgbpkbfghonllaaW.PrintMore Go.Proofs.Ytgbpkbfghonllaa.Pure
attribute [local go_sem] max2_int min2_int max_two min_two
theorem results_c1 {P : Program} {fn : Func} {p : Tmp} {ty : TypeId} (h : fn.results = #[.cell p ty]) (tmps : Array Value) (w : World) (g : Nat) (t : TypeId) (cs : Array Value) (fr : Nat × Nat) (d : TypeDesc)
  (hp : tmps.getD p undef = .pointer (some ⟨g, 0, none⟩)) (hg : w.heap[g]? = some (.cells cs t fr))
  (hu : P.underlying ty = some d) (hd : (match d with | .struct _ | .array _ _ => true | _ => false) = true) (hi : (P.info? ty).map (·.size) = some cs.size) :
  (results fn tmps).run P w = .ok (.agg cs) w := by
 have hp' : tmps[p]?.getD undef = .pointer (some ⟨g, 0, none⟩) := by simpa using hp
 simp [results, h, hp', asAddr, run_loadVar_row w g t ty cs fr d hg hu hd hi]
def insV (L : LA) (k : Nat) (b : List S42) (j : Nat) : Int := if !formV b j then 5 else if !thereV L k (b.getD j z42) then 2 else if !fitsV L (b.getD j z42) then 11 else 0
def scanI (L : LA) (k : Nat) (b : List S42) : Nat → Nat → Int → Int × Int
 | 0, _, last => (last, 0)
 | d + 1, j, last => if insV L k b j ≠ 0 then ((j : Int), insV L k b j) else scanI L k b d (j + 1) (j : Int)
def scanB (L : LA) (k : Nat) (b : List S42) : Int × Int := if b.length = 0 then (-1, 5) else scanI L k b b.length 0 (-1)
def scanBs (L : LA) : Nat → Nat → Int × Int → Int × Int × Int
 | 0, _, last => (last.1, last.2, 0)
 | d + 1, k, last => if (scanB L k (L.bl.getD k [])).2 ≠ 0 then ((k : Int), (scanB L k (L.bl.getD k [])).1, (scanB L k (L.bl.getD k [])).2) else scanBs L d (k + 1) ((k : Int), (scanB L k (L.bl.getD k [])).1)
def predStep (pr : List Int) (t : Int) : List Int := if t < (pr.length : Int) then pr.set t.toNat (wrap64 (rd pr t + 1)) else pr
def predB (pr : List Int) (b : List S42) : List Int := if b.length = 0 then pr else (targetsI (b.getD (b.length - 1) z42)).foldl predStep pr
def predsV (bl : List (List S42)) : List Int := bl.foldl predB (List.replicate bl.length 0)
theorem predStep_len (pr : List Int) (t : Int) : (predStep pr t).length = pr.length := by unfold predStep; split <;> simp
theorem predFold_len (l : List Int) : ∀ pr : List Int, (l.foldl predStep pr).length = pr.length := by
 induction l with
 | nil => intro pr; rfl
 | cons t l ih => intro pr; exact (ih _).trans (predStep_len pr t)
theorem predB_len (pr : List Int) (b : List S42) : (predB pr b).length = pr.length := by
 unfold predB
 split
 ·rfl
 ·exact predFold_len _ _
theorem targets_pos (x : S42) : ∀ t ∈ targetsI x, 0 ≤ t := by
 unfold targetsI targetsV
 split
 ·rename_i h
  unfold rr_rightV rr_tailV at h
  simp only [Bool.and_eq_true] at h
  have h2 := h.2
  split
  ·rename_i h41
   rw [if_neg (by omega), if_neg (by omega), if_neg (by omega)] at h2
   split at h2
   ·cases h2
   ·(repeat (first | rw [if_neg (by omega)] at h2 | rw [if_pos (by omega)] at h2))
    have := of_decide_eq_true h2
    intro t ht
    simp only [List.mem_singleton] at ht
    omega
  ·split
   ·rename_i h41 h42
    rw [if_neg (by omega), if_neg (by omega), if_neg (by omega)] at h2
    split at h2
    ·cases h2
    ·(repeat (first | rw [if_neg (by omega)] at h2 | rw [if_pos (by omega)] at h2))
     have := of_decide_eq_true h2
     intro t ht
     simp only [List.mem_cons, List.not_mem_nil, or_false] at ht
     omega
   ·intro t ht; cases ht
 ·intro t ht; cases ht
theorem there_uses (L : LA) (k : Nat) (x : S42) (h : thereV L k x = true) : (∀ u ∈ usesI x, u < (L.rg.length : Int)) ∧ defI x < (L.rg.length : Int) ∧ (x.f0 = 39 → x.f5 < (L.fs.length : Int)) := by
 unfold thereV at h
 simp only [Bool.and_eq_true] at h
 obtain ⟨⟨⟨h1, h2⟩, _⟩, h4⟩ := h
 rw [List.all_eq_true] at h2
 refine ⟨fun u hu => of_decide_eq_true (h2 u hu), of_decide_eq_true h1, fun h39 => ?_⟩
 rw [if_pos h39] at h4
 exact of_decide_eq_true h4
theorem right_parts (x : S42) (h : rightI x = true) : (3 ≤ x.f0 ∧ x.f0 ≤ 45 ∧ ¬ (16 < x.f0 ∧ x.f0 < 20)) ∧ 0 ≤ x.f1 ∧ 0 ≤ x.f2 ∧ 0 ≤ x.f3 ∧ 0 ≤ x.f4 ∧ 0 ≤ x.f7 ∧ (∀ u ∈ x.f8, 0 ≤ u) ∧ rr_tailV x.f0 x.f5 x.f6 x.f8.length = true := by
 unfold rightI rr_rightV at h
 simp only [Bool.and_eq_true, decide_eq_true_eq, List.all_eq_true] at h
 obtain ⟨⟨⟨⟨⟨⟨⟨h0, h1⟩, h2⟩, h3⟩, h4⟩, h7⟩, h8⟩, ht⟩ := h
 have f : ∀ (q : Bool) (n : Int), rr_fitsV q n = true → 0 ≤ n := by
  intro q n hq
  unfold rr_fitsV at hq
  simp only [Bool.or_eq_true, Bool.and_eq_true, decide_eq_true_eq] at hq
  omega
 exact ⟨h0, f _ _ h1, f _ _ h2, f _ _ h3, f _ _ h4, f _ _ h7, h8, ht⟩
theorem right_call (x : S42) (h : rightI x = true) (h39 : x.f0 = 39) : 0 ≤ x.f5 := by
 have ht := (right_parts x h).2.2.2.2.2.2.2
 unfold rr_tailV at ht
 rw [if_pos h39] at ht
 exact (of_decide_eq_true ht).1
theorem uses_pos (x : S42) (h : rightI x = true) : ∀ u ∈ usesI x, 0 ≤ u := by
 obtain ⟨_, _, ha, hb, hc, _, hl, _⟩ := right_parts x h
 unfold usesI usesV
 rw [if_pos (show rr_rightV _ _ _ _ _ _ _ _ _ = true from h)]
 unfold usV
 intro u hu
 simp only [List.mem_append] at hu
 rcases hu with ((hu | hu) | hu) | hu
 ·split at hu
  ·rw [List.mem_singleton.1 hu]; exact ha
  ·cases hu
 ·split at hu
  ·rw [List.mem_singleton.1 hu]; exact hb
  ·cases hu
 ·split at hu
  ·rw [List.mem_singleton.1 hu]; exact hc
  ·cases hu
 ·exact hl u hu
theorem uses_has (x : S42) (h : rightI x = true) (ho : x.f0 = 3 ∨ x.f0 = 4 ∨ x.f0 = 23) : x.f2 ∈ usesI x := by
 unfold usesI usesV
 rw [if_pos (show rr_rightV _ _ _ _ _ _ _ _ _ = true from h)]
 unfold usV
 have : (Go.bits .and .i64 (hasV x.f0) 2 != 0) = true := by
  rcases ho with ho | ho | ho <;> rw [ho] <;> decide
 rw [this]
 simp
theorem def_phi (x : S42) (h : rightI x = true) (h44 : x.f0 = 44) : defI x = x.f1 ∧ 0 ≤ x.f1 := by
 refine ⟨?_, (right_parts x h).2.1⟩
 unfold defI defV
 rw [show rr_rightV _ _ _ _ _ _ _ _ _ = true from h, h44]
 rfl
theorem fits_needs (L : LA) (k : Nat) (x : S42) (hR : rightI x = true) (hT : thereV L k x = true) : (3 ≤ x.f0 ∧ x.f0 ≤ 45 ∧ ¬ (16 < x.f0 ∧ x.f0 < 20)) ∧ (x.f0 = 3 ∨ x.f0 = 4 ∨ x.f0 = 23 → 0 ≤ x.f2 ∧ x.f2 < (L.rg.length : Int)) ∧ (x.f0 = 44 → 0 ≤ x.f1 ∧ x.f1 < (L.rg.length : Int)) ∧ (x.f0 = 39 → 0 ≤ x.f5 ∧ x.f5 < (L.fs.length : Int)) ∧ (∀ i, i < (usesI x).length → 0 ≤ (usesI x).getD i 0 ∧ (usesI x).getD i 0 < (L.rg.length : Int)) ∧ defI x < (L.rg.length : Int) := by
 obtain ⟨hu, hd, h39⟩ := there_uses L k x hT
 have hr := right_range _ _ _ _ _ _ _ _ _ hR
 have hp := uses_pos x hR
 refine ⟨hr, fun h => ?_, fun h => ?_, fun h => ⟨right_call x hR h, h39 h⟩, fun i hi => ?_, hd⟩
 ·have hm := uses_has x hR h
  exact ⟨hp _ hm, hu _ hm⟩
 ·have hv := def_phi x hR h
  rw [hv.1] at hd
  exact ⟨hv.2, hd⟩
 ·have hm : (usesI x).getD i 0 ∈ usesI x := by
   rw [List.getD_eq_getElem?_getD, List.getElem?_eq_getElem hi]
   exact List.getElem_mem hi
  exact ⟨hp _ hm, hu _ hm⟩
section
variable {L : LA} {W : World} {g2 g11 g12 g13 g14 : Nat} {Ax : Option Addr} {cx : Nat} {b : List S42} {j k : Nat} {x : S42} {A8 : Option Addr} {c8 : Nat}
set_option maxHeartbeats 4000000 in
theorem clo1_at (h2 : W.heap[g2]? = some (.cells #[.slice L.Af L.fs.length L.cf, .int .i64 L.mn, .slice L.As L.ss.length L.cs, .string L.nm, .int .i64 L.ps, .int .i64 L.rt, .slice L.Ar L.rg.length L.cr, .slice L.Ab L.bl.length L.cb, .slice L.Aq L.pr.length L.cq] 74 (0, 0))) (h12 : W.heap[g12]? = some (.cells #[.slice Ax b.length cx] 40 (0, 0))) (h13 : W.heap[g13]? = some (.cells #[.int .i64 (j : Int)] 3 (0, 0))) (hb : k42.C W Ax b.length b) (hc : b.length ≤ cx) (ha : j < b.length) (hl : ∀ i, i < b.length → (b.getD i z42).f8.length < 100000) (e : Int) (he : (if formV b j then 0 else 5) = e) :
  Calls Try.prog 51 #[.pointer (some ⟨g2, 0, none⟩), .pointer (some ⟨g12, 0, none⟩), .pointer (some ⟨g13, 0, none⟩)] W fun r w' => r = .returned (.int .i64 e) ∧ Below W.heap.size W w' := by
 have HC := Aside0.mk (form_at L Ax cx b j W hb hc ha hl)
 rw [he] at HC
 have l0 := blk_cell h2 0
 have l1 := blk_cell h2 1
 have l2 := blk_cell h2 2
 have l3 := blk_cell h2 3
 have l4 := blk_cell h2 4
 have l5 := blk_cell h2 5
 have l6 := blk_cell h2 6
 have l7 := blk_cell h2 7
 have l8 := blk_cell h2 8
 have z0 := blk_cell h12 0
 have y0 := blk_cell h13 0
 simp only [List.getElem?_toArray, List.getElem?_cons_zero, List.getElem?_cons_succ] at l0 l1 l2 l3 l4 l5 l6 l7 l8 z0 y0
 clear h2 h12 h13 hb hc ha hl he
 go_enter Try.func51, Try.ntmps51
 go_wp2_with ((go_at_call 52; ((with_reducible refine HC.out.mono ?_); rintro r w' ⟨rfl, hb⟩; have HB := Aside0.mk hb; clear hb)))
 go_ret
 exact ⟨rfl, HB.out⟩
set_option maxHeartbeats 4000000 in
theorem clo2_at (h2 : W.heap[g2]? = some (.cells #[.slice L.Af L.fs.length L.cf, .int .i64 L.mn, .slice L.As L.ss.length L.cs, .string L.nm, .int .i64 L.ps, .int .i64 L.rt, .slice L.Ar L.rg.length L.cr, .slice L.Ab L.bl.length L.cb, .slice L.Aq L.pr.length L.cq] 74 (0, 0))) (h11 : W.heap[g11]? = some (.cells #[.int .i64 (k : Int)] 3 (0, 0))) (h14 : W.heap[g14]? = some (.cells #[.int .i64 x.f0, .int .i64 x.f1, .int .i64 x.f2, .int .i64 x.f3, .int .i64 x.f4, .int .i64 x.f5, .int .i64 x.f6, .int .i64 x.f7, .slice A8 x.f8.length c8] 42 (0, 0))) (hL : LOk L W) (hk : k < L.pr.length) (hA : (Kd.int .i64).C W A8 x.f8.length x.f8) (hc : x.f8.length ≤ c8) (hl : x.f8.length < 100000) (hR : rightI x = true) (e : Int) (he : (if thereV L k x then 0 else 2) = e) :
  Calls Try.prog 53 #[.pointer (some ⟨g2, 0, none⟩), .pointer (some ⟨g11, 0, none⟩), .pointer (some ⟨g14, 0, none⟩)] W fun r w' => r = .returned (.int .i64 e) ∧ Below W.heap.size W w' := by
 have HC := Aside0.mk (there_at L k x A8 c8 W hL hk hA hc hl hR)
 rw [he] at HC
 have l0 := blk_cell h2 0
 have l1 := blk_cell h2 1
 have l2 := blk_cell h2 2
 have l3 := blk_cell h2 3
 have l4 := blk_cell h2 4
 have l5 := blk_cell h2 5
 have l6 := blk_cell h2 6
 have l7 := blk_cell h2 7
 have l8 := blk_cell h2 8
 have z0 := blk_cell h14 0
 have z1 := blk_cell h14 1
 have z2 := blk_cell h14 2
 have z3 := blk_cell h14 3
 have z4 := blk_cell h14 4
 have z5 := blk_cell h14 5
 have z6 := blk_cell h14 6
 have z7 := blk_cell h14 7
 have z8 := blk_cell h14 8
 have y0 := blk_cell h11 0
 simp only [List.getElem?_toArray, List.getElem?_cons_zero, List.getElem?_cons_succ] at l0 l1 l2 l3 l4 l5 l6 l7 l8 z0 z1 z2 z3 z4 z5 z6 z7 z8 y0
 clear h2 h11 h14 hL hk hA hc hl hR he
 go_enter Try.func53, Try.ntmps53
 go_wp2_with ((go_at_call 54; ((with_reducible refine HC.out.mono ?_); rintro r w' ⟨rfl, hb⟩; have HB := Aside0.mk hb; clear hb)))
 go_ret
 exact ⟨rfl, HB.out⟩
set_option maxHeartbeats 4000000 in
theorem clo3_at (h2 : W.heap[g2]? = some (.cells #[.slice L.Af L.fs.length L.cf, .int .i64 L.mn, .slice L.As L.ss.length L.cs, .string L.nm, .int .i64 L.ps, .int .i64 L.rt, .slice L.Ar L.rg.length L.cr, .slice L.Ab L.bl.length L.cb, .slice L.Aq L.pr.length L.cq] 74 (0, 0))) (h14 : W.heap[g14]? = some (.cells #[.int .i64 x.f0, .int .i64 x.f1, .int .i64 x.f2, .int .i64 x.f3, .int .i64 x.f4, .int .i64 x.f5, .int .i64 x.f6, .int .i64 x.f7, .slice A8 x.f8.length c8] 42 (0, 0))) (hL : LOk L W) (hA : (Kd.int .i64).C W A8 x.f8.length x.f8) (hc : x.f8.length ≤ c8) (hl : x.f8.length < 100000) (hR : rightI x = true) (hT : thereV L k x = true) (e : Int) (he : (if fitsV L x then 0 else 11) = e) :
  Calls Try.prog 55 #[.pointer (some ⟨g2, 0, none⟩), .pointer (some ⟨g14, 0, none⟩)] W fun r w' => r = .returned (.int .i64 e) ∧ Below W.heap.size W w' := by
 obtain ⟨n1, n2, n3, n4, n5, n6⟩ := fits_needs L k x hR hT
 have HC := Aside0.mk (fits_at L x A8 c8 W hL hA hc hl n1 n2 n3 n4 n5 n6)
 rw [he] at HC
 have l0 := blk_cell h2 0
 have l1 := blk_cell h2 1
 have l2 := blk_cell h2 2
 have l3 := blk_cell h2 3
 have l4 := blk_cell h2 4
 have l5 := blk_cell h2 5
 have l6 := blk_cell h2 6
 have l7 := blk_cell h2 7
 have l8 := blk_cell h2 8
 have z0 := blk_cell h14 0
 have z1 := blk_cell h14 1
 have z2 := blk_cell h14 2
 have z3 := blk_cell h14 3
 have z4 := blk_cell h14 4
 have z5 := blk_cell h14 5
 have z6 := blk_cell h14 6
 have z7 := blk_cell h14 7
 have z8 := blk_cell h14 8
 simp only [List.getElem?_toArray, List.getElem?_cons_zero, List.getElem?_cons_succ] at l0 l1 l2 l3 l4 l5 l6 l7 l8 z0 z1 z2 z3 z4 z5 z6 z7 z8
 clear h2 h14 hL hA hc hl hR hT he n1 n2 n3 n4 n5 n6
 go_enter Try.func55, Try.ntmps55
 go_wp2_with ((go_at_call 56; ((with_reducible refine HC.out.mono ?_); rintro r w' ⟨rfl, hb⟩; have HB := Aside0.mk hb; clear hb)))
 go_ret
 exact ⟨rfl, HB.out⟩
end
end Go.Proofs.Ytgbpkbfghonllaa.P

/- The walk of the law InstrTells, in the row's form: all that is compared is the same, so there is one way alone. -/
import Derived.Test.YtlhaopjdpkhogaaInstrSameP
import Derived.Test.YtlhaopjdpkhogaaInstrB
import Derived.Deep.RegionHeld3
set_option linter.unusedVariables false
namespace Go.Proofs.Ytlhaopjdpkhogaa.P
open Go Go.RowKit Go.Proofs.YtlhaopjdpkhogaaW.PrintWords Go.Proofs.YtlhaopjdpkhogaaW.PrintLast Go.Proofs.YtlhaopjdpkhogaaW.PrintMore Go.Proofs.Ytlhaopjdpkhogaa.Pure
set_option maxHeartbeats 16000000 in
set_option maxRecDepth 100000 in
theorem balustradelaw15_InstrTells.walk (x0 : S24) (A0_8 : Option Addr) (c0_8 : Nat) (a1 : Int) (w : World) (hr0 : (Kd.int .i64).C w A0_8 x0.f8.length x0.f8) (hl0 : x0.f8.length ≤ c0_8) (w1 : (Lit.int .i64 a1).wf = true) :
    Calls Try.prog 3 #[.agg #[.int .i64 x0.f0, .int .i64 x0.f1, .int .i64 x0.f2, .int .i64 x0.f3, .int .i64 x0.f4, .int .i64 x0.f5, .int .i64 x0.f6, .int .i64 x0.f7, .slice A0_8 x0.f8.length c0_8], .int .i64 a1] w fun e w' => e = .returned (.bool true) ∧ Below w.heap.size w w' := by
  have hu24 := Try.underlying24
  obtain ⟨kw, hkw⟩ := works15_ev.rounds
  have HKW := Aside0.mk hkw
  clear hkw w1
  have hb0 := below_alloc (Below.refl w.heap.size w) (.cells #[.int .i64 x0.f0, .int .i64 x0.f1, .int .i64 x0.f2, .int .i64 x0.f3, .int .i64 x0.f4, .int .i64 x0.f5, .int .i64 x0.f6, .int .i64 x0.f7, .slice A0_8 x0.f8.length c0_8] 24)
  have HR0 := Aside0.mk (Kd.C_below hr0 hb0)
  have HB := Aside0.mk hb0
  have HC := Aside0.mk hl0
  have BK := Aside0.mk (blk_new w (.cells #[.int .i64 x0.f0, .int .i64 x0.f1, .int .i64 x0.f2, .int .i64 x0.f3, .int .i64 x0.f4, .int .i64 x0.f5, .int .i64 x0.f6, .int .i64 x0.f7, .slice A0_8 x0.f8.length c0_8] 24))
  clear hr0 hl0 hb0
  by_cases hlen : 20 < x0.f8.length
  · have t1 : decide ((20 : Int) < (x0.f8.length : Int)) = true := decide_eq_true (by omega)
    have t2 : decide (20 < x0.f8.length) = true := decide_eq_true hlen
    go_enter Try.func3, Try.ntmps3
    go_wp2_with (first | (go_at_call 9; ((with_reducible refine (balustradelaw15_works.calls kw true _ HKW.out).mono ?_); rintro e w' ⟨rfl, hb⟩; replace HB := Aside0.mk (below_step HB.out hb); clear hb)))
    go_ret
    exact ⟨rfl, HB.out⟩
  have hle : x0.f8.length ≤ 20 := by omega
  have t1 : decide ((20 : Int) < (x0.f8.length : Int)) = false := decide_eq_false (by omega)
  have t2 : decide (20 < x0.f8.length) = false := decide_eq_false hlen
  obtain ⟨kR, hR⟩ := (instrRight_ev x0.f0 x0.f1 x0.f2 x0.f3 x0.f4 x0.f5 x0.f6 x0.f7 x0.f8 (by omega)).rounds
  have HR := Aside0.mk hR
  clear hR
  have HRR := Aside0.mk (refRight_val x0.f0 x0.f1 x0.f2 x0.f3 x0.f4 x0.f5 x0.f6 x0.f7 x0.f8 (by omega))
  obtain ⟨kD, hD⟩ := (instrDef_ev x0.f0 x0.f1 x0.f2 x0.f3 x0.f4 x0.f5 x0.f6 x0.f7 x0.f8 (by omega)).rounds
  have HD := Aside0.mk hD
  clear hD
  have HDR := Aside0.mk (refDef_val x0.f0 x0.f1 x0.f2 x0.f3 x0.f4 x0.f5 x0.f6 x0.f7 x0.f8 (by omega))
  obtain ⟨kU, hU⟩ := (instrUses_ev x0.f0 x0.f1 x0.f2 x0.f3 x0.f4 x0.f5 x0.f6 x0.f7 x0.f8 (by omega)).rounds
  have HU := Aside0.mk hU
  clear hU
  obtain ⟨kUR, hUR⟩ := (refUses_ev x0.f0 x0.f1 x0.f2 x0.f3 x0.f4 x0.f5 x0.f6 x0.f7 x0.f8 (by omega)).rounds
  have HUR := Aside0.mk hUR
  clear hUR
  obtain ⟨kT, hT⟩ := (instrTargets_ev x0.f0 x0.f1 x0.f2 x0.f3 x0.f4 x0.f5 x0.f6 x0.f7 x0.f8 (by omega)).rounds
  have HT := Aside0.mk hT
  clear hT
  obtain ⟨kTR, hTR⟩ := (refTargets_ev x0.f0 x0.f1 x0.f2 x0.f3 x0.f4 x0.f5 x0.f6 x0.f7 x0.f8 (by omega)).rounds
  have HTR := Aside0.mk hTR
  clear hTR
  obtain ⟨rv, hrv⟩ : ∃ v, rr_rightV x0.f0 x0.f1 x0.f2 x0.f3 x0.f4 x0.f5 x0.f6 x0.f7 x0.f8 = v := ⟨_, rfl⟩
  rw [hrv] at HR HRR
  obtain ⟨dv, hdv⟩ : ∃ v, defV x0.f0 x0.f1 x0.f2 x0.f3 x0.f4 x0.f5 x0.f6 x0.f7 x0.f8 = v := ⟨_, rfl⟩
  rw [hdv] at HD HDR
  have huL : (usesV x0.f0 x0.f1 x0.f2 x0.f3 x0.f4 x0.f5 x0.f6 x0.f7 x0.f8).length < 1000 := usesV_len _ _ _ _ _ _ _ _ _ hle
  obtain ⟨uv, huv⟩ : ∃ v, usesV x0.f0 x0.f1 x0.f2 x0.f3 x0.f4 x0.f5 x0.f6 x0.f7 x0.f8 = v := ⟨_, rfl⟩
  rw [huv] at HU HUR huL
  have htL : (targetsV x0.f0 x0.f1 x0.f2 x0.f3 x0.f4 x0.f5 x0.f6 x0.f7 x0.f8).length < 1000 := targetsV_len _ _ _ _ _ _ _ _ _
  obtain ⟨tv, htv⟩ : ∃ v, targetsV x0.f0 x0.f1 x0.f2 x0.f3 x0.f4 x0.f5 x0.f6 x0.f7 x0.f8 = v := ⟨_, rfl⟩
  rw [htv] at HT HTR htL
  have hSU := sameInts_ev uv uv (by omega)
  rw [decide_eq_true rfl] at hSU
  obtain ⟨kSU, hSU⟩ := hSU.rounds
  have HSU := Aside0.mk hSU
  have hST := sameInts_ev tv tv (by omega)
  rw [decide_eq_true rfl] at hST
  obtain ⟨kST, hST⟩ := hST.rounds
  have HST := Aside0.mk hST
  obtain ⟨cv, hc1⟩ := check_some a1
  have HCK := Aside0.mk hc1
  have HCR := Aside0.mk ((check_val a1).symm.trans hc1)
  obtain ⟨ev, he1⟩ := ends_some a1
  have HE := Aside0.mk he1
  have HER := Aside0.mk ((ends_val a1).symm.trans he1)
  obtain ⟨tr, htr1, htr2⟩ := trap_val a1
  have HTP := Aside0.mk htr1
  have HTPR := Aside0.mk htr2
  clear hrv hdv huL huv htL htv hSU hST hc1 he1 htr1 htr2 hle hlen
  have q1 : (rv == rv) = true := beq_self_eq_true rv
  have q2 : (dv == dv) = true := beq_self_eq_true dv
  have q3 : (cv == cv) = true := beq_self_eq_true cv
  have q4 : (ev == ev) = true := beq_self_eq_true ev
  have q5 : (tr == tr) = true := beq_self_eq_true tr
  go_enter Try.func3, Try.ntmps3
  go_upto_region 3 with (fail)
  have HR_ := Aside0.mk (Kd.C_drew HR0.out)
  replace HB := Aside0.mk (below_drew1 HB.out)
  replace BK := Aside0.mk (blk_drew BK.out)
  clear HR0
  go_region_held3 (fun w' => w'.cell? ⟨w.heap.size, 0, none⟩ = some (.int .i64 x0.f0) ∧ w'.cell? ⟨w.heap.size, 1, none⟩ = some (.int .i64 x0.f1) ∧ w'.cell? ⟨w.heap.size, 2, none⟩ = some (.int .i64 x0.f2) ∧ w'.cell? ⟨w.heap.size, 3, none⟩ = some (.int .i64 x0.f3) ∧ w'.cell? ⟨w.heap.size, 4, none⟩ = some (.int .i64 x0.f4) ∧ w'.cell? ⟨w.heap.size, 5, none⟩ = some (.int .i64 x0.f5) ∧ w'.cell? ⟨w.heap.size, 6, none⟩ = some (.int .i64 x0.f6) ∧ w'.cell? ⟨w.heap.size, 7, none⟩ = some (.int .i64 x0.f7) ∧ w'.cell? ⟨w.heap.size, 8, none⟩ = some (.slice A0_8 x0.f8.length c0_8)) (exact ⟨(blk_cell BK.out 0).trans rfl, (blk_cell BK.out 1).trans rfl, (blk_cell BK.out 2).trans rfl, (blk_cell BK.out 3).trans rfl, (blk_cell BK.out 4).trans rfl, (blk_cell BK.out 5).trans rfl, (blk_cell BK.out 6).trans rfl, (blk_cell BK.out 7).trans rfl, (blk_cell BK.out 8).trans rfl⟩) (first
    | (go_at_call 10; ((with_reducible refine (instr_Right.calls kR x0.f0 x0.f1 x0.f2 x0.f3 x0.f4 x0.f5 x0.f6 x0.f7 A0_8 c0_8 x0.f8 rv _ HR_.out HC.out HR.out).mono ?_); rintro e w' ⟨rfl, hb⟩; replace HB := Aside0.mk (below_step HB.out hb); replace BK := Aside0.mk (blk_below BK.out hb); replace HR_ := Aside0.mk (Kd.C_below HR_.out hb); clear hb))
    | (go_at_call 11; ((with_reducible refine (balustraderef15_Right.calls x0.f0 x0.f1 x0.f2 x0.f3 x0.f4 x0.f5 x0.f6 x0.f7 A0_8 c0_8 x0.f8 rv _ HR_.out HC.out HRR.out).mono ?_); rintro e w' ⟨rfl, hb⟩; replace HB := Aside0.mk (below_step HB.out hb); replace BK := Aside0.mk (blk_below BK.out hb); replace HR_ := Aside0.mk (Kd.C_below HR_.out hb); clear hb))
    | (go_at_call 12; ((with_reducible refine (instr_Def.calls kD x0.f0 x0.f1 x0.f2 x0.f3 x0.f4 x0.f5 x0.f6 x0.f7 A0_8 c0_8 x0.f8 dv _ HR_.out HC.out HD.out).mono ?_); rintro e w' ⟨rfl, hb⟩; replace HB := Aside0.mk (below_step HB.out hb); replace BK := Aside0.mk (blk_below BK.out hb); replace HR_ := Aside0.mk (Kd.C_below HR_.out hb); clear hb))
    | (go_at_call 13; ((with_reducible refine (balustraderef15_Def.calls x0.f0 x0.f1 x0.f2 x0.f3 x0.f4 x0.f5 x0.f6 x0.f7 A0_8 c0_8 x0.f8 dv _ HR_.out HC.out HDR.out).mono ?_); rintro e w' ⟨rfl, hb⟩; replace HB := Aside0.mk (below_step HB.out hb); replace BK := Aside0.mk (blk_below BK.out hb); replace HR_ := Aside0.mk (Kd.C_below HR_.out hb); clear hb))
    | (go_at_call 15; ((with_reducible refine (instr_Uses.calls kU x0.f0 x0.f1 x0.f2 x0.f3 x0.f4 x0.f5 x0.f6 x0.f7 A0_8 c0_8 x0.f8 uv _ HR_.out HC.out HU.out).mono ?_); rintro e w' ⟨v_, rfl, hR_, hb⟩; replace HB := Aside0.mk (below_step HB.out hb); replace BK := Aside0.mk (blk_below BK.out hb); replace HR_ := Aside0.mk (Kd.C_below HR_.out hb); obtain ⟨Au, cu, rfl, hcu, hCu⟩ := Kd.R_reads hR_; have HCu := Aside0.mk hCu; have HLu := Aside0.mk hcu; clear hb hR_ hCu hcu))
    | (go_at_call 16; ((with_reducible refine (balustraderef15_Uses.calls kUR x0.f0 x0.f1 x0.f2 x0.f3 x0.f4 x0.f5 x0.f6 x0.f7 A0_8 c0_8 x0.f8 uv _ HR_.out HC.out HUR.out).mono ?_); rintro e w' ⟨v_, rfl, hR_, hb⟩; replace HB := Aside0.mk (below_step HB.out hb); replace BK := Aside0.mk (blk_below BK.out hb); replace HR_ := Aside0.mk (Kd.C_below HR_.out hb); replace HCu := Aside0.mk (Kd.C_below HCu.out hb); obtain ⟨Av, cv_, rfl, hcu, hCu⟩ := Kd.R_reads hR_; have HCv := Aside0.mk hCu; have HLv := Aside0.mk hcu; clear hb hR_ hCu hcu))
    | (go_at_call 17; ((with_reducible refine (instr_Targets.calls kT x0.f0 x0.f1 x0.f2 x0.f3 x0.f4 x0.f5 x0.f6 x0.f7 A0_8 c0_8 x0.f8 tv _ HR_.out HC.out HT.out).mono ?_); rintro e w' ⟨v_, rfl, hR_, hb⟩; replace HB := Aside0.mk (below_step HB.out hb); replace BK := Aside0.mk (blk_below BK.out hb); replace HR_ := Aside0.mk (Kd.C_below HR_.out hb); obtain ⟨At, ct, rfl, hcu, hCu⟩ := Kd.R_reads hR_; have HCt := Aside0.mk hCu; have HLt := Aside0.mk hcu; clear hb hR_ hCu hcu))
    | (go_at_call 18; ((with_reducible refine (balustraderef15_Targets.calls kTR x0.f0 x0.f1 x0.f2 x0.f3 x0.f4 x0.f5 x0.f6 x0.f7 A0_8 c0_8 x0.f8 tv _ HR_.out HC.out HTR.out).mono ?_); rintro e w' ⟨v_, rfl, hR_, hb⟩; replace HB := Aside0.mk (below_step HB.out hb); replace BK := Aside0.mk (blk_below BK.out hb); replace HR_ := Aside0.mk (Kd.C_below HR_.out hb); replace HCt := Aside0.mk (Kd.C_below HCt.out hb); obtain ⟨As, cs_, rfl, hcu, hCu⟩ := Kd.R_reads hR_; have HCs := Aside0.mk hCu; have HLs := Aside0.mk hcu; clear hb hR_ hCu hcu))
    | (go_at_call 14; ((with_reducible refine (balustradebase_SameInts.calls kST At ct tv As cs_ tv true _ HCt.out HLt.out HCs.out HLs.out HST.out).mono ?_); rintro e w' ⟨rfl, hb⟩; obtain ⟨nd, rfl⟩ := hb; replace HB := Aside0.mk (pw_below_drewN HB.out nd); replace BK := Aside0.mk (blk_drewN BK.out nd); replace HR_ := Aside0.mk (Kd.C_drewN HR_.out nd); clear HCt HCs))
    | (go_at_call 14; ((with_reducible refine (balustradebase_SameInts.calls kSU Au cu uv Av cv_ uv true _ HCu.out HLu.out HCv.out HLv.out HSU.out).mono ?_); rintro e w' ⟨rfl, hb⟩; obtain ⟨nd, rfl⟩ := hb; replace HB := Aside0.mk (pw_below_drewN HB.out nd); replace BK := Aside0.mk (blk_drewN BK.out nd); replace HR_ := Aside0.mk (Kd.C_drewN HR_.out nd); clear HCu HCv))
    | (go_at_call 19; ((with_reducible refine (instr_Check.calls a1 cv _ HCK.out).mono ?_); rintro e w' ⟨rfl, hb⟩; obtain ⟨nd, rfl⟩ := hb; replace HB := Aside0.mk (pw_below_drewN HB.out nd); replace BK := Aside0.mk (blk_drewN BK.out nd); replace HR_ := Aside0.mk (Kd.C_drewN HR_.out nd)))
    | (go_at_call 20; ((with_reducible refine (balustraderef15_Check.calls a1 cv _ HCR.out).mono ?_); rintro e w' ⟨rfl, hb⟩; obtain ⟨nd, rfl⟩ := hb; replace HB := Aside0.mk (pw_below_drewN HB.out nd); replace BK := Aside0.mk (blk_drewN BK.out nd); replace HR_ := Aside0.mk (Kd.C_drewN HR_.out nd)))
    | (go_at_call 21; ((with_reducible refine (instr_Ends.calls a1 ev _ HE.out).mono ?_); rintro e w' ⟨rfl, hb⟩; obtain ⟨nd, rfl⟩ := hb; replace HB := Aside0.mk (pw_below_drewN HB.out nd); replace BK := Aside0.mk (blk_drewN BK.out nd); replace HR_ := Aside0.mk (Kd.C_drewN HR_.out nd)))
    | (go_at_call 22; ((with_reducible refine (balustraderef15_Ends.calls a1 ev _ HER.out).mono ?_); rintro e w' ⟨rfl, hb⟩; obtain ⟨nd, rfl⟩ := hb; replace HB := Aside0.mk (pw_below_drewN HB.out nd); replace BK := Aside0.mk (blk_drewN BK.out nd); replace HR_ := Aside0.mk (Kd.C_drewN HR_.out nd)))
    | (go_at_call 23; ((with_reducible refine (instr_Trap.calls a1 tr _ HTP.out).mono ?_); rintro e w' ⟨rfl, hb⟩; obtain ⟨nd, rfl⟩ := hb; replace HB := Aside0.mk (pw_below_drewN HB.out nd); replace BK := Aside0.mk (blk_drewN BK.out nd); replace HR_ := Aside0.mk (Kd.C_drewN HR_.out nd)))
    | (go_at_call 9; ((with_reducible refine (balustradelaw15_works.calls kw true _ HKW.out).mono ?_); rintro e w' ⟨rfl, hb⟩; replace HB := Aside0.mk (below_step HB.out hb); replace BK := Aside0.mk (blk_below BK.out hb); clear hb))
    | (go_at_call 24; ((with_reducible refine (balustraderef15_Trap.calls a1 tr _ HTPR.out).mono ?_); rintro e w' ⟨rfl, hb⟩; have hB_ := HB.out; (try simp only [World.drewN_drewN] at hB_); have bK_ := BK.out; (try simp only [World.drewN_drewN] at bK_); replace HB := Aside0.mk (below_step hB_ hb); replace BK := Aside0.mk (blk_below bK_ hb); clear hb hB_ bK_)))
  go_wp2
  go_ret
  exact ⟨rfl, HB.out⟩
end Go.Proofs.Ytlhaopjdpkhogaa.P

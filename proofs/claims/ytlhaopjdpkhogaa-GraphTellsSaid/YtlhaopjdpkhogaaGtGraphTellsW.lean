/- A text of this claim, what is not used left out. -/
import Derived.Test.YtlhaopjdpkhogaaGtGraphE
import Derived.Test.YtlhaopjdpkhogaaGtP0
import Derived.Test.YtlhaopjdpkhogaaGtP4
import Derived.Test.YtlhaopjdpkhogaaGtP13
import Derived.Test.YtlhaopjdpkhogaaGtP14
import Derived.Test.YtlhaopjdpkhogaaGtP15
import Derived.Test.YtlhaopjdpkhogaaGtP16
import Derived.Test.YtlhaopjdpkhogaaGtP19
import Derived.Deep.RegionHeld3
set_option linter.unusedVariables false
namespace Go.Proofs.Ytlhaopjdpkhogaa.P
open Go Go.RowKit Go.Proofs.YtlhaopjdpkhogaaW.PrintWords Go.Proofs.YtlhaopjdpkhogaaW.PrintLast Go.Proofs.YtlhaopjdpkhogaaW.PrintMore Go.Proofs.Ytlhaopjdpkhogaa.Pure
theorem goodB_of {bl : List (List S24)} {G : S24 → Prop} {m : Nat} (hm : m = 140737488351232) (h : (∀ b ∈ bl, (∀ i ∈ b, G i) ∧ b.length * 88 ≤ m) ∧ bl.length * 24 ≤ m) (hG : ∀ i, G i → i.f8.length * 8 ≤ m) : GoodB bl ∧ bl.length < 4611686018427387904 :=
  ⟨fun b hb => ⟨by have := (h.1 b hb).2; omega, fun i hi => by have := hG i ((h.1 b hb).1 i hi); omega⟩, by have := h.2; omega⟩
set_option maxHeartbeats 16000000 in
set_option maxRecDepth 100000 in
theorem balustradelaw17_GraphTells.walk (a0_0 : ByteArray) (a0_1 a0_2 : Int) (A0_3 : Option Addr) (c0_3 : Nat) (l0_3 : List Int) (A0_4 : Option Addr) (c0_4 : Nat) (l0_4 : List (List S24)) (w : World)
    (hr0_3 : Kd.C (Kd.int .i64) w A0_3 l0_3.length l0_3) (hc0_3 : l0_3.length ≤ c0_3) (hr0_4 : Kd.C (Kd.slice 24 k24) w A0_4 l0_4.length l0_4) (hc0_4 : l0_4.length ≤ c0_4) (hg : GoodB l0_4 ∧ l0_4.length < 4611686018427387904) :
    Calls Try.prog 5 #[.agg #[.string a0_0, .int .i64 a0_1, .int .i64 a0_2, .slice A0_3 l0_3.length c0_3, .slice A0_4 l0_4.length c0_4]] w fun e w' => e = .returned (.bool true) ∧ Below w.heap.size w w' := by
  have hu35 := Try.underlying35
  obtain ⟨fv, hfv, hfv2⟩ := few_ev l0_4 a0_0 a0_1 a0_2 l0_3 hg.2
  obtain ⟨kF, hF⟩ := hfv.rounds
  have HF := Aside0.mk hF
  obtain ⟨kw, hkw⟩ := works17_ev.rounds
  have HKW := Aside0.mk hkw
  have hb0 := below_alloc (Below.refl w.heap.size w) (.cells #[.string a0_0, .int .i64 a0_1, .int .i64 a0_2, .slice A0_3 l0_3.length c0_3, .slice A0_4 l0_4.length c0_4] 35)
  have HR3 := Aside0.mk (Kd.C_below hr0_3 hb0)
  have HR4 := Aside0.mk (Kd.C_below hr0_4 hb0)
  have HC3 := Aside0.mk hc0_3
  have HC4 := Aside0.mk hc0_4
  have HB := Aside0.mk hb0
  have BK := Aside0.mk (blk_new w (.cells #[.string a0_0, .int .i64 a0_1, .int .i64 a0_2, .slice A0_3 l0_3.length c0_3, .slice A0_4 l0_4.length c0_4] 35))
  clear hr0_3 hr0_4 hb0 hF hkw hfv
  cases fv with
  | false =>
    clear hfv2 hg
    go_enter Try.func5, Try.ntmps5
    go_wp2_with (first | (go_at_call 25; ((with_reducible refine (balustraderef17_Few.calls kF a0_0 a0_1 a0_2 A0_3 c0_3 l0_3 A0_4 c0_4 l0_4 false _ HR3.out HC3.out HR4.out HC4.out HF.out).mono ?_); rintro e w' ⟨rfl, hb⟩; replace HB := Aside0.mk (below_step HB.out hb); replace BK := Aside0.mk (blk_below BK.out hb); replace HR3 := Aside0.mk (Kd.C_below HR3.out hb); replace HR4 := Aside0.mk (Kd.C_below HR4.out hb); clear hb)) | (go_at_call 26; ((with_reducible refine (balustradelaw17_works.calls kw true _ HKW.out).mono ?_); rintro e w' ⟨rfl, hb⟩; replace HB := Aside0.mk (below_step HB.out hb); replace BK := Aside0.mk (blk_below BK.out hb); replace HR3 := Aside0.mk (Kd.C_below HR3.out hb); replace HR4 := Aside0.mk (Kd.C_below HR4.out hb); clear hb)))
    go_ret
    exact ⟨rfl, HB.out⟩
  | true =>
    have h40 := hfv2 rfl
    have hln := succsV_len l0_4
    have hrow := succsV_row l0_4
    have hcnt := gtAll_cnt (succsV l0_4) (-1) (fun l h => (succsV_good l0_4 l h).2)
    obtain ⟨sv, hsv⟩ : ∃ v, succsV l0_4 = v := ⟨_, rfl⟩
    obtain ⟨pv, hpv⟩ : ∃ v, prV sv sv.length = v := ⟨_, rfl⟩
    obtain ⟨tv, htv⟩ : ∃ v, (gtAll sv (-1)).1 = v := ⟨_, rfl⟩
    obtain ⟨ov, hov⟩ : ∃ v, (gtAll sv (-1)).2.reverse = v := ⟨_, rfl⟩
    have hS1 := gSuccs_ev l0_4 a0_0 a0_1 a0_2 l0_3 (by omega) hg.1
    have hS2 := rSuccs_ev l0_4 a0_0 a0_1 a0_2 l0_3 (by omega) hg.1
    have hP1 := gPreds_ev l0_4 a0_0 a0_1 a0_2 l0_3 h40 hg.1
    have hP2 := rPreds_ev l0_4 a0_0 a0_1 a0_2 l0_3 h40 hg.1
    have hT1 : Ev (fun k => graph_Reach.f k a0_0 a0_1 a0_2 l0_3 l0_4) (gtAll (succsV l0_4) (-1)).1 := Ev.bind (gWithout_ev l0_4 a0_0 a0_1 a0_2 l0_3 (-1) h40 hg.1) (Ev.now _)
    have hT2 : Ev (fun k => balustraderef17_Reach.f k a0_0 a0_1 a0_2 l0_3 l0_4) (gtAll (succsV l0_4) (-1)).1 := Ev.bind (rWithout_ev l0_4 a0_0 a0_1 a0_2 l0_3 (-1) h40 hg.1) (Ev.now _)
    have hO1 := gOrder_ev l0_4 a0_0 a0_1 a0_2 l0_3 h40 hg.1
    have hO2 := rOrder_ev l0_4 a0_0 a0_1 a0_2 l0_3 h40 hg.1
    rw [hsv] at hln hrow hcnt hS1 hS2 hP1 hP2 hT1 hT2 hO1 hO2
    have qS := sameLists_ev sv (by omega) (fun l h => by have := hrow l h; omega)
    have qP := sameLists_ev (prV sv sv.length) (by simp [prV]; omega) (fun l h => by
      obtain ⟨t, _, rfl⟩ := List.mem_map.1 h
      have := prRow_len sv sv.length t
      omega)
    have qT := sameTruths_ev (gtAll sv (-1)).1 (by rw [gtAll_len]; omega)
    have qO := sameInts_ev (gtAll sv (-1)).2.reverse (gtAll sv (-1)).2.reverse (by rw [List.length_reverse]; omega)
    rw [decide_eq_true rfl] at qO
    rw [hpv] at hP1 hP2 qP
    rw [htv] at hT1 hT2 qT
    rw [hov] at hO1 hO2 qO
    obtain ⟨khS1, hS1⟩ := hS1.rounds
    have AhS1 := Aside0.mk hS1
    obtain ⟨khS2, hS2⟩ := hS2.rounds
    have AhS2 := Aside0.mk hS2
    obtain ⟨khP1, hP1⟩ := hP1.rounds
    have AhP1 := Aside0.mk hP1
    obtain ⟨khP2, hP2⟩ := hP2.rounds
    have AhP2 := Aside0.mk hP2
    obtain ⟨khT1, hT1⟩ := hT1.rounds
    have AhT1 := Aside0.mk hT1
    obtain ⟨khT2, hT2⟩ := hT2.rounds
    have AhT2 := Aside0.mk hT2
    obtain ⟨khO1, hO1⟩ := hO1.rounds
    have AhO1 := Aside0.mk hO1
    obtain ⟨khO2, hO2⟩ := hO2.rounds
    have AhO2 := Aside0.mk hO2
    obtain ⟨kqS, qS⟩ := qS.rounds
    have AqS := Aside0.mk qS
    obtain ⟨kqP, qP⟩ := qP.rounds
    have AqP := Aside0.mk qP
    obtain ⟨kqT, qT⟩ := qT.rounds
    have AqT := Aside0.mk qT
    obtain ⟨kqO, qO⟩ := qO.rounds
    have AqO := Aside0.mk qO
    clear hfv2 hg h40 hln hrow hcnt hsv hpv htv hov hS1 hS2 hP1 hP2 hT1 hT2 hO1 hO2 qS qP qT qO
    go_enter Try.func5, Try.ntmps5
    go_upto_region 3 with (first | (go_at_call 25; ((with_reducible refine (balustraderef17_Few.calls kF a0_0 a0_1 a0_2 A0_3 c0_3 l0_3 A0_4 c0_4 l0_4 true _ HR3.out HC3.out HR4.out HC4.out HF.out).mono ?_); rintro e w' ⟨rfl, hb⟩; replace HB := Aside0.mk (below_step HB.out hb); replace BK := Aside0.mk (blk_below BK.out hb); replace HR3 := Aside0.mk (Kd.C_below HR3.out hb); replace HR4 := Aside0.mk (Kd.C_below HR4.out hb); clear hb)))
    replace HR3 := Aside0.mk (Kd.C_drew HR3.out)
    replace HR4 := Aside0.mk (Kd.C_drew HR4.out)
    replace HB := Aside0.mk (below_drew1 HB.out)
    replace BK := Aside0.mk (blk_drew BK.out)
    go_region_held3 (fun w' => w'.cell? ⟨w.heap.size, 0, none⟩ = some (.string a0_0) ∧ w'.cell? ⟨w.heap.size, 1, none⟩ = some (.int .i64 a0_1) ∧ w'.cell? ⟨w.heap.size, 2, none⟩ = some (.int .i64 a0_2) ∧ w'.cell? ⟨w.heap.size, 3, none⟩ = some (.slice A0_3 l0_3.length c0_3) ∧ w'.cell? ⟨w.heap.size, 4, none⟩ = some (.slice A0_4 l0_4.length c0_4)) (exact ⟨(blk_cell BK.out 0).trans rfl, (blk_cell BK.out 1).trans rfl, (blk_cell BK.out 2).trans rfl, (blk_cell BK.out 3).trans rfl, (blk_cell BK.out 4).trans rfl⟩) (first
      | (go_at_call 31; ((with_reducible refine (graph_Succs.calls khS1 a0_0 a0_1 a0_2 A0_3 c0_3 l0_3 A0_4 c0_4 l0_4 sv _ HR3.out HC3.out HR4.out HC4.out AhS1.out).mono ?_); rintro e w' ⟨v_, rfl, hR_, hb⟩; replace HB := Aside0.mk (below_step HB.out hb); replace BK := Aside0.mk (blk_below BK.out hb); replace HR3 := Aside0.mk (Kd.C_below HR3.out hb); replace HR4 := Aside0.mk (Kd.C_below HR4.out hb); obtain ⟨As1, cs1, rfl, hl_, hC_⟩ := Kd.S_reads hR_; have Cs1 := Aside0.mk hC_; have Ms1 := Aside0.mk hl_; clear hb hR_ hC_ hl_))
      | (go_at_call 32; ((with_reducible refine (balustraderef17_Succs.calls khS2 a0_0 a0_1 a0_2 A0_3 c0_3 l0_3 A0_4 c0_4 l0_4 sv _ HR3.out HC3.out HR4.out HC4.out AhS2.out).mono ?_); rintro e w' ⟨v_, rfl, hR_, hb⟩; replace HB := Aside0.mk (below_step HB.out hb); replace BK := Aside0.mk (blk_below BK.out hb); replace HR3 := Aside0.mk (Kd.C_below HR3.out hb); replace HR4 := Aside0.mk (Kd.C_below HR4.out hb); replace Cs1 := Aside0.mk (Kd.C_below Cs1.out hb); obtain ⟨As2, cs2, rfl, hl_, hC_⟩ := Kd.S_reads hR_; have Cs2 := Aside0.mk hC_; have Ms2 := Aside0.mk hl_; clear hb hR_ hC_ hl_))
      | (go_at_call 30; ((with_reducible refine (balustradebase_SameLists.calls kqS As1 cs1 sv As2 cs2 sv true _ Cs1.out Ms1.out Cs2.out Ms2.out AqS.out).mono ?_); rintro e w' ⟨rfl, hb⟩; obtain ⟨nd, rfl⟩ := hb; replace HB := Aside0.mk (pw_below_drewN HB.out nd); replace BK := Aside0.mk (blk_drewN BK.out nd); replace HR3 := Aside0.mk (Kd.C_drewN HR3.out nd); replace HR4 := Aside0.mk (Kd.C_drewN HR4.out nd); clear Cs1 Cs2))
      | (go_at_call 33; ((with_reducible refine (graph_Preds.calls khP1 a0_0 a0_1 a0_2 A0_3 c0_3 l0_3 A0_4 c0_4 l0_4 pv _ HR3.out HC3.out HR4.out HC4.out AhP1.out).mono ?_); rintro e w' ⟨v_, rfl, hR_, hb⟩; replace HB := Aside0.mk (below_step HB.out hb); replace BK := Aside0.mk (blk_below BK.out hb); replace HR3 := Aside0.mk (Kd.C_below HR3.out hb); replace HR4 := Aside0.mk (Kd.C_below HR4.out hb); obtain ⟨Ap1, cp1, rfl, hl_, hC_⟩ := Kd.S_reads hR_; have Cp1 := Aside0.mk hC_; have Mp1 := Aside0.mk hl_; clear hb hR_ hC_ hl_))
      | (go_at_call 34; ((with_reducible refine (balustraderef17_Preds.calls khP2 a0_0 a0_1 a0_2 A0_3 c0_3 l0_3 A0_4 c0_4 l0_4 pv _ HR3.out HC3.out HR4.out HC4.out AhP2.out).mono ?_); rintro e w' ⟨v_, rfl, hR_, hb⟩; replace HB := Aside0.mk (below_step HB.out hb); replace BK := Aside0.mk (blk_below BK.out hb); replace HR3 := Aside0.mk (Kd.C_below HR3.out hb); replace HR4 := Aside0.mk (Kd.C_below HR4.out hb); replace Cp1 := Aside0.mk (Kd.C_below Cp1.out hb); obtain ⟨Ap2, cp2, rfl, hl_, hC_⟩ := Kd.S_reads hR_; have Cp2 := Aside0.mk hC_; have Mp2 := Aside0.mk hl_; clear hb hR_ hC_ hl_))
      | (go_at_call 30; ((with_reducible refine (balustradebase_SameLists.calls kqP Ap1 cp1 pv Ap2 cp2 pv true _ Cp1.out Mp1.out Cp2.out Mp2.out AqP.out).mono ?_); rintro e w' ⟨rfl, hb⟩; obtain ⟨nd, rfl⟩ := hb; replace HB := Aside0.mk (pw_below_drewN HB.out nd); replace BK := Aside0.mk (blk_drewN BK.out nd); replace HR3 := Aside0.mk (Kd.C_drewN HR3.out nd); replace HR4 := Aside0.mk (Kd.C_drewN HR4.out nd); clear Cp1 Cp2))
      | (go_at_call 35; ((with_reducible refine (graph_Reach.calls khT1 a0_0 a0_1 a0_2 A0_3 c0_3 l0_3 A0_4 c0_4 l0_4 tv _ HR3.out HC3.out HR4.out HC4.out AhT1.out).mono ?_); rintro e w' ⟨v_, rfl, hR_, hb⟩; replace HB := Aside0.mk (below_step HB.out hb); replace BK := Aside0.mk (blk_below BK.out hb); replace HR3 := Aside0.mk (Kd.C_below HR3.out hb); replace HR4 := Aside0.mk (Kd.C_below HR4.out hb); obtain ⟨At1, ct1, rfl, hl_, hC_⟩ := Kd.R_reads hR_; have Ct1 := Aside0.mk hC_; have Mt1 := Aside0.mk hl_; clear hb hR_ hC_ hl_))
      | (go_at_call 36; ((with_reducible refine (balustraderef17_Reach.calls khT2 a0_0 a0_1 a0_2 A0_3 c0_3 l0_3 A0_4 c0_4 l0_4 tv _ HR3.out HC3.out HR4.out HC4.out AhT2.out).mono ?_); rintro e w' ⟨v_, rfl, hR_, hb⟩; replace HB := Aside0.mk (below_step HB.out hb); replace BK := Aside0.mk (blk_below BK.out hb); replace HR3 := Aside0.mk (Kd.C_below HR3.out hb); replace HR4 := Aside0.mk (Kd.C_below HR4.out hb); replace Ct1 := Aside0.mk (Kd.C_below Ct1.out hb); obtain ⟨At2, ct2, rfl, hl_, hC_⟩ := Kd.R_reads hR_; have Ct2 := Aside0.mk hC_; have Mt2 := Aside0.mk hl_; clear hb hR_ hC_ hl_))
      | (go_at_call 27; ((with_reducible refine (balustraderef17_SameTruths.calls kqT At1 ct1 tv At2 ct2 tv true _ Ct1.out Mt1.out Ct2.out Mt2.out AqT.out).mono ?_); rintro e w' ⟨rfl, hb⟩; obtain ⟨nd, rfl⟩ := hb; replace HB := Aside0.mk (pw_below_drewN HB.out nd); replace BK := Aside0.mk (blk_drewN BK.out nd); replace HR3 := Aside0.mk (Kd.C_drewN HR3.out nd); replace HR4 := Aside0.mk (Kd.C_drewN HR4.out nd); clear Ct1 Ct2))
      | (go_at_call 37; ((with_reducible refine (graph_Order.calls khO1 a0_0 a0_1 a0_2 A0_3 c0_3 l0_3 A0_4 c0_4 l0_4 ov _ HR3.out HC3.out HR4.out HC4.out AhO1.out).mono ?_); rintro e w' ⟨v_, rfl, hR_, hb⟩; replace HB := Aside0.mk (below_step HB.out hb); replace BK := Aside0.mk (blk_below BK.out hb); replace HR3 := Aside0.mk (Kd.C_below HR3.out hb); replace HR4 := Aside0.mk (Kd.C_below HR4.out hb); obtain ⟨Ao1, co1, rfl, hl_, hC_⟩ := Kd.R_reads hR_; have Co1 := Aside0.mk hC_; have Mo1 := Aside0.mk hl_; clear hb hR_ hC_ hl_))
      | (go_at_call 38; ((with_reducible refine (balustraderef17_Order.calls khO2 a0_0 a0_1 a0_2 A0_3 c0_3 l0_3 A0_4 c0_4 l0_4 ov _ HR3.out HC3.out HR4.out HC4.out AhO2.out).mono ?_); rintro e w' ⟨v_, rfl, hR_, hb⟩; replace HB := Aside0.mk (below_step HB.out hb); replace BK := Aside0.mk (blk_below BK.out hb); replace HR3 := Aside0.mk (Kd.C_below HR3.out hb); replace HR4 := Aside0.mk (Kd.C_below HR4.out hb); replace Co1 := Aside0.mk (Kd.C_below Co1.out hb); obtain ⟨Ao2, co2, rfl, hl_, hC_⟩ := Kd.R_reads hR_; have Co2 := Aside0.mk hC_; have Mo2 := Aside0.mk hl_; clear hb hR_ hC_ hl_))
      | (go_at_call 14; ((with_reducible refine (balustradebase_SameInts.calls kqO Ao1 co1 ov Ao2 co2 ov true _ Co1.out Mo1.out Co2.out Mo2.out AqO.out).mono ?_); rintro e w' ⟨rfl, hb⟩; obtain ⟨nd, rfl⟩ := hb; replace HB := Aside0.mk (pw_below_drewN HB.out nd); replace BK := Aside0.mk (blk_drewN BK.out nd); replace HR3 := Aside0.mk (Kd.C_drewN HR3.out nd); replace HR4 := Aside0.mk (Kd.C_drewN HR4.out nd); clear Co1 Co2))
      | (go_at_call 26; ((with_reducible refine (balustradelaw17_works.calls kw true _ HKW.out).mono ?_); rintro e w' ⟨rfl, hb⟩; have hB_ := HB.out; (try simp only [World.drewN_drewN] at hB_); have bK_ := BK.out; (try simp only [World.drewN_drewN] at bK_); replace HB := Aside0.mk (below_step hB_ hb); replace BK := Aside0.mk (blk_below bK_ hb); clear hb hB_ bK_)))
    go_wp2
    go_ret
    exact ⟨rfl, HB.out⟩
end Go.Proofs.Ytlhaopjdpkhogaa.P

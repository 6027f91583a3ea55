/- A part of it. -/
import Derived.Test.YtomopjomapkmjaaDtDomX
import Derived.Test.YtomopjomapkmjaaDtP0
import Derived.Test.YtomopjomapkmjaaDtP1
import Derived.Test.YtomopjomapkmjaaDtP6
import Derived.Test.YtomopjomapkmjaaDtP7
import Derived.Test.YtomopjomapkmjaaDtP9
import Derived.Test.YtomopjomapkmjaaDtP17
import Derived.Test.YtomopjomapkmjaaDtP18
import Derived.Test.YtomopjomapkmjaaDtP19
import Derived.Deep.RegionHeld3
import Derived.Deep.QuietTactic
import Derived.BigQuiet
import Derived.Deep.DeepCutAuto
import Derived.Deep.RegionWith
import Derived.OpenShut
set_option linter.unusedVariables false
set_option linter.unusedSimpArgs false
namespace Go.Proofs.Ytomopjomapkmjaa.P
open Go Go.RowKit Go.Proofs.YtomopjomapkmjaaW.PrintWords Go.Proofs.YtomopjomapkmjaaW.PrintLast Go.Proofs.YtomopjomapkmjaaW.PrintMore Go.Proofs.Ytomopjomapkmjaa.Pure
theorem goodB_of {bl : List (List S29)} {G : S29 → Prop} {m : Nat} (hm : m = 140737488351232) (h : (∀ b ∈ bl, (∀ i ∈ b, G i) ∧ b.length * 88 ≤ m) ∧ bl.length * 24 ≤ m) (hG : ∀ i, G i → i.f8.length * 8 ≤ m) : GoodB bl ∧ bl.length < 4611686018427387904 :=
  ⟨fun b hb => ⟨by have := (h.1 b hb).2; omega, fun i hi => by have := hG i ((h.1 b hb).1 i hi); omega⟩, by have := h.2; omega⟩
theorem dw_meas (n j : Nat) (x : Int) (hx : x = ((j + 1 : Nat) : Int)) (h : j < n) : n - (intOf (.int .i64 x)).toNat < n - (intOf (.int .i64 (j : Int))).toNat := by
  subst hx
  simp [intOf]
  omega
set_option maxHeartbeats 16000000 in
set_option maxRecDepth 100000 in
theorem balustradelaw28_DomTells.walk (a0_0 : ByteArray) (a0_1 a0_2 : Int) (A0_3 : Option Addr) (c0_3 : Nat) (l0_3 : List Int) (A0_4 : Option Addr) (c0_4 : Nat) (l0_4 : List (List S29)) (w : World)
    (hr0_3 : Kd.C (Kd.int .i64) w A0_3 l0_3.length l0_3) (hc0_3 : l0_3.length ≤ c0_3) (hr0_4 : Kd.C (Kd.slice 29 k29) w A0_4 l0_4.length l0_4) (hc0_4 : l0_4.length ≤ c0_4) (hg : GoodB l0_4 ∧ l0_4.length < 4611686018427387904) :
    Calls Try.prog 8 #[.agg #[.string a0_0, .int .i64 a0_1, .int .i64 a0_2, .slice A0_3 l0_3.length c0_3, .slice A0_4 l0_4.length c0_4]] w fun e w' => e = .returned (.bool true) ∧ Below w.heap.size w w' := by
  have hu32 := Try.underlying32
  obtain ⟨fv, hfv, hfv2⟩ := few28_ev l0_4 a0_0 a0_1 a0_2 l0_3 hg.2
  obtain ⟨kF, hF⟩ := hfv.rounds
  have HF := Aside0.mk hF
  obtain ⟨kw, hkw⟩ := works28_ev.rounds
  have HKW := Aside0.mk hkw
  have hb0 := below_alloc (Below.refl w.heap.size w) (.cells #[.string a0_0, .int .i64 a0_1, .int .i64 a0_2, .slice A0_3 l0_3.length c0_3, .slice A0_4 l0_4.length c0_4] 32)
  have HR3 := Aside0.mk hr0_3
  have HR4 := Aside0.mk hr0_4
  have HC3 := Aside0.mk hc0_3
  have HC4 := Aside0.mk hc0_4
  have HB := Aside0.mk hb0
  have BK := Aside0.mk (blk_new w (.cells #[.string a0_0, .int .i64 a0_1, .int .i64 a0_2, .slice A0_3 l0_3.length c0_3, .slice A0_4 l0_4.length c0_4] 32))
  clear hr0_3 hr0_4 hb0 hF hkw hfv hc0_3 hc0_4
  cases fv with
  | false =>
    clear hfv2 hg
    go_enter Try.func8, Try.ntmps8
    go_wp2_with (first | (go_at_call 32; ((with_reducible refine (balustradelaw28_few.calls kF a0_0 a0_1 a0_2 A0_3 c0_3 l0_3 A0_4 c0_4 l0_4 false _ (Kd.C_below HR3.out (by with_reducible first | exact HB.out | exact below_drew1 HB.out)) HC3.out (Kd.C_below HR4.out (by with_reducible first | exact HB.out | exact below_drew1 HB.out)) HC4.out HF.out).mono ?_); rintro e w' ⟨rfl, hb⟩; replace HB := Aside0.mk (below_step (by with_reducible first | exact HB.out | exact below_drew1 HB.out) hb); replace BK := Aside0.mk (blk_below (by with_reducible first | exact BK.out | exact blk_drew BK.out) hb); have kf0 := blk_cell BK.out 0; have kf1 := blk_cell BK.out 1; have kf2 := blk_cell BK.out 2; have kf3 := blk_cell BK.out 3; have kf4 := blk_cell BK.out 4; simp only [List.getElem?_toArray, List.getElem?_cons_zero, List.getElem?_cons_succ] at kf0 kf1 kf2 kf3 kf4; clear hb)) | (go_at_call 18; ((with_reducible refine (balustradelaw28_works.calls kw true _ HKW.out).mono ?_); rintro e w' ⟨rfl, hb⟩; replace HB := Aside0.mk (below_step (by with_reducible first | exact HB.out | exact below_drew1 HB.out) hb); clear hb)))
    go_ret
    exact ⟨rfl, HB.out⟩
  | true =>
    have h40 := hfv2 rfl
    have hln := succsV_len l0_4
    have hv : ∀ l ∈ succsV l0_4, ∀ t ∈ l, 0 ≤ t ∧ t < ((succsV l0_4).length : Int) := fun l h => (succsV_good l0_4 l h).2
    obtain ⟨tv, T, htr, dt⟩ := tree_ev l0_4 a0_0 a0_1 a0_2 l0_3 (by omega) hg.1
    have htl := dt.len
    have hne : ∀ b, b < l0_4.length → succsV l0_4 ≠ [] := fun b hb e => by rw [e] at hln; simp at hln; omega
    have hNx : ∀ b, b < l0_4.length → ∃ k, balustraderef28_Next.f k a0_0 a0_1 a0_2 l0_3 l0_4 (b : Int) = some (tv.getD b 0) := fun b hb => by
      have h1 := refNext_ev l0_4 a0_0 a0_1 a0_2 l0_3 (by omega) hg.1 b hb
      have h2 := next_same (by omega) hv (hne b hb) dt b (by omega)
      rw [hln] at h2
      rw [h2] at h1
      exact h1.rounds
    have hDp : ∀ b, b < l0_4.length → ∃ v, (∃ k, dom_Depth.f k tv (b : Int) = some v) ∧ ∃ k, balustraderef28_Depth.f k a0_0 a0_1 a0_2 l0_3 l0_4 (b : Int) = some v := fun b hb => by
      have h1 := refDepth_ev l0_4 a0_0 a0_1 a0_2 l0_3 (by omega) hg.1 b hb
      have h2 := depth_same (by omega) hv (hne b hb) dt b (by omega)
      rw [hln] at h2
      exact ⟨_, h2.rounds, h1.rounds⟩
    have hDm : ∀ a b, a < l0_4.length → b < l0_4.length → ∃ v, (∃ k, dom_Dominates.f k tv (a : Int) (b : Int) = some v) ∧ ∃ k, balustraderef28_Dominates.f k a0_0 a0_1 a0_2 l0_3 l0_4 (a : Int) (b : Int) = some v := fun a b ha hb => ⟨_, (dominates_val (by omega) hv (hne b hb) dt a b (by omega) (by omega)).rounds, (refDom_ev l0_4 a0_0 a0_1 a0_2 l0_3 (by omega) hg.1 a b ha hb).rounds⟩
    rw [hln] at htl
    obtain ⟨kK, hK⟩ := (kids_ev tv (by omega)).rounds
    have hKr : ∀ b, b < tv.length → rd_L2 ((List.range tv.length).map (kidRow tv tv.length)) (b : Int) = kidRow tv tv.length b := fun b hb => by simp [rd_L2, rdOf, List.getD_eq_getElem?_getD, hb]
    have hHas : ∀ a b, b < tv.length → ∃ k, balustradebase_HasInt.f k (kidRow tv tv.length a) (b : Int) = some (decide (tv.getD b 0 = (a : Int))) := fun a b hb => (kidRow_has tv tv.length a b (by omega) hb).rounds
    have hSo : ∀ b, ∃ k, balustradebase_Sorted.f k (kidRow tv tv.length b) = some (kidRow tv tv.length b) := fun b => (kidRow_sort tv tv.length b (by omega)).rounds
    have hSa : ∀ b, ∃ k, balustradebase_SameInts.f k (kidRow tv tv.length b) (kidRow tv tv.length b) = some true := fun b => (kidRow_same tv tv.length b (by omega)).rounds
    obtain ⟨kE1, hE1⟩ := (dominates_neg tv 0).rounds
    obtain ⟨v0, hv0⟩ := depth_root tv
    obtain ⟨kE2, hE2⟩ := (dominates_end tv 0 v0 hv0).rounds
    obtain ⟨kE3, hE3⟩ := (depth_end tv).rounds
    obtain ⟨khtr, htr⟩ := htr.rounds
    have Ahtr := Aside0.mk htr
    have ANX := Aside0.mk hNx
    have ADP := Aside0.mk hDp
    have ADM := Aside0.mk hDm
    have AKR := Aside0.mk hKr
    have AK := Aside0.mk hK
    have AHAS := Aside0.mk hHas
    have ASO := Aside0.mk hSo
    have ASA := Aside0.mk hSa
    have AE1 := Aside0.mk hE1
    have AE2 := Aside0.mk hE2
    have AE3 := Aside0.mk hE3
    have ALN : Aside0 (tv.length = l0_4.length ∧ l0_4.length ≤ 14) := ⟨⟨htl, hfv2 rfl⟩⟩
    clear htr hNx hDp hDm hKr hK hHas hSo hSa hE1 hE2 hE3 hv0 htl hne dt hv hln h40 hfv2 hg
    go_enter Try.func8, Try.ntmps8
    have b1 : ((tv.length : Int) != (l0_4.length : Int)) = false := by rw [ALN.out.1]; simp
    have b2 : (tv.length != l0_4.length) = false := by rw [ALN.out.1]; simp
    have b3 : decide ((tv.length : Int) = (l0_4.length : Int)) = true := decide_eq_true (by rw [ALN.out.1])
    go_upto_region 5 with (first | (go_at_call 32; ((with_reducible refine (balustradelaw28_few.calls kF a0_0 a0_1 a0_2 A0_3 c0_3 l0_3 A0_4 c0_4 l0_4 true _ (Kd.C_below HR3.out (by with_reducible first | exact HB.out | exact below_drew1 HB.out)) HC3.out (Kd.C_below HR4.out (by with_reducible first | exact HB.out | exact below_drew1 HB.out)) HC4.out HF.out).mono ?_); rintro e w' ⟨rfl, hb⟩; replace HB := Aside0.mk (below_step (by with_reducible first | exact HB.out | exact below_drew1 HB.out) hb); replace BK := Aside0.mk (blk_below (by with_reducible first | exact BK.out | exact blk_drew BK.out) hb); have kf0 := blk_cell BK.out 0; have kf1 := blk_cell BK.out 1; have kf2 := blk_cell BK.out 2; have kf3 := blk_cell BK.out 3; have kf4 := blk_cell BK.out 4; simp only [List.getElem?_toArray, List.getElem?_cons_zero, List.getElem?_cons_succ] at kf0 kf1 kf2 kf3 kf4; clear hb)) | (go_at_call 19; ((with_reducible refine (dom_Tree.calls khtr a0_0 a0_1 a0_2 A0_3 c0_3 l0_3 A0_4 c0_4 l0_4 tv _ (Kd.C_below HR3.out (by with_reducible first | exact HB.out | exact below_drew1 HB.out)) HC3.out (Kd.C_below HR4.out (by with_reducible first | exact HB.out | exact below_drew1 HB.out)) HC4.out Ahtr.out).mono ?_); rintro e w' ⟨v_, rfl, hR_, hb⟩; obtain ⟨At, ct, rfl⟩ := Kd.R_slice hR_; have RT := Aside0.mk (Kd.R_lower hR_ (below_size (by with_reducible first | exact HB.out | exact below_drew1 HB.out))); replace HB := Aside0.mk (below_step (by with_reducible first | exact HB.out | exact below_drew1 HB.out) hb); replace BK := Aside0.mk (blk_below (by with_reducible first | exact BK.out | exact blk_drew BK.out) hb); have kt0 := blk_cell BK.out 0; have kt1 := blk_cell BK.out 1; have kt2 := blk_cell BK.out 2; have kt3 := blk_cell BK.out 3; have kt4 := blk_cell BK.out 4; simp only [List.getElem?_toArray, List.getElem?_cons_zero, List.getElem?_cons_succ] at kt0 kt1 kt2 kt3 kt4; clear hb hR_)) | (go_at_call 33; ((with_reducible refine (dom_Kids.calls kK At ct tv _ _ (Kd.R_reads' RT.out).2.2 (Kd.R_reads' RT.out).2.1 AK.out).mono ?_); rintro e w' ⟨v_, rfl, hS_, hb⟩; obtain ⟨Av, cv, rfl⟩ := Kd.S_slice hS_; have RS := Aside0.mk (Kd.S_lower hS_ (below_size (by with_reducible first | exact HB.out | exact below_drew1 HB.out))); replace HB := Aside0.mk (below_step (by with_reducible first | exact HB.out | exact below_drew1 HB.out) hb); replace BK := Aside0.mk (blk_below (by with_reducible first | exact BK.out | exact blk_drew BK.out) hb); replace RT := Aside0.mk (Kd.R_below (by with_reducible first | exact RT.out | exact Kd.R_drew RT.out) hb); have kk0 := blk_cell BK.out 0; have kk1 := blk_cell BK.out 1; have kk2 := blk_cell BK.out 2; have kk3 := blk_cell BK.out 3; have kk4 := blk_cell BK.out 4; simp only [List.getElem?_toArray, List.getElem?_cons_zero, List.getElem?_cons_succ] at kk0 kk1 kk2 kk3 kk4; clear hb hS_)))
    go_loopw [5] (fun v5 wr => ∃ j : Nat, v5 = .int .i64 (j : Int) ∧ Aside0 (j ≤ tv.length) ∧ Aside0 (wr.heap[w.heap.size]? = some (.cells #[.string a0_0, .int .i64 a0_1, .int .i64 a0_2, .slice A0_3 l0_3.length c0_3, .slice A0_4 l0_4.length c0_4] 32 (0, 0))) ∧ Aside0 (Below w.heap.size w wr) ∧ Aside0 ((Kd.int .i64).R 3 wr w.heap.size (fun _ => True) (.slice At tv.length ct) tv) ∧ Aside0 ((Kd.slice 3 (Kd.int .i64)).S 22 wr w.heap.size (fun _ => True) (.slice Av ((List.range tv.length).map (kidRow tv tv.length)).length cv) ((List.range tv.length).map (kidRow tv tv.length)))) (fun v5 wr => tv.length - (intOf v5).toNat)
    case atStart => exact ⟨0, rfl, ⟨Nat.zero_le _⟩, ⟨BK.out⟩, ⟨HB.out⟩, ⟨RT.out⟩, ⟨by first | exact RS.out | simpa using RS.out⟩⟩
    case round =>
    clear HB BK RT RS
    obtain ⟨j, rfl, HJ, BK, HB, RT, RS⟩ := hrel
    by_cases hlt : j < tv.length
    · have HLT := Aside0.mk hlt
      have t6 : decide ((j : Int) < (tv.length : Int)) = true := decide_eq_true (by omega)
      have t7 : decide (j < tv.length) = true := decide_eq_true hlt
      have p1 : (0 : Int) ≤ (j : Int) := by omega
      have p2 : (j : Int) < (tv.length : Int) := by omega
      have hwr : wrap64 ((j : Int) + 1) = ((j + 1 : Nat) : Int) := by have := ALN.out; unfold wrap64; omega
      have HWR := Aside0.mk hwr
      clear hwr
      obtain ⟨qt, eqt, ct_⟩ := Kd.at_int (Kd.R_reads' RT.out).2.2 (j : Int) p1 p2
      have ert : rd tv (j : Int) = tv.getD j 0 := rfl
      rw [ert] at ct_
      subst eqt
      (try simp only [Int.toNat_natCast] at ct_)
      obtain ⟨kn, hn⟩ := ANX.out j (by have := ALN.out; omega)
      have HN := Aside0.mk hn
      obtain ⟨dv, ⟨kd, hd⟩, ⟨kr, hr⟩⟩ := ADP.out j (by have := ALN.out; omega)
      have HD := Aside0.mk hd
      have HRD := Aside0.mk hr
      clear hn hd hr
      obtain ⟨tj, etj⟩ : ∃ v, tv.getD j 0 = v := ⟨_, rfl⟩
      rw [etj] at HN ct_
      have ETJ := Aside0.mk etj
      clear etj ert
      have u1 : (tj != tj) = false := by simp
      have u2 : (dv != dv) = false := by simp
      have u3 : ((tv.length : Int) != (tv.length : Int)) = false := by simp
      have c0 := blk_cell BK.out 0; have c1 := blk_cell BK.out 1; have c2 := blk_cell BK.out 2; have c3 := blk_cell BK.out 3; have c4 := blk_cell BK.out 4; simp only [List.getElem?_toArray, List.getElem?_cons_zero, List.getElem?_cons_succ] at c0 c1 c2 c3 c4
      go_upto_region 10 with (fail)
      go_cut [50] (fun v50 wc => v50 = .bool false ∧ Aside0 (wc.heap[w.heap.size]? = some (.cells #[.string a0_0, .int .i64 a0_1, .int .i64 a0_2, .slice A0_3 l0_3.length c0_3, .slice A0_4 l0_4.length c0_4] 32 (0, 0))) ∧ Aside0 (Below w.heap.size w wc) ∧ Aside0 ((Kd.int .i64).R 3 wc w.heap.size (fun _ => True) (.slice (some qt) tv.length ct) tv) ∧ Aside0 ((Kd.slice 3 (Kd.int .i64)).S 22 wc w.heap.size (fun _ => True) (.slice Av ((List.range tv.length).map (kidRow tv tv.length)).length cv) ((List.range tv.length).map (kidRow tv tv.length))))
      case first =>
        go_region_held3 (fun w' => w'.cell? (qt.add j) = some (.int .i64 tj) ∧ w'.cell? ⟨w.heap.size, 0, none⟩ = some (.string a0_0) ∧ w'.cell? ⟨w.heap.size, 1, none⟩ = some (.int .i64 a0_1) ∧ w'.cell? ⟨w.heap.size, 2, none⟩ = some (.int .i64 a0_2) ∧ w'.cell? ⟨w.heap.size, 3, none⟩ = some (.slice A0_3 l0_3.length c0_3) ∧ w'.cell? ⟨w.heap.size, 4, none⟩ = some (.slice A0_4 l0_4.length c0_4)) (first | exact ⟨ct_, (blk_cell BK.out 0).trans rfl, (blk_cell BK.out 1).trans rfl, (blk_cell BK.out 2).trans rfl, (blk_cell BK.out 3).trans rfl, (blk_cell BK.out 4).trans rfl⟩ | go_keep) (first | (go_at_call 34; ((with_reducible refine (balustraderef28_Next.calls kn a0_0 a0_1 a0_2 A0_3 c0_3 l0_3 A0_4 c0_4 l0_4 (j : Int) tj _ (Kd.C_below HR3.out (by with_reducible first | exact HB.out | exact below_drew1 HB.out)) HC3.out (Kd.C_below HR4.out (by with_reducible first | exact HB.out | exact below_drew1 HB.out)) HC4.out HN.out).mono ?_); rintro e w' ⟨rfl, hb⟩; replace HB := Aside0.mk (below_step (by with_reducible first | exact HB.out | exact below_drew1 HB.out) hb); replace BK := Aside0.mk (blk_below (by with_reducible first | exact BK.out | exact blk_drew BK.out) hb); replace RT := Aside0.mk (Kd.R_below (by with_reducible first | exact RT.out | exact Kd.R_drew RT.out) hb); replace RS := Aside0.mk (Kd.S_below (by with_reducible first | exact RS.out | exact Kd.S_drew RS.out) hb); have kn_0 := blk_cell BK.out 0; have kn_1 := blk_cell BK.out 1; have kn_2 := blk_cell BK.out 2; have kn_3 := blk_cell BK.out 3; have kn_4 := blk_cell BK.out 4; simp only [List.getElem?_toArray, List.getElem?_cons_zero, List.getElem?_cons_succ] at kn_0 kn_1 kn_2 kn_3 kn_4; replace ct_ := (hb.cell (block_lt_of_cell ct_)).trans ct_; clear hb)) | (go_at_call 36; ((with_reducible refine (balustraderef28_Depth.calls kr a0_0 a0_1 a0_2 A0_3 c0_3 l0_3 A0_4 c0_4 l0_4 (j : Int) dv _ (Kd.C_below HR3.out (by with_reducible first | exact HB.out | exact below_drew1 HB.out)) HC3.out (Kd.C_below HR4.out (by with_reducible first | exact HB.out | exact below_drew1 HB.out)) HC4.out HRD.out).mono ?_); rintro e w' ⟨rfl, hb⟩; replace HB := Aside0.mk (below_step (by with_reducible first | exact HB.out | exact below_drew1 HB.out) hb); replace BK := Aside0.mk (blk_below (by with_reducible first | exact BK.out | exact blk_drew BK.out) hb); replace RT := Aside0.mk (Kd.R_below (by with_reducible first | exact RT.out | exact Kd.R_drew RT.out) hb); replace RS := Aside0.mk (Kd.S_below (by with_reducible first | exact RS.out | exact Kd.S_drew RS.out) hb); have kr_0 := blk_cell BK.out 0; have kr_1 := blk_cell BK.out 1; have kr_2 := blk_cell BK.out 2; have kr_3 := blk_cell BK.out 3; have kr_4 := blk_cell BK.out 4; simp only [List.getElem?_toArray, List.getElem?_cons_zero, List.getElem?_cons_succ] at kr_0 kr_1 kr_2 kr_3 kr_4; replace ct_ := (hb.cell (block_lt_of_cell ct_)).trans ct_; clear hb)) | (go_at_call 35; ((with_reducible refine (dom_Depth.calls kd _ ct tv (j : Int) dv _ (Kd.R_reads' (by with_reducible first | exact RT.out | exact Kd.R_drew RT.out)).2.2 (Kd.R_reads' (by with_reducible first | exact RT.out | exact Kd.R_drew RT.out)).2.1 HD.out).mono ?_); rintro e w' ⟨rfl, hb⟩; replace hb := Drawn0.below hb; replace HB := Aside0.mk (below_step (by with_reducible first | exact HB.out | exact below_drew1 HB.out) hb); replace BK := Aside0.mk (blk_below (by with_reducible first | exact BK.out | exact blk_drew BK.out) hb); replace RT := Aside0.mk (Kd.R_below (by with_reducible first | exact RT.out | exact Kd.R_drew RT.out) hb); replace RS := Aside0.mk (Kd.S_below (by with_reducible first | exact RS.out | exact Kd.S_drew RS.out) hb); have kd_0 := blk_cell BK.out 0; have kd_1 := blk_cell BK.out 1; have kd_2 := blk_cell BK.out 2; have kd_3 := blk_cell BK.out 3; have kd_4 := blk_cell BK.out 4; simp only [List.getElem?_toArray, List.getElem?_cons_zero, List.getElem?_cons_succ] at kd_0 kd_1 kd_2 kd_3 kd_4; replace ct_ := (hb.cell (block_lt_of_cell ct_)).trans ct_; clear hb)))
        all_goals (go_wp2_with (fail))
        all_goals go_meet
        all_goals exact ⟨rfl, ⟨BK.out⟩, ⟨HB.out⟩, ⟨RT.out⟩, ⟨RS.out⟩⟩
      case rest =>
      clear BK HB RT RS
      obtain ⟨rfl, BK, HB, RT, RS⟩ := hcut
      obtain ⟨W1, hW1⟩ : ∃ q, q = wc := ⟨_, rfl⟩
      subst hW1
      go_wp2_with (fail)
      go_loopw [6] (fun v6 wr => ∃ i : Nat, v6 = .int .i64 (i : Int) ∧ Aside0 (i ≤ tv.length) ∧ Aside0 (wr.heap[w.heap.size]? = some (.cells #[.string a0_0, .int .i64 a0_1, .int .i64 a0_2, .slice A0_3 l0_3.length c0_3, .slice A0_4 l0_4.length c0_4] 32 (0, 0))) ∧ Aside0 (Below w.heap.size w wr) ∧ Aside0 ((Kd.int .i64).R 3 wr w.heap.size (fun _ => True) (.slice (some qt) tv.length ct) tv) ∧ Aside0 ((Kd.slice 3 (Kd.int .i64)).S 22 wr w.heap.size (fun _ => True) (.slice Av ((List.range tv.length).map (kidRow tv tv.length)).length cv) ((List.range tv.length).map (kidRow tv tv.length)))) (fun v6 wr => tv.length - (intOf v6).toNat)
      case atStart => exact ⟨0, rfl, ⟨Nat.zero_le _⟩, ⟨BK.out⟩, ⟨HB.out⟩, ⟨RT.out⟩, ⟨RS.out⟩⟩
      case round =>
        clear HB BK RT RS
        obtain ⟨i, rfl, HI, BK, HB, RT, RS⟩ := hrel
        by_cases hit : i < tv.length
        · have HIT := Aside0.mk hit
          have s6 : decide ((i : Int) < (tv.length : Int)) = true := decide_eq_true (by omega)
          have s7 : decide (i < tv.length) = true := decide_eq_true hit
          have q1 : (0 : Int) ≤ (i : Int) := by omega
          have q2 : (i : Int) < (tv.length : Int) := by omega
          have q3 : (i : Int) < (((List.range tv.length).map (kidRow tv tv.length)).length : Int) := by simp; omega
          have hwi : wrap64 ((i : Int) + 1) = ((i + 1 : Nat) : Int) := by have := ALN.out; unfold wrap64; omega
          have HWI := Aside0.mk hwi
          clear hwi
          obtain ⟨vd, ⟨kdm, hdm⟩, ⟨krm, hrm⟩⟩ := ADM.out i j (by have := ALN.out; omega) (by have := ALN.out; have := HLT.out; omega)
          have HDM := Aside0.mk hdm
          have HRM := Aside0.mk hrm
          clear hdm hrm
          obtain ⟨kh, hh⟩ := AHAS.out i j HLT.out
          rw [ETJ.out] at hh
          obtain ⟨qt2, eqt2, ct2⟩ := Kd.at_int (Kd.R_reads' RT.out).2.2 (j : Int) p1 p2
          have ert2 : rd tv (j : Int) = tj := ETJ.out
          rw [ert2] at ct2
          injection eqt2 with eqt2
          subst eqt2
          (try simp only [Int.toNat_natCast] at ct2)
          clear ert2
          obtain ⟨adp, Ap, cp, eAp, cpv, hcp, hCp⟩ := at_L2 (Kd.S_reads' RS.out).2.2 (i : Int) q1 q3
          rw [AKR.out i hit] at cpv hcp hCp
          subst eAp
          (try simp only [Int.toNat_natCast] at cpv)
          obtain ⟨kv, ekv⟩ : ∃ v, kidRow tv tv.length i = v := ⟨_, rfl⟩
          rw [ekv] at hh cpv hcp hCp
          clear ekv
          have HCp := Aside0.mk hCp
          have HCPl := Aside0.mk hcp
          clear hcp hCp
          have c0 := blk_cell BK.out 0; have c1 := blk_cell BK.out 1; have c2 := blk_cell BK.out 2; have c3 := blk_cell BK.out 3; have c4 := blk_cell BK.out 4; simp only [List.getElem?_toArray, List.getElem?_cons_zero, List.getElem?_cons_succ] at c0 c1 c2 c3 c4
          by_cases htj : tj = (i : Int)
          · have hd : decide (tj = (i : Int)) = true := decide_eq_true htj
            have hd2 : (tj == (i : Int)) = true := beq_iff_eq.mpr htj
            rw [hd] at hh
            have HH := Aside0.mk hh
            clear hh htj
            go_upto_region 15 with (fail)
            go_cut [80] (fun v80 wc => v80 = .bool false ∧ Aside0 (wc.heap[w.heap.size]? = some (.cells #[.string a0_0, .int .i64 a0_1, .int .i64 a0_2, .slice A0_3 l0_3.length c0_3, .slice A0_4 l0_4.length c0_4] 32 (0, 0))) ∧ Aside0 (Below w.heap.size w wc) ∧ Aside0 ((Kd.int .i64).R 3 wc w.heap.size (fun _ => True) (.slice (some qt) tv.length ct) tv) ∧ Aside0 ((Kd.slice 3 (Kd.int .i64)).S 22 wc w.heap.size (fun _ => True) (.slice (some adp) ((List.range tv.length).map (kidRow tv tv.length)).length cv) ((List.range tv.length).map (kidRow tv tv.length))))
            case first =>
              cases vd
              all_goals (go_region_held3 (fun w' => w'.cell? (adp.add i) = some (.slice Ap kv.length cp) ∧ w'.cell? (qt.add j) = some (.int .i64 tj) ∧ w'.cell? ⟨w.heap.size, 0, none⟩ = some (.string a0_0) ∧ w'.cell? ⟨w.heap.size, 1, none⟩ = some (.int .i64 a0_1) ∧ w'.cell? ⟨w.heap.size, 2, none⟩ = some (.int .i64 a0_2) ∧ w'.cell? ⟨w.heap.size, 3, none⟩ = some (.slice A0_3 l0_3.length c0_3) ∧ w'.cell? ⟨w.heap.size, 4, none⟩ = some (.slice A0_4 l0_4.length c0_4)) (first | exact ⟨cpv, ct2, (blk_cell BK.out 0).trans rfl, (blk_cell BK.out 1).trans rfl, (blk_cell BK.out 2).trans rfl, (blk_cell BK.out 3).trans rfl, (blk_cell BK.out 4).trans rfl⟩ | go_keep) (first | (go_at_call 20; ((with_reducible refine (dom_Dominates.calls kdm _ ct tv (i : Int) (j : Int) _ _ (Kd.R_reads' (by with_reducible first | exact RT.out | exact Kd.R_drew RT.out)).2.2 (Kd.R_reads' (by with_reducible first | exact RT.out | exact Kd.R_drew RT.out)).2.1 HDM.out).mono ?_); rintro e w' ⟨rfl, hb⟩; replace hb := Drawn0.below hb; replace HB := Aside0.mk (below_step (by with_reducible first | exact HB.out | exact below_drew1 HB.out) hb); replace BK := Aside0.mk (blk_below (by with_reducible first | exact BK.out | exact blk_drew BK.out) hb); replace RT := Aside0.mk (Kd.R_below (by with_reducible first | exact RT.out | exact Kd.R_drew RT.out) hb); replace RS := Aside0.mk (Kd.S_below (by with_reducible first | exact RS.out | exact Kd.S_drew RS.out) hb); replace cpv := (hb.cell (block_lt_of_cell cpv)).trans cpv; replace ct2 := (hb.cell (block_lt_of_cell ct2)).trans ct2; replace HCp := Aside0.mk (Kd.C_below (by with_reducible first | exact HCp.out | exact Kd.C_drew HCp.out) hb); have kd_0 := blk_cell BK.out 0; have kd_1 := blk_cell BK.out 1; have kd_2 := blk_cell BK.out 2; have kd_3 := blk_cell BK.out 3; have kd_4 := blk_cell BK.out 4; simp only [List.getElem?_toArray, List.getElem?_cons_zero, List.getElem?_cons_succ] at kd_0 kd_1 kd_2 kd_3 kd_4; clear hb)) | (go_at_call 37; ((with_reducible refine (balustraderef28_Dominates.calls krm a0_0 a0_1 a0_2 A0_3 c0_3 l0_3 A0_4 c0_4 l0_4 (i : Int) (j : Int) _ _ (Kd.C_below HR3.out (by with_reducible first | exact HB.out | exact below_drew1 HB.out)) HC3.out (Kd.C_below HR4.out (by with_reducible first | exact HB.out | exact below_drew1 HB.out)) HC4.out HRM.out).mono ?_); rintro e w' ⟨rfl, hb⟩; replace HB := Aside0.mk (below_step (by with_reducible first | exact HB.out | exact below_drew1 HB.out) hb); replace BK := Aside0.mk (blk_below (by with_reducible first | exact BK.out | exact blk_drew BK.out) hb); replace RT := Aside0.mk (Kd.R_below (by with_reducible first | exact RT.out | exact Kd.R_drew RT.out) hb); replace RS := Aside0.mk (Kd.S_below (by with_reducible first | exact RS.out | exact Kd.S_drew RS.out) hb); replace cpv := (hb.cell (block_lt_of_cell cpv)).trans cpv; replace ct2 := (hb.cell (block_lt_of_cell ct2)).trans ct2; replace HCp := Aside0.mk (Kd.C_below (by with_reducible first | exact HCp.out | exact Kd.C_drew HCp.out) hb); have kr_0 := blk_cell BK.out 0; have kr_1 := blk_cell BK.out 1; have kr_2 := blk_cell BK.out 2; have kr_3 := blk_cell BK.out 3; have kr_4 := blk_cell BK.out 4; simp only [List.getElem?_toArray, List.getElem?_cons_zero, List.getElem?_cons_succ] at kr_0 kr_1 kr_2 kr_3 kr_4; clear hb)) | (go_at_call 38; ((with_reducible refine (balustradebase_HasInt.calls kh _ cp kv (j : Int) _ _ (by with_reducible first | exact HCp.out | exact Kd.C_drew HCp.out) HCPl.out HH.out).mono ?_); rintro e w' ⟨rfl, hb⟩; replace hb := Drawn0.below hb; replace HB := Aside0.mk (below_step (by with_reducible first | exact HB.out | exact below_drew1 HB.out) hb); replace BK := Aside0.mk (blk_below (by with_reducible first | exact BK.out | exact blk_drew BK.out) hb); replace RT := Aside0.mk (Kd.R_below (by with_reducible first | exact RT.out | exact Kd.R_drew RT.out) hb); replace RS := Aside0.mk (Kd.S_below (by with_reducible first | exact RS.out | exact Kd.S_drew RS.out) hb); replace cpv := (hb.cell (block_lt_of_cell cpv)).trans cpv; replace ct2 := (hb.cell (block_lt_of_cell ct2)).trans ct2; replace HCp := Aside0.mk (Kd.C_below (by with_reducible first | exact HCp.out | exact Kd.C_drew HCp.out) hb); have kh_0 := blk_cell BK.out 0; have kh_1 := blk_cell BK.out 1; have kh_2 := blk_cell BK.out 2; have kh_3 := blk_cell BK.out 3; have kh_4 := blk_cell BK.out 4; simp only [List.getElem?_toArray, List.getElem?_cons_zero, List.getElem?_cons_succ] at kh_0 kh_1 kh_2 kh_3 kh_4; clear hb))))
              all_goals (go_wp2_with (fail))
              all_goals go_meet
              all_goals exact ⟨rfl, ⟨BK.out⟩, ⟨HB.out⟩, ⟨RT.out⟩, ⟨RS.out⟩⟩
            case rest =>
              clear BK HB RT RS HCp cpv ct2
              obtain ⟨rfl, BK, HB, RT, RS⟩ := hcut
              obtain ⟨W2, hW2⟩ : ∃ q, q = wc := ⟨_, rfl⟩
              subst hW2
              go_wp2_with (fail)
              go_roundw
              case rel => exact ⟨i + 1, by first | (rw [HWI.out]; done) | (rw [HWI.out]) | go_num, ⟨by have := HIT.out; omega⟩, ⟨BK.out⟩, ⟨HB.out⟩, ⟨RT.out⟩, ⟨RS.out⟩⟩
              case measure => exact dw_meas _ _ _ HWI.out HIT.out
          · have hd : decide (tj = (i : Int)) = false := decide_eq_false htj
            have hd2 : (tj == (i : Int)) = false := beq_eq_false_iff_ne.mpr htj
            rw [hd] at hh
            have HH := Aside0.mk hh
            clear hh htj
            go_upto_region 15 with (fail)
            go_cut [80] (fun v80 wc => v80 = .bool false ∧ Aside0 (wc.heap[w.heap.size]? = some (.cells #[.string a0_0, .int .i64 a0_1, .int .i64 a0_2, .slice A0_3 l0_3.length c0_3, .slice A0_4 l0_4.length c0_4] 32 (0, 0))) ∧ Aside0 (Below w.heap.size w wc) ∧ Aside0 ((Kd.int .i64).R 3 wc w.heap.size (fun _ => True) (.slice (some qt) tv.length ct) tv) ∧ Aside0 ((Kd.slice 3 (Kd.int .i64)).S 22 wc w.heap.size (fun _ => True) (.slice (some adp) ((List.range tv.length).map (kidRow tv tv.length)).length cv) ((List.range tv.length).map (kidRow tv tv.length))))
            case first =>
              cases vd
              all_goals (go_region_held3 (fun w' => w'.cell? (adp.add i) = some (.slice Ap kv.length cp) ∧ w'.cell? (qt.add j) = some (.int .i64 tj) ∧ w'.cell? ⟨w.heap.size, 0, none⟩ = some (.string a0_0) ∧ w'.cell? ⟨w.heap.size, 1, none⟩ = some (.int .i64 a0_1) ∧ w'.cell? ⟨w.heap.size, 2, none⟩ = some (.int .i64 a0_2) ∧ w'.cell? ⟨w.heap.size, 3, none⟩ = some (.slice A0_3 l0_3.length c0_3) ∧ w'.cell? ⟨w.heap.size, 4, none⟩ = some (.slice A0_4 l0_4.length c0_4)) (first | exact ⟨cpv, ct2, (blk_cell BK.out 0).trans rfl, (blk_cell BK.out 1).trans rfl, (blk_cell BK.out 2).trans rfl, (blk_cell BK.out 3).trans rfl, (blk_cell BK.out 4).trans rfl⟩ | go_keep) (first | (go_at_call 20; ((with_reducible refine (dom_Dominates.calls kdm _ ct tv (i : Int) (j : Int) _ _ (Kd.R_reads' (by with_reducible first | exact RT.out | exact Kd.R_drew RT.out)).2.2 (Kd.R_reads' (by with_reducible first | exact RT.out | exact Kd.R_drew RT.out)).2.1 HDM.out).mono ?_); rintro e w' ⟨rfl, hb⟩; replace hb := Drawn0.below hb; replace HB := Aside0.mk (below_step (by with_reducible first | exact HB.out | exact below_drew1 HB.out) hb); replace BK := Aside0.mk (blk_below (by with_reducible first | exact BK.out | exact blk_drew BK.out) hb); replace RT := Aside0.mk (Kd.R_below (by with_reducible first | exact RT.out | exact Kd.R_drew RT.out) hb); replace RS := Aside0.mk (Kd.S_below (by with_reducible first | exact RS.out | exact Kd.S_drew RS.out) hb); replace cpv := (hb.cell (block_lt_of_cell cpv)).trans cpv; replace ct2 := (hb.cell (block_lt_of_cell ct2)).trans ct2; replace HCp := Aside0.mk (Kd.C_below (by with_reducible first | exact HCp.out | exact Kd.C_drew HCp.out) hb); have kd_0 := blk_cell BK.out 0; have kd_1 := blk_cell BK.out 1; have kd_2 := blk_cell BK.out 2; have kd_3 := blk_cell BK.out 3; have kd_4 := blk_cell BK.out 4; simp only [List.getElem?_toArray, List.getElem?_cons_zero, List.getElem?_cons_succ] at kd_0 kd_1 kd_2 kd_3 kd_4; clear hb)) | (go_at_call 37; ((with_reducible refine (balustraderef28_Dominates.calls krm a0_0 a0_1 a0_2 A0_3 c0_3 l0_3 A0_4 c0_4 l0_4 (i : Int) (j : Int) _ _ (Kd.C_below HR3.out (by with_reducible first | exact HB.out | exact below_drew1 HB.out)) HC3.out (Kd.C_below HR4.out (by with_reducible first | exact HB.out | exact below_drew1 HB.out)) HC4.out HRM.out).mono ?_); rintro e w' ⟨rfl, hb⟩; replace HB := Aside0.mk (below_step (by with_reducible first | exact HB.out | exact below_drew1 HB.out) hb); replace BK := Aside0.mk (blk_below (by with_reducible first | exact BK.out | exact blk_drew BK.out) hb); replace RT := Aside0.mk (Kd.R_below (by with_reducible first | exact RT.out | exact Kd.R_drew RT.out) hb); replace RS := Aside0.mk (Kd.S_below (by with_reducible first | exact RS.out | exact Kd.S_drew RS.out) hb); replace cpv := (hb.cell (block_lt_of_cell cpv)).trans cpv; replace ct2 := (hb.cell (block_lt_of_cell ct2)).trans ct2; replace HCp := Aside0.mk (Kd.C_below (by with_reducible first | exact HCp.out | exact Kd.C_drew HCp.out) hb); have kr_0 := blk_cell BK.out 0; have kr_1 := blk_cell BK.out 1; have kr_2 := blk_cell BK.out 2; have kr_3 := blk_cell BK.out 3; have kr_4 := blk_cell BK.out 4; simp only [List.getElem?_toArray, List.getElem?_cons_zero, List.getElem?_cons_succ] at kr_0 kr_1 kr_2 kr_3 kr_4; clear hb)) | (go_at_call 38; ((with_reducible refine (balustradebase_HasInt.calls kh _ cp kv (j : Int) _ _ (by with_reducible first | exact HCp.out | exact Kd.C_drew HCp.out) HCPl.out HH.out).mono ?_); rintro e w' ⟨rfl, hb⟩; replace hb := Drawn0.below hb; replace HB := Aside0.mk (below_step (by with_reducible first | exact HB.out | exact below_drew1 HB.out) hb); replace BK := Aside0.mk (blk_below (by with_reducible first | exact BK.out | exact blk_drew BK.out) hb); replace RT := Aside0.mk (Kd.R_below (by with_reducible first | exact RT.out | exact Kd.R_drew RT.out) hb); replace RS := Aside0.mk (Kd.S_below (by with_reducible first | exact RS.out | exact Kd.S_drew RS.out) hb); replace cpv := (hb.cell (block_lt_of_cell cpv)).trans cpv; replace ct2 := (hb.cell (block_lt_of_cell ct2)).trans ct2; replace HCp := Aside0.mk (Kd.C_below (by with_reducible first | exact HCp.out | exact Kd.C_drew HCp.out) hb); have kh_0 := blk_cell BK.out 0; have kh_1 := blk_cell BK.out 1; have kh_2 := blk_cell BK.out 2; have kh_3 := blk_cell BK.out 3; have kh_4 := blk_cell BK.out 4; simp only [List.getElem?_toArray, List.getElem?_cons_zero, List.getElem?_cons_succ] at kh_0 kh_1 kh_2 kh_3 kh_4; clear hb))))
              all_goals (go_wp2_with (fail))
              all_goals go_meet
              all_goals exact ⟨rfl, ⟨BK.out⟩, ⟨HB.out⟩, ⟨RT.out⟩, ⟨RS.out⟩⟩
            case rest =>
              clear BK HB RT RS HCp cpv ct2
              obtain ⟨rfl, BK, HB, RT, RS⟩ := hcut
              obtain ⟨W2, hW2⟩ : ∃ q, q = wc := ⟨_, rfl⟩
              subst hW2
              go_wp2_with (fail)
              go_roundw
              case rel => exact ⟨i + 1, by first | (rw [HWI.out]; done) | (rw [HWI.out]) | go_num, ⟨by have := HIT.out; omega⟩, ⟨BK.out⟩, ⟨HB.out⟩, ⟨RT.out⟩, ⟨RS.out⟩⟩
              case measure => exact dw_meas _ _ _ HWI.out HIT.out
        have s6 : decide ((i : Int) < (tv.length : Int)) = false := decide_eq_false (by omega)
        have s7 : decide (i < tv.length) = false := decide_eq_false hit
        have s8 : decide (tv.length ≤ i) = true := decide_eq_true (by omega)
        have q3 : (j : Int) < (((List.range tv.length).map (kidRow tv tv.length)).length : Int) := by simp; omega
        obtain ⟨adp, Ap, cp, eAp, cpv, hcp, hCp⟩ := at_L2 (Kd.S_reads' RS.out).2.2 (j : Int) p1 q3
        rw [AKR.out j HLT.out] at cpv hcp hCp
        subst eAp
        (try simp only [Int.toNat_natCast] at cpv)
        obtain ⟨kso, hso⟩ := ASO.out j
        obtain ⟨ksa, hsa⟩ := ASA.out j
        obtain ⟨kv, ekv⟩ : ∃ v, kidRow tv tv.length j = v := ⟨_, rfl⟩
        rw [ekv] at hso hsa cpv hcp hCp
        clear ekv
        have HSO := Aside0.mk hso
        have HSA := Aside0.mk hsa
        have HCp := Aside0.mk hCp
        have HCPl := Aside0.mk hcp
        clear hcp hCp hso hsa
        have y1 : ((kv.length : Int) != (kv.length : Int)) = false := by simp
        have y2 : (kv.length != kv.length) = false := by simp
        go_upto_region 17 with (fail)
        go_cut [105] (fun v105 wc => v105 = .bool false ∧ Aside0 (wc.heap[w.heap.size]? = some (.cells #[.string a0_0, .int .i64 a0_1, .int .i64 a0_2, .slice A0_3 l0_3.length c0_3, .slice A0_4 l0_4.length c0_4] 32 (0, 0))) ∧ Aside0 (Below w.heap.size w wc) ∧ Aside0 ((Kd.int .i64).R 3 wc w.heap.size (fun _ => True) (.slice (some qt) tv.length ct) tv) ∧ Aside0 ((Kd.slice 3 (Kd.int .i64)).S 22 wc w.heap.size (fun _ => True) (.slice (some adp) ((List.range tv.length).map (kidRow tv tv.length)).length cv) ((List.range tv.length).map (kidRow tv tv.length))))
        case first =>
          go_region_held3 (fun w' => w'.cell? (adp.add j) = some (.slice Ap kv.length cp) ∧ w'.cell? ⟨w.heap.size, 0, none⟩ = some (.string a0_0) ∧ w'.cell? ⟨w.heap.size, 1, none⟩ = some (.int .i64 a0_1) ∧ w'.cell? ⟨w.heap.size, 2, none⟩ = some (.int .i64 a0_2) ∧ w'.cell? ⟨w.heap.size, 3, none⟩ = some (.slice A0_3 l0_3.length c0_3) ∧ w'.cell? ⟨w.heap.size, 4, none⟩ = some (.slice A0_4 l0_4.length c0_4)) (first | exact ⟨cpv, (blk_cell BK.out 0).trans rfl, (blk_cell BK.out 1).trans rfl, (blk_cell BK.out 2).trans rfl, (blk_cell BK.out 3).trans rfl, (blk_cell BK.out 4).trans rfl⟩ | go_keep) (first | (go_at_call 39; ((with_reducible refine (balustradebase_Sorted.calls kso _ cp kv kv _ (by with_reducible first | exact HCp.out | exact Kd.C_drew HCp.out) HCPl.out HSO.out).mono ?_); rintro e w' ⟨v_, rfl, hR_, hb⟩; obtain ⟨Aq, cq, rfl⟩ := Kd.R_slice hR_; have RQ := Aside0.mk hR_; replace HB := Aside0.mk (below_step (by with_reducible first | exact HB.out | exact below_drew1 HB.out) hb); replace BK := Aside0.mk (blk_below (by with_reducible first | exact BK.out | exact blk_drew BK.out) hb); replace RT := Aside0.mk (Kd.R_below (by with_reducible first | exact RT.out | exact Kd.R_drew RT.out) hb); replace RS := Aside0.mk (Kd.S_below (by with_reducible first | exact RS.out | exact Kd.S_drew RS.out) hb); replace cpv := (hb.cell (block_lt_of_cell cpv)).trans cpv; replace HCp := Aside0.mk (Kd.C_below (by with_reducible first | exact HCp.out | exact Kd.C_drew HCp.out) hb); clear hb hR_)) | (go_at_call 14; ((with_reducible refine (balustradebase_SameInts.calls ksa _ cq kv _ cp kv true _ (Kd.R_reads' (by with_reducible first | exact RQ.out | exact Kd.R_drew RQ.out)).2.2 (Kd.R_reads' (by with_reducible first | exact RQ.out | exact Kd.R_drew RQ.out)).2.1 (by with_reducible first | exact HCp.out | exact Kd.C_drew HCp.out) HCPl.out HSA.out).mono ?_); rintro e w' ⟨rfl, hb⟩; replace hb := Drawn0.below hb; replace HB := Aside0.mk (below_step (by with_reducible first | exact HB.out | exact below_drew1 HB.out) hb); replace BK := Aside0.mk (blk_below (by with_reducible first | exact BK.out | exact blk_drew BK.out) hb); replace RT := Aside0.mk (Kd.R_below (by with_reducible first | exact RT.out | exact Kd.R_drew RT.out) hb); replace RS := Aside0.mk (Kd.S_below (by with_reducible first | exact RS.out | exact Kd.S_drew RS.out) hb); replace cpv := (hb.cell (block_lt_of_cell cpv)).trans cpv; replace HCp := Aside0.mk (Kd.C_below (by with_reducible first | exact HCp.out | exact Kd.C_drew HCp.out) hb); clear hb)))
          all_goals (go_wp2_with (fail))
          all_goals go_meet
          all_goals exact ⟨rfl, ⟨BK.out⟩, ⟨HB.out⟩, ⟨RT.out⟩, ⟨RS.out⟩⟩
        case rest =>
          clear BK HB RT RS HCp cpv
          obtain ⟨rfl, BK, HB, RT, RS⟩ := hcut
          obtain ⟨W2, hW2⟩ : ∃ q, q = wc := ⟨_, rfl⟩
          subst hW2
          go_wp2_with (fail)
          go_roundw
          case rel => exact ⟨j + 1, by first | (rw [HWR.out]; done) | (rw [HWR.out]) | go_num, ⟨by have := HLT.out; omega⟩, ⟨BK.out⟩, ⟨HB.out⟩, ⟨RT.out⟩, ⟨RS.out⟩⟩
          case measure => exact dw_meas _ _ _ HWR.out HLT.out
    have t6 : decide ((j : Int) < (tv.length : Int)) = false := decide_eq_false (by omega)
    have t7 : decide (j < tv.length) = false := decide_eq_false hlt
    have t8 : decide (tv.length ≤ j) = true := decide_eq_true (by omega)
    go_wp2_with (first | (go_at_call 20; ((with_reducible refine (dom_Dominates.calls _ _ ct tv (-1) 0 false _ (Kd.R_reads' (by with_reducible first | exact RT.out | exact Kd.R_drew RT.out)).2.2 (Kd.R_reads' (by with_reducible first | exact RT.out | exact Kd.R_drew RT.out)).2.1 AE1.out).mono ?_); rintro e w' ⟨rfl, hb⟩; replace hb := Drawn0.below hb; replace HB := Aside0.mk (below_step (by with_reducible first | exact HB.out | exact below_drew1 HB.out) hb); replace RT := Aside0.mk (Kd.R_below (by with_reducible first | exact RT.out | exact Kd.R_drew RT.out) hb); clear hb)) | (go_at_call 20; ((with_reducible refine (dom_Dominates.calls _ _ ct tv 0 (tv.length : Int) false _ (Kd.R_reads' (by with_reducible first | exact RT.out | exact Kd.R_drew RT.out)).2.2 (Kd.R_reads' (by with_reducible first | exact RT.out | exact Kd.R_drew RT.out)).2.1 AE2.out).mono ?_); rintro e w' ⟨rfl, hb⟩; replace hb := Drawn0.below hb; replace HB := Aside0.mk (below_step (by with_reducible first | exact HB.out | exact below_drew1 HB.out) hb); replace RT := Aside0.mk (Kd.R_below (by with_reducible first | exact RT.out | exact Kd.R_drew RT.out) hb); clear hb)) | (go_at_call 35; ((with_reducible refine (dom_Depth.calls _ _ ct tv (tv.length : Int) (-1) _ (Kd.R_reads' (by with_reducible first | exact RT.out | exact Kd.R_drew RT.out)).2.2 (Kd.R_reads' (by with_reducible first | exact RT.out | exact Kd.R_drew RT.out)).2.1 AE3.out).mono ?_); rintro e w' ⟨rfl, hb⟩; replace hb := Drawn0.below hb; replace HB := Aside0.mk (below_step (by with_reducible first | exact HB.out | exact below_drew1 HB.out) hb); replace RT := Aside0.mk (Kd.R_below (by with_reducible first | exact RT.out | exact Kd.R_drew RT.out) hb); clear hb)) | (go_at_call 18; ((with_reducible refine (balustradelaw28_works.calls kw true _ HKW.out).mono ?_); rintro e w' ⟨rfl, hb⟩; replace HB := Aside0.mk (below_step (by with_reducible first | exact HB.out | exact below_drew1 HB.out) hb); clear hb)))
    go_ret
    exact ⟨rfl, HB.out⟩
end Go.Proofs.Ytomopjomapkmjaa.P

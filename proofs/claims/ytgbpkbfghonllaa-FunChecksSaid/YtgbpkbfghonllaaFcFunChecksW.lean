/- A part of it. -/
import Derived.Test.YtgbpkbfghonllaaFcZ
import Derived.Test.YtgbpkbfghonllaaFcM51
import Derived.Test.YtgbpkbfghonllaaFcM50
import Derived.Test.YtgbpkbfghonllaaFcM39
import Derived.Test.YtgbpkbfghonllaaFcP19
import Derived.Test.YtgbpkbfghonllaaFcP21
import Derived.Test.YtgbpkbfghonllaaFcM41
import Derived.Test.YtgbpkbfghonllaaFcP25
import Derived.Outline
set_option linter.unusedVariables false
set_option linter.unusedSimpArgs false
namespace Go.Proofs.Ytgbpkbfghonllaa.P
open Go Go.RowKit Go.Proofs.YtgbpkbfghonllaaW.PrintWords Go.Proofs.YtgbpkbfghonllaaW.PrintLast Go.Proofs.YtgbpkbfghonllaaW.PrintMore Go.Proofs.Ytgbpkbfghonllaa.Pure
set_option maxHeartbeats 16000000 in
set_option maxRecDepth 100000 in
theorem balustradelaw16_FunChecks.walk (Af : Option Addr) (cf : Nat) (fs : List S39) (mn : Int) (As : Option Addr) (cs : Nat) (ss : List S48) (w : World)
  (hf : Kd.C k39 w Af fs.length fs) (hfc : fs.length ≤ cf) (hs : Kd.C k48 w As ss.length ss) (hsc : ss.length ≤ cs) (hg : Sized fs) :
  Calls Try.prog 3 #[.agg #[.slice Af fs.length cf, .int .i64 mn, .slice As ss.length cs]] w fun e w' => e = .returned (.bool true) ∧ Below w.heap.size w w' := by
 obtain ⟨kF, hF⟩ := (few_ev 300 (by omega) fs mn ss hg).rounds
 obtain ⟨kW, hW⟩ := works_ev.rounds
 have HW := Aside0.mk hW
 have HS := Aside0.mk (PSt.start (mn := mn) hf hfc hs hsc)
 obtain ⟨q, eq⟩ : ∃ q, fewV 300 fs ss = q := ⟨_, rfl⟩
 have hT : q = true → Tiny fs ss := fun e => (few_tiny (by omega) (eq.trans e)).1
 have hC : q = true → countV fs ≤ 300 := fun e => (few_tiny (by omega) (eq.trans e)).2
 rw [eq] at hF
 replace hF : balustraderef16_Few.f kF fs mn ss 300 = some q := hF
 have HF := Aside0.mk hF
 clear hF hW hf hfc hs hsc eq
 cases q
 ·clear hT hC
  go_enter Try.func3, Try.ntmps3
  go_upto_region 1 with (fail)
  generalize w.alloc (.cells #[.slice Af fs.length cf, .int .i64 mn, .slice As ss.length cs] 25) = W at *
  have p0 := HS.out.c0
  have p1 := HS.out.c1
  have p2 := HS.out.c2
  go_wp2_with (first | (go_at_call 7; ((with_reducible refine (balustraderef16_Few.calls kF Af cf fs mn As cs ss 300 _ _ (PSt.f HS.out) HS.out.fc (PSt.s HS.out) HS.out.sc HF.out).mono ?_); rintro e W1 ⟨rfl, hb⟩; (try replace HG : Aside0 (w.heap.size + 1 ≤ W1.heap.size) := ⟨by have := HG.out; have h_ := hb.size; omega⟩); (first | replace HS := Aside0.mk (HS.out.step hb) | replace HS := Aside0.mk (HS.out.drew.step hb) | replace HS := Aside0.mk ((HS.out.drewN _).step hb)); clear hb; have p0 := HS.out.c0; have p1 := HS.out.c1; have p2 := HS.out.c2)) | (go_at_call 8; ((with_reducible refine (balustradelaw16_works.calls kW true _ HW.out).mono ?_); rintro e w' ⟨rfl, hb⟩; (first | replace HS := Aside0.mk (HS.out.step hb) | replace HS := Aside0.mk (HS.out.drew.step hb) | replace HS := Aside0.mk ((HS.out.drewN _).step hb)); clear hb; have p0 := HS.out.c0; have p1 := HS.out.c1; have p2 := HS.out.c2)))
  go_ret
  exact ⟨rfl, HS.out.B⟩
 have ht := hT rfl
 have hc := hC rfl
 obtain ⟨k1, h1⟩ := (check_ev fs mn ss ht).rounds
 obtain ⟨k2, h2⟩ := (rcheck_ev fs mn ss ht).rounds
 obtain ⟨k3, h3⟩ := (plain_ev fs mn ss ht).rounds
 obtain ⟨k4, h4⟩ := (rplain_ev fs mn ss ht).rounds
 obtain ⟨k5, h5⟩ := (count_ev fs mn ss (by have := hg.1; omega) (fun f hf => by have := (hg.2 f hf).1; omega) (by omega)).rounds
 obtain ⟨k6, h6⟩ := (rcount_ev fs mn ss (by have := hg.1; omega) (fun f hf => by have := (hg.2 f hf).1; omega) (by omega)).rounds
 obtain ⟨⟨v1, v2, v3, v4⟩, ev⟩ : ∃ v, checkV fs mn ss = v := ⟨_, rfl⟩
 obtain ⟨pv, ep⟩ : ∃ v, plainV fs mn ss = v := ⟨_, rfl⟩
 obtain ⟨cv, ec⟩ : ∃ v, (countV fs : Int) = v := ⟨_, rfl⟩
 rw [ev] at h1 h2
 rw [ep] at h3 h4
 rw [ec] at h5 h6
 have H1 := Aside0.mk h1
 have H2 := Aside0.mk h2
 have H3 := Aside0.mk h3
 have H4 := Aside0.mk h4
 have H5 := Aside0.mk h5
 have H6 := Aside0.mk h6
 clear h1 h2 h3 h4 h5 h6 hT hC ht hc ev ep ec hg
 have q1 : (v1 == v1) = true := by simp
 have q2 : (v2 == v2) = true := by simp
 have q3 : (v3 == v3) = true := by simp
 have q4 : (v4 == v4) = true := by simp
 have q5 : (pv == pv) = true := by simp
 have q6 : (cv == cv) = true := by simp
 go_enter Try.func3, Try.ntmps3
 go_upto_region 1 with (fail)
 have HG : Aside0 (w.heap.size + 1 ≤ (w.alloc (.cells #[.slice Af fs.length cf, .int .i64 mn, .slice As ss.length cs] 25)).heap.size) := ⟨by simp⟩
 generalize w.alloc (.cells #[.slice Af fs.length cf, .int .i64 mn, .slice As ss.length cs] 25) = W at *
 have p0 := HS.out.c0
 have p1 := HS.out.c1
 have p2 := HS.out.c2
 go_upto_region 3 with (first | (go_at_call 7; ((with_reducible refine (balustraderef16_Few.calls kF Af cf fs mn As cs ss 300 _ _ (PSt.f HS.out) HS.out.fc (PSt.s HS.out) HS.out.sc HF.out).mono ?_); rintro e W1 ⟨rfl, hb⟩; (try replace HG : Aside0 (w.heap.size + 1 ≤ W1.heap.size) := ⟨by have := HG.out; have h_ := hb.size; omega⟩); (first | replace HS := Aside0.mk (HS.out.step hb) | replace HS := Aside0.mk (HS.out.drew.step hb) | replace HS := Aside0.mk ((HS.out.drewN _).step hb)); clear hb; have p0 := HS.out.c0; have p1 := HS.out.c1; have p2 := HS.out.c2)) | (go_at_call 8; ((with_reducible refine (balustradelaw16_works.calls kW true _ HW.out).mono ?_); rintro e w' ⟨rfl, hb⟩; (first | replace HS := Aside0.mk (HS.out.step hb) | replace HS := Aside0.mk (HS.out.drew.step hb) | replace HS := Aside0.mk ((HS.out.drewN _).step hb)); clear hb; have p0 := HS.out.c0; have p1 := HS.out.c1; have p2 := HS.out.c2)))
 refine start_ (n := 8) (S := fun w' => w'.cell? ⟨w.heap.size, 0, none⟩ = some (.slice Af fs.length cf) ∧ w'.cell? ⟨w.heap.size, 1, none⟩ = some (.int .i64 mn) ∧ w'.cell? ⟨w.heap.size, 2, none⟩ = some (.slice As ss.length cs)) (ds := [6, 7]) #[false, false, false, false, false, false, false, false] (by kernel_rfl) rfl rfl ⟨p0, p1, p2⟩ (fun hHeld => ?_)
 refine tT 0 (some 9) (zb 8 1) hHeld (h := ?_)
 refine tT 2 (some 11) (zb 8 5) hHeld (h := ?_)
 refine join_ (σ := Nat × Nat) 2 (zb 8 63) (fun s_ => [(10, .agg #[.int .i64 v1, .int .i64 v2, .int .i64 v3, .int .i64 v4]), (12, .agg #[.int .i64 v1, .int .i64 v2, .int .i64 v3, .int .i64 v4]), (3, .pointer (some ⟨s_.1, 0, none⟩)), (4, .pointer (some ⟨s_.2, 0, none⟩))]) (fun s_ w' => (w'.cell? ⟨w.heap.size, 0, none⟩ = some (.slice Af fs.length cf) ∧ w'.cell? ⟨w.heap.size, 1, none⟩ = some (.int .i64 mn) ∧ w'.cell? ⟨w.heap.size, 2, none⟩ = some (.slice As ss.length cs)) ∧ PSt w w.heap.size Af cf fs mn As cs ss w' ∧ w'.heap[s_.1]? = some (.cells #[.int .i64 0, .int .i64 0, .int .i64 0, .int .i64 0] 30 (0, 0)) ∧ w'.heap[s_.2]? = some (.cells #[.int .i64 0, .int .i64 0, .int .i64 0, .int .i64 0] 32 (0, 0)) ∧ w.heap.size + 1 ≤ s_.1 ∧ w.heap.size + 1 ≤ s_.2) ?_ ?_
 rotate_left
 ·intro hCont
  refine three_ (i := 1) (j := 4) (k := 5) (Ni := some 10) (Nj := some 3) (Nk := some 4) (zb 8 7) (zb 8 21) (zb 8 37) rfl rfl rfl rfl rfl rfl (by kernel_rfl) (by decide) (by decide) (by decide) (fun K hK => ?_) (fun K hK => ?_) (fun K hK => ?_)
  ·skip
   refine goes_ Try.func9 (by kernel_rfl) rfl #[.agg #[.slice Af fs.length cf, .int .i64 mn, .slice As ss.length cs]] (by rfl) rfl rfl (by simp only [List.map_toArray, List.map_cons, List.map_nil]; rfl) ?_
   with_reducible refine (fun_Check.calls k1 Af cf fs mn As cs ss v1 v2 v3 v4 _ (PSt.f HS.out.at_) HS.out.fc (PSt.s HS.out.at_) HS.out.sc H1.out).mono ?_
   rintro r w3 ⟨rfl, hb⟩
   refine ⟨_, rfl, ?_⟩
   replace HS := Aside0.mk (PSt.step HS.out.at_ hb)
   replace HG : Aside0 (w.heap.size + 1 ≤ w3.heap.size) := ⟨by have := HG.out; have h_ := hb.size; (try simp at h_); omega⟩
   clear hb
   refine hK.out _ _ ⟨(PSt.c0 HS.out.at_), (PSt.c1 HS.out.at_), (PSt.c2 HS.out.at_)⟩ (fun hHeld => ?_)
   clear hK K
   refine nN (some 10) (h := ?_)
   refine three_ (i := 3) (j := 4) (k := 5) (Ni := some 12) (Nj := some 3) (Nk := some 4) (zb 8 15) (zb 8 23) (zb 8 39) rfl rfl rfl rfl rfl rfl (by kernel_rfl) (by decide) (by decide) (by decide) (fun K hK => ?_) (fun K hK => ?_) (fun K hK => ?_)
   ·skip
    refine goes_ Try.func10 (by kernel_rfl) rfl #[.agg #[.slice Af fs.length cf, .int .i64 mn, .slice As ss.length cs]] (by rfl) rfl rfl (by simp only [List.map_toArray, List.map_cons, List.map_nil]; rfl) ?_
    with_reducible refine (balustraderef16_Check.calls k2 Af cf fs mn As cs ss v1 v2 v3 v4 _ (PSt.f HS.out.at_) HS.out.fc (PSt.s HS.out.at_) HS.out.sc H2.out).mono ?_
    rintro r w5 ⟨rfl, hb⟩
    refine ⟨_, rfl, ?_⟩
    replace HS := Aside0.mk (PSt.step HS.out.at_ hb)
    replace HG : Aside0 (w.heap.size + 1 ≤ w5.heap.size) := ⟨by have := HG.out; have h_ := hb.size; (try simp at h_); omega⟩
    clear hb
    refine hK.out _ _ ⟨(PSt.c0 HS.out.at_), (PSt.c1 HS.out.at_), (PSt.c2 HS.out.at_)⟩ (fun hHeld => ?_)
    clear hK K
    refine nN (some 12) (h := ?_)
    refine two_ (i := 4) (j := 5) (Ni := some 3) (Nj := some 4) (zb 8 31) (zb 8 47) rfl rfl rfl rfl (by kernel_rfl) (by decide) (by decide) (fun K hK => ?_) (fun K hK => ?_)
    ·skip
     refine value_ (w1 := ?_) (v := ?_) (by rfl) rfl ?_ ?_
     rotate_left 2
     ·go_simp
      constructor
      ·rfl
      ·rfl
     have HG4 : Aside0 (w.heap.size + 1 ≤ w5.heap.size) := ⟨by have := HG.out; omega⟩
     refine hK.out _ _ ⟨(PSt.c0 HS.out.at_), (PSt.c1 HS.out.at_), (PSt.c2 HS.out.at_)⟩ (fun hHeld => ?_)
     clear hK K
     refine nN (some 3) (h := ?_)
     refine one_ (i := 5) (N := some 4) (zb 8 63) rfl rfl (by kernel_rfl) (by decide) (fun K hK => ?_)
     refine value_ (w1 := ?_) (v := ?_) (by rfl) rfl ?_ ?_
     rotate_left 2
     ·go_simp
      constructor
      ·rfl
      ·rfl
     have HG5 : Aside0 (w.heap.size + 1 ≤ w5.heap.size + 1) := ⟨by have := HG.out; omega⟩
     refine hK.out _ _ ⟨(PSt.c0 HS.out.at_), (PSt.c1 HS.out.at_), (PSt.c2 HS.out.at_)⟩ (fun hHeld => ?_)
     clear hK K
     refine nN (some 4) (h := ?_)
     exact norm_ (by simp only [putAll, Act.put, List.setIfInBounds_toArray, List.set_cons_zero, List.set_cons_succ]) (hCont (w5.heap.size, w5.heap.size + 1) _ ⟨hHeld, HS.out.at_, (by (try dsimp only); repeat (first | (with_reducible exact blk_new _ _) | (with_reducible exact blk_new1 _ _ _) | (with_reducible exact X4.out) | (with_reducible refine blk_alloc ?_ _) | (with_reducible refine blk_drew ?_))), (by (try dsimp only); repeat (first | (with_reducible exact blk_new _ _) | (with_reducible exact blk_new1 _ _ _) | (with_reducible exact X5.out) | (with_reducible refine blk_alloc ?_ _) | (with_reducible refine blk_drew ?_))), HG4.out, HG5.out⟩)
    ·skip
     refine value_ (w1 := ?_) (v := ?_) (by rfl) rfl ?_ ?_
     rotate_left 2
     ·go_simp
      constructor
      ·rfl
      ·rfl
     have HG5 : Aside0 (w.heap.size + 1 ≤ w5.heap.size) := ⟨by have := HG.out; omega⟩
     refine hK.out _ _ ⟨(PSt.c0 HS.out.at_), (PSt.c1 HS.out.at_), (PSt.c2 HS.out.at_)⟩ (fun hHeld => ?_)
     clear hK K
     refine nN (some 4) (h := ?_)
     refine one_ (i := 4) (N := some 3) (zb 8 63) rfl rfl (by kernel_rfl) (by decide) (fun K hK => ?_)
     refine value_ (w1 := ?_) (v := ?_) (by rfl) rfl ?_ ?_
     rotate_left 2
     ·go_simp
      constructor
      ·rfl
      ·rfl
     have HG4 : Aside0 (w.heap.size + 1 ≤ w5.heap.size + 1) := ⟨by have := HG.out; omega⟩
     refine hK.out _ _ ⟨(PSt.c0 HS.out.at_), (PSt.c1 HS.out.at_), (PSt.c2 HS.out.at_)⟩ (fun hHeld => ?_)
     clear hK K
     refine nN (some 3) (h := ?_)
     exact norm_ (by simp only [putAll, Act.put, List.setIfInBounds_toArray, List.set_cons_zero, List.set_cons_succ]) (hCont (w5.heap.size + 1, w5.heap.size) _ ⟨hHeld, HS.out.at_, (by (try dsimp only); repeat (first | (with_reducible exact blk_new _ _) | (with_reducible exact blk_new1 _ _ _) | (with_reducible exact X4.out) | (with_reducible refine blk_alloc ?_ _) | (with_reducible refine blk_drew ?_))), (by (try dsimp only); repeat (first | (with_reducible exact blk_new _ _) | (with_reducible exact blk_new1 _ _ _) | (with_reducible exact X5.out) | (with_reducible refine blk_alloc ?_ _) | (with_reducible refine blk_drew ?_))), HG4.out, HG5.out⟩)
   ·skip
    refine value_ (w1 := ?_) (v := ?_) (by rfl) rfl ?_ ?_
    rotate_left 2
    ·go_simp
     constructor
     ·rfl
     ·rfl
    have HG4 : Aside0 (w.heap.size + 1 ≤ w3.heap.size) := ⟨by have := HG.out; omega⟩
    refine hK.out _ _ ⟨(PSt.c0 HS.out.at_), (PSt.c1 HS.out.at_), (PSt.c2 HS.out.at_)⟩ (fun hHeld => ?_)
    clear hK K
    refine nN (some 3) (h := ?_)
    refine two_ (i := 3) (j := 5) (Ni := some 12) (Nj := some 4) (zb 8 31) (zb 8 55) rfl rfl rfl rfl (by kernel_rfl) (by decide) (by decide) (fun K hK => ?_) (fun K hK => ?_)
    ·skip
     refine goes_ Try.func10 (by kernel_rfl) rfl #[.agg #[.slice Af fs.length cf, .int .i64 mn, .slice As ss.length cs]] (by rfl) rfl rfl (by simp only [List.map_toArray, List.map_cons, List.map_nil]; rfl) ?_
     with_reducible refine (balustraderef16_Check.calls k2 Af cf fs mn As cs ss v1 v2 v3 v4 _ (PSt.f HS.out.at_) HS.out.fc (PSt.s HS.out.at_) HS.out.sc H2.out).mono ?_
     rintro r w5 ⟨rfl, hb⟩
     refine ⟨_, rfl, ?_⟩
     have X4_ : Aside0 (w5.heap[w3.heap.size]? = some (.cells #[.int .i64 0, .int .i64 0, .int .i64 0, .int .i64 0] 30 (0, 0))) := ⟨blk_below (g := w3.heap.size) (o := (.cells #[.int .i64 0, .int .i64 0, .int .i64 0, .int .i64 0] 30 (0, 0))) (by (try dsimp only); repeat (first | (with_reducible exact blk_new _ _) | (with_reducible exact blk_new1 _ _ _) | (with_reducible exact HZ_.out) | (with_reducible refine blk_alloc ?_ _) | (with_reducible refine blk_drew ?_))) hb⟩
     (try clear X4)
     have X4 := X4_
     clear X4_
     replace HS := Aside0.mk (PSt.step HS.out.at_ hb)
     replace HG : Aside0 (w.heap.size + 1 ≤ w5.heap.size) := ⟨by have := HG.out; have h_ := hb.size; (try simp at h_); omega⟩
     clear hb
     refine hK.out _ _ ⟨(PSt.c0 HS.out.at_), (PSt.c1 HS.out.at_), (PSt.c2 HS.out.at_)⟩ (fun hHeld => ?_)
     clear hK K
     refine nN (some 12) (h := ?_)
     refine one_ (i := 5) (N := some 4) (zb 8 63) rfl rfl (by kernel_rfl) (by decide) (fun K hK => ?_)
     refine value_ (w1 := ?_) (v := ?_) (by rfl) rfl ?_ ?_
     rotate_left 2
     ·go_simp
      constructor
      ·rfl
      ·rfl
     have HG5 : Aside0 (w.heap.size + 1 ≤ w5.heap.size) := ⟨by have := HG.out; omega⟩
     refine hK.out _ _ ⟨(PSt.c0 HS.out.at_), (PSt.c1 HS.out.at_), (PSt.c2 HS.out.at_)⟩ (fun hHeld => ?_)
     clear hK K
     refine nN (some 4) (h := ?_)
     exact norm_ (by simp only [putAll, Act.put, List.setIfInBounds_toArray, List.set_cons_zero, List.set_cons_succ]) (hCont (w3.heap.size, w5.heap.size) _ ⟨hHeld, HS.out.at_, (by (try dsimp only); repeat (first | (with_reducible exact blk_new _ _) | (with_reducible exact blk_new1 _ _ _) | (with_reducible exact X4.out) | (with_reducible refine blk_alloc ?_ _) | (with_reducible refine blk_drew ?_))), (by (try dsimp only); repeat (first | (with_reducible exact blk_new _ _) | (with_reducible exact blk_new1 _ _ _) | (with_reducible exact X5.out) | (with_reducible refine blk_alloc ?_ _) | (with_reducible refine blk_drew ?_))), HG4.out, HG5.out⟩)
    ·skip
     refine value_ (w1 := ?_) (v := ?_) (by rfl) rfl ?_ ?_
     rotate_left 2
     ·go_simp
      constructor
      ·rfl
      ·rfl
     have HG5 : Aside0 (w.heap.size + 1 ≤ w3.heap.size + 1) := ⟨by have := HG.out; omega⟩
     refine hK.out _ _ ⟨(PSt.c0 HS.out.at_), (PSt.c1 HS.out.at_), (PSt.c2 HS.out.at_)⟩ (fun hHeld => ?_)
     clear hK K
     refine nN (some 4) (h := ?_)
     refine one_ (i := 3) (N := some 12) (zb 8 63) rfl rfl (by kernel_rfl) (by decide) (fun K hK => ?_)
     refine goes_ Try.func10 (by kernel_rfl) rfl #[.agg #[.slice Af fs.length cf, .int .i64 mn, .slice As ss.length cs]] (by rfl) rfl rfl (by simp only [List.map_toArray, List.map_cons, List.map_nil]; rfl) ?_
     with_reducible refine (balustraderef16_Check.calls k2 Af cf fs mn As cs ss v1 v2 v3 v4 _ (PSt.f HS.out.at_) HS.out.fc (PSt.s HS.out.at_) HS.out.sc H2.out).mono ?_
     rintro r w5 ⟨rfl, hb⟩
     refine ⟨_, rfl, ?_⟩
     have X4_ : Aside0 (w5.heap[w3.heap.size]? = some (.cells #[.int .i64 0, .int .i64 0, .int .i64 0, .int .i64 0] 30 (0, 0))) := ⟨blk_below (g := w3.heap.size) (o := (.cells #[.int .i64 0, .int .i64 0, .int .i64 0, .int .i64 0] 30 (0, 0))) (by (try dsimp only); repeat (first | (with_reducible exact blk_new _ _) | (with_reducible exact blk_new1 _ _ _) | (with_reducible exact HZ_.out) | (with_reducible refine blk_alloc ?_ _) | (with_reducible refine blk_drew ?_))) hb⟩
     (try clear X4)
     have X4 := X4_
     clear X4_
     have X5_ : Aside0 (w5.heap[w3.heap.size + 1]? = some (.cells #[.int .i64 0, .int .i64 0, .int .i64 0, .int .i64 0] 32 (0, 0))) := ⟨blk_below (g := w3.heap.size + 1) (o := (.cells #[.int .i64 0, .int .i64 0, .int .i64 0, .int .i64 0] 32 (0, 0))) (by (try dsimp only); repeat (first | (with_reducible exact blk_new _ _) | (with_reducible exact blk_new1 _ _ _) | (with_reducible exact HZ_.out) | (with_reducible refine blk_alloc ?_ _) | (with_reducible refine blk_drew ?_))) hb⟩
     (try clear X5)
     have X5 := X5_
     clear X5_
     replace HS := Aside0.mk (PSt.step HS.out.at_ hb)
     replace HG : Aside0 (w.heap.size + 1 ≤ w5.heap.size) := ⟨by have := HG.out; have h_ := hb.size; (try simp at h_); omega⟩
     clear hb
     refine hK.out _ _ ⟨(PSt.c0 HS.out.at_), (PSt.c1 HS.out.at_), (PSt.c2 HS.out.at_)⟩ (fun hHeld => ?_)
     clear hK K
     refine nN (some 12) (h := ?_)
     exact norm_ (by simp only [putAll, Act.put, List.setIfInBounds_toArray, List.set_cons_zero, List.set_cons_succ]) (hCont (w3.heap.size, w3.heap.size + 1) _ ⟨hHeld, HS.out.at_, (by (try dsimp only); repeat (first | (with_reducible exact blk_new _ _) | (with_reducible exact blk_new1 _ _ _) | (with_reducible exact X4.out) | (with_reducible refine blk_alloc ?_ _) | (with_reducible refine blk_drew ?_))), (by (try dsimp only); repeat (first | (with_reducible exact blk_new _ _) | (with_reducible exact blk_new1 _ _ _) | (with_reducible exact X5.out) | (with_reducible refine blk_alloc ?_ _) | (with_reducible refine blk_drew ?_))), HG4.out, HG5.out⟩)
   ·skip
    refine value_ (w1 := ?_) (v := ?_) (by rfl) rfl ?_ ?_
    rotate_left 2
    ·go_simp
     constructor
     ·rfl
     ·rfl
    have HG5 : Aside0 (w.heap.size + 1 ≤ w3.heap.size) := ⟨by have := HG.out; omega⟩
    refine hK.out _ _ ⟨(PSt.c0 HS.out.at_), (PSt.c1 HS.out.at_), (PSt.c2 HS.out.at_)⟩ (fun hHeld => ?_)
    clear hK K
    refine nN (some 4) (h := ?_)
    refine two_ (i := 3) (j := 4) (Ni := some 12) (Nj := some 3) (zb 8 47) (zb 8 55) rfl rfl rfl rfl (by kernel_rfl) (by decide) (by decide) (fun K hK => ?_) (fun K hK => ?_)
    ·skip
     refine goes_ Try.func10 (by kernel_rfl) rfl #[.agg #[.slice Af fs.length cf, .int .i64 mn, .slice As ss.length cs]] (by rfl) rfl rfl (by simp only [List.map_toArray, List.map_cons, List.map_nil]; rfl) ?_
     with_reducible refine (balustraderef16_Check.calls k2 Af cf fs mn As cs ss v1 v2 v3 v4 _ (PSt.f HS.out.at_) HS.out.fc (PSt.s HS.out.at_) HS.out.sc H2.out).mono ?_
     rintro r w5 ⟨rfl, hb⟩
     refine ⟨_, rfl, ?_⟩
     have X5_ : Aside0 (w5.heap[w3.heap.size]? = some (.cells #[.int .i64 0, .int .i64 0, .int .i64 0, .int .i64 0] 32 (0, 0))) := ⟨blk_below (g := w3.heap.size) (o := (.cells #[.int .i64 0, .int .i64 0, .int .i64 0, .int .i64 0] 32 (0, 0))) (by (try dsimp only); repeat (first | (with_reducible exact blk_new _ _) | (with_reducible exact blk_new1 _ _ _) | (with_reducible exact HZ_.out) | (with_reducible refine blk_alloc ?_ _) | (with_reducible refine blk_drew ?_))) hb⟩
     (try clear X5)
     have X5 := X5_
     clear X5_
     replace HS := Aside0.mk (PSt.step HS.out.at_ hb)
     replace HG : Aside0 (w.heap.size + 1 ≤ w5.heap.size) := ⟨by have := HG.out; have h_ := hb.size; (try simp at h_); omega⟩
     clear hb
     refine hK.out _ _ ⟨(PSt.c0 HS.out.at_), (PSt.c1 HS.out.at_), (PSt.c2 HS.out.at_)⟩ (fun hHeld => ?_)
     clear hK K
     refine nN (some 12) (h := ?_)
     refine one_ (i := 4) (N := some 3) (zb 8 63) rfl rfl (by kernel_rfl) (by decide) (fun K hK => ?_)
     refine value_ (w1 := ?_) (v := ?_) (by rfl) rfl ?_ ?_
     rotate_left 2
     ·go_simp
      constructor
      ·rfl
      ·rfl
     have HG4 : Aside0 (w.heap.size + 1 ≤ w5.heap.size) := ⟨by have := HG.out; omega⟩
     refine hK.out _ _ ⟨(PSt.c0 HS.out.at_), (PSt.c1 HS.out.at_), (PSt.c2 HS.out.at_)⟩ (fun hHeld => ?_)
     clear hK K
     refine nN (some 3) (h := ?_)
     exact norm_ (by simp only [putAll, Act.put, List.setIfInBounds_toArray, List.set_cons_zero, List.set_cons_succ]) (hCont (w5.heap.size, w3.heap.size) _ ⟨hHeld, HS.out.at_, (by (try dsimp only); repeat (first | (with_reducible exact blk_new _ _) | (with_reducible exact blk_new1 _ _ _) | (with_reducible exact X4.out) | (with_reducible refine blk_alloc ?_ _) | (with_reducible refine blk_drew ?_))), (by (try dsimp only); repeat (first | (with_reducible exact blk_new _ _) | (with_reducible exact blk_new1 _ _ _) | (with_reducible exact X5.out) | (with_reducible refine blk_alloc ?_ _) | (with_reducible refine blk_drew ?_))), HG4.out, HG5.out⟩)
    ·skip
     refine value_ (w1 := ?_) (v := ?_) (by rfl) rfl ?_ ?_
     rotate_left 2
     ·go_simp
      constructor
      ·rfl
      ·rfl
     have HG4 : Aside0 (w.heap.size + 1 ≤ w3.heap.size + 1) := ⟨by have := HG.out; omega⟩
     refine hK.out _ _ ⟨(PSt.c0 HS.out.at_), (PSt.c1 HS.out.at_), (PSt.c2 HS.out.at_)⟩ (fun hHeld => ?_)
     clear hK K
     refine nN (some 3) (h := ?_)
     refine one_ (i := 3) (N := some 12) (zb 8 63) rfl rfl (by kernel_rfl) (by decide) (fun K hK => ?_)
     refine goes_ Try.func10 (by kernel_rfl) rfl #[.agg #[.slice Af fs.length cf, .int .i64 mn, .slice As ss.length cs]] (by rfl) rfl rfl (by simp only [List.map_toArray, List.map_cons, List.map_nil]; rfl) ?_
     with_reducible refine (balustraderef16_Check.calls k2 Af cf fs mn As cs ss v1 v2 v3 v4 _ (PSt.f HS.out.at_) HS.out.fc (PSt.s HS.out.at_) HS.out.sc H2.out).mono ?_
     rintro r w5 ⟨rfl, hb⟩
     refine ⟨_, rfl, ?_⟩
     have X4_ : Aside0 (w5.heap[w3.heap.size + 1]? = some (.cells #[.int .i64 0, .int .i64 0, .int .i64 0, .int .i64 0] 30 (0, 0))) := ⟨blk_below (g := w3.heap.size + 1) (o := (.cells #[.int .i64 0, .int .i64 0, .int .i64 0, .int .i64 0] 30 (0, 0))) (by (try dsimp only); repeat (first | (with_reducible exact blk_new _ _) | (with_reducible exact blk_new1 _ _ _) | (with_reducible exact HZ_.out) | (with_reducible refine blk_alloc ?_ _) | (with_reducible refine blk_drew ?_))) hb⟩
     (try clear X4)
     have X4 := X4_
     clear X4_
     have X5_ : Aside0 (w5.heap[w3.heap.size]? = some (.cells #[.int .i64 0, .int .i64 0, .int .i64 0, .int .i64 0] 32 (0, 0))) := ⟨blk_below (g := w3.heap.size) (o := (.cells #[.int .i64 0, .int .i64 0, .int .i64 0, .int .i64 0] 32 (0, 0))) (by (try dsimp only); repeat (first | (with_reducible exact blk_new _ _) | (with_reducible exact blk_new1 _ _ _) | (with_reducible exact HZ_.out) | (with_reducible refine blk_alloc ?_ _) | (with_reducible refine blk_drew ?_))) hb⟩
     (try clear X5)
     have X5 := X5_
     clear X5_
     replace HS := Aside0.mk (PSt.step HS.out.at_ hb)
     replace HG : Aside0 (w.heap.size + 1 ≤ w5.heap.size) := ⟨by have := HG.out; have h_ := hb.size; (try simp at h_); omega⟩
     clear hb
     refine hK.out _ _ ⟨(PSt.c0 HS.out.at_), (PSt.c1 HS.out.at_), (PSt.c2 HS.out.at_)⟩ (fun hHeld => ?_)
     clear hK K
     refine nN (some 12) (h := ?_)
     exact norm_ (by simp only [putAll, Act.put, List.setIfInBounds_toArray, List.set_cons_zero, List.set_cons_succ]) (hCont (w3.heap.size + 1, w3.heap.size) _ ⟨hHeld, HS.out.at_, (by (try dsimp only); repeat (first | (with_reducible exact blk_new _ _) | (with_reducible exact blk_new1 _ _ _) | (with_reducible exact X4.out) | (with_reducible refine blk_alloc ?_ _) | (with_reducible refine blk_drew ?_))), (by (try dsimp only); repeat (first | (with_reducible exact blk_new _ _) | (with_reducible exact blk_new1 _ _ _) | (with_reducible exact X5.out) | (with_reducible refine blk_alloc ?_ _) | (with_reducible refine blk_drew ?_))), HG4.out, HG5.out⟩)
  ·skip
   refine value_ (w1 := ?_) (v := ?_) (by rfl) rfl ?_ ?_
   rotate_left 2
   ·go_simp
    constructor
    ·rfl
    ·rfl
   have HG4 : Aside0 (w.heap.size + 1 ≤ W1.heap.size) := ⟨by have := HG.out; omega⟩
   refine hK.out _ _ ⟨(PSt.c0 HS.out.at_), (PSt.c1 HS.out.at_), (PSt.c2 HS.out.at_)⟩ (fun hHeld => ?_)
   clear hK K
   refine nN (some 3) (h := ?_)
   refine two_ (i := 1) (j := 5) (Ni := some 10) (Nj := some 4) (zb 8 23) (zb 8 53) rfl rfl rfl rfl (by kernel_rfl) (by decide) (by decide) (fun K hK => ?_) (fun K hK => ?_)
   ·skip
    refine goes_ Try.func9 (by kernel_rfl) rfl #[.agg #[.slice Af fs.length cf, .int .i64 mn, .slice As ss.length cs]] (by rfl) rfl rfl (by simp only [List.map_toArray, List.map_cons, List.map_nil]; rfl) ?_
    with_reducible refine (fun_Check.calls k1 Af cf fs mn As cs ss v1 v2 v3 v4 _ (PSt.f HS.out.at_) HS.out.fc (PSt.s HS.out.at_) HS.out.sc H1.out).mono ?_
    rintro r w3 ⟨rfl, hb⟩
    refine ⟨_, rfl, ?_⟩
    have X4_ : Aside0 (w3.heap[W1.heap.size]? = some (.cells #[.int .i64 0, .int .i64 0, .int .i64 0, .int .i64 0] 30 (0, 0))) := ⟨blk_below (g := W1.heap.size) (o := (.cells #[.int .i64 0, .int .i64 0, .int .i64 0, .int .i64 0] 30 (0, 0))) (by (try dsimp only); repeat (first | (with_reducible exact blk_new _ _) | (with_reducible exact blk_new1 _ _ _) | (with_reducible exact HZ_.out) | (with_reducible refine blk_alloc ?_ _) | (with_reducible refine blk_drew ?_))) hb⟩
    (try clear X4)
    have X4 := X4_
    clear X4_
    replace HS := Aside0.mk (PSt.step HS.out.at_ hb)
    replace HG : Aside0 (w.heap.size + 1 ≤ w3.heap.size) := ⟨by have := HG.out; have h_ := hb.size; (try simp at h_); omega⟩
    clear hb
    refine hK.out _ _ ⟨(PSt.c0 HS.out.at_), (PSt.c1 HS.out.at_), (PSt.c2 HS.out.at_)⟩ (fun hHeld => ?_)
    clear hK K
    refine nN (some 10) (h := ?_)
    refine two_ (i := 3) (j := 5) (Ni := some 12) (Nj := some 4) (zb 8 31) (zb 8 55) rfl rfl rfl rfl (by kernel_rfl) (by decide) (by decide) (fun K hK => ?_) (fun K hK => ?_)
    ·skip
     refine goes_ Try.func10 (by kernel_rfl) rfl #[.agg #[.slice Af fs.length cf, .int .i64 mn, .slice As ss.length cs]] (by rfl) rfl rfl (by simp only [List.map_toArray, List.map_cons, List.map_nil]; rfl) ?_
     with_reducible refine (balustraderef16_Check.calls k2 Af cf fs mn As cs ss v1 v2 v3 v4 _ (PSt.f HS.out.at_) HS.out.fc (PSt.s HS.out.at_) HS.out.sc H2.out).mono ?_
     rintro r w5 ⟨rfl, hb⟩
     refine ⟨_, rfl, ?_⟩
     have X4_ : Aside0 (w5.heap[W1.heap.size]? = some (.cells #[.int .i64 0, .int .i64 0, .int .i64 0, .int .i64 0] 30 (0, 0))) := ⟨blk_below (g := W1.heap.size) (o := (.cells #[.int .i64 0, .int .i64 0, .int .i64 0, .int .i64 0] 30 (0, 0))) (by (try dsimp only); repeat (first | (with_reducible exact blk_new _ _) | (with_reducible exact blk_new1 _ _ _) | (with_reducible exact X4.out) | (with_reducible refine blk_alloc ?_ _) | (with_reducible refine blk_drew ?_))) hb⟩
     (try clear X4)
     have X4 := X4_
     clear X4_
     replace HS := Aside0.mk (PSt.step HS.out.at_ hb)
     replace HG : Aside0 (w.heap.size + 1 ≤ w5.heap.size) := ⟨by have := HG.out; have h_ := hb.size; (try simp at h_); omega⟩
     clear hb
     refine hK.out _ _ ⟨(PSt.c0 HS.out.at_), (PSt.c1 HS.out.at_), (PSt.c2 HS.out.at_)⟩ (fun hHeld => ?_)
     clear hK K
     refine nN (some 12) (h := ?_)
     refine one_ (i := 5) (N := some 4) (zb 8 63) rfl rfl (by kernel_rfl) (by decide) (fun K hK => ?_)
     refine value_ (w1 := ?_) (v := ?_) (by rfl) rfl ?_ ?_
     rotate_left 2
     ·go_simp
      constructor
      ·rfl
      ·rfl
     have HG5 : Aside0 (w.heap.size + 1 ≤ w5.heap.size) := ⟨by have := HG.out; omega⟩
     refine hK.out _ _ ⟨(PSt.c0 HS.out.at_), (PSt.c1 HS.out.at_), (PSt.c2 HS.out.at_)⟩ (fun hHeld => ?_)
     clear hK K
     refine nN (some 4) (h := ?_)
     exact norm_ (by simp only [putAll, Act.put, List.setIfInBounds_toArray, List.set_cons_zero, List.set_cons_succ]) (hCont (W1.heap.size, w5.heap.size) _ ⟨hHeld, HS.out.at_, (by (try dsimp only); repeat (first | (with_reducible exact blk_new _ _) | (with_reducible exact blk_new1 _ _ _) | (with_reducible exact X4.out) | (with_reducible refine blk_alloc ?_ _) | (with_reducible refine blk_drew ?_))), (by (try dsimp only); repeat (first | (with_reducible exact blk_new _ _) | (with_reducible exact blk_new1 _ _ _) | (with_reducible exact X5.out) | (with_reducible refine blk_alloc ?_ _) | (with_reducible refine blk_drew ?_))), HG4.out, HG5.out⟩)
    ·skip
     refine value_ (w1 := ?_) (v := ?_) (by rfl) rfl ?_ ?_
     rotate_left 2
     ·go_simp
      constructor
      ·rfl
      ·rfl
     have HG5 : Aside0 (w.heap.size + 1 ≤ w3.heap.size) := ⟨by have := HG.out; omega⟩
     refine hK.out _ _ ⟨(PSt.c0 HS.out.at_), (PSt.c1 HS.out.at_), (PSt.c2 HS.out.at_)⟩ (fun hHeld => ?_)
     clear hK K
     refine nN (some 4) (h := ?_)
     refine one_ (i := 3) (N := some 12) (zb 8 63) rfl rfl (by kernel_rfl) (by decide) (fun K hK => ?_)
     refine goes_ Try.func10 (by kernel_rfl) rfl #[.agg #[.slice Af fs.length cf, .int .i64 mn, .slice As ss.length cs]] (by rfl) rfl rfl (by simp only [List.map_toArray, List.map_cons, List.map_nil]; rfl) ?_
     with_reducible refine (balustraderef16_Check.calls k2 Af cf fs mn As cs ss v1 v2 v3 v4 _ (PSt.f HS.out.at_) HS.out.fc (PSt.s HS.out.at_) HS.out.sc H2.out).mono ?_
     rintro r w5 ⟨rfl, hb⟩
     refine ⟨_, rfl, ?_⟩
     have X4_ : Aside0 (w5.heap[W1.heap.size]? = some (.cells #[.int .i64 0, .int .i64 0, .int .i64 0, .int .i64 0] 30 (0, 0))) := ⟨blk_below (g := W1.heap.size) (o := (.cells #[.int .i64 0, .int .i64 0, .int .i64 0, .int .i64 0] 30 (0, 0))) (by (try dsimp only); repeat (first | (with_reducible exact blk_new _ _) | (with_reducible exact blk_new1 _ _ _) | (with_reducible exact X4.out) | (with_reducible refine blk_alloc ?_ _) | (with_reducible refine blk_drew ?_))) hb⟩
     (try clear X4)
     have X4 := X4_
     clear X4_
     have X5_ : Aside0 (w5.heap[w3.heap.size]? = some (.cells #[.int .i64 0, .int .i64 0, .int .i64 0, .int .i64 0] 32 (0, 0))) := ⟨blk_below (g := w3.heap.size) (o := (.cells #[.int .i64 0, .int .i64 0, .int .i64 0, .int .i64 0] 32 (0, 0))) (by (try dsimp only); repeat (first | (with_reducible exact blk_new _ _) | (with_reducible exact blk_new1 _ _ _) | (with_reducible exact HZ_.out) | (with_reducible refine blk_alloc ?_ _) | (with_reducible refine blk_drew ?_))) hb⟩
     (try clear X5)
     have X5 := X5_
     clear X5_
     replace HS := Aside0.mk (PSt.step HS.out.at_ hb)
     replace HG : Aside0 (w.heap.size + 1 ≤ w5.heap.size) := ⟨by have := HG.out; have h_ := hb.size; (try simp at h_); omega⟩
     clear hb
     refine hK.out _ _ ⟨(PSt.c0 HS.out.at_), (PSt.c1 HS.out.at_), (PSt.c2 HS.out.at_)⟩ (fun hHeld => ?_)
     clear hK K
     refine nN (some 12) (h := ?_)
     exact norm_ (by simp only [putAll, Act.put, List.setIfInBounds_toArray, List.set_cons_zero, List.set_cons_succ]) (hCont (W1.heap.size, w3.heap.size) _ ⟨hHeld, HS.out.at_, (by (try dsimp only); repeat (first | (with_reducible exact blk_new _ _) | (with_reducible exact blk_new1 _ _ _) | (with_reducible exact X4.out) | (with_reducible refine blk_alloc ?_ _) | (with_reducible refine blk_drew ?_))), (by (try dsimp only); repeat (first | (with_reducible exact blk_new _ _) | (with_reducible exact blk_new1 _ _ _) | (with_reducible exact X5.out) | (with_reducible refine blk_alloc ?_ _) | (with_reducible refine blk_drew ?_))), HG4.out, HG5.out⟩)
   ·skip
    refine value_ (w1 := ?_) (v := ?_) (by rfl) rfl ?_ ?_
    rotate_left 2
    ·go_simp
     constructor
     ·rfl
     ·rfl
    have HG5 : Aside0 (w.heap.size + 1 ≤ W1.heap.size + 1) := ⟨by have := HG.out; omega⟩
    refine hK.out _ _ ⟨(PSt.c0 HS.out.at_), (PSt.c1 HS.out.at_), (PSt.c2 HS.out.at_)⟩ (fun hHeld => ?_)
    clear hK K
    refine nN (some 4) (h := ?_)
    refine one_ (i := 1) (N := some 10) (zb 8 55) rfl rfl (by kernel_rfl) (by decide) (fun K hK => ?_)
    refine goes_ Try.func9 (by kernel_rfl) rfl #[.agg #[.slice Af fs.length cf, .int .i64 mn, .slice As ss.length cs]] (by rfl) rfl rfl (by simp only [List.map_toArray, List.map_cons, List.map_nil]; rfl) ?_
    with_reducible refine (fun_Check.calls k1 Af cf fs mn As cs ss v1 v2 v3 v4 _ (PSt.f HS.out.at_) HS.out.fc (PSt.s HS.out.at_) HS.out.sc H1.out).mono ?_
    rintro r w3 ⟨rfl, hb⟩
    refine ⟨_, rfl, ?_⟩
    have X4_ : Aside0 (w3.heap[W1.heap.size]? = some (.cells #[.int .i64 0, .int .i64 0, .int .i64 0, .int .i64 0] 30 (0, 0))) := ⟨blk_below (g := W1.heap.size) (o := (.cells #[.int .i64 0, .int .i64 0, .int .i64 0, .int .i64 0] 30 (0, 0))) (by (try dsimp only); repeat (first | (with_reducible exact blk_new _ _) | (with_reducible exact blk_new1 _ _ _) | (with_reducible exact HZ_.out) | (with_reducible refine blk_alloc ?_ _) | (with_reducible refine blk_drew ?_))) hb⟩
    (try clear X4)
    have X4 := X4_
    clear X4_
    have X5_ : Aside0 (w3.heap[W1.heap.size + 1]? = some (.cells #[.int .i64 0, .int .i64 0, .int .i64 0, .int .i64 0] 32 (0, 0))) := ⟨blk_below (g := W1.heap.size + 1) (o := (.cells #[.int .i64 0, .int .i64 0, .int .i64 0, .int .i64 0] 32 (0, 0))) (by (try dsimp only); repeat (first | (with_reducible exact blk_new _ _) | (with_reducible exact blk_new1 _ _ _) | (with_reducible exact HZ_.out) | (with_reducible refine blk_alloc ?_ _) | (with_reducible refine blk_drew ?_))) hb⟩
    (try clear X5)
    have X5 := X5_
    clear X5_
    replace HS := Aside0.mk (PSt.step HS.out.at_ hb)
    replace HG : Aside0 (w.heap.size + 1 ≤ w3.heap.size) := ⟨by have := HG.out; have h_ := hb.size; (try simp at h_); omega⟩
    clear hb
    refine hK.out _ _ ⟨(PSt.c0 HS.out.at_), (PSt.c1 HS.out.at_), (PSt.c2 HS.out.at_)⟩ (fun hHeld => ?_)
    clear hK K
    refine nN (some 10) (h := ?_)
    refine one_ (i := 3) (N := some 12) (zb 8 63) rfl rfl (by kernel_rfl) (by decide) (fun K hK => ?_)
    refine goes_ Try.func10 (by kernel_rfl) rfl #[.agg #[.slice Af fs.length cf, .int .i64 mn, .slice As ss.length cs]] (by rfl) rfl rfl (by simp only [List.map_toArray, List.map_cons, List.map_nil]; rfl) ?_
    with_reducible refine (balustraderef16_Check.calls k2 Af cf fs mn As cs ss v1 v2 v3 v4 _ (PSt.f HS.out.at_) HS.out.fc (PSt.s HS.out.at_) HS.out.sc H2.out).mono ?_
    rintro r w5 ⟨rfl, hb⟩
    refine ⟨_, rfl, ?_⟩
    have X4_ : Aside0 (w5.heap[W1.heap.size]? = some (.cells #[.int .i64 0, .int .i64 0, .int .i64 0, .int .i64 0] 30 (0, 0))) := ⟨blk_below (g := W1.heap.size) (o := (.cells #[.int .i64 0, .int .i64 0, .int .i64 0, .int .i64 0] 30 (0, 0))) (by (try dsimp only); repeat (first | (with_reducible exact blk_new _ _) | (with_reducible exact blk_new1 _ _ _) | (with_reducible exact X4.out) | (with_reducible refine blk_alloc ?_ _) | (with_reducible refine blk_drew ?_))) hb⟩
    (try clear X4)
    have X4 := X4_
    clear X4_
    have X5_ : Aside0 (w5.heap[W1.heap.size + 1]? = some (.cells #[.int .i64 0, .int .i64 0, .int .i64 0, .int .i64 0] 32 (0, 0))) := ⟨blk_below (g := W1.heap.size + 1) (o := (.cells #[.int .i64 0, .int .i64 0, .int .i64 0, .int .i64 0] 32 (0, 0))) (by (try dsimp only); repeat (first | (with_reducible exact blk_new _ _) | (with_reducible exact blk_new1 _ _ _) | (with_reducible exact X5.out) | (with_reducible refine blk_alloc ?_ _) | (with_reducible refine blk_drew ?_))) hb⟩
    (try clear X5)
    have X5 := X5_
    clear X5_
    replace HS := Aside0.mk (PSt.step HS.out.at_ hb)
    replace HG : Aside0 (w.heap.size + 1 ≤ w5.heap.size) := ⟨by have := HG.out; have h_ := hb.size; (try simp at h_); omega⟩
    clear hb
    refine hK.out _ _ ⟨(PSt.c0 HS.out.at_), (PSt.c1 HS.out.at_), (PSt.c2 HS.out.at_)⟩ (fun hHeld => ?_)
    clear hK K
    refine nN (some 12) (h := ?_)
    exact norm_ (by simp only [putAll, Act.put, List.setIfInBounds_toArray, List.set_cons_zero, List.set_cons_succ]) (hCont (W1.heap.size, W1.heap.size + 1) _ ⟨hHeld, HS.out.at_, (by (try dsimp only); repeat (first | (with_reducible exact blk_new _ _) | (with_reducible exact blk_new1 _ _ _) | (with_reducible exact X4.out) | (with_reducible refine blk_alloc ?_ _) | (with_reducible refine blk_drew ?_))), (by (try dsimp only); repeat (first | (with_reducible exact blk_new _ _) | (with_reducible exact blk_new1 _ _ _) | (with_reducible exact X5.out) | (with_reducible refine blk_alloc ?_ _) | (with_reducible refine blk_drew ?_))), HG4.out, HG5.out⟩)
  ·skip
   refine value_ (w1 := ?_) (v := ?_) (by rfl) rfl ?_ ?_
   rotate_left 2
   ·go_simp
    constructor
    ·rfl
    ·rfl
   have HG5 : Aside0 (w.heap.size + 1 ≤ W1.heap.size) := ⟨by have := HG.out; omega⟩
   refine hK.out _ _ ⟨(PSt.c0 HS.out.at_), (PSt.c1 HS.out.at_), (PSt.c2 HS.out.at_)⟩ (fun hHeld => ?_)
   clear hK K
   refine nN (some 4) (h := ?_)
   refine two_ (i := 1) (j := 4) (Ni := some 10) (Nj := some 3) (zb 8 39) (zb 8 53) rfl rfl rfl rfl (by kernel_rfl) (by decide) (by decide) (fun K hK => ?_) (fun K hK => ?_)
   ·skip
    refine goes_ Try.func9 (by kernel_rfl) rfl #[.agg #[.slice Af fs.length cf, .int .i64 mn, .slice As ss.length cs]] (by rfl) rfl rfl (by simp only [List.map_toArray, List.map_cons, List.map_nil]; rfl) ?_
    with_reducible refine (fun_Check.calls k1 Af cf fs mn As cs ss v1 v2 v3 v4 _ (PSt.f HS.out.at_) HS.out.fc (PSt.s HS.out.at_) HS.out.sc H1.out).mono ?_
    rintro r w3 ⟨rfl, hb⟩
    refine ⟨_, rfl, ?_⟩
    have X5_ : Aside0 (w3.heap[W1.heap.size]? = some (.cells #[.int .i64 0, .int .i64 0, .int .i64 0, .int .i64 0] 32 (0, 0))) := ⟨blk_below (g := W1.heap.size) (o := (.cells #[.int .i64 0, .int .i64 0, .int .i64 0, .int .i64 0] 32 (0, 0))) (by (try dsimp only); repeat (first | (with_reducible exact blk_new _ _) | (with_reducible exact blk_new1 _ _ _) | (with_reducible exact HZ_.out) | (with_reducible refine blk_alloc ?_ _) | (with_reducible refine blk_drew ?_))) hb⟩
    (try clear X5)
    have X5 := X5_
    clear X5_
    replace HS := Aside0.mk (PSt.step HS.out.at_ hb)
    replace HG : Aside0 (w.heap.size + 1 ≤ w3.heap.size) := ⟨by have := HG.out; have h_ := hb.size; (try simp at h_); omega⟩
    clear hb
    refine hK.out _ _ ⟨(PSt.c0 HS.out.at_), (PSt.c1 HS.out.at_), (PSt.c2 HS.out.at_)⟩ (fun hHeld => ?_)
    clear hK K
    refine nN (some 10) (h := ?_)
    refine two_ (i := 3) (j := 4) (Ni := some 12) (Nj := some 3) (zb 8 47) (zb 8 55) rfl rfl rfl rfl (by kernel_rfl) (by decide) (by decide) (fun K hK => ?_) (fun K hK => ?_)
    ·skip
     refine goes_ Try.func10 (by kernel_rfl) rfl #[.agg #[.slice Af fs.length cf, .int .i64 mn, .slice As ss.length cs]] (by rfl) rfl rfl (by simp only [List.map_toArray, List.map_cons, List.map_nil]; rfl) ?_
     with_reducible refine (balustraderef16_Check.calls k2 Af cf fs mn As cs ss v1 v2 v3 v4 _ (PSt.f HS.out.at_) HS.out.fc (PSt.s HS.out.at_) HS.out.sc H2.out).mono ?_
     rintro r w5 ⟨rfl, hb⟩
     refine ⟨_, rfl, ?_⟩
     have X5_ : Aside0 (w5.heap[W1.heap.size]? = some (.cells #[.int .i64 0, .int .i64 0, .int .i64 0, .int .i64 0] 32 (0, 0))) := ⟨blk_below (g := W1.heap.size) (o := (.cells #[.int .i64 0, .int .i64 0, .int .i64 0, .int .i64 0] 32 (0, 0))) (by (try dsimp only); repeat (first | (with_reducible exact blk_new _ _) | (with_reducible exact blk_new1 _ _ _) | (with_reducible exact X5.out) | (with_reducible refine blk_alloc ?_ _) | (with_reducible refine blk_drew ?_))) hb⟩
     (try clear X5)
     have X5 := X5_
     clear X5_
     replace HS := Aside0.mk (PSt.step HS.out.at_ hb)
     replace HG : Aside0 (w.heap.size + 1 ≤ w5.heap.size) := ⟨by have := HG.out; have h_ := hb.size; (try simp at h_); omega⟩
     clear hb
     refine hK.out _ _ ⟨(PSt.c0 HS.out.at_), (PSt.c1 HS.out.at_), (PSt.c2 HS.out.at_)⟩ (fun hHeld => ?_)
     clear hK K
     refine nN (some 12) (h := ?_)
     refine one_ (i := 4) (N := some 3) (zb 8 63) rfl rfl (by kernel_rfl) (by decide) (fun K hK => ?_)
     refine value_ (w1 := ?_) (v := ?_) (by rfl) rfl ?_ ?_
     rotate_left 2
     ·go_simp
      constructor
      ·rfl
      ·rfl
     have HG4 : Aside0 (w.heap.size + 1 ≤ w5.heap.size) := ⟨by have := HG.out; omega⟩
     refine hK.out _ _ ⟨(PSt.c0 HS.out.at_), (PSt.c1 HS.out.at_), (PSt.c2 HS.out.at_)⟩ (fun hHeld => ?_)
     clear hK K
     refine nN (some 3) (h := ?_)
     exact norm_ (by simp only [putAll, Act.put, List.setIfInBounds_toArray, List.set_cons_zero, List.set_cons_succ]) (hCont (w5.heap.size, W1.heap.size) _ ⟨hHeld, HS.out.at_, (by (try dsimp only); repeat (first | (with_reducible exact blk_new _ _) | (with_reducible exact blk_new1 _ _ _) | (with_reducible exact X4.out) | (with_reducible refine blk_alloc ?_ _) | (with_reducible refine blk_drew ?_))), (by (try dsimp only); repeat (first | (with_reducible exact blk_new _ _) | (with_reducible exact blk_new1 _ _ _) | (with_reducible exact X5.out) | (with_reducible refine blk_alloc ?_ _) | (with_reducible refine blk_drew ?_))), HG4.out, HG5.out⟩)
    ·skip
     refine value_ (w1 := ?_) (v := ?_) (by rfl) rfl ?_ ?_
     rotate_left 2
     ·go_simp
      constructor
      ·rfl
      ·rfl
     have HG4 : Aside0 (w.heap.size + 1 ≤ w3.heap.size) := ⟨by have := HG.out; omega⟩
     refine hK.out _ _ ⟨(PSt.c0 HS.out.at_), (PSt.c1 HS.out.at_), (PSt.c2 HS.out.at_)⟩ (fun hHeld => ?_)
     clear hK K
     refine nN (some 3) (h := ?_)
     refine one_ (i := 3) (N := some 12) (zb 8 63) rfl rfl (by kernel_rfl) (by decide) (fun K hK => ?_)
     refine goes_ Try.func10 (by kernel_rfl) rfl #[.agg #[.slice Af fs.length cf, .int .i64 mn, .slice As ss.length cs]] (by rfl) rfl rfl (by simp only [List.map_toArray, List.map_cons, List.map_nil]; rfl) ?_
     with_reducible refine (balustraderef16_Check.calls k2 Af cf fs mn As cs ss v1 v2 v3 v4 _ (PSt.f HS.out.at_) HS.out.fc (PSt.s HS.out.at_) HS.out.sc H2.out).mono ?_
     rintro r w5 ⟨rfl, hb⟩
     refine ⟨_, rfl, ?_⟩
     have X4_ : Aside0 (w5.heap[w3.heap.size]? = some (.cells #[.int .i64 0, .int .i64 0, .int .i64 0, .int .i64 0] 30 (0, 0))) := ⟨blk_below (g := w3.heap.size) (o := (.cells #[.int .i64 0, .int .i64 0, .int .i64 0, .int .i64 0] 30 (0, 0))) (by (try dsimp only); repeat (first | (with_reducible exact blk_new _ _) | (with_reducible exact blk_new1 _ _ _) | (with_reducible exact HZ_.out) | (with_reducible refine blk_alloc ?_ _) | (with_reducible refine blk_drew ?_))) hb⟩
     (try clear X4)
     have X4 := X4_
     clear X4_
     have X5_ : Aside0 (w5.heap[W1.heap.size]? = some (.cells #[.int .i64 0, .int .i64 0, .int .i64 0, .int .i64 0] 32 (0, 0))) := ⟨blk_below (g := W1.heap.size) (o := (.cells #[.int .i64 0, .int .i64 0, .int .i64 0, .int .i64 0] 32 (0, 0))) (by (try dsimp only); repeat (first | (with_reducible exact blk_new _ _) | (with_reducible exact blk_new1 _ _ _) | (with_reducible exact X5.out) | (with_reducible refine blk_alloc ?_ _) | (with_reducible refine blk_drew ?_))) hb⟩
     (try clear X5)
     have X5 := X5_
     clear X5_
     replace HS := Aside0.mk (PSt.step HS.out.at_ hb)
     replace HG : Aside0 (w.heap.size + 1 ≤ w5.heap.size) := ⟨by have := HG.out; have h_ := hb.size; (try simp at h_); omega⟩
     clear hb
     refine hK.out _ _ ⟨(PSt.c0 HS.out.at_), (PSt.c1 HS.out.at_), (PSt.c2 HS.out.at_)⟩ (fun hHeld => ?_)
     clear hK K
     refine nN (some 12) (h := ?_)
     exact norm_ (by simp only [putAll, Act.put, List.setIfInBounds_toArray, List.set_cons_zero, List.set_cons_succ]) (hCont (w3.heap.size, W1.heap.size) _ ⟨hHeld, HS.out.at_, (by (try dsimp only); repeat (first | (with_reducible exact blk_new _ _) | (with_reducible exact blk_new1 _ _ _) | (with_reducible exact X4.out) | (with_reducible refine blk_alloc ?_ _) | (with_reducible refine blk_drew ?_))), (by (try dsimp only); repeat (first | (with_reducible exact blk_new _ _) | (with_reducible exact blk_new1 _ _ _) | (with_reducible exact X5.out) | (with_reducible refine blk_alloc ?_ _) | (with_reducible refine blk_drew ?_))), HG4.out, HG5.out⟩)
   ·skip
    refine value_ (w1 := ?_) (v := ?_) (by rfl) rfl ?_ ?_
    rotate_left 2
    ·go_simp
     constructor
     ·rfl
     ·rfl
    have HG4 : Aside0 (w.heap.size + 1 ≤ W1.heap.size + 1) := ⟨by have := HG.out; omega⟩
    refine hK.out _ _ ⟨(PSt.c0 HS.out.at_), (PSt.c1 HS.out.at_), (PSt.c2 HS.out.at_)⟩ (fun hHeld => ?_)
    clear hK K
    refine nN (some 3) (h := ?_)
    refine one_ (i := 1) (N := some 10) (zb 8 55) rfl rfl (by kernel_rfl) (by decide) (fun K hK => ?_)
    refine goes_ Try.func9 (by kernel_rfl) rfl #[.agg #[.slice Af fs.length cf, .int .i64 mn, .slice As ss.length cs]] (by rfl) rfl rfl (by simp only [List.map_toArray, List.map_cons, List.map_nil]; rfl) ?_
    with_reducible refine (fun_Check.calls k1 Af cf fs mn As cs ss v1 v2 v3 v4 _ (PSt.f HS.out.at_) HS.out.fc (PSt.s HS.out.at_) HS.out.sc H1.out).mono ?_
    rintro r w3 ⟨rfl, hb⟩
    refine ⟨_, rfl, ?_⟩
    have X4_ : Aside0 (w3.heap[W1.heap.size + 1]? = some (.cells #[.int .i64 0, .int .i64 0, .int .i64 0, .int .i64 0] 30 (0, 0))) := ⟨blk_below (g := W1.heap.size + 1) (o := (.cells #[.int .i64 0, .int .i64 0, .int .i64 0, .int .i64 0] 30 (0, 0))) (by (try dsimp only); repeat (first | (with_reducible exact blk_new _ _) | (with_reducible exact blk_new1 _ _ _) | (with_reducible exact HZ_.out) | (with_reducible refine blk_alloc ?_ _) | (with_reducible refine blk_drew ?_))) hb⟩
    (try clear X4)
    have X4 := X4_
    clear X4_
    have X5_ : Aside0 (w3.heap[W1.heap.size]? = some (.cells #[.int .i64 0, .int .i64 0, .int .i64 0, .int .i64 0] 32 (0, 0))) := ⟨blk_below (g := W1.heap.size) (o := (.cells #[.int .i64 0, .int .i64 0, .int .i64 0, .int .i64 0] 32 (0, 0))) (by (try dsimp only); repeat (first | (with_reducible exact blk_new _ _) | (with_reducible exact blk_new1 _ _ _) | (with_reducible exact HZ_.out) | (with_reducible refine blk_alloc ?_ _) | (with_reducible refine blk_drew ?_))) hb⟩
    (try clear X5)
    have X5 := X5_
    clear X5_
    replace HS := Aside0.mk (PSt.step HS.out.at_ hb)
    replace HG : Aside0 (w.heap.size + 1 ≤ w3.heap.size) := ⟨by have := HG.out; have h_ := hb.size; (try simp at h_); omega⟩
    clear hb
    refine hK.out _ _ ⟨(PSt.c0 HS.out.at_), (PSt.c1 HS.out.at_), (PSt.c2 HS.out.at_)⟩ (fun hHeld => ?_)
    clear hK K
    refine nN (some 10) (h := ?_)
    refine one_ (i := 3) (N := some 12) (zb 8 63) rfl rfl (by kernel_rfl) (by decide) (fun K hK => ?_)
    refine goes_ Try.func10 (by kernel_rfl) rfl #[.agg #[.slice Af fs.length cf, .int .i64 mn, .slice As ss.length cs]] (by rfl) rfl rfl (by simp only [List.map_toArray, List.map_cons, List.map_nil]; rfl) ?_
    with_reducible refine (balustraderef16_Check.calls k2 Af cf fs mn As cs ss v1 v2 v3 v4 _ (PSt.f HS.out.at_) HS.out.fc (PSt.s HS.out.at_) HS.out.sc H2.out).mono ?_
    rintro r w5 ⟨rfl, hb⟩
    refine ⟨_, rfl, ?_⟩
    have X4_ : Aside0 (w5.heap[W1.heap.size + 1]? = some (.cells #[.int .i64 0, .int .i64 0, .int .i64 0, .int .i64 0] 30 (0, 0))) := ⟨blk_below (g := W1.heap.size + 1) (o := (.cells #[.int .i64 0, .int .i64 0, .int .i64 0, .int .i64 0] 30 (0, 0))) (by (try dsimp only); repeat (first | (with_reducible exact blk_new _ _) | (with_reducible exact blk_new1 _ _ _) | (with_reducible exact X4.out) | (with_reducible refine blk_alloc ?_ _) | (with_reducible refine blk_drew ?_))) hb⟩
    (try clear X4)
    have X4 := X4_
    clear X4_
    have X5_ : Aside0 (w5.heap[W1.heap.size]? = some (.cells #[.int .i64 0, .int .i64 0, .int .i64 0, .int .i64 0] 32 (0, 0))) := ⟨blk_below (g := W1.heap.size) (o := (.cells #[.int .i64 0, .int .i64 0, .int .i64 0, .int .i64 0] 32 (0, 0))) (by (try dsimp only); repeat (first | (with_reducible exact blk_new _ _) | (with_reducible exact blk_new1 _ _ _) | (with_reducible exact X5.out) | (with_reducible refine blk_alloc ?_ _) | (with_reducible refine blk_drew ?_))) hb⟩
    (try clear X5)
    have X5 := X5_
    clear X5_
    replace HS := Aside0.mk (PSt.step HS.out.at_ hb)
    replace HG : Aside0 (w.heap.size + 1 ≤ w5.heap.size) := ⟨by have := HG.out; have h_ := hb.size; (try simp at h_); omega⟩
    clear hb
    refine hK.out _ _ ⟨(PSt.c0 HS.out.at_), (PSt.c1 HS.out.at_), (PSt.c2 HS.out.at_)⟩ (fun hHeld => ?_)
    clear hK K
    refine nN (some 12) (h := ?_)
    exact norm_ (by simp only [putAll, Act.put, List.setIfInBounds_toArray, List.set_cons_zero, List.set_cons_succ]) (hCont (W1.heap.size + 1, W1.heap.size) _ ⟨hHeld, HS.out.at_, (by (try dsimp only); repeat (first | (with_reducible exact blk_new _ _) | (with_reducible exact blk_new1 _ _ _) | (with_reducible exact X4.out) | (with_reducible refine blk_alloc ?_ _) | (with_reducible refine blk_drew ?_))), (by (try dsimp only); repeat (first | (with_reducible exact blk_new _ _) | (with_reducible exact blk_new1 _ _ _) | (with_reducible exact X5.out) | (with_reducible refine blk_alloc ?_ _) | (with_reducible refine blk_drew ?_))), HG4.out, HG5.out⟩)
 rintro ⟨g4, g5⟩ w6 ⟨hS_, h0_, h1_, h2_, h3_, h4_⟩
 have hHeld := hS_
 dsimp only at h1_ h2_ h3_ h4_
 clear HS HG
 have HS := Aside0.mk h0_
 have X4 := Aside0.mk h1_
 have X5 := Aside0.mk h2_
 have HG4 := Aside0.mk h3_
 have HG5 := Aside0.mk h4_
 have hne1 : ¬ (g4 = g5) := fun e => by rw [e, h2_] at h1_; cases h1_
 have hne2 : ¬ (g5 = g4) := fun e => hne1 e.symm
 have y4_0 := (blk_cell X4.out 0).trans rfl
 simp only [List.getElem?_toArray, List.getElem?_cons_zero, List.getElem?_cons_succ] at y4_0
 have z4_0 := blk_frozen X4.out 0
 have y4_1 := (blk_cell X4.out 1).trans rfl
 simp only [List.getElem?_toArray, List.getElem?_cons_zero, List.getElem?_cons_succ] at y4_1
 have z4_1 := blk_frozen X4.out 1
 have y4_2 := (blk_cell X4.out 2).trans rfl
 simp only [List.getElem?_toArray, List.getElem?_cons_zero, List.getElem?_cons_succ] at y4_2
 have z4_2 := blk_frozen X4.out 2
 have y4_3 := (blk_cell X4.out 3).trans rfl
 simp only [List.getElem?_toArray, List.getElem?_cons_zero, List.getElem?_cons_succ] at y4_3
 have z4_3 := blk_frozen X4.out 3
 have y5_0 := (blk_cell X5.out 0).trans rfl
 simp only [List.getElem?_toArray, List.getElem?_cons_zero, List.getElem?_cons_succ] at y5_0
 have z5_0 := blk_frozen X5.out 0
 have y5_1 := (blk_cell X5.out 1).trans rfl
 simp only [List.getElem?_toArray, List.getElem?_cons_zero, List.getElem?_cons_succ] at y5_1
 have z5_1 := blk_frozen X5.out 1
 have y5_2 := (blk_cell X5.out 2).trans rfl
 simp only [List.getElem?_toArray, List.getElem?_cons_zero, List.getElem?_cons_succ] at y5_2
 have z5_2 := blk_frozen X5.out 2
 have y5_3 := (blk_cell X5.out 3).trans rfl
 simp only [List.getElem?_toArray, List.getElem?_cons_zero, List.getElem?_cons_succ] at y5_3
 have z5_3 := blk_frozen X5.out 3
 clear h0_ h1_ h2_ h3_ h4_ hS_
 refine norm_ (a' := ?_) ?_ ?_
 rotate_left
 ·simp only [putAll, Act.put, List.setIfInBounds_toArray, List.set_cons_zero, List.set_cons_succ]
  rfl
 refine last_ (i := 6) (N := none) (zb 8 127) rfl rfl (by kernel_rfl) (by decide) (fun K hK => ?_)
 refine skip_ (w1 := ?_) (by rfl) rfl ?_ ?_
 rotate_left
 ·go_simp
  rfl
 refine hK.out _ _ ?_
 clear hK K
 refine last_ (i := 7) (N := none) (zb 8 255) rfl rfl (by kernel_rfl) (by decide) (fun K hK => ?_)
 refine skip_ (w1 := ?_) (by rfl) rfl ?_ ?_
 rotate_left
 ·go_simp
  rfl
 refine hK.out _ _ ?_
 clear hK K
 refine done_ (by kernel_rfl) ?_
 have HB6 := Aside0.mk (show PSt w w.heap.size Af cf fs mn As cs ss _ from (HS.out.set4 X4.out (by decide) (by have := HG4.out; omega) (.int .i64 v1) (.int .i64 v2) (.int .i64 v3) (.int .i64 v4)).set4 (row4_far X4.out X5.out (by decide) (.int .i64 v1) (.int .i64 v2) (.int .i64 v3) (.int .i64 v4)) (by decide) (by have := HG5.out; omega) (.int .i64 v1) (.int .i64 v2) (.int .i64 v3) (.int .i64 v4))
 have Y5 := Aside0.mk (fin_row (a := .int .i64 v1) (b := .int .i64 v2) (c := .int .i64 v3) (d := .int .i64 v4) (row4_far X4.out X5.out (by decide) (.int .i64 v1) (.int .i64 v2) (.int .i64 v3) (.int .i64 v4)))
 have Y4 := Aside0.mk (row4_far (row4_far X4.out X5.out (by decide) (.int .i64 v1) (.int .i64 v2) (.int .i64 v3) (.int .i64 v4)) (fin_row (a := .int .i64 v1) (b := .int .i64 v2) (c := .int .i64 v3) (d := .int .i64 v4) X4.out) (by decide) (.int .i64 v1) (.int .i64 v2) (.int .i64 v3) (.int .i64 v4))
 clear HS hHeld X4 X5
 have HS := HB6
 clear HB6
 generalize HWX : World.setCell _ _ _ = W7 at *
 clear HWX p0 p1 p2
 have p0 := HS.out.c0
 have p1 := HS.out.c1
 have p2 := HS.out.c2
 go_upto_region 4 with (fail)
 refine start_ (n := 44) (S := fun w' => w'.cell? ⟨w.heap.size, 0, none⟩ = some (.slice Af fs.length cf) ∧ w'.cell? ⟨w.heap.size, 1, none⟩ = some (.int .i64 mn) ∧ w'.cell? ⟨w.heap.size, 2, none⟩ = some (.slice As ss.length cs) ∧ w'.cell? ⟨g4, 0, none⟩ = some (.int .i64 v1) ∧ w'.cell? ⟨g4, 1, none⟩ = some (.int .i64 v2) ∧ w'.cell? ⟨g4, 2, none⟩ = some (.int .i64 v3) ∧ w'.cell? ⟨g4, 3, none⟩ = some (.int .i64 v4) ∧ w'.cell? ⟨g5, 0, none⟩ = some (.int .i64 v1) ∧ w'.cell? ⟨g5, 1, none⟩ = some (.int .i64 v2) ∧ w'.cell? ⟨g5, 2, none⟩ = some (.int .i64 v3) ∧ w'.cell? ⟨g5, 3, none⟩ = some (.int .i64 v4)) (ds := []) #[false, false, false, false, false, false, false, false, false, false, false, false, false, false, false, false, false, false, false, false, false, false, false, false, false, false, false, false, false, false, false, false, false, false, false, false, false, false, false, false, false, false, false, false] (by kernel_rfl) rfl rfl ⟨p0, p1, p2, ((blk_cell Y4.out 0).trans rfl), ((blk_cell Y4.out 1).trans rfl), ((blk_cell Y4.out 2).trans rfl), ((blk_cell Y4.out 3).trans rfl), ((blk_cell Y5.out 0).trans rfl), ((blk_cell Y5.out 1).trans rfl), ((blk_cell Y5.out 2).trans rfl), ((blk_cell Y5.out 3).trans rfl)⟩ (fun hHeld => ?_)
 refine pT 0 (some 13) (zb 44 1) (h := ?_)
 refine pT 2 (some 15) (zb 44 5) (h := ?_)
 refine tT 1 (some 14) (zb 44 7) hHeld (h := ?_)
 refine tT 3 (some 16) (zb 44 15) hHeld (h := ?_)
 refine pT 4 (some 17) (zb 44 31) (h := ?_)
 refine pT 5 (some 18) (zb 44 63) (h := ?_)
 refine pT 6 (some 19) (zb 44 127) (h := ?_)
 refine pT 8 (some 21) (zb 44 383) (h := ?_)
 refine tT 7 (some 20) (zb 44 511) hHeld (h := ?_)
 refine tT 9 (some 22) (zb 44 1023) hHeld (h := ?_)
 refine pT 10 (some 23) (zb 44 2047) (h := ?_)
 refine pT 11 (some 24) (zb 44 4095) (h := ?_)
 refine pT 12 (some 25) (zb 44 8191) (h := ?_)
 refine pT 13 (some 26) (zb 44 16383) (h := ?_)
 refine pT 15 (some 28) (zb 44 49151) (h := ?_)
 refine tT 14 (some 27) (zb 44 65535) hHeld (h := ?_)
 refine tT 16 (some 29) (zb 44 131071) hHeld (h := ?_)
 refine pT 17 (some 30) (zb 44 262143) (h := ?_)
 refine pT 18 (some 31) (zb 44 524287) (h := ?_)
 refine pT 19 (some 32) (zb 44 1048575) (h := ?_)
 refine pT 20 (some 33) (zb 44 2097151) (h := ?_)
 refine pT 22 (some 35) (zb 44 6291455) (h := ?_)
 refine tT 21 (some 34) (zb 44 8388607) hHeld (h := ?_)
 refine tT 23 (some 36) (zb 44 16777215) hHeld (h := ?_)
 refine pT 24 (some 37) (zb 44 33554431) (h := ?_)
 refine pT 25 (some 38) (zb 44 67108863) (h := ?_)
 refine pT 26 (some 39) (zb 44 134217727) (h := ?_)
 refine tT 27 (some 40) (zb 44 268435455) hHeld (h := ?_)
 refine tT 29 (some 42) (zb 44 805306367) hHeld (h := ?_)
 refine one_ (i := 28) (N := some 41) (zb 44 1073741823) rfl rfl (by kernel_rfl) (by decide) (fun K hK => ?_)
 refine goes_ Try.func11 (by kernel_rfl) rfl #[.agg #[.slice Af fs.length cf, .int .i64 mn, .slice As ss.length cs]] (by rfl) rfl rfl (by simp only [List.map_toArray, List.map_cons, List.map_nil]; rfl) ?_
 with_reducible refine (fun_Plain.calls k3 Af cf fs mn As cs ss pv _ (PSt.f HS.out.at_) HS.out.fc (PSt.s HS.out.at_) HS.out.sc H3.out).mono ?_
 rintro r wa ⟨rfl, hb⟩
 refine ⟨_, rfl, ?_⟩
 replace Y4 := Aside0.mk (blk_below (g := g4) (o := .cells #[.int .i64 v1, .int .i64 v2, .int .i64 v3, .int .i64 v4] 30 (0, 0)) (blkB Y4.out) hb)
 replace Y5 := Aside0.mk (blk_below (g := g5) (o := .cells #[.int .i64 v1, .int .i64 v2, .int .i64 v3, .int .i64 v4] 32 (0, 0)) (blkB Y5.out) hb)
 replace HS := Aside0.mk (PSt.step HS.out.at_ hb)
 clear hb
 refine hK.out _ _ ⟨(PSt.c0 HS.out.at_), (PSt.c1 HS.out.at_), (PSt.c2 HS.out.at_), (blk_cell (blkB Y4.out) 0).trans rfl, (blk_cell (blkB Y4.out) 1).trans rfl, (blk_cell (blkB Y4.out) 2).trans rfl, (blk_cell (blkB Y4.out) 3).trans rfl, (blk_cell (blkB Y5.out) 0).trans rfl, (blk_cell (blkB Y5.out) 1).trans rfl, (blk_cell (blkB Y5.out) 2).trans rfl, (blk_cell (blkB Y5.out) 3).trans rfl⟩ (fun hHeld => ?_)
 clear hK K
 refine nN (some 41) (h := ?_)
 refine one_ (i := 30) (N := some 43) (zb 44 2147483647) rfl rfl (by kernel_rfl) (by decide) (fun K hK => ?_)
 refine goes_ Try.func12 (by kernel_rfl) rfl #[.agg #[.slice Af fs.length cf, .int .i64 mn, .slice As ss.length cs]] (by rfl) rfl rfl (by simp only [List.map_toArray, List.map_cons, List.map_nil]; rfl) ?_
 with_reducible refine (balustraderef16_Plain.calls k4 Af cf fs mn As cs ss pv _ (PSt.f HS.out.at_) HS.out.fc (PSt.s HS.out.at_) HS.out.sc H4.out).mono ?_
 rintro r wb ⟨rfl, hb⟩
 refine ⟨_, rfl, ?_⟩
 replace Y4 := Aside0.mk (blk_below (g := g4) (o := .cells #[.int .i64 v1, .int .i64 v2, .int .i64 v3, .int .i64 v4] 30 (0, 0)) (blkB Y4.out) hb)
 replace Y5 := Aside0.mk (blk_below (g := g5) (o := .cells #[.int .i64 v1, .int .i64 v2, .int .i64 v3, .int .i64 v4] 32 (0, 0)) (blkB Y5.out) hb)
 replace HS := Aside0.mk (PSt.step HS.out.at_ hb)
 clear hb
 refine hK.out _ _ ⟨(PSt.c0 HS.out.at_), (PSt.c1 HS.out.at_), (PSt.c2 HS.out.at_), (blk_cell (blkB Y4.out) 0).trans rfl, (blk_cell (blkB Y4.out) 1).trans rfl, (blk_cell (blkB Y4.out) 2).trans rfl, (blk_cell (blkB Y4.out) 3).trans rfl, (blk_cell (blkB Y5.out) 0).trans rfl, (blk_cell (blkB Y5.out) 1).trans rfl, (blk_cell (blkB Y5.out) 2).trans rfl, (blk_cell (blkB Y5.out) 3).trans rfl⟩ (fun hHeld => ?_)
 clear hK K
 refine nN (some 43) (h := ?_)
 refine pT 31 (some 44) (zb 44 4294967295) (h := ?_)
 refine pT 32 (some 45) (zb 44 8589934591) (h := ?_)
 refine pT 33 (some 46) (zb 44 17179869183) (h := ?_)
 refine tT 34 (some 47) (zb 44 34359738367) hHeld (h := ?_)
 refine tT 36 (some 49) (zb 44 103079215103) hHeld (h := ?_)
 refine one_ (i := 35) (N := some 48) (zb 44 137438953471) rfl rfl (by kernel_rfl) (by decide) (fun K hK => ?_)
 refine goes_ Try.func13 (by kernel_rfl) rfl #[.agg #[.slice Af fs.length cf, .int .i64 mn, .slice As ss.length cs]] (by rfl) rfl rfl (by simp only [List.map_toArray, List.map_cons, List.map_nil]; rfl) ?_
 with_reducible refine (fun_Count.calls k5 Af cf fs mn As cs ss cv _ (PSt.f HS.out.at_) HS.out.fc (PSt.s HS.out.at_) HS.out.sc H5.out).mono ?_
 rintro r wc ⟨rfl, hb⟩
 refine ⟨_, rfl, ?_⟩
 replace Y4 := Aside0.mk (blk_below (g := g4) (o := .cells #[.int .i64 v1, .int .i64 v2, .int .i64 v3, .int .i64 v4] 30 (0, 0)) (blkB Y4.out) hb)
 replace Y5 := Aside0.mk (blk_below (g := g5) (o := .cells #[.int .i64 v1, .int .i64 v2, .int .i64 v3, .int .i64 v4] 32 (0, 0)) (blkB Y5.out) hb)
 replace HS := Aside0.mk (PSt.step HS.out.at_ hb)
 clear hb
 refine hK.out _ _ ⟨(PSt.c0 HS.out.at_), (PSt.c1 HS.out.at_), (PSt.c2 HS.out.at_), (blk_cell (blkB Y4.out) 0).trans rfl, (blk_cell (blkB Y4.out) 1).trans rfl, (blk_cell (blkB Y4.out) 2).trans rfl, (blk_cell (blkB Y4.out) 3).trans rfl, (blk_cell (blkB Y5.out) 0).trans rfl, (blk_cell (blkB Y5.out) 1).trans rfl, (blk_cell (blkB Y5.out) 2).trans rfl, (blk_cell (blkB Y5.out) 3).trans rfl⟩ (fun hHeld => ?_)
 clear hK K
 refine nN (some 48) (h := ?_)
 refine one_ (i := 37) (N := some 50) (zb 44 274877906943) rfl rfl (by kernel_rfl) (by decide) (fun K hK => ?_)
 refine goes_ Try.func14 (by kernel_rfl) rfl #[.agg #[.slice Af fs.length cf, .int .i64 mn, .slice As ss.length cs]] (by rfl) rfl rfl (by simp only [List.map_toArray, List.map_cons, List.map_nil]; rfl) ?_
 with_reducible refine (balustraderef16_Count.calls k6 Af cf fs mn As cs ss cv _ (PSt.f HS.out.at_) HS.out.fc (PSt.s HS.out.at_) HS.out.sc H6.out).mono ?_
 rintro r wd ⟨rfl, hb⟩
 refine ⟨_, rfl, ?_⟩
 replace Y4 := Aside0.mk (blk_below (g := g4) (o := .cells #[.int .i64 v1, .int .i64 v2, .int .i64 v3, .int .i64 v4] 30 (0, 0)) (blkB Y4.out) hb)
 replace Y5 := Aside0.mk (blk_below (g := g5) (o := .cells #[.int .i64 v1, .int .i64 v2, .int .i64 v3, .int .i64 v4] 32 (0, 0)) (blkB Y5.out) hb)
 replace HS := Aside0.mk (PSt.step HS.out.at_ hb)
 clear hb
 refine hK.out _ _ ⟨(PSt.c0 HS.out.at_), (PSt.c1 HS.out.at_), (PSt.c2 HS.out.at_), (blk_cell (blkB Y4.out) 0).trans rfl, (blk_cell (blkB Y4.out) 1).trans rfl, (blk_cell (blkB Y4.out) 2).trans rfl, (blk_cell (blkB Y4.out) 3).trans rfl, (blk_cell (blkB Y5.out) 0).trans rfl, (blk_cell (blkB Y5.out) 1).trans rfl, (blk_cell (blkB Y5.out) 2).trans rfl, (blk_cell (blkB Y5.out) 3).trans rfl⟩ (fun hHeld => ?_)
 clear hK K
 refine nN (some 50) (h := ?_)
 refine pT 38 (some 51) (zb 44 549755813887) (h := ?_)
 refine pT 39 (some 52) (zb 44 1099511627775) (h := ?_)
 refine pT 40 (some 53) (zb 44 2199023255551) (h := ?_)
 refine one_ (i := 41) (N := some 54) (zb 44 4398046511103) rfl rfl (by kernel_rfl) (by decide) (fun K hK => ?_)
 refine goes_ Try.func8 (by kernel_rfl) rfl #[] (by rfl) rfl rfl (by simp) ?_
 with_reducible refine (balustradelaw16_works.calls kW true _ HW.out).mono ?_
 rintro r we ⟨rfl, hb⟩
 refine ⟨_, rfl, ?_⟩
 replace Y4 := Aside0.mk (blk_below (g := g4) (o := .cells #[.int .i64 v1, .int .i64 v2, .int .i64 v3, .int .i64 v4] 30 (0, 0)) (blkB Y4.out) hb)
 replace Y5 := Aside0.mk (blk_below (g := g5) (o := .cells #[.int .i64 v1, .int .i64 v2, .int .i64 v3, .int .i64 v4] 32 (0, 0)) (blkB Y5.out) hb)
 replace HS := Aside0.mk (PSt.step HS.out.at_ hb)
 clear hb
 refine hK.out _ _ ⟨(PSt.c0 HS.out.at_), (PSt.c1 HS.out.at_), (PSt.c2 HS.out.at_), (blk_cell (blkB Y4.out) 0).trans rfl, (blk_cell (blkB Y4.out) 1).trans rfl, (blk_cell (blkB Y4.out) 2).trans rfl, (blk_cell (blkB Y4.out) 3).trans rfl, (blk_cell (blkB Y5.out) 0).trans rfl, (blk_cell (blkB Y5.out) 1).trans rfl, (blk_cell (blkB Y5.out) 2).trans rfl, (blk_cell (blkB Y5.out) 3).trans rfl⟩ (fun hHeld => ?_)
 clear hK K
 refine nN (some 54) (h := ?_)
 refine pT 42 (some 55) (zb 44 8796093022207) (h := ?_)
 refine pT 43 (some 2) (zb 44 17592186044415) (h := ?_)
 refine done_ (by kernel_rfl) ?_
 clear hHeld
 go_wp2
 go_ret
 exact ⟨rfl, HS.out.B⟩
end Go.Proofs.Ytgbpkbfghonllaa.P

/- A text of this claim, what is not used left out. -/
import Derived.Test.YtomopjomapkmjaaBaBBdE
import Derived.Test.YtomopjomapkmjaaBaBInstrB
import Derived.Test.YtomopjomapkmjaaBaB4
import Derived.Test.YtomopjomapkmjaaBaB5
import Derived.Outline
set_option linter.unusedVariables false
set_option linter.unusedSimpArgs false
namespace Go.Proofs.Ytomopjomapkmjaa.B
open Go Go.RowKit Go.Proofs.YtomopjomapkmjaaW.PrintWords Go.Proofs.YtomopjomapkmjaaW.PrintLast Go.Proofs.YtomopjomapkmjaaW.PrintMore Go.Proofs.Ytomopjomapkmjaa.Pure
section
variable {base g : Nat} {ok : Nat → Prop} {w w0 w1 w2 W : World} {V : BV} {nm : ByteArray} {pa rt at_ : Int} {vr vb vs : Value} {rg st : List Int} {bl : List (List S29)} {f : Nat → Nat}
def regsOf (x : S29) : List Int := usesV x.f0 x.f1 x.f2 x.f3 x.f4 x.f5 x.f6 x.f7 x.f8 ++ [defV x.f0 x.f1 x.f2 x.f3 x.f4 x.f5 x.f6 x.f7 x.f8]
def blksOf (x : S29) : List Int := targetsV x.f0 x.f1 x.f2 x.f3 x.f4 x.f5 x.f6 x.f7 x.f8
def thereB (V : BV) (x : S29) : Bool := (regsOf x).all (fun r => decide (r < (V.rg.length : Int))) && (blksOf x).all (fun t => !(decide (t = 0)) && decide (t < (V.bl.length : Int)))
theorem all_false {l : List Int} {p : Int → Bool} {j : Nat} (hj : j < l.length) (h : p (l.getD j 0) = false) : l.all p = false := by
  rw [List.all_eq_false]
  refine ⟨l.getD j 0, ?_, by rw [h]; simp⟩
  rw [List.getD_eq_getElem?_getD, List.getElem?_eq_getElem hj]
  exact List.getElem_mem hj
theorem all_true {l : List Int} {p : Int → Bool} (h : ∀ j, j < l.length → p (l.getD j 0) = true) : l.all p = true := by
  rw [List.all_eq_true]
  intro y hy
  obtain ⟨j, hj, rfl⟩ := List.getElem_of_mem hy
  have := h j hj
  rwa [List.getD_eq_getElem?_getD, List.getElem?_eq_getElem hj] at this
theorem ret_b {a b : Bool} (h : a = b) : Ending.returned (.bool a) = .returned (.bool b) := by rw [h]
theorem bd_meas (n j : Nat) (x : Int) (hx : x = ((j + 1 : Nat) : Int)) (h : j < n) : n - (intOf (.int .i64 x)).toNat < n - (intOf (.int .i64 (j : Int))).toNat := by
  subst hx
  simp [intOf]
  omega
theorem usesV_le (x : S29) (hl : x.f8.length ≤ 1000) : (usesV x.f0 x.f1 x.f2 x.f3 x.f4 x.f5 x.f6 x.f7 x.f8).length ≤ 2000 := by
  have h : ∀ op a b c m, (usV op a b c m x.f8).length ≤ 2000 := fun op a b c m => by unfold usV; (repeat' split) <;> simp <;> omega
  unfold usesV
  split
  · exact h _ _ _ _ _
  · simp
theorem targetsV_le (x : S29) : (targetsV x.f0 x.f1 x.f2 x.f3 x.f4 x.f5 x.f6 x.f7 x.f8).length ≤ 2 := by
  unfold targetsV
  (repeat' split) <;> simp
set_option maxHeartbeats 4000000 in
theorem there_at (h : BAt base ok w g V) (hL : V.rg.length < 1000000 ∧ V.bl.length < 1000000) (x : S29) (A8 : Option Addr) (c8 : Nat) (hl : x.f8.length ≤ 1000) (hC : (Kd.int .i64).C w A8 x.f8.length x.f8) (hc8 : x.f8.length ≤ c8) :
    Calls Try.prog 45 #[.pointer (some ⟨g, 0, none⟩), .agg #[.int .i64 x.f0, .int .i64 x.f1, .int .i64 x.f2, .int .i64 x.f3, .int .i64 x.f4, .int .i64 x.f5, .int .i64 x.f6, .int .i64 x.f7, .slice A8 x.f8.length c8]] w fun e w' => e = .returned (.bool (thereB V x)) ∧ Below w.heap.size w w' := by
  obtain ⟨h1, h2, h3, f, vr, vb, vs, hc, hr, hB, ht⟩ := h
  obtain ⟨Ar, cr, rfl⟩ := Kd.R_slice hr
  obtain ⟨Ab, cb, rfl⟩ := Kd.S_slice hB
  obtain ⟨kU, hU⟩ := (instrUses_ev x.f0 x.f1 x.f2 x.f3 x.f4 x.f5 x.f6 x.f7 x.f8 (by omega)).rounds
  obtain ⟨kD, hD⟩ := (instrDef_ev x.f0 x.f1 x.f2 x.f3 x.f4 x.f5 x.f6 x.f7 x.f8 (by omega)).rounds
  obtain ⟨kT, hT⟩ := (instrTargets_ev x.f0 x.f1 x.f2 x.f3 x.f4 x.f5 x.f6 x.f7 x.f8 (by omega)).rounds
  have hul := usesV_le x hl
  have htl := targetsV_le x
  obtain ⟨res, hres⟩ : ∃ r, thereB V x = r := ⟨_, rfl⟩
  rw [hres]
  unfold thereB regsOf blksOf at hres
  obtain ⟨uv, huv⟩ : ∃ r, usesV x.f0 x.f1 x.f2 x.f3 x.f4 x.f5 x.f6 x.f7 x.f8 = r := ⟨_, rfl⟩
  obtain ⟨dv, hdv⟩ : ∃ r, defV x.f0 x.f1 x.f2 x.f3 x.f4 x.f5 x.f6 x.f7 x.f8 = r := ⟨_, rfl⟩
  obtain ⟨tv, htv⟩ : ∃ r, targetsV x.f0 x.f1 x.f2 x.f3 x.f4 x.f5 x.f6 x.f7 x.f8 = r := ⟨_, rfl⟩
  obtain ⟨nr, hnr⟩ : ∃ r, V.rg.length = r := ⟨_, rfl⟩
  obtain ⟨nb, hnb⟩ : ∃ r, V.bl.length = r := ⟨_, rfl⟩
  rw [huv, hdv, htv, hnr, hnb] at hres
  rw [huv] at hU hul
  rw [hdv] at hD
  rw [htv] at hT htl
  rw [hnr] at hc hL
  rw [hnb] at hc hL
  obtain ⟨l1, hl1⟩ : ∃ r, uv ++ [dv] = r := ⟨_, rfl⟩
  have hl1l : l1.length = uv.length + 1 := by rw [← hl1]; simp
  rw [hl1] at hres
  have HU := Aside0.mk hU
  have HD := Aside0.mk hD
  have HT := Aside0.mk hT
  have HRES := Aside0.mk hres
  have EL := Aside0.mk hl1
  have LL := Aside0.mk (And.intro hl1l (And.intro hul (And.intro htl hL)))
  have HC := Aside0.mk (blk_alloc hc (.cells #[.int .i64 x.f0, .int .i64 x.f1, .int .i64 x.f2, .int .i64 x.f3, .int .i64 x.f4, .int .i64 x.f5, .int .i64 x.f6, .int .i64 x.f7, .slice A8 x.f8.length c8] 29))
  have BK := Aside0.mk (blk_new w (.cells #[.int .i64 x.f0, .int .i64 x.f1, .int .i64 x.f2, .int .i64 x.f3, .int .i64 x.f4, .int .i64 x.f5, .int .i64 x.f6, .int .i64 x.f7, .slice A8 x.f8.length c8] 29))
  have HR8 := Aside0.mk (Kd.C_alloc hC (.cells #[.int .i64 x.f0, .int .i64 x.f1, .int .i64 x.f2, .int .i64 x.f3, .int .i64 x.f4, .int .i64 x.f5, .int .i64 x.f6, .int .i64 x.f7, .slice A8 x.f8.length c8] 29))
  have HC8 := Aside0.mk hc8
  have HB := Aside0.mk (below_alloc (Below.refl w.heap.size w) (.cells #[.int .i64 x.f0, .int .i64 x.f1, .int .i64 x.f2, .int .i64 x.f3, .int .i64 x.f4, .int .i64 x.f5, .int .i64 x.f6, .int .i64 x.f7, .slice A8 x.f8.length c8] 29))
  have HA := Aside0.mk (Below.refl (w.alloc (.cells #[.int .i64 x.f0, .int .i64 x.f1, .int .i64 x.f2, .int .i64 x.f3, .int .i64 x.f4, .int .i64 x.f5, .int .i64 x.f6, .int .i64 x.f7, .slice A8 x.f8.length c8] 29)).heap.size (w.alloc (.cells #[.int .i64 x.f0, .int .i64 x.f1, .int .i64 x.f2, .int .i64 x.f3, .int .i64 x.f4, .int .i64 x.f5, .int .i64 x.f6, .int .i64 x.f7, .slice A8 x.f8.length c8] 29)))
  have HG := Aside0.mk (blk_lt hc)
  have hC0 := Aside0.mk hC
  clear h1 h2 h3 hc hr hB ht hU hD hT hres hl1 huv hdv htv hnr hnb hL hC hc8 hl hul htl hl1l
  go_enter Try.func45, Try.ntmps45
  go_upto_region 1 with (fail)
  have k0 := blk_cell BK.out 0
  have k1 := blk_cell BK.out 1
  have k2 := blk_cell BK.out 2
  have k3 := blk_cell BK.out 3
  have k4 := blk_cell BK.out 4
  have k5 := blk_cell BK.out 5
  have k6 := blk_cell BK.out 6
  have k7 := blk_cell BK.out 7
  have k8 := blk_cell BK.out 8
  simp only [List.getElem?_toArray, List.getElem?_cons_zero, List.getElem?_cons_succ] at k0 k1 k2 k3 k4 k5 k6 k7 k8
  refine start_ (n := 8) (S := fun w' => w'.cell? ⟨w.heap.size, 0, none⟩ = some (.int .i64 x.f0) ∧ w'.cell? ⟨w.heap.size, 1, none⟩ = some (.int .i64 x.f1) ∧ w'.cell? ⟨w.heap.size, 2, none⟩ = some (.int .i64 x.f2) ∧ w'.cell? ⟨w.heap.size, 3, none⟩ = some (.int .i64 x.f3) ∧ w'.cell? ⟨w.heap.size, 4, none⟩ = some (.int .i64 x.f4) ∧ w'.cell? ⟨w.heap.size, 5, none⟩ = some (.int .i64 x.f5) ∧ w'.cell? ⟨w.heap.size, 6, none⟩ = some (.int .i64 x.f6) ∧ w'.cell? ⟨w.heap.size, 7, none⟩ = some (.int .i64 x.f7) ∧ w'.cell? ⟨w.heap.size, 8, none⟩ = some (.slice A8 x.f8.length c8)) (ds := []) #[false, false, false, false, false, false, false, false] (by kernel_rfl) rfl rfl ⟨k0, k1, k2, k3, k4, k5, k6, k7, k8⟩ (fun hHeld => ?_)
  refine pure_ (i := 7) (N := some 16) (v := ?_) (a' := ?_) #[false, false, false, false, false, false, false, true] rfl rfl (by kernel_rfl) (fun _ _ _ h => h) (Or.inl ⟨by rfl, ?_⟩) ?_ ?_
  rotate_left
  · intro w'
    go_simp
    with_reducible rfl
  rotate_left
  · simp only [Act.put, List.setIfInBounds_toArray, List.set_cons_zero, List.set_cons_succ, i64_w, i32_w]
    rfl
  refine take_ (i := 0) (N := some 9) (v := ?_) (a' := ?_) #[true, false, false, false, false, false, false, true] rfl rfl (by kernel_rfl) (fun _ _ _ h => h) (Or.inl ⟨by rfl, ?_⟩) hHeld ?_ ?_
  rotate_left
  · rintro w' ⟨s0, s1, s2, s3, s4, s5, s6, s7, s8⟩
    go_simp
    with_reducible rfl
  rotate_left
  · simp only [Act.put, List.setIfInBounds_toArray, List.set_cons_zero, List.set_cons_succ, i64_w, i32_w]
    rfl
  refine take_ (i := 2) (N := some 11) (v := ?_) (a' := ?_) #[true, false, true, false, false, false, false, true] rfl rfl (by kernel_rfl) (fun _ _ _ h => h) (Or.inl ⟨by rfl, ?_⟩) hHeld ?_ ?_
  rotate_left
  · rintro w' ⟨s0, s1, s2, s3, s4, s5, s6, s7, s8⟩
    go_simp
    with_reducible rfl
  rotate_left
  · simp only [Act.put, List.setIfInBounds_toArray, List.set_cons_zero, List.set_cons_succ, i64_w, i32_w]
    rfl
  refine one_ (i := 1) (N := some 10) #[true, true, true, false, false, false, false, true] rfl rfl (by kernel_rfl) (by decide) (fun K hK => ?_)
  refine goes_ Try.func62 (by kernel_rfl) rfl #[.agg #[.int .i64 x.f0, .int .i64 x.f1, .int .i64 x.f2, .int .i64 x.f3, .int .i64 x.f4, .int .i64 x.f5, .int .i64 x.f6, .int .i64 x.f7, .slice A8 x.f8.length c8]] (by rfl) rfl rfl (by simp only [List.map_toArray, List.map_cons, List.map_nil]; rfl) ?_
  with_reducible refine (instr_Uses.calls kU x.f0 x.f1 x.f2 x.f3 x.f4 x.f5 x.f6 x.f7 A8 c8 x.f8 uv _ (by repeat (first | (with_reducible exact HR8.out) | (with_reducible refine Kd.C_alloc ?_ _) | (with_reducible refine Kd.C_drew ?_))) HC8.out HU.out).mono ?_
  rintro e w' ⟨v_, rfl, hR_, hb⟩
  refine ⟨_, rfl, ?_⟩
  obtain ⟨Au, cu, rfl⟩ := Kd.R_slice hR_
  have RU : Aside0 ((Kd.int .i64).R 3 w' (w.alloc (.cells #[.int .i64 x.f0, .int .i64 x.f1, .int .i64 x.f2, .int .i64 x.f3, .int .i64 x.f4, .int .i64 x.f5, .int .i64 x.f6, .int .i64 x.f7, .slice A8 x.f8.length c8] 29)).heap.size (fun _ => True) (.slice Au uv.length cu) uv) := ⟨Kd.R_lower hR_ (below_size (by repeat (first | (with_reducible exact HA.out) | (with_reducible refine below_alloc ?_ _) | (with_reducible refine below_drew1 ?_))))⟩
  replace BK := Aside0.mk (blk_below (show (_ : World).heap[w.heap.size]? = some (.cells #[.int .i64 x.f0, .int .i64 x.f1, .int .i64 x.f2, .int .i64 x.f3, .int .i64 x.f4, .int .i64 x.f5, .int .i64 x.f6, .int .i64 x.f7, .slice A8 x.f8.length c8] 29 (0, 0)) from (by repeat (first | (with_reducible exact BK.out) | (with_reducible refine blk_alloc ?_ _) | (with_reducible refine blk_drew ?_)))) hb)
  replace HC := Aside0.mk (blk_below (show (_ : World).heap[g]? = some (.cells #[.string V.nm, .int .i64 V.pa, .int .i64 V.rt, .slice Ar nr cr, .slice Ab nb cb, vs, .int .i64 V.at_] 64 (0, 0)) from (by repeat (first | (with_reducible exact HC.out) | (with_reducible refine blk_alloc ?_ _) | (with_reducible refine blk_drew ?_)))) hb)
  replace HR8 := Aside0.mk (Kd.C_below (show (Kd.int .i64).C _ A8 x.f8.length x.f8 from (by repeat (first | (with_reducible exact HR8.out) | (with_reducible refine Kd.C_alloc ?_ _) | (with_reducible refine Kd.C_drew ?_)))) hb)
  replace HB := Aside0.mk (below_step (show Below w.heap.size w _ from (by repeat (first | (with_reducible exact HB.out) | (with_reducible refine below_alloc ?_ _) | (with_reducible refine below_drew1 ?_)))) hb)
  replace HA := Aside0.mk (below_step (show Below (w.alloc (.cells #[.int .i64 x.f0, .int .i64 x.f1, .int .i64 x.f2, .int .i64 x.f3, .int .i64 x.f4, .int .i64 x.f5, .int .i64 x.f6, .int .i64 x.f7, .slice A8 x.f8.length c8] 29)).heap.size (w.alloc (.cells #[.int .i64 x.f0, .int .i64 x.f1, .int .i64 x.f2, .int .i64 x.f3, .int .i64 x.f4, .int .i64 x.f5, .int .i64 x.f6, .int .i64 x.f7, .slice A8 x.f8.length c8] 29)) _ from (by repeat (first | (with_reducible exact HA.out) | (with_reducible refine below_alloc ?_ _) | (with_reducible refine below_drew1 ?_)))) hb)
  clear hb hR_
  refine hK.out _ _ ⟨(blk_cell BK.out 0).trans rfl, (blk_cell BK.out 1).trans rfl, (blk_cell BK.out 2).trans rfl, (blk_cell BK.out 3).trans rfl, (blk_cell BK.out 4).trans rfl, (blk_cell BK.out 5).trans rfl, (blk_cell BK.out 6).trans rfl, (blk_cell BK.out 7).trans rfl, (blk_cell BK.out 8).trans rfl⟩ (fun hHeld => ?_)
  clear hK K
  refine norm_ (a' := ?_) ?_ ?_
  rotate_left
  · show Act.put _ (some 10) _ = _
    simp only [Act.put, List.setIfInBounds_toArray, List.set_cons_zero, List.set_cons_succ, i64_w, i32_w]
    rfl
  refine one_ (i := 3) (N := some 12) #[true, true, true, true, false, false, false, true] rfl rfl (by kernel_rfl) (by decide) (fun K hK => ?_)
  refine goes_ Try.func63 (by kernel_rfl) rfl #[.agg #[.int .i64 x.f0, .int .i64 x.f1, .int .i64 x.f2, .int .i64 x.f3, .int .i64 x.f4, .int .i64 x.f5, .int .i64 x.f6, .int .i64 x.f7, .slice A8 x.f8.length c8]] (by rfl) rfl rfl (by simp only [List.map_toArray, List.map_cons, List.map_nil]; rfl) ?_
  with_reducible refine (instr_Def.calls kD x.f0 x.f1 x.f2 x.f3 x.f4 x.f5 x.f6 x.f7 A8 c8 x.f8 dv _ (by repeat (first | (with_reducible exact HR8.out) | (with_reducible refine Kd.C_alloc ?_ _) | (with_reducible refine Kd.C_drew ?_))) HC8.out HD.out).mono ?_
  rintro e w' ⟨rfl, hb⟩
  refine ⟨_, rfl, ?_⟩
  replace BK := Aside0.mk (blk_below (show (_ : World).heap[w.heap.size]? = some (.cells #[.int .i64 x.f0, .int .i64 x.f1, .int .i64 x.f2, .int .i64 x.f3, .int .i64 x.f4, .int .i64 x.f5, .int .i64 x.f6, .int .i64 x.f7, .slice A8 x.f8.length c8] 29 (0, 0)) from (by repeat (first | (with_reducible exact BK.out) | (with_reducible refine blk_alloc ?_ _) | (with_reducible refine blk_drew ?_)))) hb)
  replace HC := Aside0.mk (blk_below (show (_ : World).heap[g]? = some (.cells #[.string V.nm, .int .i64 V.pa, .int .i64 V.rt, .slice Ar nr cr, .slice Ab nb cb, vs, .int .i64 V.at_] 64 (0, 0)) from (by repeat (first | (with_reducible exact HC.out) | (with_reducible refine blk_alloc ?_ _) | (with_reducible refine blk_drew ?_)))) hb)
  replace HR8 := Aside0.mk (Kd.C_below (show (Kd.int .i64).C _ A8 x.f8.length x.f8 from (by repeat (first | (with_reducible exact HR8.out) | (with_reducible refine Kd.C_alloc ?_ _) | (with_reducible refine Kd.C_drew ?_)))) hb)
  replace RU := Aside0.mk (Kd.R_below (show (Kd.int .i64).R 3 _ (w.alloc (.cells #[.int .i64 x.f0, .int .i64 x.f1, .int .i64 x.f2, .int .i64 x.f3, .int .i64 x.f4, .int .i64 x.f5, .int .i64 x.f6, .int .i64 x.f7, .slice A8 x.f8.length c8] 29)).heap.size (fun _ => True) (.slice Au uv.length cu) uv from (by repeat (first | (with_reducible exact RU.out) | (with_reducible refine Kd.R_alloc ?_ _) | (with_reducible refine Kd.R_drew ?_)))) hb)
  replace HB := Aside0.mk (below_step (show Below w.heap.size w _ from (by repeat (first | (with_reducible exact HB.out) | (with_reducible refine below_alloc ?_ _) | (with_reducible refine below_drew1 ?_)))) hb)
  replace HA := Aside0.mk (below_step (show Below (w.alloc (.cells #[.int .i64 x.f0, .int .i64 x.f1, .int .i64 x.f2, .int .i64 x.f3, .int .i64 x.f4, .int .i64 x.f5, .int .i64 x.f6, .int .i64 x.f7, .slice A8 x.f8.length c8] 29)).heap.size (w.alloc (.cells #[.int .i64 x.f0, .int .i64 x.f1, .int .i64 x.f2, .int .i64 x.f3, .int .i64 x.f4, .int .i64 x.f5, .int .i64 x.f6, .int .i64 x.f7, .slice A8 x.f8.length c8] 29)) _ from (by repeat (first | (with_reducible exact HA.out) | (with_reducible refine below_alloc ?_ _) | (with_reducible refine below_drew1 ?_)))) hb)
  clear hb
  refine hK.out _ _ ⟨(blk_cell BK.out 0).trans rfl, (blk_cell BK.out 1).trans rfl, (blk_cell BK.out 2).trans rfl, (blk_cell BK.out 3).trans rfl, (blk_cell BK.out 4).trans rfl, (blk_cell BK.out 5).trans rfl, (blk_cell BK.out 6).trans rfl, (blk_cell BK.out 7).trans rfl, (blk_cell BK.out 8).trans rfl⟩ (fun hHeld => ?_)
  clear hK K
  refine norm_ (a' := ?_) ?_ ?_
  rotate_left
  · show Act.put _ (some 12) _ = _
    simp only [Act.put, List.setIfInBounds_toArray, List.set_cons_zero, List.set_cons_succ, i64_w, i32_w]
    rfl
  refine one_ (i := 4) (N := some 13) #[true, true, true, true, true, false, false, true] rfl rfl (by kernel_rfl) (by decide) (fun K hK => ?_)
  refine value_ (w1 := ?_) (v := ?_) (by rfl) rfl ?_ ?_
  rotate_left 2
  · go_simp
    constructor
    · rfl
    · rfl
  refine hK.out _ _ ⟨(blk_cell (blk_alloc BK.out _) 0).trans rfl, (blk_cell (blk_alloc BK.out _) 1).trans rfl, (blk_cell (blk_alloc BK.out _) 2).trans rfl, (blk_cell (blk_alloc BK.out _) 3).trans rfl, (blk_cell (blk_alloc BK.out _) 4).trans rfl, (blk_cell (blk_alloc BK.out _) 5).trans rfl, (blk_cell (blk_alloc BK.out _) 6).trans rfl, (blk_cell (blk_alloc BK.out _) 7).trans rfl, (blk_cell (blk_alloc BK.out _) 8).trans rfl⟩ (fun hHeld => ?_)
  clear hK K
  refine norm_ (a' := ?_) ?_ ?_
  rotate_left
  · show Act.put _ (some 13) _ = _
    simp only [Act.put, List.setIfInBounds_toArray, List.set_cons_zero, List.set_cons_succ, i64_w, i32_w]
    rfl
  refine one_ (i := 5) (N := some 14) #[true, true, true, true, true, true, false, true] rfl rfl (by kernel_rfl) (by decide) (fun K hK => ?_)
  refine R_append_at (Kd.int .i64) (w0 := (w.alloc (.cells #[.int .i64 x.f0, .int .i64 x.f1, .int .i64 x.f2, .int .i64 x.f3, .int .i64 x.f4, .int .i64 x.f5, .int .i64 x.f6, .int .i64 x.f7, .slice A8 x.f8.length c8] 29))) (w.alloc (.cells #[.int .i64 x.f0, .int .i64 x.f1, .int .i64 x.f2, .int .i64 x.f3, .int .i64 x.f4, .int .i64 x.f5, .int .i64 x.f6, .int .i64 x.f7, .slice A8 x.f8.length c8] 29)).heap.size (by rfl) (.tmp 10) (.tmp 13) 22 3 (.int .i64 0) 8 (by rfl) Try.underlying22 info3 rfl (by decide) (by omega) (.slice Au uv.length cu) uv dv [.int .i64 dv] (fun _ => True) (fun _ => False) (by rfl) _ (by rfl) (by repeat (first | (with_reducible exact blk_new _ _) | (with_reducible refine blk_drew ?_))) rfl (fun _ hk => hk.elim) (fun _ _ => trivial) (by repeat (first | (with_reducible exact RU.out) | (with_reducible refine Kd.R_alloc ?_ _) | (with_reducible refine Kd.R_drew ?_))) (by repeat (first | (with_reducible exact HA.out) | (with_reducible refine below_alloc ?_ _) | (with_reducible refine below_drew1 ?_))) (below_size (by repeat (first | (with_reducible exact HA.out) | (with_reducible refine below_alloc ?_ _) | (with_reducible refine below_drew1 ?_)))) (by have := LL.out; omega) ?_
  intro v1 w5 ho hb hg hat
  rw [EL.out] at ho
  obtain ⟨A1, c1, rfl⟩ := Kd.R_slice ho
  have HO := Aside0.mk ho
  have BK1 : Aside0 (w5.heap[w.heap.size]? = some (.cells #[.int .i64 x.f0, .int .i64 x.f1, .int .i64 x.f2, .int .i64 x.f3, .int .i64 x.f4, .int .i64 x.f5, .int .i64 x.f6, .int .i64 x.f7, .slice A8 x.f8.length c8] 29 (0, 0))) := ⟨blk_grown (by repeat (first | (with_reducible exact BK.out) | (with_reducible refine blk_alloc ?_ _) | (with_reducible refine blk_drew ?_))) hg (fun e => by have h_ := Kd.R_base RU.out _ e.symm; have := HG.out; simp only [World.size_alloc] at h_; omega)⟩
  have HC1 : Aside0 (w5.heap[g]? = some (.cells #[.string V.nm, .int .i64 V.pa, .int .i64 V.rt, .slice Ar nr cr, .slice Ab nb cb, vs, .int .i64 V.at_] 64 (0, 0))) := ⟨blk_grown (by repeat (first | (with_reducible exact HC.out) | (with_reducible refine blk_alloc ?_ _) | (with_reducible refine blk_drew ?_))) hg (fun e => by have h_ := Kd.R_base RU.out _ e.symm; have := HG.out; simp only [World.size_alloc] at h_; omega)⟩
  clear BK HC
  have BK := BK1
  have HC := HC1
  replace HR8 := Aside0.mk (Kd.C_below (Kd.C_alloc hC0.out _) hb)
  clear BK1 HC1
  replace HB := Aside0.mk (below_step (below_alloc (Below.refl w.heap.size w) (.cells #[.int .i64 x.f0, .int .i64 x.f1, .int .i64 x.f2, .int .i64 x.f3, .int .i64 x.f4, .int .i64 x.f5, .int .i64 x.f6, .int .i64 x.f7, .slice A8 x.f8.length c8] 29)) hb)
  clear HA RU
  clear ho hb hg hat
  refine hK.out _ _ ⟨(blk_cell BK.out 0).trans rfl, (blk_cell BK.out 1).trans rfl, (blk_cell BK.out 2).trans rfl, (blk_cell BK.out 3).trans rfl, (blk_cell BK.out 4).trans rfl, (blk_cell BK.out 5).trans rfl, (blk_cell BK.out 6).trans rfl, (blk_cell BK.out 7).trans rfl, (blk_cell BK.out 8).trans rfl⟩ (fun hHeld => ?_)
  clear hK K
  refine norm_ (a' := ?_) ?_ ?_
  rotate_left
  · show Act.put _ (some 14) _ = _
    simp only [Act.put, List.setIfInBounds_toArray, List.set_cons_zero, List.set_cons_succ, i64_w, i32_w]
    rfl
  refine pure_ (i := 6) (N := some 15) (v := ?_) (a' := ?_) #[true, true, true, true, true, true, true, true] rfl rfl (by kernel_rfl) (fun _ _ _ h => h) (Or.inl ⟨by rfl, ?_⟩) ?_ ?_
  rotate_left
  · intro w'
    go_simp
    with_reducible rfl
  rotate_left
  · simp only [Act.put, List.setIfInBounds_toArray, List.set_cons_zero, List.set_cons_succ, i64_w, i32_w]
    rfl
  refine done_ (by kernel_rfl) ?_
  clear hHeld k0 k1 k2 k3 k4 k5 k6 k7 k8
  go_wp2
  obtain ⟨W1, hW1⟩ : ∃ q, q = w5 := ⟨_, rfl⟩
  subst hW1
  go_loop [16] (fun v16 => ∃ j : Nat, v16 = .int .i64 (j : Int) ∧ Aside0 (j ≤ l1.length ∧ ∀ i, i < j → decide (l1.getD i 0 < (nr : Int)) = true)) (fun v16 => l1.length - (intOf v16).toNat)
  case atStart => exact ⟨0, rfl, ⟨Nat.zero_le _, fun i hi => absurd hi (Nat.not_lt_zero i)⟩⟩
  case round =>
    obtain ⟨j, rfl, HJ⟩ := hrel
    have c3 := blk_cell HC.out 3
    have c4 := blk_cell HC.out 4
    simp only [List.getElem?_toArray, List.getElem?_cons_zero, List.getElem?_cons_succ] at c3 c4
    by_cases hlt : j < l1.length
    · have HLT := Aside0.mk hlt
      have t1 : decide ((j : Int) < (l1.length : Int)) = true := decide_eq_true (by omega)
      have t2 : decide (j < l1.length) = true := decide_eq_true hlt
      have p1 : (0 : Int) ≤ (j : Int) := by omega
      have p2 : (j : Int) < (l1.length : Int) := by omega
      have hwr : wrap64 ((j : Int) + 1) = ((j + 1 : Nat) : Int) := by have := LL.out; unfold wrap64; omega
      have HWR := Aside0.mk hwr
      clear hwr
      obtain ⟨q, eq_, cq⟩ := Kd.at_int (Kd.R_reads' HO.out).2.2 (j : Int) p1 p2
      subst eq_
      have e0 : rd l1 (j : Int) = l1.getD j 0 := rfl
      rw [e0] at cq
      (try simp only [Int.toNat_natCast] at cq)
      clear e0
      obtain ⟨y, hy⟩ : ∃ y, l1.getD j 0 = y := ⟨_, rfl⟩
      rw [hy] at cq
      by_cases hge : (nr : Int) ≤ y
      · have t3 : decide ((nr : Int) ≤ y) = true := decide_eq_true hge
        have hf : res = false := by rw [← HRES.out, all_false hlt (p := fun r => decide (r < (nr : Int))) (by rw [hy]; exact decide_eq_false (by omega))]; rfl
        have HF := Aside0.mk hf
        clear hf hy
        go_wp2
        go_ret
        exact ⟨ret_b HF.out.symm, HB.out⟩
      · have t3 : decide ((nr : Int) ≤ y) = false := decide_eq_false hge
        have HY := Aside0.mk hy
        clear hy
        go_wp2
        go_round
        case rel => exact ⟨j + 1, by first | (rw [HWR.out]; done) | (rw [HWR.out]) | go_num, ⟨by have := HLT.out; omega, fun i hi => by rcases Nat.lt_succ_iff_lt_or_eq.1 hi with h | rfl; exact HJ.out.2 i h; rw [HY.out]; exact decide_eq_true (by omega)⟩⟩
        case measure => exact bd_meas _ _ _ HWR.out HLT.out
    have t1 : decide ((j : Int) < (l1.length : Int)) = false := decide_eq_false (by omega)
    have t2 : decide (j < l1.length) = false := decide_eq_false hlt
    have HA1 := Aside0.mk (all_true (p := fun r => decide (r < (nr : Int))) (fun i hi => HJ.out.2 i (by omega)))
    have k0 := blk_cell BK.out 0
    have k1 := blk_cell BK.out 1
    have k2 := blk_cell BK.out 2
    have k3 := blk_cell BK.out 3
    have k4 := blk_cell BK.out 4
    have k5 := blk_cell BK.out 5
    have k6 := blk_cell BK.out 6
    have k7 := blk_cell BK.out 7
    have k8 := blk_cell BK.out 8
    simp only [List.getElem?_toArray, List.getElem?_cons_zero, List.getElem?_cons_succ] at k0 k1 k2 k3 k4 k5 k6 k7 k8
    clear c3 c4
    go_wp2_with (first | (go_at_call 64; ((with_reducible refine (instr_Targets.calls kT x.f0 x.f1 x.f2 x.f3 x.f4 x.f5 x.f6 x.f7 A8 c8 x.f8 tv _ HR8.out HC8.out HT.out).mono ?_); rintro e w7 ⟨v_, rfl, hR_, hb⟩; obtain ⟨At, ct, rfl⟩ := Kd.R_slice hR_; have RT := Aside0.mk hR_; have HC2 := Aside0.mk (blk_below HC.out hb); have HB2 := Aside0.mk (below_step HB.out hb); clear hb hR_)))
    go_loop [33] (fun v33 => ∃ i : Nat, v33 = .int .i64 (i : Int) ∧ Aside0 (i ≤ tv.length ∧ ∀ k, k < i → (!(decide (tv.getD k 0 = 0)) && decide (tv.getD k 0 < (nb : Int))) = true)) (fun v33 => tv.length - (intOf v33).toNat)
    case atStart => exact ⟨0, rfl, ⟨Nat.zero_le _, fun i hi => absurd hi (Nat.not_lt_zero i)⟩⟩
    case round =>
      obtain ⟨i, rfl, HI⟩ := hrel
      have c4 := blk_cell HC2.out 4
      simp only [List.getElem?_toArray, List.getElem?_cons_zero, List.getElem?_cons_succ] at c4
      by_cases hit : i < tv.length
      · have HLT := Aside0.mk hit
        have s1 : decide ((i : Int) < (tv.length : Int)) = true := decide_eq_true (by omega)
        have s2 : decide (i < tv.length) = true := decide_eq_true hit
        have p1 : (0 : Int) ≤ (i : Int) := by omega
        have p2 : (i : Int) < (tv.length : Int) := by omega
        have hwr : wrap64 ((i : Int) + 1) = ((i + 1 : Nat) : Int) := by have := LL.out; unfold wrap64; omega
        have HWR := Aside0.mk hwr
        clear hwr
        obtain ⟨q, eq_, cq⟩ := Kd.at_int (Kd.R_reads' RT.out).2.2 (i : Int) p1 p2
        subst eq_
        have e0 : rd tv (i : Int) = tv.getD i 0 := rfl
        rw [e0] at cq
        (try simp only [Int.toNat_natCast] at cq)
        clear e0
        obtain ⟨y, hy⟩ : ∃ y, tv.getD i 0 = y := ⟨_, rfl⟩
        rw [hy] at cq
        by_cases h0 : y = 0
        · have t3 : decide (y = 0) = true := decide_eq_true h0
          have t4 : (y == 0) = true := beq_iff_eq.mpr h0
          have hf : res = false := by rw [← HRES.out, all_false hit (p := fun t => !(decide (t = 0)) && decide (t < (nb : Int))) (by rw [hy]; rw [t3]; rfl), Bool.and_false]
          have HF := Aside0.mk hf
          clear hf hy h0
          go_wp2
          go_ret
          exact ⟨ret_b HF.out.symm, HB2.out⟩
        have t3 : decide (y = 0) = false := decide_eq_false h0
        have t4 : (y == 0) = false := beq_eq_false_iff_ne.mpr h0
        by_cases hge : (nb : Int) ≤ y
        · have t5 : decide ((nb : Int) ≤ y) = true := decide_eq_true hge
          have hf : res = false := by rw [← HRES.out, all_false hit (p := fun t => !(decide (t = 0)) && decide (t < (nb : Int))) (by rw [hy]; rw [t3]; exact decide_eq_false (by omega)), Bool.and_false]
          have HF := Aside0.mk hf
          clear hf hy h0
          go_wp2
          go_ret
          exact ⟨ret_b HF.out.symm, HB2.out⟩
        have t5 : decide ((nb : Int) ≤ y) = false := decide_eq_false hge
        have hyy : (!(decide (tv.getD i 0 = 0)) && decide (tv.getD i 0 < (nb : Int))) = true := by rw [hy, t3]; exact decide_eq_true (by omega)
        have HY := Aside0.mk hyy
        clear hyy hy h0
        go_wp2
        go_round
        case rel => exact ⟨i + 1, by first | (rw [HWR.out]; done) | (rw [HWR.out]) | go_num, ⟨by have := HLT.out; omega, fun k hk => by rcases Nat.lt_succ_iff_lt_or_eq.1 hk with h | rfl; exact HI.out.2 k h; exact HY.out⟩⟩
        case measure => exact bd_meas _ _ _ HWR.out HLT.out
      have s1 : decide ((i : Int) < (tv.length : Int)) = false := decide_eq_false (by omega)
      have s2 : decide (i < tv.length) = false := decide_eq_false hit
      have hf : res = true := by rw [← HRES.out, HA1.out, all_true (p := fun t => !(decide (t = 0)) && decide (t < (nb : Int))) (fun k hk => HI.out.2 k (by omega))]; rfl
      have HF := Aside0.mk hf
      clear hf
      go_wp2
      go_ret
      exact ⟨ret_b HF.out.symm, HB2.out⟩
end
end Go.Proofs.Ytomopjomapkmjaa.B

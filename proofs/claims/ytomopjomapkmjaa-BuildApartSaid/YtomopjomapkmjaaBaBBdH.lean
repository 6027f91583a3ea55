/- A text of this claim, what is not used left out. -/
import Derived.Test.YtomopjomapkmjaaBaBBdG
import Derived.Test.YtomopjomapkmjaaBaBInstrB
import Derived.Test.YtomopjomapkmjaaBaB1
import Derived.Test.YtomopjomapkmjaaBaB3
import Derived.Test.YtomopjomapkmjaaBaB5
import Derived.Test.YtomopjomapkmjaaBaB8
import Derived.Outline
set_option linter.unusedVariables false
set_option linter.unusedSimpArgs false
namespace Go.Proofs.Ytomopjomapkmjaa.B
open Go Go.RowKit Go.Proofs.YtomopjomapkmjaaW.PrintWords Go.Proofs.YtomopjomapkmjaaW.PrintLast Go.Proofs.YtomopjomapkmjaaW.PrintMore Go.Proofs.Ytomopjomapkmjaa.Pure
section
variable {base g : Nat} {ok : Nat → Prop} {w w0 w1 w2 W : World} {V : BV} {nm : ByteArray} {pa rt at_ : Int} {vr vb vs : Value} {rg st : List Int} {bl : List (List S29)} {f : Nat → Nat}
def putB (V : BV) (x : S29) : Bool := openB V && (rr_rightV x.f0 x.f1 x.f2 x.f3 x.f4 x.f5 x.f6 x.f7 x.f8 && (!decide (x.f0 = 44) && (!decide (x.f0 = 45) && thereB V x)))
theorem Open_b (h : BAt base ok w g V) (hf : Fit V) {o : Bool} (ho : openB V = o) : Calls Try.prog 26 #[.pointer (some ⟨g, 0, none⟩)] w fun e w' => e = .returned (.bool o) ∧ Below w.heap.size w w' :=
  (Open_at h hf).mono fun e w' ⟨he, hd⟩ => ⟨ho ▸ he, hd.below⟩
theorem there_b (h : BAt base ok w g V) (hL : V.rg.length < 1000000 ∧ V.bl.length < 1000000) (x : S29) (A8 : Option Addr) (c8 : Nat) (hl : x.f8.length ≤ 1000) (hC : (Kd.int .i64).C w A8 x.f8.length x.f8) (hc8 : x.f8.length ≤ c8) {o : Bool} (ho : thereB V x = o) :
    Calls Try.prog 45 #[.pointer (some ⟨g, 0, none⟩), .agg #[.int .i64 x.f0, .int .i64 x.f1, .int .i64 x.f2, .int .i64 x.f3, .int .i64 x.f4, .int .i64 x.f5, .int .i64 x.f6, .int .i64 x.f7, .slice A8 x.f8.length c8]] w fun e w' => e = .returned (.bool o) ∧ Below w.heap.size w w' :=
  (there_at h hL x A8 c8 hl hC hc8).mono fun e w' ⟨he, hd⟩ => ⟨ho ▸ he, hd⟩
theorem Turned.drewN (h : Turned base ok w w1 g V) (n : Nat) : Turned base ok w (w1.drewN n) g V := by
  obtain ⟨h1, ok', h2, h3⟩ := h
  exact ⟨h1.drewN n, ok', h2, h3.drewN n⟩
theorem info29 : (Try.prog.info? 29).map (fun i => (i.zero, i.size, i.bytes)) = some (some (.agg #[.int .i64 0, .int .i64 0, .int .i64 0, .int .i64 0, .int .i64 0, .int .i64 0, .int .i64 0, .int .i64 0, .slice none 0 0]), 9, 88) := by kernel_rfl
def putV (V : BV) (x : S29) (e : Bool) : BV := ⟨V.nm, V.pa, V.rt, V.rg, V.bl.set V.at_.toNat (V.bl.getD V.at_.toNat [] ++ [x]), if e then V.st.set V.at_.toNat 2 else V.st, V.at_⟩
set_option maxHeartbeats 16000000 in
set_option maxRecDepth 100000 in
theorem Put_at (h : BAt base ok w g V) (hf : Fit V) (hL : V.rg.length < 1000000 ∧ V.bl.length < 1000000) (x : S29) (A8 : Option Addr) (c8 : Nat) (hl : x.f8.length ≤ 1000) (hC : (Kd.int .i64).C w A8 x.f8.length x.f8) (hc8 : x.f8.length ≤ c8) (hb0 : Below base w0 w) (hbs : base ≤ w.heap.size) (hrow : (V.bl.getD V.at_.toNat []).length < 1000000) (hp : putB V x = true) (e_ : Bool) (he : instr_Ends.f x.f0 = some e_) :
    Calls Try.prog 12 #[.pointer (some ⟨g, 0, none⟩), .agg #[.int .i64 x.f0, .int .i64 x.f1, .int .i64 x.f2, .int .i64 x.f3, .int .i64 x.f4, .int .i64 x.f5, .int .i64 x.f6, .int .i64 x.f7, .slice A8 x.f8.length c8]] w fun e w' => e = .returned (.bool true) ∧ Below base w0 w' ∧ Turned base ok w w' g (putV V x e_) := by
  obtain ⟨kR, hR⟩ := (instrRight_ev x.f0 x.f1 x.f2 x.f3 x.f4 x.f5 x.f6 x.f7 x.f8 (by omega)).rounds
  have HF := Aside0.mk hf
  have HL := Aside0.mk hL
  have HX := Aside0.mk hl
  have HC8 := Aside0.mk hc8
  have HBA := Aside0.mk (h.below (below_alloc (Below.refl w.heap.size w) (.cells #[.int .i64 x.f0, .int .i64 x.f1, .int .i64 x.f2, .int .i64 x.f3, .int .i64 x.f4, .int .i64 x.f5, .int .i64 x.f6, .int .i64 x.f7, .slice A8 x.f8.length c8] 29)))
  have BK := Aside0.mk (blk_new w (.cells #[.int .i64 x.f0, .int .i64 x.f1, .int .i64 x.f2, .int .i64 x.f3, .int .i64 x.f4, .int .i64 x.f5, .int .i64 x.f6, .int .i64 x.f7, .slice A8 x.f8.length c8] 29))
  have HR8 := Aside0.mk (Kd.C_alloc hC (.cells #[.int .i64 x.f0, .int .i64 x.f1, .int .i64 x.f2, .int .i64 x.f3, .int .i64 x.f4, .int .i64 x.f5, .int .i64 x.f6, .int .i64 x.f7, .slice A8 x.f8.length c8] 29))
  have HB := Aside0.mk (below_alloc (Below.refl w.heap.size w) (.cells #[.int .i64 x.f0, .int .i64 x.f1, .int .i64 x.f2, .int .i64 x.f3, .int .i64 x.f4, .int .i64 x.f5, .int .i64 x.f6, .int .i64 x.f7, .slice A8 x.f8.length c8] 29))
  unfold putB at hp
  simp only [Bool.and_eq_true, Bool.not_eq_true', decide_eq_false_iff_not] at hp
  obtain ⟨ho, hr', h4, h5, ht'⟩ := hp
  have t1 : decide (x.f0 = 44) = false := decide_eq_false h4
  have t2 : (x.f0 == 44) = false := beq_eq_false_iff_ne.mpr h4
  have t3 : decide (x.f0 = 45) = false := decide_eq_false h5
  have t4 : (x.f0 == 45) = false := beq_eq_false_iff_ne.mpr h5
  rw [hr'] at hR
  have HO := Aside0.mk ho
  have HR := Aside0.mk hR
  have HTH := Aside0.mk ht'
  have HE := Aside0.mk he
  have HCL : Aside0 (slices_Clone_int_int.f x.f8 = some x.f8) := ⟨if_pos (by omega)⟩
  obtain ⟨f0, f1, f2⟩ := hf
  obtain ⟨j, hj⟩ : ∃ j : Nat, V.at_ = (j : Int) := ⟨V.at_.toNat, by omega⟩
  obtain ⟨h1, h2, h3, f, vr, vb, vs, hc, hr, hB, ht⟩ := h
  obtain ⟨q, cb, rfl, hq, hq2, cellsq, hq3⟩ := Kd.S_form hB (by omega)
  obtain ⟨s, cs, rfl, hs, hs2, cellss, hs3⟩ := Kd.R_form ht (by omega)
  obtain ⟨oki, Ai, ci, hci, hfi, hoki, hRI, hput⟩ := bt_lend h3 hB j (by omega)
  rw [hj, Int.toNat_natCast] at hrow
  have HVB : Aside0 (putV V x e_ = ⟨V.nm, V.pa, V.rt, V.rg, V.bl.set j (V.bl.getD j [] ++ [x]), if e_ then V.st.set j 2 else V.st, (j : Int)⟩) := ⟨by unfold putV; rw [hj, Int.toNat_natCast]⟩
  rw [hj] at hc
  have HPT := Aside0.mk (fun (W w1 : World) (v1 : Value) (b1 : List (List S29)) => bt_put (W := W) (w1 := w1) (v1 := v1) (b1 := b1) (j := j) h1 h2 h3 hc hr hB ht hoki hRI.1)
  have HPU := Aside0.mk (fun (W w1 : World) (v1 : Value) => @hput W w1 x v1)
  have HQG : Aside0 (g ≠ q ∧ g ≠ s ∧ ok q ∧ w.heap.size ≠ q) := ⟨⟨fun e => h2 (e ▸ ((Kd.S_R hB).1 q rfl).1), fun e => h2 (e ▸ (ht.1 s rfl).1), ((Kd.S_R hB).1 q rfl).1, by omega⟩⟩
  have HIN : Aside0 (∀ k, (Value.slice Ai (V.bl.getD j []).length ci).ownBlock = some k → oki k ∧ k < w.heap.size ∧ k ≠ g ∧ k ≠ q) := ⟨fun k e => ⟨hRI.1 k e, Kd.R_lt hRI k e, fun e2 => h2 (e2 ▸ (hoki k (hRI.1 k e)).1.1), (hoki k (hRI.1 k e)).2⟩⟩
  have HRI := Aside0.mk hRI
  have HCI := Aside0.mk hci
  have HG0 := Aside0.mk hc
  have HQ3 := Aside0.mk hq3
  have HB0 := Aside0.mk hb0
  have HBS := Aside0.mk (And.intro hbs (And.intro h1 hq))
  have HJL : Aside0 (j < V.bl.length ∧ j < V.st.length ∧ V.st.length = V.bl.length) := ⟨⟨by omega, by omega, f2⟩⟩
  have HROW := Aside0.mk hrow
  have HA : Aside0 (w.heap.size + 1 ≤ (w.alloc (.cells #[.int .i64 x.f0, .int .i64 x.f1, .int .i64 x.f2, .int .i64 x.f3, .int .i64 x.f4, .int .i64 x.f5, .int .i64 x.f6, .int .i64 x.f7, .slice A8 x.f8.length c8] 29)).heap.size) := ⟨by simp⟩
  clear h1 h2 h3 hc hr hB ht hq hq2 hq3 hs hs2 hs3 hci hfi hoki hRI hput hb0 hbs f0 f1 f2 hrow ho hr' h4 h5 ht' he hC hc8 hl hL hR
  obtain ⟨bl, ebl⟩ : ∃ r, V.bl = r := ⟨_, rfl⟩
  rw [ebl] at HVB HPT HPU HIN HRI HCI HG0 HJL HROW
  obtain ⟨st, est⟩ : ∃ r, V.st = r := ⟨_, rfl⟩
  rw [est] at HVB HPT HG0 HJL
  obtain ⟨row, erow⟩ : ∃ r, bl.getD j [] = r := ⟨_, rfl⟩
  rw [erow] at HVB HPT HPU HIN HRI HCI HROW
  obtain ⟨row2, er2⟩ : ∃ r, row ++ [x] = r := ⟨_, rfl⟩
  rw [er2] at HVB HPU
  have ER2 := Aside0.mk er2
  clear ebl est erow er2
  go_enter Try.func12, Try.ntmps12
  go_upto_region 4 with (first | (go_at_call 26; ((with_reducible refine (Open_b HBA.out HF.out HO.out).mono ?_); rintro e w' ⟨rfl, hb⟩; replace HA : Aside0 (w.heap.size + 1 ≤ _) := ⟨Nat.le_trans HA.out hb.size⟩; replace BK := Aside0.mk (blk_below BK.out hb); replace HBA := Aside0.mk (BAt.below HBA.out hb); replace HR8 := Aside0.mk (Kd.C_below HR8.out hb); replace HB := Aside0.mk (below_step HB.out hb); have ko0 := blk_cell BK.out 0; have ko1 := blk_cell BK.out 1; have ko2 := blk_cell BK.out 2; have ko3 := blk_cell BK.out 3; have ko4 := blk_cell BK.out 4; have ko5 := blk_cell BK.out 5; have ko6 := blk_cell BK.out 6; have ko7 := blk_cell BK.out 7; have ko8 := blk_cell BK.out 8; simp only [List.getElem?_toArray, List.getElem?_cons_zero, List.getElem?_cons_succ] at ko0 ko1 ko2 ko3 ko4 ko5 ko6 ko7 ko8; clear hb)) | (go_at_call 44; ((with_reducible refine (instr_Right.calls kR x.f0 x.f1 x.f2 x.f3 x.f4 x.f5 x.f6 x.f7 A8 c8 x.f8 _ _ HR8.out HC8.out HR.out).mono ?_); rintro e w' ⟨rfl, hb⟩; replace HA : Aside0 (w.heap.size + 1 ≤ _) := ⟨Nat.le_trans HA.out hb.size⟩; replace BK := Aside0.mk (blk_below BK.out hb); replace HBA := Aside0.mk (BAt.below HBA.out hb); replace HR8 := Aside0.mk (Kd.C_below HR8.out hb); replace HB := Aside0.mk (below_step HB.out hb); have kr0 := blk_cell BK.out 0; have kr1 := blk_cell BK.out 1; have kr2 := blk_cell BK.out 2; have kr3 := blk_cell BK.out 3; have kr4 := blk_cell BK.out 4; have kr5 := blk_cell BK.out 5; have kr6 := blk_cell BK.out 6; have kr7 := blk_cell BK.out 7; have kr8 := blk_cell BK.out 8; simp only [List.getElem?_toArray, List.getElem?_cons_zero, List.getElem?_cons_succ] at kr0 kr1 kr2 kr3 kr4 kr5 kr6 kr7 kr8; clear hb)) | (go_at_call 45; ((with_reducible refine (there_b HBA.out HL.out x A8 c8 HX.out HR8.out HC8.out HTH.out).mono ?_); rintro e w' ⟨rfl, hb⟩; replace HA : Aside0 (w.heap.size + 1 ≤ _) := ⟨Nat.le_trans HA.out hb.size⟩; replace BK := Aside0.mk (blk_below BK.out hb); replace HBA := Aside0.mk (BAt.below HBA.out hb); replace HR8 := Aside0.mk (Kd.C_below HR8.out hb); replace HB := Aside0.mk (below_step HB.out hb); have kt0 := blk_cell BK.out 0; have kt1 := blk_cell BK.out 1; have kt2 := blk_cell BK.out 2; have kt3 := blk_cell BK.out 3; have kt4 := blk_cell BK.out 4; have kt5 := blk_cell BK.out 5; have kt6 := blk_cell BK.out 6; have kt7 := blk_cell BK.out 7; have kt8 := blk_cell BK.out 8; simp only [List.getElem?_toArray, List.getElem?_cons_zero, List.getElem?_cons_succ] at kt0 kt1 kt2 kt3 kt4 kt5 kt6 kt7 kt8; clear hb)) | (go_at_call 43; ((with_reducible refine (slices_Clone_int_int.calls A8 c8 x.f8 x.f8 _ HR8.out HC8.out HCL.out).mono ?_); rintro e w' ⟨v_, rfl, hR_, hb⟩; obtain ⟨Ac, cc, rfl⟩ := Kd.R_slice hR_; have RA : Aside0 ((Kd.int .i64).R 3 w' base (fun k => w.heap.size + 1 ≤ k) (.slice Ac x.f8.length cc) x.f8) := ⟨Kd.R_lower (Kd.R_mono (Kd.R_bound hR_) (fun k hk => by have h_ := hk.2.1; have := HA.out; show w.heap.size + 1 ≤ k; omega)) (by have := HA.out; have := HBS.out.1; omega)⟩; have zf := blk_frozen (blk_below BK.out hb) 8; replace HA : Aside0 (w.heap.size + 1 ≤ _) := ⟨Nat.le_trans HA.out hb.size⟩; replace BK := Aside0.mk (blk_below BK.out hb); replace HBA := Aside0.mk (BAt.below HBA.out hb); replace HR8 := Aside0.mk (Kd.C_below HR8.out hb); replace HB := Aside0.mk (below_step HB.out hb); have kc0 := blk_cell BK.out 0; have kc1 := blk_cell BK.out 1; have kc2 := blk_cell BK.out 2; have kc3 := blk_cell BK.out 3; have kc4 := blk_cell BK.out 4; have kc5 := blk_cell BK.out 5; have kc6 := blk_cell BK.out 6; have kc7 := blk_cell BK.out 7; have kc8 := blk_cell BK.out 8; simp only [List.getElem?_toArray, List.getElem?_cons_zero, List.getElem?_cons_succ] at kc0 kc1 kc2 kc3 kc4 kc5 kc6 kc7 kc8; clear hb)))
  have HW : Aside0 (Below w.heap.size w (w'.setCell ⟨w.heap.size, 8, none⟩ (.slice Ac x.f8.length cc))) := ⟨HB.out.setCell (Nat.le_refl _) _⟩
  have BK2 : Aside0 ((w'.setCell ⟨w.heap.size, 8, none⟩ (.slice Ac x.f8.length cc)).heap[w.heap.size]? = some (.cells #[.int .i64 x.f0, .int .i64 x.f1, .int .i64 x.f2, .int .i64 x.f3, .int .i64 x.f4, .int .i64 x.f5, .int .i64 x.f6, .int .i64 x.f7, .slice Ac x.f8.length cc] 29 (0, 0))) := ⟨blk_put BK.out 8 _ rfl⟩
  have RA2 : Aside0 ((Kd.int .i64).R 3 (w'.setCell ⟨w.heap.size, 8, none⟩ (.slice Ac x.f8.length cc)) base (fun k => w.heap.size + 1 ≤ k) (.slice Ac x.f8.length cc) x.f8) := ⟨Kd.R_far RA.out (p := ⟨w.heap.size, 8, none⟩) (fun k hk => by show k ≠ w.heap.size; omega) _⟩
  generalize w'.setCell ⟨w.heap.size, 8, none⟩ (.slice Ac x.f8.length cc) = W4 at HW BK2 RA2 ⊢
  clear BK HBA HR8 HB HA RA zf ko0 ko1 ko2 ko3 ko4 ko5 ko6 ko7 ko8 kr0 kr1 kr2 kr3 kr4 kr5 kr6 kr7 kr8 kt0 kt1 kt2 kt3 kt4 kt5 kt6 kt7 kt8 kc0 kc1 kc2 kc3 kc4 kc5 kc6 kc7 kc8
  have HCG := Aside0.mk (blk_below HG0.out HW.out)
  have HQW := Aside0.mk (blk_below HQ3.out HW.out)
  have HCW := Aside0.mk ((HW.out.cell (block_lt_of_cell HCI.out)).trans HCI.out)
  have HRW := Aside0.mk (Kd.R_below HRI.out HW.out)
  have HB4 : Aside0 (Below base w0 W4) := ⟨HB0.out.trans (HW.out.mono HBS.out.1)⟩
  have c4 := blk_cell HCG.out 4
  have c6 := blk_cell HCG.out 6
  simp only [List.getElem?_toArray, List.getElem?_cons_zero, List.getElem?_cons_succ] at c4 c6
  have k0 := blk_cell BK2.out 0
  have k1 := blk_cell BK2.out 1
  have k2 := blk_cell BK2.out 2
  have k3 := blk_cell BK2.out 3
  have k4 := blk_cell BK2.out 4
  have k5 := blk_cell BK2.out 5
  have k6 := blk_cell BK2.out 6
  have k7 := blk_cell BK2.out 7
  have k8 := blk_cell BK2.out 8
  simp only [List.getElem?_toArray, List.getElem?_cons_zero, List.getElem?_cons_succ] at k0 k1 k2 k3 k4 k5 k6 k7 k8
  have cci := HCW.out
  have p1 : (0 : Int) ≤ (j : Int) := by omega
  have p2 : (j : Int) < (bl.length : Int) := by have := HJL.out.1; omega
  refine start_ (n := 27) (S := fun w' => w'.cell? ⟨g, 4, none⟩ = some (.slice (some ⟨q, 0, none⟩) bl.length cb) ∧ w'.cell? ⟨g, 6, none⟩ = some (.int .i64 (j : Int)) ∧ w'.cell? ⟨q, j, none⟩ = some (.slice Ai row.length ci) ∧ w'.cell? ⟨w.heap.size, 0, none⟩ = some (.int .i64 x.f0) ∧ w'.cell? ⟨w.heap.size, 1, none⟩ = some (.int .i64 x.f1) ∧ w'.cell? ⟨w.heap.size, 2, none⟩ = some (.int .i64 x.f2) ∧ w'.cell? ⟨w.heap.size, 3, none⟩ = some (.int .i64 x.f3) ∧ w'.cell? ⟨w.heap.size, 4, none⟩ = some (.int .i64 x.f4) ∧ w'.cell? ⟨w.heap.size, 5, none⟩ = some (.int .i64 x.f5) ∧ w'.cell? ⟨w.heap.size, 6, none⟩ = some (.int .i64 x.f6) ∧ w'.cell? ⟨w.heap.size, 7, none⟩ = some (.int .i64 x.f7) ∧ w'.cell? ⟨w.heap.size, 8, none⟩ = some (.slice Ac x.f8.length cc)) (ds := [26]) #[false, false, false, false, false, false, false, false, false, false, false, false, false, false, false, false, false, false, false, false, false, false, false, false, false, false, false] (by kernel_rfl) rfl rfl ⟨c4, c6, cci, k0, k1, k2, k3, k4, k5, k6, k7, k8⟩ (fun hHeld => ?_)
  refine pure_ (i := 0) (N := some 33) (v := ?_) (a' := ?_) #[true, false, false, false, false, false, false, false, false, false, false, false, false, false, false, false, false, false, false, false, false, false, false, false, false, false, false] rfl rfl (by kernel_rfl) (fun _ _ _ h => h) (Or.inl ⟨by rfl, ?_⟩) ?_ ?_
  rotate_left
  · intro w'
    go_simp
    with_reducible rfl
  rotate_left
  · simp only [Act.put, List.setIfInBounds_toArray, List.set_cons_zero, List.set_cons_succ, i64_w, i32_w]
    rfl
  refine pure_ (i := 1) (N := some 34) (v := ?_) (a' := ?_) #[true, true, false, false, false, false, false, false, false, false, false, false, false, false, false, false, false, false, false, false, false, false, false, false, false, false, false] rfl rfl (by kernel_rfl) (fun _ _ _ h => h) (Or.inl ⟨by rfl, ?_⟩) ?_ ?_
  rotate_left
  · intro w'
    go_simp
    with_reducible rfl
  rotate_left
  · simp only [Act.put, List.setIfInBounds_toArray, List.set_cons_zero, List.set_cons_succ, i64_w, i32_w]
    rfl
  refine pure_ (i := 2) (N := some 35) (v := ?_) (a' := ?_) #[true, true, true, false, false, false, false, false, false, false, false, false, false, false, false, false, false, false, false, false, false, false, false, false, false, false, false] rfl rfl (by kernel_rfl) (fun _ _ _ h => h) (Or.inl ⟨by rfl, ?_⟩) ?_ ?_
  rotate_left
  · intro w'
    go_simp
    with_reducible rfl
  rotate_left
  · simp only [Act.put, List.setIfInBounds_toArray, List.set_cons_zero, List.set_cons_succ, i64_w, i32_w]
    rfl
  refine pure_ (i := 3) (N := some 36) (v := ?_) (a' := ?_) #[true, true, true, true, false, false, false, false, false, false, false, false, false, false, false, false, false, false, false, false, false, false, false, false, false, false, false] rfl rfl (by kernel_rfl) (fun _ _ _ h => h) (Or.inl ⟨by rfl, ?_⟩) ?_ ?_
  rotate_left
  · intro w'
    go_simp
    with_reducible rfl
  rotate_left
  · simp only [Act.put, List.setIfInBounds_toArray, List.set_cons_zero, List.set_cons_succ, i64_w, i32_w]
    rfl
  refine pure_ (i := 4) (N := some 37) (v := ?_) (a' := ?_) #[true, true, true, true, true, false, false, false, false, false, false, false, false, false, false, false, false, false, false, false, false, false, false, false, false, false, false] rfl rfl (by kernel_rfl) (fun _ _ _ h => h) (Or.inl ⟨by rfl, ?_⟩) ?_ ?_
  rotate_left
  · intro w'
    go_simp
    with_reducible rfl
  rotate_left
  · simp only [Act.put, List.setIfInBounds_toArray, List.set_cons_zero, List.set_cons_succ, i64_w, i32_w]
    rfl
  refine pure_ (i := 6) (N := some 39) (v := ?_) (a' := ?_) #[true, true, true, true, true, false, true, false, false, false, false, false, false, false, false, false, false, false, false, false, false, false, false, false, false, false, false] rfl rfl (by kernel_rfl) (fun _ _ _ h => h) (Or.inl ⟨by rfl, ?_⟩) ?_ ?_
  rotate_left
  · intro w'
    go_simp
    with_reducible rfl
  rotate_left
  · simp only [Act.put, List.setIfInBounds_toArray, List.set_cons_zero, List.set_cons_succ, i64_w, i32_w]
    rfl
  refine pure_ (i := 7) (N := some 40) (v := ?_) (a' := ?_) #[true, true, true, true, true, false, true, true, false, false, false, false, false, false, false, false, false, false, false, false, false, false, false, false, false, false, false] rfl rfl (by kernel_rfl) (fun _ _ _ h => h) (Or.inl ⟨by rfl, ?_⟩) ?_ ?_
  rotate_left
  · intro w'
    go_simp
    with_reducible rfl
  rotate_left
  · simp only [Act.put, List.setIfInBounds_toArray, List.set_cons_zero, List.set_cons_succ, i64_w, i32_w]
    rfl
  refine pure_ (i := 8) (N := some 41) (v := ?_) (a' := ?_) #[true, true, true, true, true, false, true, true, true, false, false, false, false, false, false, false, false, false, false, false, false, false, false, false, false, false, false] rfl rfl (by kernel_rfl) (fun _ _ _ h => h) (Or.inl ⟨by rfl, ?_⟩) ?_ ?_
  rotate_left
  · intro w'
    go_simp
    with_reducible rfl
  rotate_left
  · simp only [Act.put, List.setIfInBounds_toArray, List.set_cons_zero, List.set_cons_succ, i64_w, i32_w]
    rfl
  refine pure_ (i := 10) (N := some 43) (v := ?_) (a' := ?_) #[true, true, true, true, true, false, true, true, true, false, true, false, false, false, false, false, false, false, false, false, false, false, false, false, false, false, false] rfl rfl (by kernel_rfl) (fun _ _ _ h => h) (Or.inl ⟨by rfl, ?_⟩) ?_ ?_
  rotate_left
  · intro w'
    go_simp
    with_reducible rfl
  rotate_left
  · simp only [Act.put, List.setIfInBounds_toArray, List.set_cons_zero, List.set_cons_succ, i64_w, i32_w]
    rfl
  refine pure_ (i := 11) (N := some 44) (v := ?_) (a' := ?_) #[true, true, true, true, true, false, true, true, true, false, true, true, false, false, false, false, false, false, false, false, false, false, false, false, false, false, false] rfl rfl (by kernel_rfl) (fun _ _ _ h => h) (Or.inl ⟨by rfl, ?_⟩) ?_ ?_
  rotate_left
  · intro w'
    go_simp
    with_reducible rfl
  rotate_left
  · simp only [Act.put, List.setIfInBounds_toArray, List.set_cons_zero, List.set_cons_succ, i64_w, i32_w]
    rfl
  refine pure_ (i := 12) (N := some 45) (v := ?_) (a' := ?_) #[true, true, true, true, true, false, true, true, true, false, true, true, true, false, false, false, false, false, false, false, false, false, false, false, false, false, false] rfl rfl (by kernel_rfl) (fun _ _ _ h => h) (Or.inl ⟨by rfl, ?_⟩) ?_ ?_
  rotate_left
  · intro w'
    go_simp
    with_reducible rfl
  rotate_left
  · simp only [Act.put, List.setIfInBounds_toArray, List.set_cons_zero, List.set_cons_succ, i64_w, i32_w]
    rfl
  refine pure_ (i := 13) (N := some 46) (v := ?_) (a' := ?_) #[true, true, true, true, true, false, true, true, true, false, true, true, true, true, false, false, false, false, false, false, false, false, false, false, false, false, false] rfl rfl (by kernel_rfl) (fun _ _ _ h => h) (Or.inl ⟨by rfl, ?_⟩) ?_ ?_
  rotate_left
  · intro w'
    go_simp
    with_reducible rfl
  rotate_left
  · simp only [Act.put, List.setIfInBounds_toArray, List.set_cons_zero, List.set_cons_succ, i64_w, i32_w]
    rfl
  refine pure_ (i := 14) (N := some 47) (v := ?_) (a' := ?_) #[true, true, true, true, true, false, true, true, true, false, true, true, true, true, true, false, false, false, false, false, false, false, false, false, false, false, false] rfl rfl (by kernel_rfl) (fun _ _ _ h => h) (Or.inl ⟨by rfl, ?_⟩) ?_ ?_
  rotate_left
  · intro w'
    go_simp
    with_reducible rfl
  rotate_left
  · simp only [Act.put, List.setIfInBounds_toArray, List.set_cons_zero, List.set_cons_succ, i64_w, i32_w]
    rfl
  refine pure_ (i := 16) (N := some 49) (v := ?_) (a' := ?_) #[true, true, true, true, true, false, true, true, true, false, true, true, true, true, true, false, true, false, false, false, false, false, false, false, false, false, false] rfl rfl (by kernel_rfl) (fun _ _ _ h => h) (Or.inl ⟨by rfl, ?_⟩) ?_ ?_
  rotate_left
  · intro w'
    go_simp
    with_reducible rfl
  rotate_left
  · simp only [Act.put, List.setIfInBounds_toArray, List.set_cons_zero, List.set_cons_succ, i64_w, i32_w]
    rfl
  refine pure_ (i := 17) (N := some 50) (v := ?_) (a' := ?_) #[true, true, true, true, true, false, true, true, true, false, true, true, true, true, true, false, true, true, false, false, false, false, false, false, false, false, false] rfl rfl (by kernel_rfl) (fun _ _ _ h => h) (Or.inl ⟨by rfl, ?_⟩) ?_ ?_
  rotate_left
  · intro w'
    go_simp
    with_reducible rfl
  rotate_left
  · simp only [Act.put, List.setIfInBounds_toArray, List.set_cons_zero, List.set_cons_succ, i64_w, i32_w]
    rfl
  refine pure_ (i := 18) (N := some 51) (v := ?_) (a' := ?_) #[true, true, true, true, true, false, true, true, true, false, true, true, true, true, true, false, true, true, true, false, false, false, false, false, false, false, false] rfl rfl (by kernel_rfl) (fun _ _ _ h => h) (Or.inl ⟨by rfl, ?_⟩) ?_ ?_
  rotate_left
  · intro w'
    go_simp
    with_reducible rfl
  rotate_left
  · simp only [Act.put, List.setIfInBounds_toArray, List.set_cons_zero, List.set_cons_succ, i64_w, i32_w]
    rfl
  refine take_ (i := 5) (N := some 38) (v := ?_) (a' := ?_) #[true, true, true, true, true, true, true, true, true, false, true, true, true, true, true, false, true, true, true, false, false, false, false, false, false, false, false] rfl rfl (by kernel_rfl) (fun _ _ _ h => h) (Or.inl ⟨by rfl, ?_⟩) hHeld ?_ ?_
  rotate_left
  · rintro w' ⟨s0, s1, s2, s3, s4, s5, s6, s7, s8, s9, s10, s11⟩
    go_simp
    with_reducible rfl
  rotate_left
  · simp only [Act.put, List.setIfInBounds_toArray, List.set_cons_zero, List.set_cons_succ, i64_w, i32_w]
    rfl
  refine take_ (i := 9) (N := some 42) (v := ?_) (a' := ?_) #[true, true, true, true, true, true, true, true, true, true, true, true, true, true, true, false, true, true, true, false, false, false, false, false, false, false, false] rfl rfl (by kernel_rfl) (fun _ _ _ h => h) (Or.inl ⟨by rfl, ?_⟩) hHeld ?_ ?_
  rotate_left
  · rintro w' ⟨s0, s1, s2, s3, s4, s5, s6, s7, s8, s9, s10, s11⟩
    go_simp
    with_reducible rfl
  rotate_left
  · simp only [Act.put, List.setIfInBounds_toArray, List.set_cons_zero, List.set_cons_succ, i64_w, i32_w]
    rfl
  refine take_ (i := 15) (N := some 48) (v := ?_) (a' := ?_) #[true, true, true, true, true, true, true, true, true, true, true, true, true, true, true, true, true, true, true, false, false, false, false, false, false, false, false] rfl rfl (by kernel_rfl) (fun _ _ _ h => h) (Or.inl ⟨by rfl, ?_⟩) hHeld ?_ ?_
  rotate_left
  · rintro w' ⟨s0, s1, s2, s3, s4, s5, s6, s7, s8, s9, s10, s11⟩
    go_simp
    with_reducible rfl
  rotate_left
  · simp only [Act.put, List.setIfInBounds_toArray, List.set_cons_zero, List.set_cons_succ, i64_w, i32_w]
    rfl
  refine take_ (i := 19) (N := some 52) (v := ?_) (a' := ?_) #[true, true, true, true, true, true, true, true, true, true, true, true, true, true, true, true, true, true, true, true, false, false, false, false, false, false, false] rfl rfl (by kernel_rfl) (fun _ _ _ h => h) (Or.inl ⟨by rfl, ?_⟩) hHeld ?_ ?_
  rotate_left
  · rintro w' ⟨s0, s1, s2, s3, s4, s5, s6, s7, s8, s9, s10, s11⟩
    go_simp
    with_reducible rfl
  rotate_left
  · simp only [Act.put, List.setIfInBounds_toArray, List.set_cons_zero, List.set_cons_succ, i64_w, i32_w]
    rfl
  refine pure_ (i := 20) (N := some 53) (v := ?_) (a' := ?_) #[true, true, true, true, true, true, true, true, true, true, true, true, true, true, true, true, true, true, true, true, true, false, false, false, false, false, false] rfl rfl (by kernel_rfl) (fun _ _ _ h => h) (Or.inl ⟨by rfl, ?_⟩) ?_ ?_
  rotate_left
  · intro w'
    go_simp
    with_reducible rfl
  rotate_left
  · simp only [Act.put, List.setIfInBounds_toArray, List.set_cons_zero, List.set_cons_succ, i64_w, i32_w]
    rfl
  refine take_ (i := 21) (N := some 54) (v := ?_) (a' := ?_) #[true, true, true, true, true, true, true, true, true, true, true, true, true, true, true, true, true, true, true, true, true, true, false, false, false, false, false] rfl rfl (by kernel_rfl) (fun _ _ _ h => h) (Or.inl ⟨by rfl, ?_⟩) hHeld ?_ ?_
  rotate_left
  · rintro w' ⟨s0, s1, s2, s3, s4, s5, s6, s7, s8, s9, s10, s11⟩
    go_simp
    with_reducible rfl
  rotate_left
  · simp only [Act.put, List.setIfInBounds_toArray, List.set_cons_zero, List.set_cons_succ, i64_w, i32_w]
    rfl
  refine take_ (i := 22) (N := some 55) (v := ?_) (a' := ?_) #[true, true, true, true, true, true, true, true, true, true, true, true, true, true, true, true, true, true, true, true, true, true, true, false, false, false, false] rfl rfl (by kernel_rfl) (fun _ _ _ h => h) (Or.inl ⟨by rfl, ?_⟩) hHeld ?_ ?_
  rotate_left
  · rintro w' ⟨s0, s1, s2, s3, s4, s5, s6, s7, s8, s9, s10, s11⟩
    go_simp
    with_reducible rfl
  rotate_left
  · simp only [Act.put, List.setIfInBounds_toArray, List.set_cons_zero, List.set_cons_succ, i64_w, i32_w]
    rfl
  refine one_ (i := 23) (N := some 56) #[true, true, true, true, true, true, true, true, true, true, true, true, true, true, true, true, true, true, true, true, true, true, true, true, false, false, false] rfl rfl (by kernel_rfl) (by decide) (fun K hK => ?_)
  refine value_ (w1 := ?_) (v := ?_) (by rfl) rfl ?_ ?_
  rotate_left 2
  · go_simp
    constructor
    · rfl
    · rfl
  refine hK.out _ _ ⟨(blk_cell (blk_alloc HCG.out _) 4).trans rfl, (blk_cell (blk_alloc HCG.out _) 6).trans rfl, ((below_alloc (Below.refl _ _) _).cell (block_lt_of_cell HCW.out)).trans HCW.out, (blk_cell (blk_alloc BK2.out _) 0).trans rfl, (blk_cell (blk_alloc BK2.out _) 1).trans rfl, (blk_cell (blk_alloc BK2.out _) 2).trans rfl, (blk_cell (blk_alloc BK2.out _) 3).trans rfl, (blk_cell (blk_alloc BK2.out _) 4).trans rfl, (blk_cell (blk_alloc BK2.out _) 5).trans rfl, (blk_cell (blk_alloc BK2.out _) 6).trans rfl, (blk_cell (blk_alloc BK2.out _) 7).trans rfl, (blk_cell (blk_alloc BK2.out _) 8).trans rfl⟩ (fun hHeld => ?_)
  clear hK K
  refine norm_ (a' := ?_) ?_ ?_
  rotate_left
  · show Act.put _ (some 56) _ = _
    simp only [Act.put, List.setIfInBounds_toArray, List.set_cons_zero, List.set_cons_succ, i64_w, i32_w]
    rfl
  refine one_ (i := 24) (N := some 57) #[true, true, true, true, true, true, true, true, true, true, true, true, true, true, true, true, true, true, true, true, true, true, true, true, true, false, false] rfl rfl (by kernel_rfl) (by decide) (fun K hK => ?_)
  refine R_append_at k29 (w0 := w0) base (by rfl) (.tmp 54) (.tmp 56) 35 29 (.agg #[.int .i64 0, .int .i64 0, .int .i64 0, .int .i64 0, .int .i64 0, .int .i64 0, .int .i64 0, .int .i64 0, .slice none 0 0]) 88 (by rfl) Try.underlying35 info29 rfl (by decide) (by omega) (.slice Ai row.length ci) row x [.int .i64 x.f0, .int .i64 x.f1, .int .i64 x.f2, .int .i64 x.f3, .int .i64 x.f4, .int .i64 x.f5, .int .i64 x.f6, .int .i64 x.f7, .slice Ac x.f8.length cc] (fun k => oki k ∨ w.heap.size ≤ k) (fun k => w.heap.size + 1 ≤ k) (by rfl) _ (by rfl) (by repeat (first | (with_reducible exact blk_new _ _) | (with_reducible refine blk_drew ?_))) (k29_mkM _ base _ x (by exact Kd.R_alloc RA2.out _)) (fun k hk => ⟨.inr (by omega), fun e => by have := (HIN.out k e.symm).2.1; omega⟩) (fun k hk => .inr (by have := HW.out.size; first | omega | (simp at hk; omega))) (by exact Kd.R_alloc (Kd.R_mono HRW.out (fun _ hk => .inl hk)) _) (by repeat (first | (with_reducible exact HB4.out) | (refine Below.alloc ?_ (by have := HW.out.size; have := HBS.out.1; omega) _) | (with_reducible refine below_drew1 ?_))) (by have := HW.out.size; have := HBS.out.1; first | omega | (simp; omega)) (by have := HROW.out; omega) ?_
  intro v1 w5 ho hb hg hat
  rw [ER2.out] at ho
  obtain ⟨A1, c1_, rfl⟩ := Kd.R_slice ho
  have HC5 : Aside0 (w5.heap[g]? = some (.cells #[.string V.nm, .int .i64 V.pa, .int .i64 V.rt, vr, .slice (some ⟨q, 0, none⟩) bl.length cb, .slice (some ⟨s, 0, none⟩) st.length cs, .int .i64 (j : Int)] 64 (0, 0))) := ⟨blk_grown (by exact blk_alloc HCG.out _) hg (fun e => (HIN.out _ e.symm).2.2.1 rfl)⟩
  have HQ5 : Aside0 (w5.heap[q]? = some (.cells cellsq 35 (0, 0))) := ⟨blk_grown (by exact blk_alloc HQW.out _) hg (fun e => (HIN.out _ e.symm).2.2.2 rfl)⟩
  have HCI5 : Aside0 (w5.cell? ⟨q, j, none⟩ = some (.slice Ai row.length ci)) := ⟨hg.cell (by exact ((below_alloc (Below.refl _ _) _).cell (block_lt_of_cell HCW.out)).trans HCW.out) (fun e => (HIN.out _ e.symm).2.2.2 rfl)⟩
  have BK5 : Aside0 (w5.heap[w.heap.size]? = some (.cells #[.int .i64 x.f0, .int .i64 x.f1, .int .i64 x.f2, .int .i64 x.f3, .int .i64 x.f4, .int .i64 x.f5, .int .i64 x.f6, .int .i64 x.f7, .slice Ac x.f8.length cc] 29 (0, 0))) := ⟨blk_grown (by exact blk_alloc BK2.out _) hg (fun e => by have := (HIN.out _ e.symm).2.1; omega)⟩
  have HGR : Aside0 (W4.grownBy w5 (Value.slice Ai row.length ci).ownBlock) := ⟨(grown_of_below (by repeat (first | (with_reducible exact Below.refl _ _) | (with_reducible refine below_alloc ?_ _) | (with_reducible refine below_drew ?_))) _).trans hg⟩
  have HO5 := Aside0.mk ho
  have HB5 := Aside0.mk hb
  have z5 := blk_frozen HQ5.out j
  have cc5 := HCI5.out
  clear ho hb hg hat
  refine hK.out _ _ ⟨(blk_cell HC5.out 4).trans rfl, (blk_cell HC5.out 6).trans rfl, HCI5.out, (blk_cell BK5.out 0).trans rfl, (blk_cell BK5.out 1).trans rfl, (blk_cell BK5.out 2).trans rfl, (blk_cell BK5.out 3).trans rfl, (blk_cell BK5.out 4).trans rfl, (blk_cell BK5.out 5).trans rfl, (blk_cell BK5.out 6).trans rfl, (blk_cell BK5.out 7).trans rfl, (blk_cell BK5.out 8).trans rfl⟩ (fun hHeld => ?_)
  clear hK K
  refine norm_ (a' := ?_) ?_ ?_
  rotate_left
  · show Act.put _ (some 57) _ = _
    simp only [Act.put, List.setIfInBounds_toArray, List.set_cons_zero, List.set_cons_succ, i64_w, i32_w]
    rfl
  refine pure_ (i := 25) (N := some 58) (v := ?_) (a' := ?_) #[true, true, true, true, true, true, true, true, true, true, true, true, true, true, true, true, true, true, true, true, true, true, true, true, true, true, false] rfl rfl (by kernel_rfl) (fun _ _ _ h => h) (Or.inl ⟨by rfl, ?_⟩) ?_ ?_
  rotate_left
  · intro w'
    go_simp
    with_reducible rfl
  rotate_left
  · simp only [Act.put, List.setIfInBounds_toArray, List.set_cons_zero, List.set_cons_succ, i64_w, i32_w]
    rfl
  refine last_ (i := 26) (N := none) #[true, true, true, true, true, true, true, true, true, true, true, true, true, true, true, true, true, true, true, true, true, true, true, true, true, true, true] rfl rfl (by kernel_rfl) (by decide) (fun K hK => ?_)
  refine skip_ (w1 := ?_) (by rfl) rfl ?_ ?_
  rotate_left
  · go_simp
    rfl
  refine hK.out _ _ ?_
  clear hK K
  refine done_ (by kernel_rfl) ?_
  have HT1 := Aside0.mk (HPT.out W4 w5 (.slice A1 row2.length c1_) (bl.set j row2) HW.out HGR.out HGR.out.size (HPU.out W4 w5 (.slice A1 row2.length c1_) HW.out HGR.out HO5.out))
  have BK6 : Aside0 ((w5.setCell ⟨q, j, none⟩ (.slice A1 row2.length c1_)).heap[w.heap.size]? = some (.cells #[.int .i64 x.f0, .int .i64 x.f1, .int .i64 x.f2, .int .i64 x.f3, .int .i64 x.f4, .int .i64 x.f5, .int .i64 x.f6, .int .i64 x.f7, .slice Ac x.f8.length cc] 29 (0, 0))) := ⟨blk_far BK5.out (p := ⟨q, j, none⟩) HQG.out.2.2.2 _⟩
  have HC6 : Aside0 ((w5.setCell ⟨q, j, none⟩ (.slice A1 row2.length c1_)).heap[g]? = some (.cells #[.string V.nm, .int .i64 V.pa, .int .i64 V.rt, vr, .slice (some ⟨q, 0, none⟩) bl.length cb, .slice (some ⟨s, 0, none⟩) st.length cs, .int .i64 (j : Int)] 64 (0, 0))) := ⟨blk_far HC5.out (p := ⟨q, j, none⟩) HQG.out.1 _⟩
  have HB6 : Aside0 (Below base w0 (w5.setCell ⟨q, j, none⟩ (.slice A1 row2.length c1_))) := ⟨HB5.out.setCell (by exact HBS.out.2.2) _⟩
  generalize w5.setCell ⟨q, j, none⟩ (.slice A1 row2.length c1_) = W6 at HT1 BK6 HC6 HB6 ⊢
  clear HO5 HB5 HGR BK5 HCI5 HQ5 HC5 z5 cc5 c4 c6 cci hHeld k0 k1 k2 k3 k4 k5 k6 k7 k8
  have m0 := blk_cell BK6.out 0
  simp only [List.getElem?_toArray, List.getElem?_cons_zero, List.getElem?_cons_succ] at m0
  cases e_ with
  | false =>
    go_wp2_with (first | (go_at_call 46; ((with_reducible refine (instr_Ends.calls x.f0 _ _ HE.out).mono ?_); rintro e w' ⟨rfl, ⟨nd, rfl⟩⟩)))
    go_ret
    exact ⟨rfl, pw_below_drewN HB6.out nd, by rw [HVB.out]; exact HT1.out.drewN nd⟩
  | true =>
    go_upto_region 6 with (first | (go_at_call 46; ((with_reducible refine (instr_Ends.calls x.f0 _ _ HE.out).mono ?_); rintro e w' ⟨rfl, ⟨nd, rfl⟩⟩)))
    obtain ⟨hk1, ok1, hk2, hBA⟩ := HT1.out
    have hBA2 := hBA
    obtain ⟨_, _, _, f', vr', vb', vs', hc', hr', hB', ht'⟩ := hBA2
    have e5 := blk_cell hc' 5
    have e5' := blk_cell HC6.out 5
    simp only [List.getElem?_toArray, List.getElem?_cons_zero, List.getElem?_cons_succ] at e5 e5'
    obtain rfl : vs' = .slice (some ⟨s, 0, none⟩) st.length cs := Option.some.inj (e5.symm.trans e5')
    have p3 : (j : Int) < (st.length : Int) := by have := HJL.out.2.1; omega
    obtain ⟨q', eq_, cq⟩ := Kd.at_int (Kd.R_reads' ht').2.2 (j : Int) p1 p3
    injection eq_ with eq_
    subst eq_
    rw [add_plain, Int.toNat_natCast] at cq
    obtain ⟨cells2, hcells2⟩ := Kd.R_typed ht' s rfl
    have zq := blk_frozen hcells2 j
    have HST : Aside0 (Turned base ok w (((W6.drewN nd).drew).setCell ⟨s, j, none⟩ (.int .i64 2)) g ⟨V.nm, V.pa, V.rt, V.rg, bl.set j row2, st.set j 2, (j : Int)⟩) := ⟨(HT1.out.drewN (nd + 1)).then_ (fun ok' h => bt_st h (n := st.length) (c := cs) e5' j 2)⟩
    have HS5 := Aside0.mk e5'
    have HS6 := Aside0.mk ((blk_cell HC6.out 6).trans rfl)
    have HCQ := Aside0.mk cq
    have HBS2 : Aside0 (base ≤ s) := ⟨Kd.R_base ht' s rfl⟩
    clear hk1 hk2 hBA hc' hr' hB' ht' e5 hcells2
    refine start_ (n := 10) (S := fun w' => w'.cell? ⟨g, 5, none⟩ = some (.slice (some ⟨s, 0, none⟩) st.length cs) ∧ w'.cell? ⟨g, 6, none⟩ = some (.int .i64 (j : Int))) (ds := [9]) #[false, false, false, false, false, false, false, false, false, false] (by kernel_rfl) rfl rfl ⟨HS5.out, HS6.out⟩ (fun hHeld => ?_)
    refine pure_ (i := 0) (N := some 62) (v := ?_) (a' := ?_) #[true, false, false, false, false, false, false, false, false, false] rfl rfl (by kernel_rfl) (fun _ _ _ h => h) (Or.inl ⟨by rfl, ?_⟩) ?_ ?_
    rotate_left
    · intro w'
      go_simp
      with_reducible rfl
    rotate_left
    · simp only [Act.put, List.setIfInBounds_toArray, List.set_cons_zero, List.set_cons_succ, i64_w, i32_w]
      rfl
    refine pure_ (i := 1) (N := some 63) (v := ?_) (a' := ?_) #[true, true, false, false, false, false, false, false, false, false] rfl rfl (by kernel_rfl) (fun _ _ _ h => h) (Or.inl ⟨by rfl, ?_⟩) ?_ ?_
    rotate_left
    · intro w'
      go_simp
      with_reducible rfl
    rotate_left
    · simp only [Act.put, List.setIfInBounds_toArray, List.set_cons_zero, List.set_cons_succ, i64_w, i32_w]
      rfl
    refine pure_ (i := 2) (N := some 64) (v := ?_) (a' := ?_) #[true, true, true, false, false, false, false, false, false, false] rfl rfl (by kernel_rfl) (fun _ _ _ h => h) (Or.inl ⟨by rfl, ?_⟩) ?_ ?_
    rotate_left
    · intro w'
      go_simp
      with_reducible rfl
    rotate_left
    · simp only [Act.put, List.setIfInBounds_toArray, List.set_cons_zero, List.set_cons_succ, i64_w, i32_w]
      rfl
    refine pure_ (i := 4) (N := some 66) (v := ?_) (a' := ?_) #[true, true, true, false, true, false, false, false, false, false] rfl rfl (by kernel_rfl) (fun _ _ _ h => h) (Or.inl ⟨by rfl, ?_⟩) ?_ ?_
    rotate_left
    · intro w'
      go_simp
      with_reducible rfl
    rotate_left
    · simp only [Act.put, List.setIfInBounds_toArray, List.set_cons_zero, List.set_cons_succ, i64_w, i32_w]
      rfl
    refine pure_ (i := 5) (N := some 67) (v := ?_) (a' := ?_) #[true, true, true, false, true, true, false, false, false, false] rfl rfl (by kernel_rfl) (fun _ _ _ h => h) (Or.inl ⟨by rfl, ?_⟩) ?_ ?_
    rotate_left
    · intro w'
      go_simp
      with_reducible rfl
    rotate_left
    · simp only [Act.put, List.setIfInBounds_toArray, List.set_cons_zero, List.set_cons_succ, i64_w, i32_w]
      rfl
    refine pure_ (i := 6) (N := some 68) (v := ?_) (a' := ?_) #[true, true, true, false, true, true, true, false, false, false] rfl rfl (by kernel_rfl) (fun _ _ _ h => h) (Or.inl ⟨by rfl, ?_⟩) ?_ ?_
    rotate_left
    · intro w'
      go_simp
      with_reducible rfl
    rotate_left
    · simp only [Act.put, List.setIfInBounds_toArray, List.set_cons_zero, List.set_cons_succ, i64_w, i32_w]
      rfl
    refine take_ (i := 3) (N := some 65) (v := ?_) (a' := ?_) #[true, true, true, true, true, true, true, false, false, false] rfl rfl (by kernel_rfl) (fun _ _ _ h => h) (Or.inl ⟨by rfl, ?_⟩) hHeld ?_ ?_
    rotate_left
    · rintro w' ⟨s0, s1⟩
      go_simp
      with_reducible rfl
    rotate_left
    · simp only [Act.put, List.setIfInBounds_toArray, List.set_cons_zero, List.set_cons_succ, i64_w, i32_w]
      rfl
    refine take_ (i := 7) (N := some 69) (v := ?_) (a' := ?_) #[true, true, true, true, true, true, true, true, false, false] rfl rfl (by kernel_rfl) (fun _ _ _ h => h) (Or.inl ⟨by rfl, ?_⟩) hHeld ?_ ?_
    rotate_left
    · rintro w' ⟨s0, s1⟩
      go_simp
      with_reducible rfl
    rotate_left
    · simp only [Act.put, List.setIfInBounds_toArray, List.set_cons_zero, List.set_cons_succ, i64_w, i32_w]
      rfl
    refine pure_ (i := 8) (N := some 70) (v := ?_) (a' := ?_) #[true, true, true, true, true, true, true, true, true, false] rfl rfl (by kernel_rfl) (fun _ _ _ h => h) (Or.inl ⟨by rfl, ?_⟩) ?_ ?_
    rotate_left
    · intro w'
      go_simp
      with_reducible rfl
    rotate_left
    · simp only [Act.put, List.setIfInBounds_toArray, List.set_cons_zero, List.set_cons_succ, i64_w, i32_w]
      rfl
    refine last_ (i := 9) (N := none) #[true, true, true, true, true, true, true, true, true, true] rfl rfl (by kernel_rfl) (by decide) (fun K hK => ?_)
    refine skip_ (w1 := ?_) (by rfl) rfl ?_ ?_
    rotate_left
    · go_simp
      rfl
    refine hK.out _ _ ?_
    clear hK K
    refine done_ (by kernel_rfl) ?_
    go_wp2
    go_ret
    exact ⟨rfl, ((below_drew1 (pw_below_drewN HB6.out nd)).setCell (by exact HBS2.out) _), by rw [HVB.out]; exact HST.out⟩
end
end Go.Proofs.Ytomopjomapkmjaa.B

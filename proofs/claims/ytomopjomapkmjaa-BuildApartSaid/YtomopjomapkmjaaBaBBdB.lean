/- A text of this claim, what is not used left out. -/
import Derived.Test.YtomopjomapkmjaaBaBBdA
set_option linter.unusedVariables false
set_option linter.unusedSimpArgs false
namespace Go.Proofs.Ytomopjomapkmjaa.B
open Go Go.RowKit Go.Proofs.YtomopjomapkmjaaW.PrintWords Go.Proofs.YtomopjomapkmjaaW.PrintLast Go.Proofs.YtomopjomapkmjaaW.PrintMore
section
variable {base g : Nat} {ok : Nat → Prop} {w w0 w1 W : World} {V : BV} {nm : ByteArray} {pa rt at_ : Int} {vr vb vs : Value} {rg st : List Int} {bl : List (List S29)} {f : Nat → Nat}
def NoB (p : Value) (w : World) : Prop := p = .pointer none ∨ ∃ g nm pa rt vr vb c at_, p = .pointer (some ⟨g, 0, none⟩) ∧ w.heap[g]? = some (.cells #[.string nm, .int .i64 pa, .int .i64 rt, vr, vb, .slice none 0 c, .int .i64 at_] 64 (0, 0))
theorem NoB.below {p : Value} (h : NoB p w) (hb : Below w.heap.size w w1) : NoB p w1 := by
  rcases h with h | ⟨g, nm, pa, rt, vr, vb, c, at_, h, hc⟩
  · exact .inl h
  · exact .inr ⟨g, nm, pa, rt, vr, vb, c, at_, h, blk_below hc hb⟩
set_option maxHeartbeats 1000000 in
theorem made_at {n c : Nat} {A : Option Addr} (hc : w.heap[g]? = some (.cells #[.string nm, .int .i64 pa, .int .i64 rt, vr, vb, .slice A n c, .int .i64 at_] 64 (0, 0))) (hn : 0 < n) :
    Calls Try.prog 47 #[.pointer (some ⟨g, 0, none⟩)] w fun e w' => e = .returned (.bool true) ∧ w = w' := by
  have c5 := blk_cell hc 5
  simp only [List.getElem?_toArray, List.getElem?_cons_zero, List.getElem?_cons_succ] at c5
  have t1 : decide ((n : Int) > 0) = true := decide_eq_true (by omega)
  have t2 : decide (n > 0) = true := decide_eq_true (by omega)
  clear hc
  go_enter Try.func47, Try.ntmps47
  go_wp2
  go_ret
  exact ⟨rfl, rfl⟩
theorem NoB.drewN {p : Value} (h : NoB p w) (n : Nat) : NoB p (w.drewN n) := h
def openB (V : BV) : Bool := decide (V.st.getD V.at_.toNat 0 = 1)
def Fit (V : BV) : Prop := 0 ≤ V.at_ ∧ V.at_ < (V.st.length : Int) ∧ V.st.length = V.bl.length
theorem BAt.drewN (h : BAt base ok w g V) (n : Nat) : BAt base ok (w.drewN n) g V := h.below (pw_below_drewN (Below.refl _ _) n)
set_option maxHeartbeats 1000000 in
theorem Open_at (h : BAt base ok w g V) (hf : Fit V) : Calls Try.prog 26 #[.pointer (some ⟨g, 0, none⟩)] w fun e w' => e = .returned (.bool (openB V)) ∧ Drawn0 w w' := by
  obtain ⟨f0, f1, _⟩ := hf
  obtain ⟨h1, h2, h3, f, vr, vb, vs, hc, hr, hB, ht⟩ := h
  obtain ⟨As, cs, rfl⟩ := Kd.R_slice ht
  obtain ⟨qs, eqs, cq⟩ := Kd.at_int (Kd.R_reads' ht).2.2 V.at_ f0 f1
  subst eqs
  have hm := fun n => Calls.quiet_of_same (n := n) ((made_at (w := w.drewN n) hc (by omega)).mono fun _ _ ⟨a, b⟩ => ⟨a, b.symm⟩)
  have HM := Aside0.mk hm
  have c5 := blk_cell hc 5
  have c6 := blk_cell hc 6
  simp only [List.getElem?_toArray, List.getElem?_cons_zero, List.getElem?_cons_succ] at c5 c6
  have e0 : rd V.st V.at_ = V.st.getD V.at_.toNat 0 := rfl
  obtain ⟨x, hx⟩ : ∃ x, V.st.getD V.at_.toNat 0 = x := ⟨_, rfl⟩
  have ho : openB V = decide (x = 1) := by unfold openB; rw [hx]
  obtain ⟨o, eo⟩ : ∃ o, openB V = o := ⟨_, rfl⟩
  rw [eo]
  rw [eo] at ho
  rw [e0, hx] at cq
  clear e0 hx eo hm hc hr hB ht h1 h2 h3
  obtain ⟨t, et⟩ : ∃ t, V.at_ = t := ⟨_, rfl⟩
  obtain ⟨n, en⟩ : ∃ t, V.st.length = t := ⟨_, rfl⟩
  rw [et] at f0 f1 cq c6
  rw [en] at f1 c5
  clear et en
  by_cases e1 : x = 1
  · subst e1
    obtain rfl : o = true := by rw [ho]; rfl
    clear ho
    go_enter Try.func26, Try.ntmps26
    go_wp2
    go_quiet ((go_at_call 47; exact HM.out _))
    go_wp2
    go_ret
    exact ⟨rfl, ⟨nq, rfl⟩⟩
  · have t1 : decide (x = 1) = false := decide_eq_false e1
    have t2 : (x == 1) = false := beq_eq_false_iff_ne.mpr e1
    obtain rfl : o = false := ho.trans t1
    clear ho
    go_enter Try.func26, Try.ntmps26
    go_wp2
    go_quiet ((go_at_call 47; exact HM.out _))
    go_wp2
    go_ret
    exact ⟨rfl, ⟨nq, rfl⟩⟩
def kindB (k : Int) : Bool := decide (1 ≤ k) && decide (k ≤ 3)
set_option maxHeartbeats 1000000 in
theorem kind_at (k : Int) (w : World) : Calls Try.prog 40 #[.int .i64 k] w fun e w' => e = .returned (.bool (kindB k)) ∧ w = w' := by
  obtain ⟨o, eo⟩ : ∃ o, kindB k = o := ⟨_, rfl⟩
  rw [eo]
  by_cases h1 : 1 ≤ k
  · by_cases h2 : k ≤ 3
    · have t1 : decide (1 ≤ k) = true := decide_eq_true h1
      have t2 : decide (k ≤ 3) = true := decide_eq_true h2
      obtain rfl : o = true := by rw [← eo]; unfold kindB; rw [t1, t2]; rfl
      clear eo
      go_enter Try.func40, Try.ntmps40
      go_wp2
      go_ret
      exact ⟨rfl, rfl⟩
    · have t1 : decide (1 ≤ k) = true := decide_eq_true h1
      have t2 : decide (k ≤ 3) = false := decide_eq_false h2
      obtain rfl : o = false := by rw [← eo]; unfold kindB; rw [t1, t2]; rfl
      clear eo
      go_enter Try.func40, Try.ntmps40
      go_wp2
      go_ret
      exact ⟨rfl, rfl⟩
  · have t1 : decide (1 ≤ k) = false := decide_eq_false h1
    obtain rfl : o = false := by rw [← eo]; unfold kindB; rw [t1]; rfl
    clear eo
    go_enter Try.func40, Try.ntmps40
    go_wp2
    go_ret
    exact ⟨rfl, rfl⟩
theorem ret_i {a b : Int} (h : a = b) : Ending.returned (.int .i64 a) = .returned (.int .i64 b) := by rw [h]
set_option maxHeartbeats 2000000 in
theorem Reg_at (h : BAt base ok w g V) (hf : Fit V) (hb0 : Below base w0 w) (hbs : base ≤ w.heap.size) (hL : V.rg.length < 1000000) (k : Int) (hk : kindB k = true) :
    Calls Try.prog 16 #[.pointer (some ⟨g, 0, none⟩), .int .i64 k] w fun e w' => e = .returned (.int .i64 (V.rg.length : Int)) ∧ Below base w0 w' ∧ Turned base ok w w' g ⟨V.nm, V.pa, V.rt, V.rg ++ [k], V.bl, V.st, V.at_⟩ := by
  obtain ⟨f0, f1, _⟩ := hf
  obtain ⟨h1, h2, h3, f, vr, vb, vs, hc, hr, hB, ht⟩ := h
  obtain ⟨As, cs, rfl⟩ := Kd.R_slice ht
  obtain ⟨Ar, cr, rfl⟩ := Kd.R_slice hr
  have HM := Aside0.mk (made_at hc (show 0 < V.st.length by omega))
  have HK := Aside0.mk (kind_at k w)
  have AK := Aside0.mk hk
  have c3 := blk_cell hc 3
  simp only [List.getElem?_toArray, List.getElem?_cons_zero, List.getElem?_cons_succ] at c3
  have HE := Aside0.mk (fun (v1 : Value) (w1 : World) => bt_rg h1 h2 h3 hc hr hB ht (v1 := v1) (x1 := V.rg ++ [k]) (w1 := w1))
  have HR := Aside0.mk hr
  have HC := Aside0.mk hc
  have HN : Aside0 (some g ≠ (Value.slice Ar V.rg.length cr).ownBlock) := ⟨fun e => h2 (hr.1 g e.symm).1⟩
  have HB := Aside0.mk hb0
  have HS := Aside0.mk hbs
  have HG := Aside0.mk h1
  clear h1 h2 h3 hc hr hB ht f0 f1 hk hb0 hbs
  obtain ⟨rg, erg⟩ : ∃ r, V.rg = r := ⟨_, rfl⟩
  rw [erg] at HR HE c3 hL HN
  rw [erg]
  obtain ⟨x1, ex1⟩ : ∃ x, rg ++ [k] = x := ⟨_, rfl⟩
  have l1 : x1.length = rg.length + 1 := by rw [← ex1]; simp
  have l1a : (1 : Int) ≤ (x1.length : Int) := by omega
  have l1b : (x1.length : Int) ≤ 1000000 := by omega
  have L1 := Aside0.mk l1
  have EX := Aside0.mk ex1
  rw [ex1] at HE
  rw [ex1]
  clear ex1 l1 erg
  go_enter Try.func16, Try.ntmps16
  go_wp2_with (first | (go_at_call 47; ((with_reducible refine HM.out.mono ?_); rintro e w' ⟨rfl, rfl⟩)) | (go_at_call 40; ((with_reducible refine HK.out.mono ?_); rw [AK.out]; rintro e w' ⟨rfl, rfl⟩)) | ((with_reducible refine gate_builtin (b := .append) (xs := #[.tmp 19, .tmp 21]) rfl ?_); (try (refine gate_guard (by rfl) ?_; dsimp only)); at_builtin; refine Kd.R_append (Kd.int .i64) (w0 := w0) base rfl (.tmp 19) (.tmp 21) 22 3 (.int .i64 0) 8 rfl Try.underlying22 info3 rfl (by decide) (by omega) (.slice Ar rg.length cr) rg k [.int .i64 k] (fun k_ => (ok k_ ∧ f k_ = 0) ∨ w.heap.size ≤ k_) (fun _ => False) rfl rfl ?aP (fun _ hk => hk.elim) ?aF ?aO ?aB ?aS ?aL ?_; (case aP => exact rfl); (case aB => exact HB.out); (case aF => exact fun k_ hk => .inr hk); (case aO => exact Kd.R_mono HR.out (fun _ hk => .inl hk)); (case aS => exact HS.out); (case aL => omega); intro v1 w1 ho hb hg hat; rw [EX.out] at ho; obtain ⟨A1, c1_, rfl⟩ := Kd.R_slice ho; have hc1 := blk_grown HC.out hg HN.out; have k3 := blk_cell hc1 3; have z3 := blk_frozen hc1 3; simp only [List.getElem?_toArray, List.getElem?_cons_zero, List.getElem?_cons_succ] at k3; have HO := Aside0.mk ho; have HB1 := Aside0.mk hb; have HGr := Aside0.mk hg; clear ho hb hg hat hc1 c3))
  go_ret
  refine ⟨ret_i (by have := L1.out; omega), HB1.out.setCell (by exact HG.out) _, HE.out _ _ HO.out HGr.out HGr.out.size⟩
end
end Go.Proofs.Ytomopjomapkmjaa.B

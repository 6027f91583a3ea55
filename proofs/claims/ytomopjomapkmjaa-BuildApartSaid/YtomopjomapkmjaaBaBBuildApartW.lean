/- A text of this claim, what is not used left out. -/
import Derived.Test.YtomopjomapkmjaaBaBBdP
import Derived.Test.YtomopjomapkmjaaBaB6
import Derived.Test.YtomopjomapkmjaaBaB12
import Derived.OpenShut
import Derived.Outline
set_option linter.unusedVariables false
set_option linter.unusedSimpArgs false
namespace Go.Proofs.Ytomopjomapkmjaa.B
open Go Go.RowKit Go.Proofs.YtomopjomapkmjaaW.PrintWords Go.Proofs.YtomopjomapkmjaaW.PrintLast Go.Proofs.YtomopjomapkmjaaW.PrintMore Go.Proofs.Ytomopjomapkmjaa.Pure
theorem R_ints {base B : Nat} {W : World} {xs : List Int} (hb : base ≤ B) (hx : xs.length ≤ maxLen) (h : W.heap[B]? = some (.cells (xs.map (Value.int .i64)).toArray 3 (0, 0))) : (Kd.int .i64).R 3 W base (fun k => k = B) (.slice (some ⟨B, 0, none⟩) xs.length xs.length) xs := by
  refine ⟨fun k hk => ?_, xs.map (Value.int .i64), ⟨by simp [Kd.int, Kd.scalar], .inr ⟨B, xs.length, (xs.map (Value.int .i64)).toArray, rfl, hb, h, Nat.le_refl _, hx, by simp [Kd.int, Kd.scalar], List.take_of_length_le (by simp [Kd.int, Kd.scalar])⟩⟩, ⟨by simp [Kd.int, Kd.scalar], fun j p hj => ?_⟩⟩
  · have : B = k := by simpa [Value.ownBlock] using hk
    exact this.symm
  · have hjl := (List.getElem?_eq_some_iff.1 hj).1
    show ((xs.map (Value.int .i64)).drop (j * 1)).take 1 = [Value.int .i64 p]
    rw [Nat.mul_one, List.take_one, List.head?_drop, List.getElem?_map, hj]
    rfl
structure ApK (w W : World) (ok4 : Nat → Prop) (s5 sR b6 g qv q0 c0 qr cr cv : Nat) (Aa : Option Addr) (ca : Nat) (M : List Int) : Prop where
  bat : BAt w.heap.size ok4 W g (Vc M)
  box : W.heap[b6]? = some (.cells #[.string nmF, .int .i64 3, .int .i64 1, .slice (some ⟨qr, 0, none⟩) 3 cr, .slice (some ⟨qv, 0, none⟩) 1 cv] 32 (0, 0))
  row : W.cell? ⟨qv, 0, none⟩ = some (.slice (some ⟨q0, 0, none⟩) 2 c0)
  rowf : W.frozen? ⟨qv, 0, none⟩ = false
  arg : W.cell? ⟨q0, 8, none⟩ = some (.slice Aa M.length ca)
  regs : (Kd.int .i64).R 3 W s5 (fun k => s5 ≤ k ∧ k < sR ∧ k < b6) (.slice (some ⟨qr, 0, none⟩) 3 cr) [1, 1, 1]
  bel : Below w.heap.size w W
section
variable {w W W1 : World} {ok4 : Nat → Prop} {s5 sR b6 g qv q0 c0 qr cr cv : Nat} {Aa : Option Addr} {ca : Nat} {M : List Int}
theorem ApK.below (h : ApK w W ok4 s5 sR b6 g qv q0 c0 qr cr cv Aa ca M) (hb : Below W.heap.size W W1) : ApK w W1 ok4 s5 sR b6 g qv q0 c0 qr cr cv Aa ca M :=
  ⟨h.bat.below hb, blk_below h.box hb, (hb.cell (block_lt_of_cell h.row)).trans h.row, (hb.frozen (block_lt_of_cell h.row)).trans h.rowf, (hb.cell (block_lt_of_cell h.arg)).trans h.arg, Kd.R_below h.regs hb, below_step h.bel hb⟩
theorem cell_far {p a : Addr} (h : a.block ≠ p.block) (u : Value) : (W.setCell p u).cell? a = W.cell? a := World.cell?_of_block (Below.heap_setCell W p u a.block h)
theorem ApK.set (h : ApK w W ok4 s5 sR b6 g qv q0 c0 qr cr cv Aa ca M) {p : Addr} (hw : w.heap.size ≤ p.block) (h1 : ∀ k, k = g ∨ ok4 k → k ≠ p.block) (h2 : b6 ≠ p.block) (h3 : qv ≠ p.block) (h4 : q0 ≠ p.block) (h5 : ∀ k, s5 ≤ k ∧ k < sR ∧ k < b6 → k ≠ p.block) (u : Value) : ApK w (W.setCell p u) ok4 s5 sR b6 g qv q0 c0 qr cr cv Aa ca M :=
  ⟨h.bat.step (by simp) (fun k hk _ => Below.heap_setCell W p u k (h1 k hk)), blk_far h.box h2 u, (cell_far (a := ⟨qv, 0, none⟩) h3 u).trans h.row, by have e := Below.heap_setCell W p u qv h3; have := h.rowf; simpa [World.frozen?, e] using this, (cell_far (a := ⟨q0, 8, none⟩) h4 u).trans h.arg, Kd.R_far h.regs h5 u, h.bel.setCell hw u⟩
end
theorem mod3 (y : Int) : 0 ≤ wrap64 ((IntKind.u64.wrap y).tmod 3) ∧ wrap64 ((IntKind.u64.wrap y).tmod 3) < 3 := by
  have h : 0 ≤ IntKind.u64.wrap y := by simp [IntKind.wrap, IntKind.signed, IntKind.bits]; omega
  rw [Int.tmod_eq_emod_of_nonneg h]
  unfold wrap64
  omega
theorem BAt.off {base g s : Nat} {ok : Nat → Prop} {w w1 : World} {V : BV} (h : BAt base ok w g V) (hs : w.heap.size ≤ w1.heap.size) (hk : ∀ k, k = g ∨ ok k → k < s) (hm : ∀ k, k < s → k < w.heap.size → w1.heap[k]? = w.heap[k]?) : BAt base ok w1 g V :=
  h.step hs (fun k h1 h2 => hm k (hk k h1) h2)
set_option maxHeartbeats 16000000 in
set_option maxRecDepth 100000 in
theorem balustradelaw24_BuildApart.walk (A0 : Option Addr) (c0 : Nat) (l0 : List Int) (w : World) (hr0 : Kd.C (Kd.int .i64) w A0 l0.length l0) (hc0 : l0.length ≤ c0) :
    Calls Try.prog 3 #[.slice A0 l0.length c0] w fun e w' => e = .returned (.bool true) ∧ Below w.heap.size w w' := by
  have HR0 := Aside0.mk hr0
  have HC0 := Aside0.mk hc0
  have HB := Aside0.mk (Below.refl w.heap.size w)
  clear hr0 hc0
  by_cases h8 : l0.length ≤ 8
  rotate_left
  · have t1 : decide ((8 : Int) < (l0.length : Int)) = true := decide_eq_true (by omega)
    have t2 : decide (8 < l0.length) = true := decide_eq_true (by omega)
    go_enter Try.func3, Try.ntmps3
    go_wp2_with (go_at_call 10; ((refine (works_at _).mono ?_); rintro e w' ⟨rfl, hb⟩; replace HB := Aside0.mk (below_step HB.out hb); clear hb))
    go_ret
    exact ⟨rfl, HB.out⟩
  have t1 : decide ((8 : Int) < (l0.length : Int)) = false := decide_eq_false (by omega)
  have t2 : decide (8 < l0.length) = false := decide_eq_false (by omega)
  have H8 := Aside0.mk h8
  replace HB := Aside0.mk (below_alloc (Below.refl w.heap.size w) (.cells #[.int .i64 1, .int .i64 1, .int .i64 1] 3))
  have HC3 := Aside0.mk (Kd.R_reads' (R_ints (base := 0) (xs := [1, 1, 1]) (Nat.zero_le _) (by decide) (blk_new w (.cells #[.int .i64 1, .int .i64 1, .int .i64 1] 3)))).2.2
  have HS := Aside0.mk (show w.heap.size ≤ (w.alloc (.cells #[.int .i64 1, .int .i64 1, .int .i64 1] 3)).heap.size by simp)
  go_enter Try.func3, Try.ntmps3
  go_upto_region 4 with (go_at_call 11; ((refine (New_at (some ⟨w.heap.size, 0, none⟩) 3 nmF [1, 1, 1] 1 _ HC3.out (by decide) new_a).mono ?_); rintro e w1 ⟨g, ok, rfl, hBA, hb⟩; have HBA1 := Aside0.mk (BAt.lower (V := Va) hBA HS.out); have HB1 := Aside0.mk (below_step HB.out hb); clear hBA hb))
  have HOK : Aside0 (∀ k, k = g ∨ ok k → k < w1.heap.size) := ⟨fun k hk => by rcases hk with rfl | hk; exact HBA1.out.lt; exact (HBA1.out.2.2.1 k hk).2⟩
  obtain ⟨sN, esN⟩ : ∃ s, w1.heap.size = s := ⟨_, rfl⟩
  have ESN := Aside0.mk esN
  rw [esN] at HOK
  clear HB HC3 HS esN
  have HBA := Aside0.mk (HBA1.out.below (below_alloc (Below.refl _ _) (.cells #[] 3)))
  have HB := Aside0.mk (below_alloc HB1.out (.cells #[] 3))
  have HM : Aside0 ((Kd.int .i64).R 3 (w1.alloc (.cells #[] 3)) w.heap.size (fun k => sN ≤ k) (.slice (some ⟨w1.heap.size, 0, none⟩) 0 0) []) := ⟨Kd.R_mono (R_ints (xs := []) HB1.out.size (by decide) (blk_new w1 (.cells #[] 3))) (fun k hk => by have := ESN.out; show sN ≤ k; omega)⟩
  have HSZ : Aside0 (sN ≤ (w1.alloc (.cells #[] 3)).heap.size) := ⟨by have := ESN.out; simp; omega⟩
  go_wp2
  go_loopw [4, 5] (fun v4 v5 wr => ∃ (j : Nat) (M : List Int), v5 = .int .i64 (j : Int) ∧ Aside0 (j ≤ l0.length ∧ M.length = j ∧ ∀ x ∈ M, 0 ≤ x ∧ x < 3) ∧ Aside0 ((Kd.int .i64).R 3 wr w.heap.size (fun k => sN ≤ k) v4 M) ∧ Aside0 (BAt w.heap.size ok wr g Va) ∧ Aside0 (Below w.heap.size w wr) ∧ Aside0 (sN ≤ wr.heap.size)) (fun v4 v5 wr => l0.length - (intOf v5).toNat)
  case atStart => exact ⟨0, [], rfl, ⟨Nat.zero_le _, rfl, by simp⟩, ⟨HM.out⟩, ⟨HBA.out⟩, ⟨HB.out⟩, ⟨HSZ.out⟩⟩
  case round =>
    clear HM HBA HB HSZ HBA1 HB1 ESN
    obtain ⟨j, M, rfl, HJ, HM, HBA, HB, HSZ⟩ := hrel
    by_cases hlt : j < l0.length
    · have HLT := Aside0.mk hlt
      have s1 : decide ((j : Int) < (l0.length : Int)) = true := decide_eq_true (by omega)
      have s2 : decide (j < l0.length) = true := decide_eq_true hlt
      have p1 : (0 : Int) ≤ (j : Int) := by omega
      have p2 : (j : Int) < (l0.length : Int) := by omega
      have hwr : wrap64 ((j : Int) + 1) = ((j + 1 : Nat) : Int) := by have := H8.out; unfold wrap64; omega
      have HWR := Aside0.mk hwr
      clear hwr
      obtain ⟨q, eq_, cq⟩ := Kd.at_int (Kd.C_below HR0.out HB.out) (j : Int) p1 p2
      subst eq_
      (try simp only [Int.toNat_natCast] at cq)
      obtain ⟨y, hy⟩ : ∃ y, rd l0 (j : Int) = y := ⟨_, rfl⟩
      rw [hy] at cq
      clear hy
      obtain ⟨Am, cm, rfl⟩ := Kd.R_slice HM.out
      obtain ⟨z, hz⟩ : ∃ z, wrap64 ((IntKind.u64.wrap y).tmod 3) = z := ⟨_, rfl⟩
      have hz3 : 0 ≤ z ∧ z < 3 := by rw [← hz]; exact mod3 y
      have HZ3 := Aside0.mk hz3
      clear hz3
      go_wp2_with (first | ((with_reducible refine gate_builtin (b := .append) (xs := #[.tmp 25, .tmp 33]) rfl ?_); (try (refine gate_guard (by rfl) ?_; dsimp only)); at_builtin; refine Kd.R_append (Kd.int .i64) (w0 := w) w.heap.size rfl (.tmp 25) (.tmp 33) 22 3 (.int .i64 0) 8 rfl Try.underlying22 info3 rfl (by decide) (by omega) (.slice Am M.length cm) M z [.int .i64 z] (fun k => sN ≤ k) (fun _ => False) rfl rfl ?aP (fun _ hk => hk.elim) ?aF ?aO ?aB ?aS ?aL ?_; (case aP => exact rfl); (case aB => exact HB.out); (case aF => exact fun k hk => Nat.le_trans HSZ.out hk); (case aO => exact HM.out); (case aS => exact HB.out.size); (case aL => have := HJ.out.2.1; have := HJ.out.1; have := H8.out; omega); intro v1 w5 ho hb hg hat; have HO5 := Aside0.mk ho; have HB5 := Aside0.mk hb; have HSZ5 := Aside0.mk (Nat.le_trans HSZ.out hg.size); have HBA5 := Aside0.mk (HBA.out.off hg.size HOK.out (fun k hk hlt => hg.block k hlt (fun e => by have := HM.out.1 k e.symm; omega))); clear ho hb hg hat))
      go_roundw
      case rel => exact ⟨j + 1, M ++ [z], by first | (rw [HWR.out]; done) | (rw [HWR.out]) | go_num, ⟨by have := HLT.out; omega, by rw [List.length_append, HJ.out.2.1]; rfl, fun x hx => by rcases List.mem_append.1 hx with hx | hx; exact HJ.out.2.2 x hx; rw [List.mem_singleton] at hx; rw [hx]; exact HZ3.out⟩, ⟨HO5.out⟩, ⟨HBA5.out⟩, ⟨HB5.out⟩, ⟨HSZ5.out⟩⟩
      case measure => exact bd_meas _ _ _ (by first | exact HWR.out | omega) HLT.out
    have s1 : decide ((j : Int) < (l0.length : Int)) = false := decide_eq_false (by omega)
    have s2 : decide (j < l0.length) = false := decide_eq_false hlt
    have HMM : Aside0 (M.length ≤ 8 ∧ ∀ x ∈ M, 0 ≤ x ∧ x < 3) := ⟨by have := HJ.out.1; have := HJ.out.2.1; have := H8.out; omega, HJ.out.2.2⟩
    clear HJ HR0 HC0 H8
    obtain ⟨Am, cm, rfl⟩ := Kd.R_slice HM.out
    obtain ⟨kS, hS⟩ := (sameInts_ev M (by have := HMM.out.1; omega)).rounds
    have HSA := Aside0.mk hS
    clear hS
    obtain ⟨W2, hW2⟩ : ∃ q, q = wr := ⟨_, rfl⟩
    subst hW2
    obtain ⟨s2, es2⟩ : ∃ s, W2.heap.size = s := ⟨_, rfl⟩
    have HM2 : Aside0 ((Kd.int .i64).R 3 W2 w.heap.size (fun k => sN ≤ k ∧ k < s2) (.slice Am M.length cm) M) := ⟨Kd.R_mono (Kd.R_bound HM.out) (fun k hk => ⟨hk.1, by rw [← es2]; exact hk.2.2.1⟩)⟩
    have ES2 := Aside0.mk es2
    have HS2 : Aside0 (sN ≤ s2) := ⟨by have := HSZ.out; omega⟩
    clear es2 HM
    go_upto_region 10 with (go_at_call 12; ((refine (Put_at (V := Va) HBA.out fit_a (by decide) (xc M) Am cm (by have := HMM.out.1; show M.length ≤ 1000; omega) (Kd.R_reads' HM2.out).2.2 (Kd.R_reads' HM2.out).2.1 HB.out HB.out.size (by decide) (put_c M HMM.out.1 HMM.out.2) false (end_c M)).mono ?_); rintro e w3 ⟨rfl, hb, hk, ok3, hok, hBA⟩; have HBA3 : Aside0 (BAt w.heap.size ok3 w3 g (Vb M)) := ⟨hBA⟩; have HB3 := Aside0.mk hb; have HOK3 : Aside0 (∀ k, k = g ∨ ok3 k → k < sN ∨ s2 ≤ k) := ⟨fun k hk => by rcases hk with rfl | hk; exact .inl (HOK.out _ (.inl rfl)); rcases hok k hk with h | h; exact .inl (HOK.out k (.inr h)); exact .inr (ES2.out ▸ h)⟩; have HM3 : Aside0 ((Kd.int .i64).R 3 w3 w.heap.size (fun k => sN ≤ k ∧ k < s2) (.slice Am M.length cm) M) := ⟨Kd.R_kept HM2.out hk (fun k h1 h2 => by have := HOK.out k h2; omega)⟩; have HZ3 := Aside0.mk (ES2.out ▸ hk.1); clear hb hk hok hBA HBA HB HM2))
    go_upto_region 11 with (go_at_call 12; ((refine (Put_at (V := Vb M) HBA3.out (fit_b M) ⟨by show 3 < 1000000; omega, by show 1 < 1000000; omega⟩ xr none 0 (by decide) (Kd.C_nil _ _) (Nat.le_refl _) HB3.out HB3.out.size (by show 1 < 1000000; omega) (put_r M) true end_r).mono ?_); rintro e w4 ⟨rfl, hb, hk, ok4, hok, hBA⟩; have HBA4 : Aside0 (BAt w.heap.size ok4 w4 g (Vc M)) := ⟨hBA⟩; have HB4 := Aside0.mk hb; have HOK4 : Aside0 (∀ k, k = g ∨ ok4 k → k < sN ∨ s2 ≤ k) := ⟨fun k hk => by rcases hk with rfl | hk; exact .inl (HOK.out _ (.inl rfl)); rcases hok k hk with h | h; exact HOK3.out k (.inr h); exact .inr (Nat.le_trans HZ3.out h)⟩; have HM4 : Aside0 ((Kd.int .i64).R 3 w4 w.heap.size (fun k => sN ≤ k ∧ k < s2) (.slice Am M.length cm) M) := ⟨Kd.R_kept HM3.out hk (fun k h1 h2 => by have := HOK3.out k h2; omega)⟩; have HZ4 := Aside0.mk (Nat.le_trans HZ3.out hk.1); clear hb hk hok hBA HBA3 HB3 HM3))
    obtain ⟨s5, es5⟩ : ∃ s, w4.heap.size = s := ⟨_, rfl⟩
    have HK4 : Aside0 (∀ k, k = g ∨ ok4 k → (k < sN ∨ s2 ≤ k) ∧ k < s5) := ⟨fun k hk => ⟨HOK4.out k hk, by rw [← es5]; rcases hk with rfl | hk; exact HBA4.out.lt; exact (HBA4.out.2.2.1 k hk).2⟩⟩
    have HS5 : Aside0 (s2 ≤ s5 ∧ w.heap.size ≤ s5) := ⟨by rw [← es5]; exact ⟨HZ4.out, HB4.out.size⟩⟩
    have ES5 := Aside0.mk es5
    clear HOK HOK3 HOK4 HZ3 HZ4 es5 HSZ ES2
    go_upto_region 12 with (go_at_call 13; ((refine (Func_at (V := Vc M) HBA4.out (fit_c M) (done_c M) (len_c M HMM.out.1)).mono ?_); rintro e w5 ⟨vr, vb, sR, he, hr, hS, hb⟩; rw [ES5.out] at hr hS; obtain ⟨qv, cv, rfl, _, _, cellsv, hqv⟩ := Kd.S_form hS (show 0 < 1 by omega); obtain ⟨qr, cr, rfl, hqr5, _, cellsr, hqr⟩ := Kd.R_form hr (show 0 < 3 by omega); obtain rfl : e = .returned (.tuple #[.agg #[.string nmF, .int .i64 3, .int .i64 1, .slice (some ⟨qr, 0, none⟩) 3 cr, .slice (some ⟨qv, 0, none⟩) 1 cv], .bool true]) := he; have HRR : Aside0 ((Kd.int .i64).R 3 w5 s5 (fun k => k < sR) (.slice (some ⟨qr, 0, none⟩) 3 cr) [1, 1, 1]) := ⟨hr⟩; have HSS : Aside0 (Kd.S kB 35 w5 s5 (fun k => sR ≤ k) (.slice (some ⟨qv, 0, none⟩) 1 cv) [[xc M, xr]]) := ⟨hS⟩; have HBA5 := Aside0.mk (HBA4.out.below hb); have HB5 := Aside0.mk (below_step HB4.out hb); have HM5 := Aside0.mk (Kd.R_below HM4.out hb); clear hr hS hb HBA4 HB4 HM4 hqv hqr hqr5))
    obtain ⟨okS, cE, hclS, hMS, hccS, hfrS, hokS, _⟩ := Kd.S_elem HSS.out [] 0 (by omega) (by show (0 : Int) < (1 : Int); omega)
    obtain ⟨ve, hce, hR0⟩ := hMS
    subst hce
    have hR0' : k29.R 29 w5 s5 okS ve [xc M, xr] := hR0
    obtain ⟨q0, c0_, rfl, hq0b, hq0l, _⟩ := Kd.R_form hR0' (show 0 < 2 by omega)
    have hrow := hccS 0 _ rfl
    have hrowf := hfrS 0
    obtain ⟨cI, hclI, hMI, hccI, _⟩ := Kd.R_elem hR0' (xc M) 0 (by omega) (by show (0 : Int) < (2 : Int); omega)
    obtain ⟨va, hcI, hRA⟩ := k29_openM hMI
    subst hcI
    have hRA' : (Kd.int .i64).R 3 w5 s5 (fun k => okS k ∧ k ≠ q0) va M := hRA
    obtain ⟨Aa, ca, rfl⟩ := Kd.R_slice hRA'
    have harg := hccI 8 _ rfl
    have hrow' : w5.cell? ⟨qv, 0, none⟩ = some (.slice (some ⟨q0, 0, none⟩) 2 c0_) := hrow
    have hrowf' : w5.frozen? ⟨qv, 0, none⟩ = false := hrowf
    have harg' : w5.cell? ⟨q0, 8, none⟩ = some (.slice Aa M.length ca) := harg
    have hq0 := hokS q0 (hR0'.1 q0 rfl)
    have hqv : sR ≤ qv := (Kd.S_R HSS.out).1 qv rfl
    have HQ : Aside0 (s5 ≤ q0 ∧ s5 ≤ qv ∧ q0 ≠ qv ∧ sR ≤ q0 ∧ sR ≤ qv ∧ q0 < w5.heap.size ∧ qv < w5.heap.size ∧ s5 ≤ w5.heap.size) := ⟨hq0b, Kd.S_base HSS.out qv rfl, hq0.2, hq0.1, hqv, hq0l, Kd.S_lt HSS.out qv rfl, by have := HB5.out.size; have := hq0b; omega⟩
    have HAR : Aside0 ((Kd.int .i64).R 3 w5 s5 (fun k => sR ≤ k ∧ s5 ≤ k ∧ k < w5.heap.size ∧ k ≠ qv ∧ k ≠ q0) (.slice Aa M.length ca) M) := ⟨Kd.R_mono (Kd.R_bound hRA') (fun k hk => ⟨(hokS k hk.1.1).1, hk.2.1, hk.2.2.1, (hokS k hk.1.1).2, hk.1.2⟩)⟩
    have HRR2 : Aside0 ((Kd.int .i64).R 3 w5 s5 (fun k => s5 ≤ k ∧ k < sR ∧ k < w5.heap.size) (.slice (some ⟨qr, 0, none⟩) 3 cr) [1, 1, 1]) := ⟨Kd.R_mono (Kd.R_bound HRR.out) (fun k hk => ⟨hk.2.1, hk.1, hk.2.2.1⟩)⟩
    have HAP : Aside0 (ApK w (w5.alloc (.cells #[.string nmF, .int .i64 3, .int .i64 1, .slice (some ⟨qr, 0, none⟩) 3 cr, .slice (some ⟨qv, 0, none⟩) 1 cv] 32)) ok4 s5 sR w5.heap.size g qv q0 c0_ qr cr cv Aa ca M) := ⟨⟨HBA5.out.below (below_alloc (Below.refl _ _) _), blk_new w5 _, ((below_alloc (Below.refl _ _) _).cell (block_lt_of_cell hrow')).trans hrow', ((below_alloc (Below.refl _ _) _).frozen (block_lt_of_cell hrow')).trans hrowf', ((below_alloc (Below.refl _ _) _).cell (block_lt_of_cell harg')).trans harg', Kd.R_alloc HRR2.out _, below_alloc HB5.out _⟩⟩
    have HM6 := Aside0.mk (Kd.R_alloc HM5.out (.cells #[.string nmF, .int .i64 3, .int .i64 1, .slice (some ⟨qr, 0, none⟩) 3 cr, .slice (some ⟨qv, 0, none⟩) 1 cv] 32))
    have HA6 := Aside0.mk (Kd.R_alloc HAR.out (.cells #[.string nmF, .int .i64 3, .int .i64 1, .slice (some ⟨qr, 0, none⟩) 3 cr, .slice (some ⟨qv, 0, none⟩) 1 cv] 32))
    have HZ6 : Aside0 (w5.heap.size < (w5.alloc (.cells #[.string nmF, .int .i64 3, .int .i64 1, .slice (some ⟨qr, 0, none⟩) 3 cr, .slice (some ⟨qv, 0, none⟩) 1 cv] 32)).heap.size) := ⟨by simp⟩
    generalize w5.alloc (.cells #[.string nmF, .int .i64 3, .int .i64 1, .slice (some ⟨qr, 0, none⟩) 3 cr, .slice (some ⟨qv, 0, none⟩) 1 cv] 32) = W6 at HAP HM6 HA6 HZ6 ⊢
    obtain ⟨b6, eb6⟩ : ∃ s, w5.heap.size = s := ⟨_, rfl⟩
    rw [eb6] at HQ HAP HA6 HZ6
    simp only [eb6]
    clear HSS HRR HRR2 HBA5 HB5 HM5 HAR hR0 hR0' hrow hrowf hMI hccI hRA hRA' harg hrow' hrowf' harg' hq0 hq0b hq0l hqv hccS hfrS hokS hclS hclI eb6 ES5
    have b3 := blk_cell HAP.out.box 3
    have b4 := blk_cell HAP.out.box 4
    simp only [List.getElem?_toArray, List.getElem?_cons_zero, List.getElem?_cons_succ] at b3 b4
    have b5 := HAP.out.row
    have b6_ := HAP.out.arg
    go_upto_region 14 with (go_at_call 14; ((with_reducible refine (balustradebase_SameInts.calls kS Aa ca M Am cm M true _ (Kd.R_reads' HA6.out).2.2 (Kd.R_reads' HA6.out).2.1 (Kd.R_reads' HM6.out).2.2 (Kd.R_reads' HM6.out).2.1 HSA.out).mono ?_); rintro e w7 ⟨rfl, hd⟩; have hb := hd.below; have HAP7 := Aside0.mk (HAP.out.below hb); have HM7 := Aside0.mk (Kd.R_below HM6.out hb); have HA7 := Aside0.mk (Kd.R_below HA6.out hb); have HZ7 := Aside0.mk (Nat.lt_of_lt_of_le HZ6.out hb.size); clear hb hd HAP HM6 HA6 HZ6))
    have HIN : Aside0 (balustradebase_Ints.f M = some M) := ⟨by show (if ([] : List Int).length + M.length < 17592186044416 then some ([] ++ M) else none) = some M; rw [if_pos (by have := HMM.out.1; simp; omega)]; rfl⟩
    go_upto_region 15 with (go_at_call 15; ((with_reducible refine (balustradebase_Ints.calls Am cm M M _ (Kd.R_reads' HM7.out).2.2 (Kd.R_reads' HM7.out).2.1 HIN.out).mono ?_); rintro e w8 ⟨v_, rfl, hR_, hb⟩; obtain ⟨Aw, cw, rfl⟩ := Kd.R_slice hR_; have HWA := Aside0.mk (Kd.R_mono (Kd.R_bound hR_) (fun k hk => Nat.lt_of_lt_of_le HZ7.out hk.2.1)); have HAP8 := Aside0.mk (HAP7.out.below hb); have HM8 := Aside0.mk (Kd.R_below HM7.out hb); have HA8 := Aside0.mk (Kd.R_below HA7.out hb); have HB7 := Aside0.mk (HAP7.out.bel.size); clear hb hR_ HM7 HA7 HZ7))
    have HW8 : Aside0 ((Kd.int .i64).R 3 w8 w.heap.size (fun k => b6 < k) (.slice Aw M.length cw) M) := ⟨Kd.R_lower HWA.out HB7.out⟩
    clear HWA HB7 HAP7 b3 b4 b5 b6_
    go_wp2
    go_loopw [9] (fun v9 wr => ∃ (j : Nat) (N1 N2 : List Int), v9 = .int .i64 (j : Int) ∧ Aside0 (j ≤ M.length ∧ N1.length = M.length ∧ N2.length = M.length) ∧ Aside0 (ApK w wr ok4 s5 sR b6 g qv q0 c0_ qr cr cv Aa ca M) ∧ Aside0 ((Kd.int .i64).R 3 wr w.heap.size (fun k => sN ≤ k ∧ k < s2) (.slice Am M.length cm) N1) ∧ Aside0 ((Kd.int .i64).R 3 wr s5 (fun k => sR ≤ k ∧ s5 ≤ k ∧ k < b6 ∧ k ≠ qv ∧ k ≠ q0) (.slice Aa M.length ca) N2) ∧ Aside0 ((Kd.int .i64).R 3 wr w.heap.size (fun k => b6 < k) (.slice Aw M.length cw) M)) (fun v9 wr => M.length - (intOf v9).toNat)
    case atStart => exact ⟨0, M, M, rfl, ⟨Nat.zero_le _, rfl, rfl⟩, ⟨HAP8.out⟩, ⟨HM8.out⟩, ⟨HA8.out⟩, ⟨HW8.out⟩⟩
    case round =>
      clear HAP8 HM8 HA8 HW8
      obtain ⟨j, N1, N2, rfl, HJ, HAP, HM, HA, HW⟩ := hrel
      by_cases hjt : j < M.length
      · have HJT := Aside0.mk hjt
        have u1 : decide ((j : Int) < (M.length : Int)) = true := decide_eq_true (by omega)
        have u2 : decide (j < M.length) = true := decide_eq_true hjt
        have p1 : (0 : Int) ≤ (j : Int) := by omega
        have p2 : (j : Int) < (M.length : Int) := by omega
        have hwr : wrap64 ((j : Int) + 1) = ((j + 1 : Nat) : Int) := by have := HMM.out.1; unfold wrap64; omega
        have HWR := Aside0.mk hwr
        clear hwr
        obtain ⟨qm, cm2, eM, _, _, cellsm, hqm⟩ := Kd.R_form HM.out (by have := HJ.out.2.1; omega)
        obtain ⟨qa, ca2, eA, _, _, cellsa, hqa⟩ := Kd.R_form HA.out (by have := HJ.out.2.2; omega)
        injection eM with eM1 eM2 eM3
        injection eA with eA1 eA2 eA3
        subst eM1 eA1
        clear eM2 eM3 eA2 eA3
        have hm := HM.out.1 qm rfl
        have ha := HA.out.1 qa rfl
        obtain ⟨y1, em, cm1⟩ := Kd.at_int (Kd.R_reads' HM.out).2.2 (j : Int) p1 (by have := HJ.out.2.1; omega)
        injection em with em
        subst em
        rw [add_plain, Int.toNat_natCast] at cm1
        have zm := blk_frozen hqm j
        obtain ⟨y2, ea, ca1⟩ := Kd.at_int (Kd.R_reads' HA.out).2.2 (j : Int) p1 (by have := HJ.out.2.2; omega)
        injection ea with ea
        subst ea
        rw [add_plain, Int.toNat_natCast] at ca1
        have za := blk_frozen hqa j
        have hne : qm ≠ qa := by have := HS5.out.1; omega
        have HX1 : Aside0 (ApK w ((wr.setCell ⟨qm, j, none⟩ (.int .i64 9)).setCell ⟨qa, j, none⟩ (.int .i64 8)) ok4 s5 sR b6 g qv q0 c0_ qr cr cv (some ⟨qa, 0, none⟩) ca M) := ⟨(HAP.out.set (p := ⟨qm, j, none⟩) (Kd.R_base HM.out qm rfl) (fun k hk => by have := HK4.out k hk; show k ≠ qm; omega) (by have := HS5.out; have := HQ.out; show b6 ≠ qm; omega) (by have := HS5.out; have := HQ.out; show qv ≠ qm; omega) (by have := HS5.out; have := HQ.out; show q0 ≠ qm; omega) (fun k hk => by have := HS5.out; show k ≠ qm; omega) _).set (p := ⟨qa, j, none⟩) (by have := HS5.out; show w.heap.size ≤ qa; omega) (fun k hk => by have := HK4.out k hk; show k ≠ qa; omega) (by show b6 ≠ qa; omega) (fun e => ha.2.2.2.1 e.symm) (fun e => ha.2.2.2.2 e.symm) (fun k hk => by show k ≠ qa; omega) _⟩
        have hpm := (Kd.R_putg HM.out (j : Int) 9).1
        have hpa := (Kd.R_putg (Kd.R_far HA.out (p := ⟨qm, j, none⟩) (fun k hk => by have := HS5.out; show k ≠ qm; omega) (.int .i64 9)) (j : Int) 8).1
        rw [Int.toNat_natCast] at hpm hpa
        have HX2 : Aside0 ((Kd.int .i64).R 3 ((wr.setCell ⟨qm, j, none⟩ (.int .i64 9)).setCell ⟨qa, j, none⟩ (.int .i64 8)) w.heap.size (fun k => sN ≤ k ∧ k < s2) (.slice (some ⟨qm, 0, none⟩) M.length cm) (N1.set j 9)) := ⟨Kd.R_far hpm (p := ⟨qa, j, none⟩) (fun k hk => by have := HS5.out; show k ≠ qa; omega) _⟩
        have HX3 := Aside0.mk hpa
        have HX4 : Aside0 ((Kd.int .i64).R 3 ((wr.setCell ⟨qm, j, none⟩ (.int .i64 9)).setCell ⟨qa, j, none⟩ (.int .i64 8)) w.heap.size (fun k => b6 < k) (.slice Aw M.length cw) M) := ⟨Kd.R_far (Kd.R_far HW.out (p := ⟨qm, j, none⟩) (fun k hk => by have := HS5.out; have := HQ.out; show k ≠ qm; omega) _) (p := ⟨qa, j, none⟩) (fun k hk => by show k ≠ qa; omega) _⟩
        have hbx : b6 ≠ qm := by have := HS5.out; have := HQ.out; omega
        have hbv : qv ≠ qm := by have := HS5.out; have := HQ.out; omega
        have hb0 : q0 ≠ qm := by have := HS5.out; have := HQ.out; omega
        have g1 : (wr.setCell ⟨qm, j, none⟩ (.int .i64 9)).cell? ⟨b6, 4, none⟩ = some (.slice (some ⟨qv, 0, none⟩) 1 cv) := (cell_far (a := ⟨b6, 4, none⟩) hbx _).trans ((blk_cell HAP.out.box 4).trans rfl)
        have g2 : (wr.setCell ⟨qm, j, none⟩ (.int .i64 9)).cell? ⟨qv, 0, none⟩ = some (.slice (some ⟨q0, 0, none⟩) 2 c0_) := (cell_far (a := ⟨qv, 0, none⟩) hbv _).trans HAP.out.row
        have g3 : (wr.setCell ⟨qm, j, none⟩ (.int .i64 9)).cell? ⟨q0, 8, none⟩ = some (.slice (some ⟨qa, 0, none⟩) M.length ca) := (cell_far (a := ⟨q0, 8, none⟩) hb0 _).trans HAP.out.arg
        have g4 : (wr.setCell ⟨qm, j, none⟩ (.int .i64 9)).cell? ⟨qa, j, none⟩ = some (.int .i64 (rd N2 (j : Int))) := (cell_far (a := ⟨qa, j, none⟩) (Ne.symm hne) _).trans ca1
        have g5 : (wr.setCell ⟨qm, j, none⟩ (.int .i64 9)).frozen? ⟨qa, j, none⟩ = false := by have e := Below.heap_setCell wr ⟨qm, j, none⟩ (.int .i64 9) qa (Ne.symm hne); simpa [World.frozen?, e] using za
        clear HAP HM HA HW hpm hpa ca1 za hqm hqa hm ha
        go_upto_region 19 with (fail)
        generalize wr.setCell ⟨qm, j, none⟩ (.int .i64 9) = W9 at HX1 HX2 HX3 HX4 g1 g2 g3 g4 g5 ⊢
        go_wp2
        go_roundw
        case rel => exact ⟨j + 1, N1.set j 9, N2.set j 8, by first | (rw [HWR.out]; done) | (rw [HWR.out]) | go_num, ⟨by have := HJT.out; omega, by rw [List.length_set]; exact HJ.out.2.1, by rw [List.length_set]; exact HJ.out.2.2⟩, ⟨HX1.out⟩, ⟨HX2.out⟩, ⟨HX3.out⟩, ⟨HX4.out⟩⟩
        case measure => exact bd_meas _ _ _ (by first | exact HWR.out | omega) HJT.out
      have u1 : decide ((j : Int) < (M.length : Int)) = false := decide_eq_false (by omega)
      have u2 : decide (j < M.length) = false := decide_eq_false hjt
      have b3 := blk_cell HAP.out.box 3
      have b4 := blk_cell HAP.out.box 4
      simp only [List.getElem?_toArray, List.getElem?_cons_zero, List.getElem?_cons_succ] at b3 b4
      have b5 := HAP.out.row
      have b5f := HAP.out.rowf
      clear HM HA HJ
      have Y1 : Aside0 (BAt w.heap.size ok4 (wr.setCell ⟨qv, 0, none⟩ (.slice none 0 0)) g (Vc M)) := ⟨HAP.out.bat.step (by simp) (fun k hk _ => Below.heap_setCell wr ⟨qv, 0, none⟩ _ k (by have := HK4.out k hk; have := HQ.out; show k ≠ qv; omega))⟩
      have Y2 : Aside0 ((wr.setCell ⟨qv, 0, none⟩ (.slice none 0 0)).heap[b6]? = some (.cells #[.string nmF, .int .i64 3, .int .i64 1, .slice (some ⟨qr, 0, none⟩) 3 cr, .slice (some ⟨qv, 0, none⟩) 1 cv] 32 (0, 0))) := ⟨blk_far HAP.out.box (p := ⟨qv, 0, none⟩) (by have := HQ.out; show b6 ≠ qv; omega) _⟩
      have Y3 : Aside0 ((Kd.int .i64).R 3 (wr.setCell ⟨qv, 0, none⟩ (.slice none 0 0)) s5 (fun k => s5 ≤ k ∧ k < sR ∧ k < b6) (.slice (some ⟨qr, 0, none⟩) 3 cr) [1, 1, 1]) := ⟨Kd.R_far HAP.out.regs (p := ⟨qv, 0, none⟩) (fun k hk => by have := HQ.out; show k ≠ qv; omega) _⟩
      have Y4 : Aside0 ((Kd.int .i64).R 3 (wr.setCell ⟨qv, 0, none⟩ (.slice none 0 0)) w.heap.size (fun k => b6 < k) (.slice Aw M.length cw) M) := ⟨Kd.R_far HW.out (p := ⟨qv, 0, none⟩) (fun k hk => by have := HQ.out; show k ≠ qv; omega) _⟩
      have Y5 : Aside0 (Below w.heap.size w (wr.setCell ⟨qv, 0, none⟩ (.slice none 0 0))) := ⟨HAP.out.bel.setCell (by have := HQ.out; have := HS5.out; show w.heap.size ≤ qv; omega) _⟩
      clear HAP HW
      go_upto_region 21 with (fail)
      generalize wr.setCell ⟨qv, 0, none⟩ (.slice none 0 0) = W10 at Y1 Y2 Y3 Y4 Y5 ⊢
      clear b3 b4 b5 b5f
      have b3 := blk_cell Y2.out 3
      simp only [List.getElem?_toArray, List.getElem?_cons_zero, List.getElem?_cons_succ] at b3
      obtain ⟨cellsr, hqr⟩ := Kd.R_typed Y3.out qr rfl
      have zr := blk_frozen hqr 0
      obtain ⟨y1, ey, cr0⟩ := Kd.at_int (Kd.R_reads' Y3.out).2.2 0 (by decide) (by decide)
      injection ey with ey
      subst ey
      have cr1 : W10.cell? ⟨qr, 0, none⟩ = some (.int .i64 1) := cr0
      have hr5 := Y3.out.1 qr rfl
      have Z1 : Aside0 (BAt w.heap.size ok4 (W10.setCell ⟨qr, 0, none⟩ (.int .i64 7)) g (Vc M)) := ⟨Y1.out.step (by simp) (fun k hk _ => Below.heap_setCell W10 ⟨qr, 0, none⟩ _ k (by have := HK4.out k hk; show k ≠ qr; omega))⟩
      have Z4 : Aside0 ((Kd.int .i64).R 3 (W10.setCell ⟨qr, 0, none⟩ (.int .i64 7)) w.heap.size (fun k => b6 < k) (.slice Aw M.length cw) M) := ⟨Kd.R_far Y4.out (p := ⟨qr, 0, none⟩) (fun k hk => by show k ≠ qr; omega) _⟩
      have Z5 : Aside0 (Below w.heap.size w (W10.setCell ⟨qr, 0, none⟩ (.int .i64 7))) := ⟨Y5.out.setCell (by have := HS5.out; show w.heap.size ≤ qr; omega) _⟩
      clear Y1 Y2 Y3 Y4 Y5 hqr cr0 hr5
      go_upto_region 22 with (fail)
      generalize W10.setCell ⟨qr, 0, none⟩ (.int .i64 7) = W11 at Z1 Z4 Z5 ⊢
      clear b3 zr cr1
      go_upto_region 23 with (go_at_call 16; ((refine (Reg_at (V := Vc M) Z1.out (fit_c M) Z5.out Z5.out.size (by show 3 < 1000000; omega) 2 k2_).mono ?_); rintro e w12 ⟨he, hb, hk, ok5, hok, hBA⟩; obtain rfl : e = .returned (.int .i64 3) := he; have X1 : Aside0 (BAt w.heap.size ok5 w12 g (Vd M)) := ⟨hBA⟩; have X5 := Aside0.mk hb; have X4 : Aside0 ((Kd.int .i64).R 3 w12 w.heap.size (fun k => b6 < k) (.slice Aw M.length cw) M) := ⟨Kd.R_kept Z4.out hk (fun k h1 h2 => by have h3 := (HK4.out k h2).2; have h4 := HQ.out.2.2.2.2.2.2.2; have h5 : b6 < k := h1; omega)⟩; clear hb hk hok hBA Z1 Z4 Z5))
      go_upto_region 24 with (go_at_call 13; ((refine (Func_at (V := Vd M) X1.out (fit_d M) (done_d M) (len_d M HMM.out.1)).mono ?_); rintro e w13 ⟨vr, vb, sR2, he, hr, hS, hb⟩; obtain ⟨qv2, cv2, rfl, _, _, _⟩ := Kd.S_form hS (show 0 < 1 by omega); obtain ⟨qr2, cr2, rfl, _, _, _⟩ := Kd.R_form hr (show 0 < 4 by omega); obtain rfl : e = .returned (.tuple #[.agg #[.string nmF, .int .i64 3, .int .i64 1, .slice (some ⟨qr2, 0, none⟩) 4 cr2, .slice (some ⟨qv2, 0, none⟩) 1 cv2], .bool true]) := he; have HRR : Aside0 ((Kd.int .i64).C w13 (some ⟨qr2, 0, none⟩) 4 [1, 1, 1, 2] ∧ 4 ≤ cr2) := ⟨(Kd.R_reads' hr).2.2, (Kd.R_reads' hr).2.1⟩; have HSS := Aside0.mk hS; have HB5 := Aside0.mk (below_step X5.out hb); have HW5 := Aside0.mk (Kd.R_below X4.out hb); clear hr hS hb X1 X4 X5))
      obtain ⟨okS, cE, _, hMS, hccS, _, _, _⟩ := Kd.S_elem HSS.out [] 0 (by decide) (by show (0 : Int) < (1 : Int); omega)
      obtain ⟨ve, hce, hR0⟩ := hMS
      subst hce
      have hR0' : k29.R 29 w13 w12.heap.size okS ve [xc M, xr] := hR0
      obtain ⟨q02, c02, rfl, _, _, _⟩ := Kd.R_form hR0' (show 0 < 2 by omega)
      have hc1 := hccS 0 _ rfl
      obtain ⟨cI, _, hMI, hccI, _⟩ := Kd.R_elem hR0' (xc M) 0 (by decide) (by show (0 : Int) < (2 : Int); omega)
      obtain ⟨va, hcI, hRA⟩ := k29_openM hMI
      subst hcI
      have hRA' : (Kd.int .i64).R 3 w13 w12.heap.size (fun k => okS k ∧ k ≠ q02) va M := hRA
      obtain ⟨A2, c2_, rfl⟩ := Kd.R_slice hRA'
      have hx8 := hccI 8 _ rfl
      have hd1 : w13.cell? ⟨qv2, 0, none⟩ = some (.slice (some ⟨q02, 0, none⟩) 2 c02) := hc1
      have hd8 : w13.cell? ⟨q02, 8, none⟩ = some (.slice A2 M.length c2_) := hx8
      have hC8' : (Kd.int .i64).C w13 A2 M.length M := (Kd.R_reads' hRA').2.2
      have hl8' : M.length ≤ c2_ := (Kd.R_reads' hRA').2.1
      have P1 := Aside0.mk (((below_alloc (Below.refl _ _) (.cells #[.string nmF, .int .i64 3, .int .i64 1, .slice (some ⟨qr2, 0, none⟩) 4 cr2, .slice (some ⟨qv2, 0, none⟩) 1 cv2] 32)).cell (block_lt_of_cell hd1)).trans hd1)
      have P2 := Aside0.mk (((below_alloc (Below.refl _ _) (.cells #[.string nmF, .int .i64 3, .int .i64 1, .slice (some ⟨qr2, 0, none⟩) 4 cr2, .slice (some ⟨qv2, 0, none⟩) 1 cv2] 32)).cell (block_lt_of_cell hd8)).trans hd8)
      have P3 := Aside0.mk (Kd.C_alloc hC8' (.cells #[.string nmF, .int .i64 3, .int .i64 1, .slice (some ⟨qr2, 0, none⟩) 4 cr2, .slice (some ⟨qv2, 0, none⟩) 1 cv2] 32))
      have P4 := Aside0.mk (Kd.C_alloc HRR.out.1 (.cells #[.string nmF, .int .i64 3, .int .i64 1, .slice (some ⟨qr2, 0, none⟩) 4 cr2, .slice (some ⟨qv2, 0, none⟩) 1 cv2] 32))
      have P5 := Aside0.mk (Kd.R_alloc HW5.out (.cells #[.string nmF, .int .i64 3, .int .i64 1, .slice (some ⟨qr2, 0, none⟩) 4 cr2, .slice (some ⟨qv2, 0, none⟩) 1 cv2] 32))
      have P6 := Aside0.mk (below_alloc HB5.out (.cells #[.string nmF, .int .i64 3, .int .i64 1, .slice (some ⟨qr2, 0, none⟩) 4 cr2, .slice (some ⟨qv2, 0, none⟩) 1 cv2] 32))
      have P7 := Aside0.mk (blk_new w13 (.cells #[.string nmF, .int .i64 3, .int .i64 1, .slice (some ⟨qr2, 0, none⟩) 4 cr2, .slice (some ⟨qv2, 0, none⟩) 1 cv2] 32))
      have P8 := Aside0.mk hl8'
      have P9 := Aside0.mk HRR.out.2
      generalize w13.alloc (.cells #[.string nmF, .int .i64 3, .int .i64 1, .slice (some ⟨qr2, 0, none⟩) 4 cr2, .slice (some ⟨qv2, 0, none⟩) 1 cv2] 32) = W14 at P1 P2 P3 P4 P5 P6 P7 ⊢
      obtain ⟨b10, eb10⟩ : ∃ s, w13.heap.size = s := ⟨_, rfl⟩
      rw [eb10] at P7
      simp only [eb10]
      obtain ⟨kT, hT⟩ := (sameInts_ev [1, 1, 1, 2] (by decide)).rounds
      have HST := Aside0.mk hT
      clear hc1 hccS hMI hccI hRA hRA' hR0 hR0' hx8 hd1 hd8 hC8' hl8' HRR HSS HB5 HW5 eb10 hT
      have b3 := blk_cell P7.out 3
      have b4 := blk_cell P7.out 4
      simp only [List.getElem?_toArray, List.getElem?_cons_zero, List.getElem?_cons_succ] at b3 b4
      have b5 := P1.out
      have b6_ := P2.out
      go_wp2_with (first | (go_at_call 14; ((with_reducible refine (balustradebase_SameInts.calls kS A2 c2_ M Aw cw M true _ P3.out P8.out (Kd.R_reads' P5.out).2.2 (Kd.R_reads' P5.out).2.1 HSA.out).mono ?_); rintro e w15 ⟨rfl, hd⟩; have hb := hd.below; have Q4 := Aside0.mk (Kd.C_below P4.out hb); have Q6 := Aside0.mk (below_step P6.out hb); have Q7 := Aside0.mk (blk_below P7.out hb); have d3 := blk_cell Q7.out 3; simp only [List.getElem?_toArray, List.getElem?_cons_zero, List.getElem?_cons_succ] at d3; clear hb hd)) | (go_at_call 14; ((refine (balustradebase_SameInts.calls kT (some ⟨qr2, 0, none⟩) cr2 [1, 1, 1, 2] (some ⟨w15.heap.size, 0, none⟩) 4 [1, 1, 1, 2] true _ (Kd.C_alloc Q4.out _) P9.out (Kd.R_reads' (R_ints (base := 0) (xs := [1, 1, 1, 2]) (Nat.zero_le _) (by decide) (blk_new w15 _))).2.2 (Nat.le_refl _) HST.out).mono ?_); rintro e w16 ⟨rfl, hd⟩; have HB := Aside0.mk (below_step (below_alloc Q6.out _) hd.below); clear hd)) | (go_at_call 10; ((refine (works_at _).mono ?_); rintro e w' ⟨rfl, hb⟩; replace HB := Aside0.mk (below_step HB.out hb); clear hb)))
      go_ret
      exact ⟨rfl, HB.out⟩
end Go.Proofs.Ytomopjomapkmjaa.B

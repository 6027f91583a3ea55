/- A part of it. -/
import Derived.Test.YtgbpkbfghonllaaFcZ
import Derived.Test.YtgbpkbfghonllaaFcP0
import Derived.Test.YtgbpkbfghonllaaFcP6
namespace Go.Proofs.Ytgbpkbfghonllaa.P
open Go.RowKit Go.Proofs.YtgbpkbfghonllaaW.PrintWords Go.Proofs.YtgbpkbfghonllaaW.PrintLast Go.Proofs.YtgbpkbfghonllaaW.PrintMore
attribute [local go_sem] max2_int min2_int max_two min_two max_three min_three max_four min_four   
set_option linter.unusedVariables false
set_option linter.unusedSimpArgs false
def instr_fields.j0 : Nat → Int → Int → Int → Int → Int → Int → Int → Int → Int → List Int → Option (Bool)
 | 0, _, _, _, _, _, _, _, _, _, _ => none
 | k + 1, x1, x165000, x165001, x165002, x165003, x165004, x165005, x165006, x165007, x165008 => if (Go.bits .and .i64 x1 128) = 0 then (if (Go.bits .and .i64 x1 2048) = 0 then (some (x165006 == 0)) else ((instr_tells.f x165006).bind fun t165 => (if t165 = true then (if x165006 = 21 then (some (x165003 == 0)) else (some true)) else (some false)))) else (if x165006 ≥ 0 then (some (x165006 != x165005)) else (some false))
def instr_fields.f (k : Nat) (a0_0 : Int) (a0_1 : Int) (a0_2 : Int) (a0_3 : Int) (a0_4 : Int) (a0_5 : Int) (a0_6 : Int) (a0_7 : Int) (l0_8 : List Int) (a1 : Int) : Option (Bool) := if (Go.bits .and .i64 a1 16) = 0 then (if (Go.bits .and .i64 a1 32) = 0 then (if a0_5 < 0 then (some false) else (if (Go.bits .and .i64 a1 64) = 0 then (if a0_5 = 0 then (instr_fields.j0 k a1 a0_0 a0_1 a0_2 a0_3 a0_4 a0_5 a0_6 a0_7 l0_8) else (some false)) else (instr_fields.j0 k a1 a0_0 a0_1 a0_2 a0_3 a0_4 a0_5 a0_6 a0_7 l0_8))) else (if a0_5 = 0 then (instr_fields.j0 k a1 a0_0 a0_1 a0_2 a0_3 a0_4 a0_5 a0_6 a0_7 l0_8) else (if a0_5 = 1 then (instr_fields.j0 k a1 a0_0 a0_1 a0_2 a0_3 a0_4 a0_5 a0_6 a0_7 l0_8) else (some false)))) else (instr_fields.j0 k a1 a0_0 a0_1 a0_2 a0_3 a0_4 a0_5 a0_6 a0_7 l0_8)
set_option maxHeartbeats 8000000 in
set_option maxRecDepth 100000 in
theorem instr_fields.calls (k : Nat) (a0_0 : Int) (a0_1 : Int) (a0_2 : Int) (a0_3 : Int) (a0_4 : Int) (a0_5 : Int) (a0_6 : Int) (a0_7 : Int) (A0_8 : Option Addr) (c0_8 : Nat) (l0_8 : List Int) (a1 : Int) (r : Bool) (w : World) (hr0_8 : Kd.C (Kd.int .i64) w A0_8 l0_8.length l0_8) (hc0_8 : l0_8.length ≤ c0_8) (h : instr_fields.f k a0_0 a0_1 a0_2 a0_3 a0_4 a0_5 a0_6 a0_7 l0_8 a1 = some r) :
  Calls Try.prog 86 #[.agg #[.int .i64 a0_0, .int .i64 a0_1, .int .i64 a0_2, .int .i64 a0_3, .int .i64 a0_4, .int .i64 a0_5, .int .i64 a0_6, .int .i64 a0_7, .slice A0_8 l0_8.length c0_8], .int .i64 a1] w fun e w' => e = .returned (.bool r) ∧ Below w.heap.size w w' := by
 have hu42 := Try.underlying42
 have HR0_8 := Aside0.mk hr0_8
 have HC0_8 := Aside0.mk hc0_8
 clear hr0_8 hc0_8
 have HB := Aside0.mk (Below.refl w.heap.size w)
 have H : (if (Go.bits .and .i64 a1 16) = 0 then (if (Go.bits .and .i64 a1 32) = 0 then (if a0_5 < 0 then (some false) else (if (Go.bits .and .i64 a1 64) = 0 then (if a0_5 = 0 then (instr_fields.j0 k a1 a0_0 a0_1 a0_2 a0_3 a0_4 a0_5 a0_6 a0_7 l0_8) else (some false)) else (instr_fields.j0 k a1 a0_0 a0_1 a0_2 a0_3 a0_4 a0_5 a0_6 a0_7 l0_8))) else (if a0_5 = 0 then (instr_fields.j0 k a1 a0_0 a0_1 a0_2 a0_3 a0_4 a0_5 a0_6 a0_7 l0_8) else (if a0_5 = 1 then (instr_fields.j0 k a1 a0_0 a0_1 a0_2 a0_3 a0_4 a0_5 a0_6 a0_7 l0_8) else (some false)))) else (instr_fields.j0 k a1 a0_0 a0_1 a0_2 a0_3 a0_4 a0_5 a0_6 a0_7 l0_8)) = some r := h
 clear h
 have HC3 := Aside0.mk H
 clear H
 go_enter Try.func86, Try.ntmps86
 go_upto_block 0 with (first | ((with_reducible refine gate_dst (N := 2) rfl ?_); refine box_event ?hg (N := 2) ?hd (cs := #[.int .i64 a0_0, .int .i64 a0_1, .int .i64 a0_2, .int .i64 a0_3, .int .i64 a0_4, .int .i64 a0_5, .int .i64 a0_6, .int .i64 a0_7, .slice A0_8 l0_8.length c0_8]) (t := 42) ?hr ?_; (case hd => rfl); (case hg => rfl); (case hr => first | (go_simp; done) | (go_simp; rfl)); intro gb164 hg w4 hbox hb; have n0_ := Aside0.mk (below_step (zB) hb); have n1_ := Aside0.mk (hbox); have n2_ := Aside0.mk (zH hg : w.heap.size ≤ gb164); have n3_ := Aside0.mk (zH hg : w.heap.size ≤ gb164); clear HB; have HB := n0_; have BK164 := n1_; have GW164 := n2_; have GE164 := n3_; clear n0_ n1_ n2_ n3_; clear hb hbox hg))
 (try simp only [Act.put, List.setIfInBounds_toArray, List.set_cons_zero, List.set_cons_succ])
 go_cut [] (fun wc => ∃ (kq : Nat), Aside0 (instr_fields.j0 kq a1 a0_0 a0_1 a0_2 a0_3 a0_4 a0_5 a0_6 a0_7 l0_8 = some r) ∧ Aside0 (kq ≤ k) ∧ Aside0 (wc.heap[gb164]? = some (.cells #[.int .i64 a0_0, .int .i64 a0_1, .int .i64 a0_2, .int .i64 a0_3, .int .i64 a0_4, .int .i64 a0_5, .int .i64 a0_6, .int .i64 a0_7, (.slice A0_8 l0_8.length c0_8)] 42 (0, 0))) ∧ Aside0 (Below w.heap.size w wc))
 case first =>
  have H := HC3.out
  clear HC3
  by_cases c5 : (Go.bits .and .i64 a1 16) = 0
  ·rw [if_pos c5] at H
   have c5b0 : ((Go.bits .and .i64 a1 16) == 0) = true := beq_iff_eq.mpr c5
   have c5b1 : ((Go.bits .and .i64 a1 16) != 0) = false := bne_eq_false_iff_eq.mpr c5
   clear c5
   (first | rw [c5b0] | (simp only [i64_w, i32_w]; rw [c5b0]) | skip)
   by_cases c6 : (Go.bits .and .i64 a1 32) = 0
   ·rw [if_pos c6] at H
    have c6b0 : ((Go.bits .and .i64 a1 32) == 0) = true := beq_iff_eq.mpr c6
    have c6b1 : ((Go.bits .and .i64 a1 32) != 0) = false := bne_eq_false_iff_eq.mpr c6
    clear c6
    by_cases c7 : a0_5 < 0
    ·rw [if_pos c7] at H
     have c7b0 : decide (a0_5 < 0) = true := decide_eq_true c7
     clear c7
     obtain rfl := Option.some.inj H
     obtain ⟨hcz8_0, hcz8_1, hcz8_2, hcz8_3, hcz8_4, hcz8_5, hcz8_6, hcz8_7, hcz8_8⟩ := zc9 BK164.out
     obtain ⟨hfz8_0, hfz8_1, hfz8_2, hfz8_3, hfz8_4, hfz8_5, hfz8_6, hfz8_7, hfz8_8⟩ := zf9 BK164.out
     go_wp2
     go_ret
     exact ⟨zV, zG⟩
    ·rw [if_neg c7] at H
     have c7b0 : decide (a0_5 < 0) = false := decide_eq_false c7
     clear c7
     by_cases c9 : (Go.bits .and .i64 a1 64) = 0
     ·rw [if_pos c9] at H
      have c9b0 : ((Go.bits .and .i64 a1 64) == 0) = true := beq_iff_eq.mpr c9
      have c9b1 : ((Go.bits .and .i64 a1 64) != 0) = false := bne_eq_false_iff_eq.mpr c9
      clear c9
      by_cases c10 : a0_5 = 0
      ·rw [if_pos c10] at H
       have c10b0 : (a0_5 == 0) = true := beq_iff_eq.mpr c10
       have c10b1 : (a0_5 != 0) = false := bne_eq_false_iff_eq.mpr c10
       clear c10
       have H' := Aside0.mk H
       clear H
       obtain ⟨hcz11_0, hcz11_1, hcz11_2, hcz11_3, hcz11_4, hcz11_5, hcz11_6, hcz11_7, hcz11_8⟩ := zc9 BK164.out
       obtain ⟨hfz11_0, hfz11_1, hfz11_2, hfz11_3, hfz11_4, hfz11_5, hfz11_6, hfz11_7, hfz11_8⟩ := zf9 BK164.out
       go_wp2
       go_meet
       case rel => exact ⟨_, H', ⟨by first | omega | exact Nat.le_refl _⟩, ⟨zK BK164.out⟩, ⟨zG⟩⟩
      ·rw [if_neg c10] at H
       have c10b0 : (a0_5 == 0) = false := beq_eq_false_iff_ne.mpr c10
       have c10b1 : (a0_5 != 0) = true := bne_iff_ne.mpr c10
       obtain rfl := Option.some.inj H
       obtain ⟨hcz12_0, hcz12_1, hcz12_2, hcz12_3, hcz12_4, hcz12_5, hcz12_6, hcz12_7, hcz12_8⟩ := zc9 BK164.out
       obtain ⟨hfz12_0, hfz12_1, hfz12_2, hfz12_3, hfz12_4, hfz12_5, hfz12_6, hfz12_7, hfz12_8⟩ := zf9 BK164.out
       go_wp2
       go_ret
       exact ⟨zV, zG⟩
     ·rw [if_neg c9] at H
      have c9b0 : ((Go.bits .and .i64 a1 64) == 0) = false := beq_eq_false_iff_ne.mpr c9
      have c9b1 : ((Go.bits .and .i64 a1 64) != 0) = true := bne_iff_ne.mpr c9
      have H' := Aside0.mk H
      clear H
      obtain ⟨hcz13_0, hcz13_1, hcz13_2, hcz13_3, hcz13_4, hcz13_5, hcz13_6, hcz13_7, hcz13_8⟩ := zc9 BK164.out
      obtain ⟨hfz13_0, hfz13_1, hfz13_2, hfz13_3, hfz13_4, hfz13_5, hfz13_6, hfz13_7, hfz13_8⟩ := zf9 BK164.out
      go_wp2
      go_meet
      case rel => exact ⟨_, H', ⟨by first | omega | exact Nat.le_refl _⟩, ⟨zK BK164.out⟩, ⟨zG⟩⟩
   ·rw [if_neg c6] at H
    have c6b0 : ((Go.bits .and .i64 a1 32) == 0) = false := beq_eq_false_iff_ne.mpr c6
    have c6b1 : ((Go.bits .and .i64 a1 32) != 0) = true := bne_iff_ne.mpr c6
    by_cases c14 : a0_5 = 0
    ·rw [if_pos c14] at H
     have c14b0 : (a0_5 == 0) = true := beq_iff_eq.mpr c14
     have c14b1 : (a0_5 != 0) = false := bne_eq_false_iff_eq.mpr c14
     clear c14
     have H' := Aside0.mk H
     clear H
     obtain ⟨hcz15_0, hcz15_1, hcz15_2, hcz15_3, hcz15_4, hcz15_5, hcz15_6, hcz15_7, hcz15_8⟩ := zc9 BK164.out
     obtain ⟨hfz15_0, hfz15_1, hfz15_2, hfz15_3, hfz15_4, hfz15_5, hfz15_6, hfz15_7, hfz15_8⟩ := zf9 BK164.out
     go_wp2
     go_meet
     case rel => exact ⟨_, H', ⟨by first | omega | exact Nat.le_refl _⟩, ⟨zK BK164.out⟩, ⟨zG⟩⟩
    ·rw [if_neg c14] at H
     have c14b0 : (a0_5 == 0) = false := beq_eq_false_iff_ne.mpr c14
     have c14b1 : (a0_5 != 0) = true := bne_iff_ne.mpr c14
     by_cases c16 : a0_5 = 1
     ·rw [if_pos c16] at H
      have c16b0 : (a0_5 == 1) = true := beq_iff_eq.mpr c16
      have c16b1 : (a0_5 != 1) = false := bne_eq_false_iff_eq.mpr c16
      clear c16
      have H' := Aside0.mk H
      clear H
      obtain ⟨hcz17_0, hcz17_1, hcz17_2, hcz17_3, hcz17_4, hcz17_5, hcz17_6, hcz17_7, hcz17_8⟩ := zc9 BK164.out
      obtain ⟨hfz17_0, hfz17_1, hfz17_2, hfz17_3, hfz17_4, hfz17_5, hfz17_6, hfz17_7, hfz17_8⟩ := zf9 BK164.out
      go_wp2
      go_meet
      case rel => exact ⟨_, H', ⟨by first | omega | exact Nat.le_refl _⟩, ⟨zK BK164.out⟩, ⟨zG⟩⟩
     ·rw [if_neg c16] at H
      have c16b0 : (a0_5 == 1) = false := beq_eq_false_iff_ne.mpr c16
      have c16b1 : (a0_5 != 1) = true := bne_iff_ne.mpr c16
      obtain rfl := Option.some.inj H
      obtain ⟨hcz18_0, hcz18_1, hcz18_2, hcz18_3, hcz18_4, hcz18_5, hcz18_6, hcz18_7, hcz18_8⟩ := zc9 BK164.out
      obtain ⟨hfz18_0, hfz18_1, hfz18_2, hfz18_3, hfz18_4, hfz18_5, hfz18_6, hfz18_7, hfz18_8⟩ := zf9 BK164.out
      go_wp2
      go_ret
      exact ⟨zV, zG⟩
  ·rw [if_neg c5] at H
   have c5b0 : ((Go.bits .and .i64 a1 16) == 0) = false := beq_eq_false_iff_ne.mpr c5
   have c5b1 : ((Go.bits .and .i64 a1 16) != 0) = true := bne_iff_ne.mpr c5
   (first | rw [c5b0] | (simp only [i64_w, i32_w]; rw [c5b0]) | skip)
   have H' := Aside0.mk H
   clear H
   go_wp2
   go_meet
   case rel => exact ⟨_, H', ⟨by first | omega | exact Nat.le_refl _⟩, ⟨zK BK164.out⟩, ⟨zG⟩⟩
 case rest =>
  clear HC3
  (try clear c1); (try clear p2); (try clear c5); (try clear c5b0); (try clear c5b1); (try clear c6); (try clear c6b0); (try clear c6b1); (try clear c7); (try clear c7b0); (try clear c8); (try clear c9); (try clear c9b0); (try clear c9b1); (try clear c10); (try clear c10b0); (try clear c10b1); (try clear c14); (try clear c14b0); (try clear c14b1); (try clear c16); (try clear c16b0); (try clear c16b1)
  (try clear hcz11_0 hcz11_1 hcz11_2 hcz11_3 hcz11_4 hcz11_5 hcz11_6 hcz11_7 hcz11_8); (try clear hcz12_0 hcz12_1 hcz12_2 hcz12_3 hcz12_4 hcz12_5 hcz12_6 hcz12_7 hcz12_8); (try clear hcz13_0 hcz13_1)
  (try clear hcz13_2 hcz13_3 hcz13_4 hcz13_5 hcz13_6 hcz13_7 hcz13_8); (try clear hcz15_0 hcz15_1 hcz15_2 hcz15_3 hcz15_4 hcz15_5 hcz15_6 hcz15_7 hcz15_8); (try clear hcz17_0 hcz17_1 hcz17_2 hcz17_3)
  (try clear hcz17_4 hcz17_5 hcz17_6 hcz17_7 hcz17_8); (try clear hcz18_0 hcz18_1 hcz18_2 hcz18_3 hcz18_4 hcz18_5 hcz18_6 hcz18_7 hcz18_8); (try clear hcz8_0 hcz8_1 hcz8_2 hcz8_3 hcz8_4 hcz8_5)
  (try clear hcz8_6 hcz8_7 hcz8_8); (try clear hfz11_0 hfz11_1 hfz11_2 hfz11_3 hfz11_4 hfz11_5 hfz11_6 hfz11_7 hfz11_8); (try clear hfz12_0 hfz12_1 hfz12_2 hfz12_3 hfz12_4 hfz12_5 hfz12_6 hfz12_7)
  (try clear hfz12_8); (try clear hfz13_0 hfz13_1 hfz13_2 hfz13_3 hfz13_4 hfz13_5 hfz13_6 hfz13_7 hfz13_8); (try clear hfz15_0 hfz15_1 hfz15_2 hfz15_3 hfz15_4 hfz15_5 hfz15_6 hfz15_7 hfz15_8); (try clear hfz17_0)
  (try clear hfz17_1 hfz17_2 hfz17_3 hfz17_4 hfz17_5 hfz17_6 hfz17_7 hfz17_8); (try clear hfz18_0 hfz18_1 hfz18_2 hfz18_3 hfz18_4 hfz18_5 hfz18_6 hfz18_7 hfz18_8); (try clear hfz8_0 hfz8_1 hfz8_2)
  (try clear hfz8_3 hfz8_4 hfz8_5 hfz8_6 hfz8_7 hfz8_8)
  obtain ⟨kq, HA, HJ2, BK164, HB⟩ := hcut
  cases kq with
  | zero => exact absurd HA.out (by simp [instr_fields.j0])
  | succ kj2 =>
   have H := HA.out
   clear HA
   simp only [instr_fields.j0] at H
   by_cases c19 : (Go.bits .and .i64 a1 128) = 0
   ·rw [if_pos c19] at H
    have c19b0 : ((Go.bits .and .i64 a1 128) == 0) = true := beq_iff_eq.mpr c19
    have c19b1 : ((Go.bits .and .i64 a1 128) != 0) = false := bne_eq_false_iff_eq.mpr c19
    clear c19
    by_cases c20 : (Go.bits .and .i64 a1 2048) = 0
    ·rw [if_pos c20] at H
     have c20b0 : ((Go.bits .and .i64 a1 2048) == 0) = true := beq_iff_eq.mpr c20
     have c20b1 : ((Go.bits .and .i64 a1 2048) != 0) = false := bne_eq_false_iff_eq.mpr c20
     clear c20
     obtain rfl := Option.some.inj H
     obtain ⟨hcz21_0, hcz21_1, hcz21_2, hcz21_3, hcz21_4, hcz21_5, hcz21_6, hcz21_7, hcz21_8⟩ := zc9 BK164.out
     obtain ⟨hfz21_0, hfz21_1, hfz21_2, hfz21_3, hfz21_4, hfz21_5, hfz21_6, hfz21_7, hfz21_8⟩ := zf9 BK164.out
     go_wp2
     go_ret
     exact ⟨zV, zG⟩
    ·rw [if_neg c20] at H
     have c20b0 : ((Go.bits .and .i64 a1 2048) == 0) = false := beq_eq_false_iff_ne.mpr c20
     have c20b1 : ((Go.bits .and .i64 a1 2048) != 0) = true := bne_iff_ne.mpr c20
     replace H := Option.bind_eq_some_iff.mp H
     obtain ⟨t165, A220, H⟩ := H
     replace H : (if t165 = true then (if a0_6 = 21 then (some (a0_3 == 0)) else (some true)) else (some false)) = some r := H
     have A22 := Aside0.mk A220
     clear A220
     by_cases c23 : t165 = true
     ·subst c23
      have H1 : (if a0_6 = 21 then (some (a0_3 == 0)) else (some true)) = some r := by rw [if_pos rfl] at H; exact H
      clear H
      have H := H1
      clear H1
      by_cases c24 : a0_6 = 21
      ·rw [if_pos c24] at H
       have c24b0 : (a0_6 == 21) = true := beq_iff_eq.mpr c24
       have c24b1 : (a0_6 != 21) = false := bne_eq_false_iff_eq.mpr c24
       clear c24
       obtain rfl := Option.some.inj H
       obtain ⟨hcz25_0, hcz25_1, hcz25_2, hcz25_3, hcz25_4, hcz25_5, hcz25_6, hcz25_7, hcz25_8⟩ := zc9 BK164.out
       obtain ⟨hfz25_0, hfz25_1, hfz25_2, hfz25_3, hfz25_4, hfz25_5, hfz25_6, hfz25_7, hfz25_8⟩ := zf9 BK164.out
       go_wp2_with (first | ((with_reducible refine gate_callee (f := 91) rfl ?_); refine goesL_ (some 55) rfl rfl Try.func91 (by kernel_rfl) rfl #[.int .i64 a0_6] rfl zE ?_; (with_reducible refine (instr_tells.calls a0_6 true _ A22.out).mono ?_); rintro e w' ⟨rfl, ⟨nd, rfl⟩⟩; refine ⟨_, rfl, ?_⟩))
       go_ret
       exact ⟨zV, zG⟩
      ·rw [if_neg c24] at H
       have c24b0 : (a0_6 == 21) = false := beq_eq_false_iff_ne.mpr c24
       have c24b1 : (a0_6 != 21) = true := bne_iff_ne.mpr c24
       obtain rfl := Option.some.inj H
       obtain ⟨hcz26_0, hcz26_1, hcz26_2, hcz26_3, hcz26_4, hcz26_5, hcz26_6, hcz26_7, hcz26_8⟩ := zc9 BK164.out
       obtain ⟨hfz26_0, hfz26_1, hfz26_2, hfz26_3, hfz26_4, hfz26_5, hfz26_6, hfz26_7, hfz26_8⟩ := zf9 BK164.out
       go_wp2_with (first | ((with_reducible refine gate_callee (f := 91) rfl ?_); refine goesL_ (some 55) rfl rfl Try.func91 (by kernel_rfl) rfl #[.int .i64 a0_6] rfl zE ?_; (with_reducible refine (instr_tells.calls a0_6 true _ A22.out).mono ?_); rintro e w' ⟨rfl, ⟨nd, rfl⟩⟩; refine ⟨_, rfl, ?_⟩))
       go_ret
       exact ⟨zV, zG⟩
     ·replace c23 := Bool.eq_false_iff.mpr c23
      subst c23
      have H1 : (some false) = some r := by rw [if_neg (show ¬ (false = true) by decide)] at H; exact H
      clear H
      have H := H1
      clear H1
      obtain rfl := Option.some.inj H
      obtain ⟨hcz27_0, hcz27_1, hcz27_2, hcz27_3, hcz27_4, hcz27_5, hcz27_6, hcz27_7, hcz27_8⟩ := zc9 BK164.out
      obtain ⟨hfz27_0, hfz27_1, hfz27_2, hfz27_3, hfz27_4, hfz27_5, hfz27_6, hfz27_7, hfz27_8⟩ := zf9 BK164.out
      go_wp2_with (first | ((with_reducible refine gate_callee (f := 91) rfl ?_); refine goesL_ (some 55) rfl rfl Try.func91 (by kernel_rfl) rfl #[.int .i64 a0_6] rfl zE ?_; (with_reducible refine (instr_tells.calls a0_6 false _ A22.out).mono ?_); rintro e w' ⟨rfl, ⟨nd, rfl⟩⟩; refine ⟨_, rfl, ?_⟩))
      go_ret
      exact ⟨zV, zG⟩
   ·rw [if_neg c19] at H
    have c19b0 : ((Go.bits .and .i64 a1 128) == 0) = false := beq_eq_false_iff_ne.mpr c19
    have c19b1 : ((Go.bits .and .i64 a1 128) != 0) = true := bne_iff_ne.mpr c19
    by_cases c28 : a0_6 ≥ 0
    ·rw [if_pos c28] at H
     have c28b0 : decide (0 ≤ a0_6) = true := decide_eq_true c28
     clear c28
     obtain rfl := Option.some.inj H
     obtain ⟨hcz29_0, hcz29_1, hcz29_2, hcz29_3, hcz29_4, hcz29_5, hcz29_6, hcz29_7, hcz29_8⟩ := zc9 BK164.out
     obtain ⟨hfz29_0, hfz29_1, hfz29_2, hfz29_3, hfz29_4, hfz29_5, hfz29_6, hfz29_7, hfz29_8⟩ := zf9 BK164.out
     go_wp2
     go_ret
     exact ⟨zV, zG⟩
    ·rw [if_neg c28] at H
     have c28b0 : decide (0 ≤ a0_6) = false := decide_eq_false c28
     clear c28
     obtain rfl := Option.some.inj H
     obtain ⟨hcz30_0, hcz30_1, hcz30_2, hcz30_3, hcz30_4, hcz30_5, hcz30_6, hcz30_7, hcz30_8⟩ := zc9 BK164.out
     obtain ⟨hfz30_0, hfz30_1, hfz30_2, hfz30_3, hfz30_4, hfz30_5, hfz30_6, hfz30_7, hfz30_8⟩ := zf9 BK164.out
     go_wp2
     go_ret
     exact ⟨zV, zG⟩
def minTo (l : List Int) : Nat → Int
 | 0 => rd l 0
 | j + 1 => mn (minTo l j) (rd l ((j + 1 : Nat) : Int))
def slices_Min_int_int.f (l0 : List Int) : Option Int := if 0 < l0.length ∧ l0.length < 4611686018427387904 then some (minTo l0 (l0.length - 1)) else none
set_option maxHeartbeats 2000000 in
theorem slices_Min_int_int.calls (A0 : Option Addr) (c0 : Nat) (l0 : List Int) (r : Int) (w : World) (hr0 : Kd.C (Kd.int .i64) w A0 l0.length l0) (hc0 : l0.length ≤ c0) (h : slices_Min_int_int.f l0 = some r) :
  Calls Try.prog 87 #[.slice A0 l0.length c0] w fun e w' => e = .returned (.int .i64 r) ∧ Drawn0 w w' := by
 unfold slices_Min_int_int.f at h
 by_cases hl : 0 < l0.length ∧ l0.length < 4611686018427387904
 ·rw [if_pos hl] at h
  obtain rfl := Option.some.inj h
  have HL := Aside0.mk hl
  have HR := Aside0.mk hr0
  have t1 : decide ((l0.length : Int) < 1) = false := decide_eq_false (by omega)
  obtain ⟨ad, e, hx⟩ := Kd.at_int hr0 0 (by omega) (by omega)
  cases e
  replace hx : w.cell? ad = some (.int .i64 (rd l0 0)) := by simpa [Addr.add] using hx
  have q0 : (0 : Int) < (l0.length : Int) := by omega
  clear h hr0 hl
  go_enter Try.func87, Try.ntmps87
  go_wp2
  go_loopg [3, 4] (l0.length - 1) (fun kq v3 v4 w' => ∃ i : Nat, v3 = .int .i64 (minTo l0 (i - 1)) ∧ v4 = .int .i64 (i : Int) ∧ Aside0 (1 ≤ i ∧ i + kq = l0.length) ∧ w = w')
  case atStart => exact ⟨1, rfl, rfl, ⟨by omega, by have := HL.out; omega⟩, rfl⟩
  case round =>
   obtain ⟨i, rfl, rfl, HJ, rfl⟩ := hrel
   clear hx
   by_cases hlt : i < l0.length
   ·have p1 : (0 : Int) ≤ (i : Int) := by omega
    have p2 : (i : Int) < (l0.length : Int) := by omega
    obtain ⟨ad2, e, hx⟩ := Kd.at_int HR.out (i : Int) p1 p2
    cases e
    replace hx : w.cell? (ad.add i) = some (.int .i64 (rd l0 (i : Int))) := by simpa using hx
    obtain ⟨x, hxe⟩ : ∃ x, rd l0 (i : Int) = x := ⟨_, rfl⟩
    rw [hxe] at hx
    obtain ⟨m, hm⟩ : ∃ m, minTo l0 (i - 1) = m := ⟨_, rfl⟩
    rw [hm]
    have HM := Aside0.mk (show mn m x = minTo l0 (i + 1 - 1) by
     rw [← hm, ← hxe]
     obtain ⟨q, rfl⟩ : ∃ q, i = q + 1 := ⟨i - 1, by have := HJ.out; omega⟩
     rfl)
    have HLT := Aside0.mk hlt
    have HW := Aside0.mk (show wrap64 ((i : Int) + 1) = ((i + 1 : Nat) : Int) by have := HL.out; unfold wrap64; omega)
    clear hlt hxe hm
    go_wp2
    all_goals
     go_roundg (gk - 1)
     case measure => have := HJ.out; have := HLT.out; omega
     case rel => exact ⟨i + 1, by rw [← HM.out]; congr 1; unfold mn; split <;> omega, by rw [HW.out], ⟨by omega, by have := HJ.out; have := HLT.out; omega⟩, rfl⟩
   ·have hj : i = l0.length := by have := HJ.out; omega
    subst hj
    go_wp2
    go_ret
    exact ⟨rfl, Drawn0.refl _⟩
 ·rw [if_neg hl] at h
  cases h
end Go.Proofs.Ytgbpkbfghonllaa.P

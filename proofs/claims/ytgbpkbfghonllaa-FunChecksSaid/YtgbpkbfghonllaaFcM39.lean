/- A part of it. -/
import Derived.Test.YtgbpkbfghonllaaFcP0
import Derived.Test.YtgbpkbfghonllaaFcP13
import Derived.Test.YtgbpkbfghonllaaFcFunH
namespace Go.Proofs.Ytgbpkbfghonllaa.P
open Go.RowKit Go.Proofs.YtgbpkbfghonllaaW.PrintWords Go.Proofs.YtgbpkbfghonllaaW.PrintLast Go.Proofs.YtgbpkbfghonllaaW.PrintMore
attribute [local go_sem] max2_int min2_int max_two min_two max_three min_three max_four min_four   
set_option linter.unusedVariables false
set_option linter.unusedSimpArgs false
mutual
def balustraderef16_Count.l0 : Nat → Int → Int → List (S39) → Int → List (S48) → Option (Int)
 | 0, _, _, _, _, _ => none
 | k + 1, x3, x4, x254000, x254001, x254002 => if x4 < (x254000.length : Int) then (balustraderef16_Count.l1 k x3 x4 0 x254000 x254001 x254002) else (some x3)
def balustraderef16_Count.l1 : Nat → Int → Int → Int → List (S39) → Int → List (S48) → Option (Int)
 | 0, _, _, _, _, _, _ => none
 | k + 1, x3, x4, x5, x254000, x254001, x254002 => if 0 ≤ x4 then (if x4 < (x254000.length : Int) then (if x5 < (((rd_T39 x254000 x4).f4).length : Int) then (if 0 ≤ x5 then (balustraderef16_Count.l1 k (wrap64 (x3 + ((rd_L5 ((rd_T39 x254000 x4).f4) x5).length : Int))) x4 (wrap64 (x5 + 1)) x254000 x254001 x254002) else (none)) else (balustraderef16_Count.l0 k x3 (wrap64 (x4 + 1)) x254000 x254001 x254002)) else (none)) else (none)
end
def balustraderef16_Count.f (k : Nat) (l0_0 : List (S39)) (a0_1 : Int) (l0_2 : List (S48)) : Option (Int) := balustraderef16_Count.l0 k 0 0 l0_0 a0_1 l0_2
set_option maxHeartbeats 8000000 in
set_option maxRecDepth 100000 in
theorem balustraderef16_Count.calls (k : Nat) (A0_0 : Option Addr) (c0_0 : Nat) (l0_0 : List (S39)) (a0_1 : Int) (A0_2 : Option Addr) (c0_2 : Nat) (l0_2 : List (S48)) (r : Int) (w : World) (hr0_0 : Kd.C k39 w A0_0 l0_0.length l0_0) (hc0_0 : l0_0.length ≤ c0_0) (hr0_2 : Kd.C k48 w A0_2 l0_2.length l0_2) (hc0_2 : l0_2.length ≤ c0_2) (h : balustraderef16_Count.f k l0_0 a0_1 l0_2 = some r) :
  Calls Try.prog 14 #[.agg #[.slice A0_0 l0_0.length c0_0, .int .i64 a0_1, .slice A0_2 l0_2.length c0_2]] w fun e w' => e = .returned (.int .i64 r) ∧ Below w.heap.size w w' := by
 have hu25 := Try.underlying25
 have HR0_0 := Aside0.mk hr0_0
 have HC0_0 := Aside0.mk hc0_0
 clear hr0_0 hc0_0
 have HR0_2 := Aside0.mk hr0_2
 have HC0_2 := Aside0.mk hc0_2
 clear hr0_2 hc0_2
 have HB := Aside0.mk (Below.refl w.heap.size w)
 have H : (balustraderef16_Count.l0 k 0 0 l0_0 a0_1 l0_2) = some r := h
 clear h
 have H' := Aside0.mk H
 clear H
 go_enter Try.func14, Try.ntmps14
 go_wp2_with (first | ((with_reducible refine gate_dst (N := 1) rfl ?_); refine box_event ?hg (N := 1) ?hd (cs := #[.slice A0_0 l0_0.length c0_0, .int .i64 a0_1, .slice A0_2 l0_2.length c0_2]) (t := 25) ?hr ?_; (case hd => rfl); (case hg => rfl); (case hr => first | (go_simp; done) | (go_simp; rfl)); intro gb253 hg w2 hbox hb; have n0_ := Aside0.mk (below_step (zB) hb); have n1_ := Aside0.mk (hbox); have n2_ := Aside0.mk (zH hg : w.heap.size ≤ gb253); have n3_ := Aside0.mk (zH hg : w.heap.size ≤ gb253); clear HB; have HB := n0_; have BK253 := n1_; have GW253 := n2_; have GE253 := n3_; clear n0_ n1_ n2_ n3_; clear hb hbox hg))
 go_loopg [3, 4] k (fun kq v3 v4 w' => ∃ (x3_1 : Int) (x4_1 : Int), v3 = .int .i64 x3_1 ∧ v4 = .int .i64 x4_1 ∧ Aside0 (balustraderef16_Count.l0 kq x3_1 x4_1 l0_0 a0_1 l0_2 = some r) ∧ Aside0 (kq ≤ k) ∧ Aside0 (w'.heap[gb253]? = some (.cells #[(.slice A0_0 l0_0.length c0_0), .int .i64 a0_1, (.slice A0_2 l0_2.length c0_2)] 25 (0, 0))) ∧ Aside0 (Below w.heap.size w w'))
 case atStart => exact ⟨(0), (0), zQ, zQ, H', ⟨Nat.le_refl _⟩, ⟨zK BK253.out⟩, ⟨zG⟩⟩
 case round =>
  clear H'
  (try clear c1); (try clear p2)
  obtain ⟨x3_1, x4_1, rfl, rfl, HA, HK1, BK253, HB⟩ := hrel
  cases gk with
  | zero => exact absurd HA.out (by simp [balustraderef16_Count.l0])
  | succ k1 =>
   have H := HA.out
   clear HA
   simp only [balustraderef16_Count.l0] at H
   by_cases c3 : x4_1 < (l0_0.length : Int)
   ·rw [if_pos c3] at H
    have c3b0 : decide (x4_1 < (l0_0.length : Int)) = true := decide_eq_true c3
    clear c3
    have H' := Aside0.mk H
    clear H
    have hcz4_0 : wr.cell? ⟨gb253, 0, none⟩ = some (.slice A0_0 l0_0.length c0_0) := (blk_cell BK253.out 0).trans rfl
    have hcz4_1 : wr.cell? ⟨gb253, 1, none⟩ = some (.int .i64 a0_1) := (blk_cell BK253.out 1).trans rfl
    have hcz4_2 : wr.cell? ⟨gb253, 2, none⟩ = some (.slice A0_2 l0_2.length c0_2) := (blk_cell BK253.out 2).trans rfl
    have hfz4_0 := blk_frozen BK253.out 0
    have hfz4_1 := blk_frozen BK253.out 1
    have hfz4_2 := blk_frozen BK253.out 2
    go_wp2
    go_loopg [3, 5] k1 (fun kq v3 v5 w' => ∃ (x3_2 : Int) (x5_2 : Int), v3 = .int .i64 x3_2 ∧ v5 = .int .i64 x5_2 ∧ Aside0 (balustraderef16_Count.l1 kq x3_2 x4_1 x5_2 l0_0 a0_1 l0_2 = some r) ∧ Aside0 (kq ≤ k1) ∧ Aside0 (w'.heap[gb253]? = some (.cells #[(.slice A0_0 l0_0.length c0_0), .int .i64 a0_1, (.slice A0_2 l0_2.length c0_2)] 25 (0, 0))) ∧ Aside0 (Below w.heap.size w w'))
    case atStart => exact ⟨(x3_1), (0), zQ, zQ, H', ⟨Nat.le_refl _⟩, ⟨zK BK253.out⟩, ⟨zG⟩⟩
    case round =>
     clear H'
     (try clear c1); (try clear p2); (try clear c3); (try clear c3b0); (try clear hcz4_0 hcz4_1 hcz4_2); (try clear hfz4_0 hfz4_1 hfz4_2); (try clear p2)
     obtain ⟨x3_2, x5_2, rfl, rfl, HA, HK2, BK253, HB⟩ := hrel
     cases gk with
     | zero => exact absurd HA.out (by simp [balustraderef16_Count.l1])
     | succ k2 =>
      have H := HA.out
      clear HA
      simp only [balustraderef16_Count.l1] at H
      by_cases c5 : 0 ≤ x4_1
      ·rw [if_pos c5] at H
       have c5b0 : decide (0 ≤ x4_1) = true := decide_eq_true c5
       clear c5
       by_cases c6 : x4_1 < (l0_0.length : Int)
       ·rw [if_pos c6] at H
        have c6b0 : decide (x4_1 < (l0_0.length : Int)) = true := decide_eq_true c6
        clear c6
        by_cases c7 : x5_2 < (((rd_T39 l0_0 x4_1).f4).length : Int)
        ·rw [if_pos c7] at H
         have c7b0 : decide (x5_2 < (((rd_T39 l0_0 x4_1).f4).length : Int)) = true := decide_eq_true c7
         clear c7
         by_cases c8 : 0 ≤ x5_2
         ·rw [if_pos c8] at H
          have c8b0 : decide (0 ≤ x5_2) = true := decide_eq_true c8
          clear c8
          have H' := Aside0.mk H
          clear H
          have hcz9_0 : wr.cell? ⟨gb253, 0, none⟩ = some (.slice A0_0 l0_0.length c0_0) := (blk_cell BK253.out 0).trans rfl
          have hcz9_1 : wr.cell? ⟨gb253, 1, none⟩ = some (.int .i64 a0_1) := (blk_cell BK253.out 1).trans rfl
          have hcz9_2 : wr.cell? ⟨gb253, 2, none⟩ = some (.slice A0_2 l0_2.length c0_2) := (blk_cell BK253.out 2).trans rfl
          have hfz9_0 := blk_frozen BK253.out 0
          have hfz9_1 := blk_frozen BK253.out 1
          have hfz9_2 := blk_frozen BK253.out 2
          have p254 : 0 ≤ (x4_1 : Int) := zO
          have q254 : x4_1 < (l0_0.length : Int) := zO
          obtain ⟨ad254, A254_3, c254_3, A254_4, c254_4, e254, hx254_0, hx254_1, hx254_2, hx254_3, hx254_4, hl254_3, hi254_3, hl254_4, hi254_4⟩ := at_T39 HR0_0.out x4_1 p254 q254
          cases e254
          replace hx254_0 := pw_cell_below HB.out hx254_0
          replace hx254_1 := pw_cell_below HB.out hx254_1
          replace hx254_2 := pw_cell_below HB.out hx254_2
          replace hx254_3 := pw_cell_below HB.out hx254_3
          replace hx254_4 := pw_cell_below HB.out hx254_4
          have HR254_3 := Aside0.mk hi254_3
          have HC254_3 := Aside0.mk hl254_3
          clear hi254_3 hl254_3
          have HR254_4 := Aside0.mk hi254_4
          have HC254_4 := Aside0.mk hl254_4
          clear hi254_4 hl254_4
          replace p254 := eq_true p254
          replace q254 := eq_true q254
          have p255 : 0 ≤ (x4_1 : Int) := zO
          have q255 : x4_1 < (l0_0.length : Int) := zO
          obtain ⟨ad255, A255_3, c255_3, A255_4, c255_4, e255, hx255_0, hx255_1, hx255_2, hx255_3, hx255_4, hl255_3, hi255_3, hl255_4, hi255_4⟩ := at_T39 HR0_0.out x4_1 p255 q255
          obtain rfl : ad254 = ad255 := (by injection e255)
          replace hx255_0 := pw_cell_below HB.out hx255_0
          replace hx255_1 := pw_cell_below HB.out hx255_1
          replace hx255_2 := pw_cell_below HB.out hx255_2
          replace hx255_3 := pw_cell_below HB.out hx255_3
          replace hx255_4 := pw_cell_below HB.out hx255_4
          have HR255_3 := Aside0.mk hi255_3
          have HC255_3 := Aside0.mk hl255_3
          clear hi255_3 hl255_3
          have HR255_4 := Aside0.mk hi255_4
          have HC255_4 := Aside0.mk hl255_4
          clear hi255_4 hl255_4
          replace p255 := eq_true p255
          replace q255 := eq_true q255
          have ea_ := Option.some.inj (hx254_3.symm.trans hx255_3)
          injection ea_ with ea_ en_ ec_
          subst ea_
          subst ec_
          clear en_
          have ea_ := Option.some.inj (hx254_4.symm.trans hx255_4)
          injection ea_ with ea_ en_ ec_
          subst ea_
          subst ec_
          clear en_
          have p256 : 0 ≤ (x5_2 : Int) := zO
          have q256 : x5_2 < (((rd_T39 l0_0 x4_1).f4).length : Int) := zO
          obtain ⟨ad256, A256_0, c256_0, e256, hx256_0, hl256_0, hi256_0⟩ := at_L5 HR255_4.out x5_2 p256 q256
          cases e256
          replace hx256_0 := pw_cell_below HB.out hx256_0
          have HR256_0 := Aside0.mk hi256_0
          have HC256_0 := Aside0.mk hl256_0
          clear hi256_0 hl256_0
          replace p256 := eq_true p256
          replace q256 := eq_true q256
          go_wp2
          go_roundg k2
          case measure => have := HK1.out; have := HK2.out; omega
          case rel => exact ⟨(wrap64 (x3_2 + ((rd_L5 ((rd_T39 l0_0 x4_1).f4) x5_2).length : Int))), (wrap64 (x5_2 + 1)), zQ, zQ, H', ⟨by have := HK1.out; have := HK2.out; omega⟩, ⟨zK BK253.out⟩, ⟨zG⟩⟩
         ·rw [if_neg c8] at H
          exact absurd H (by simp)
        ·rw [if_neg c7] at H
         have c7b0 : decide (x5_2 < (((rd_T39 l0_0 x4_1).f4).length : Int)) = false := decide_eq_false c7
         clear c7
         have H' := Aside0.mk H
         clear H
         have hcz10_0 : wr.cell? ⟨gb253, 0, none⟩ = some (.slice A0_0 l0_0.length c0_0) := (blk_cell BK253.out 0).trans rfl
         have hcz10_1 : wr.cell? ⟨gb253, 1, none⟩ = some (.int .i64 a0_1) := (blk_cell BK253.out 1).trans rfl
         have hcz10_2 : wr.cell? ⟨gb253, 2, none⟩ = some (.slice A0_2 l0_2.length c0_2) := (blk_cell BK253.out 2).trans rfl
         have hfz10_0 := blk_frozen BK253.out 0
         have hfz10_1 := blk_frozen BK253.out 1
         have hfz10_2 := blk_frozen BK253.out 2
         have p254 : 0 ≤ (x4_1 : Int) := zO
         have q254 : x4_1 < (l0_0.length : Int) := zO
         obtain ⟨ad254, A254_3, c254_3, A254_4, c254_4, e254, hx254_0, hx254_1, hx254_2, hx254_3, hx254_4, hl254_3, hi254_3, hl254_4, hi254_4⟩ := at_T39 HR0_0.out x4_1 p254 q254
         cases e254
         replace hx254_0 := pw_cell_below HB.out hx254_0
         replace hx254_1 := pw_cell_below HB.out hx254_1
         replace hx254_2 := pw_cell_below HB.out hx254_2
         replace hx254_3 := pw_cell_below HB.out hx254_3
         replace hx254_4 := pw_cell_below HB.out hx254_4
         have HR254_3 := Aside0.mk hi254_3
         have HC254_3 := Aside0.mk hl254_3
         clear hi254_3 hl254_3
         have HR254_4 := Aside0.mk hi254_4
         have HC254_4 := Aside0.mk hl254_4
         clear hi254_4 hl254_4
         replace p254 := eq_true p254
         replace q254 := eq_true q254
         go_wp2
         go_roundg k2
         case measure => have := HK1.out; have := HK2.out; omega
         case rel => exact ⟨(x3_2), (wrap64 (x4_1 + 1)), zQ, zQ, H', ⟨by have := HK1.out; have := HK2.out; omega⟩, ⟨zK BK253.out⟩, ⟨zG⟩⟩
       ·rw [if_neg c6] at H
        exact absurd H (by simp)
      ·rw [if_neg c5] at H
       exact absurd H (by simp)
   ·rw [if_neg c3] at H
    have c3b0 : decide (x4_1 < (l0_0.length : Int)) = false := decide_eq_false c3
    clear c3
    obtain rfl := Option.some.inj H
    have hcz11_0 : wr.cell? ⟨gb253, 0, none⟩ = some (.slice A0_0 l0_0.length c0_0) := (blk_cell BK253.out 0).trans rfl
    have hcz11_1 : wr.cell? ⟨gb253, 1, none⟩ = some (.int .i64 a0_1) := (blk_cell BK253.out 1).trans rfl
    have hcz11_2 : wr.cell? ⟨gb253, 2, none⟩ = some (.slice A0_2 l0_2.length c0_2) := (blk_cell BK253.out 2).trans rfl
    have hfz11_0 := blk_frozen BK253.out 0
    have hfz11_1 := blk_frozen BK253.out 1
    have hfz11_2 := blk_frozen BK253.out 2
    go_wp2
    go_ret
    exact ⟨zV, zG⟩
end Go.Proofs.Ytgbpkbfghonllaa.P
namespace Go.Proofs.Ytgbpkbfghonllaa.P
open Go.RowKit Go.Proofs.YtgbpkbfghonllaaW.PrintWords Go.Proofs.YtgbpkbfghonllaaW.PrintLast Go.Proofs.YtgbpkbfghonllaaW.PrintMore
attribute [local go_sem] max2_int min2_int max_two min_two max_three min_three max_four min_four   
set_option linter.unusedVariables false
set_option linter.unusedSimpArgs false
def fnOk (f : S39) : Bool := decide (f.f4.length < 100000) && f.f4.all (fun b => decide (b.length < 100000) && b.all (fun i => decide (i.f8.length < 100000)))
theorem fnOk_out {f : S39} (h : fnOk f = true) : f.f4.length < 100000 ∧ ∀ k, k < f.f4.length → (f.f4.getD k []).length < 100000 ∧ ∀ i, i < (f.f4.getD k []).length → ((f.f4.getD k []).getD i z42).f8.length < 100000 := by
 unfold fnOk at h
 simp only [Bool.and_eq_true, decide_eq_true_eq, List.all_eq_true] at h
 refine ⟨h.1, fun k hk => ?_⟩
 have h2 := h.2 (f.f4.getD k []) (by rw [List.getD_eq_getElem?_getD, List.getElem?_eq_getElem hk]; exact List.getElem_mem hk)
 refine ⟨h2.1, fun i hi => ?_⟩
 exact h2.2 _ (by rw [List.getD_eq_getElem?_getD (l := f.f4.getD k []), List.getElem?_eq_getElem hi]; exact List.getElem_mem hi)
def funV (l0 : List S39) (a1 : Int) (l2 : List S48) (f : S39) (hv : Int) : Int × Int × Int := if hv ≠ 0 then (-1, -1, hv) else scanBs ⟨none, 0, l0, a1, none, 0, l2, f.f0, f.f1, f.f2, none, 0, f.f3, none, 0, f.f4, none, 0, predsV f.f4⟩ f.f4.length 0 (-1, -1)
def fun_function.f (k : Nat) (l0_0 : List S39) (a0_1 : Int) (l0_2 : List S48) (a1 : Int) : Option (Int × Int × Int × Int) :=
 if 0 ≤ a1 then (if a1 < (l0_0.length : Int) then (if fnOk (rd_T39 l0_0 a1) = true then (fun_head.f k (rd_T39 l0_0 a1).f0 (rd_T39 l0_0 a1).f1 (rd_T39 l0_0 a1).f2 (rd_T39 l0_0 a1).f3 (rd_T39 l0_0 a1).f4).bind fun hv => some (a1, funV l0_0 a0_1 l0_2 (rd_T39 l0_0 a1) hv) else none) else none) else none
theorem fun_function.calls (k : Nat) (A0_0 : Option Addr) (c0_0 : Nat) (l0_0 : List S39) (a0_1 : Int) (A0_2 : Option Addr) (c0_2 : Nat) (l0_2 : List S48) (a1 : Int) (r1 r2 r3 r4 : Int) (w : World) (hr0_0 : Kd.C k39 w A0_0 l0_0.length l0_0) (hc0_0 : l0_0.length ≤ c0_0) (hr0_2 : Kd.C k48 w A0_2 l0_2.length l0_2) (hc0_2 : l0_2.length ≤ c0_2) (h : fun_function.f k l0_0 a0_1 l0_2 a1 = some (r1, r2, r3, r4)) :
  Calls Try.prog 25 #[.agg #[.slice A0_0 l0_0.length c0_0, .int .i64 a0_1, .slice A0_2 l0_2.length c0_2], .int .i64 a1] w fun e w' => e = .returned (.agg #[.int .i64 r1, .int .i64 r2, .int .i64 r3, .int .i64 r4]) ∧ Below w.heap.size w w' := by
 unfold fun_function.f at h
 by_cases h0 : 0 ≤ a1
 rotate_left
 ·rw [if_neg h0] at h; cases h
 by_cases h1 : a1 < (l0_0.length : Int)
 rotate_left
 ·rw [if_pos h0, if_neg h1] at h; cases h
 by_cases h2 : fnOk (rd_T39 l0_0 a1) = true
 rotate_left
 ·rw [if_pos h0, if_pos h1, if_neg h2] at h; cases h
 rw [if_pos h0, if_pos h1, if_pos h2] at h
 obtain ⟨hv, hh, hq⟩ := Option.bind_eq_some_iff.mp h
 clear h
 obtain ⟨n, rfl⟩ := Int.eq_ofNat_of_zero_le h0
 have hq' := Option.some.inj hq
 obtain ⟨rfl, hq2⟩ := Prod.mk.inj hq'
 obtain ⟨g1, g2⟩ := fnOk_out h2
 exact function_at l0_0 a0_1 l0_2 A0_0 c0_0 A0_2 c0_2 n w hr0_0 hc0_0 hr0_2 hc0_2 (by omega) (rd_T39 l0_0 (n : Int)) rfl g1 g2 k hv hh r2 r3 r4 hq2
end Go.Proofs.Ytgbpkbfghonllaa.P

/- A part of it. -/
import Derived.Test.YtgbpkbfghonllaaFkZ
import Derived.Test.YtgbpkbfghonllaaFkM21
import Derived.Test.YtgbpkbfghonllaaFkP3
import Derived.Test.YtgbpkbfghonllaaFkP5
import Derived.Test.YtgbpkbfghonllaaFkP6
import Derived.Test.YtgbpkbfghonllaaFkP19
import Derived.Test.YtgbpkbfghonllaaFkP21
import Derived.Test.YtgbpkbfghonllaaFkP22
namespace Go.Proofs.Ytgbpkbfghonllaa.P
open Go.RowKit Go.Proofs.YtgbpkbfghonllaaW.PrintWords Go.Proofs.YtgbpkbfghonllaaW.PrintLast Go.Proofs.YtgbpkbfghonllaaW.PrintMore
attribute [local go_sem] max2_int min2_int max_two min_two max_three min_three max_four min_four   
set_option linter.unusedVariables false
set_option linter.unusedSimpArgs false
mutual
def balustradelaw16_FunKinds.j0 : Nat → Bool → List (S39) → Int → List (S48) → Option (Bool)
 | 0, _, _, _, _ => none
 | k + 1, x20, x389000, x389001, x389002 => if x20 = true then ((balustradelaw16_works.f k).bind fun t394 => (some t394)) else (balustradelaw16_FunKinds.l0 k 0 x389000 x389001 x389002)
def balustradelaw16_FunKinds.l0 : Nat → Int → List (S39) → Int → List (S48) → Option (Bool)
 | 0, _, _, _, _ => none
 | k + 1, x3, x389000, x389001, x389002 => if x3 < (x389000.length : Int) then (if 0 ≤ x3 then (balustradelaw16_FunKinds.l1 k x3 0 x389000 x389001 x389002 ((rd_T39 x389000 x3).f0) ((rd_T39 x389000 x3).f1) ((rd_T39 x389000 x3).f2) ((rd_T39 x389000 x3).f3) ((rd_T39 x389000 x3).f4)) else (none)) else ((balustradelaw16_works.f k).bind fun t395 => (some t395))
def balustradelaw16_FunKinds.l1 : Nat → Int → Int → List (S39) → Int → List (S48) → ByteArray → Int → Int → List Int → List (List (S42)) → Option (Bool)
 | 0, _, _, _, _, _, _, _, _, _, _ => none
 | k + 1, x3, x5, x389000, x389001, x389002, x398000, x398001, x398002, x398003, x398004 => if x5 < (x398004.length : Int) then (balustradelaw16_FunKinds.l2 k x3 x5 0 x389000 x389001 x389002 x398000 x398001 x398002 x398003 x398004) else (balustradelaw16_FunKinds.l0 k (wrap64 (x3 + 1)) x389000 x389001 x389002)
def balustradelaw16_FunKinds.l2 : Nat → Int → Int → Int → List (S39) → Int → List (S48) → ByteArray → Int → Int → List Int → List (List (S42)) → Option (Bool)
 | 0, _, _, _, _, _, _, _, _, _, _, _ => none
 | k + 1, x3, x5, x6, x389000, x389001, x389002, x398000, x398001, x398002, x398003, x398004 => if 0 ≤ x5 then (if x5 < (x398004.length : Int) then (if x6 < ((rd_L5 x398004 x5).length : Int) then (if 0 ≤ x6 then ((balustraderef15_Uses.f k ((rd_T42 (rd_L5 x398004 x5) x6).f0) ((rd_T42 (rd_L5 x398004 x5) x6).f1) ((rd_T42 (rd_L5 x398004 x5) x6).f2) ((rd_T42 (rd_L5 x398004 x5) x6).f3) ((rd_T42 (rd_L5 x398004 x5) x6).f4) ((rd_T42 (rd_L5 x398004 x5) x6).f5) ((rd_T42 (rd_L5 x398004 x5) x6).f6) ((rd_T42 (rd_L5 x398004 x5) x6).f7) ((rd_T42 (rd_L5 x398004 x5) x6).f8)).bind fun t402 => ((balustradebase_Ints.f t402).bind fun t405 => ((balustraderef15_Def.f ((rd_T42 (rd_L5 x398004 x5) x6).f0) ((rd_T42 (rd_L5 x398004 x5) x6).f1) ((rd_T42 (rd_L5 x398004 x5) x6).f2) ((rd_T42 (rd_L5 x398004 x5) x6).f3) ((rd_T42 (rd_L5 x398004 x5) x6).f4) ((rd_T42 (rd_L5 x398004 x5) x6).f5) ((rd_T42 (rd_L5 x398004 x5) x6).f6) ((rd_T42 (rd_L5 x398004 x5) x6).f7) ((rd_T42 (rd_L5 x398004 x5) x6).f8)).bind fun t408 => (if t405.length < 17592186044416 then (balustradelaw16_FunKinds.l3 k x3 x5 x6 (t405 ++ [t408]) 0 x389000 x389001 x389002 x398000 x398001 x398002 x398003 x398004 ((rd_T42 (rd_L5 x398004 x5) x6).f0) ((rd_T42 (rd_L5 x398004 x5) x6).f1) ((rd_T42 (rd_L5 x398004 x5) x6).f2) ((rd_T42 (rd_L5 x398004 x5) x6).f3) ((rd_T42 (rd_L5 x398004 x5) x6).f4) ((rd_T42 (rd_L5 x398004 x5) x6).f5) ((rd_T42 (rd_L5 x398004 x5) x6).f6) ((rd_T42 (rd_L5 x398004 x5) x6).f7) ((rd_T42 (rd_L5 x398004 x5) x6).f8)) else (none))))) else (none)) else (balustradelaw16_FunKinds.l1 k x3 (wrap64 (x5 + 1)) x389000 x389001 x389002 x398000 x398001 x398002 x398003 x398004)) else (none)) else (none)
def balustradelaw16_FunKinds.l3 : Nat → Int → Int → Int → List Int → Int → List (S39) → Int → List (S48) → ByteArray → Int → Int → List Int → List (List (S42)) → Int → Int → Int → Int → Int → Int → Int → Int → List Int → Option (Bool)
 | 0, _, _, _, _, _, _, _, _, _, _, _, _, _, _, _, _, _, _, _, _, _, _ => none
 | k + 1, x3, x5, x6, x8, x9, x389000, x389001, x389002, x398000, x398001, x398002, x398003, x398004, x402000, x402001, x402002, x402003, x402004, x402005, x402006, x402007, x402008 => if x9 < (x8.length : Int) then (if 0 ≤ x9 then (if (rd x8 x9) ≥ (x398003.length : Int) then (some false) else (balustradelaw16_FunKinds.l3 k x3 x5 x6 x8 (wrap64 (x9 + 1)) x389000 x389001 x389002 x398000 x398001 x398002 x398003 x398004 x402000 x402001 x402002 x402003 x402004 x402005 x402006 x402007 x402008)) else (none)) else ((balustraderef15_Targets.f k x402000 x402001 x402002 x402003 x402004 x402005 x402006 x402007 x402008).bind fun t413 => (balustradelaw16_FunKinds.l4 k x3 x5 x6 t413 0 x389000 x389001 x389002 x398000 x398001 x398002 x398003 x398004 x402000 x402001 x402002 x402003 x402004 x402005 x402006 x402007 x402008))
def balustradelaw16_FunKinds.l4 : Nat → Int → Int → Int → List Int → Int → List (S39) → Int → List (S48) → ByteArray → Int → Int → List Int → List (List (S42)) → Int → Int → Int → Int → Int → Int → Int → Int → List Int → Option (Bool)
 | 0, _, _, _, _, _, _, _, _, _, _, _, _, _, _, _, _, _, _, _, _, _, _ => none
 | k + 1, x3, x5, x6, x10, x11, x389000, x389001, x389002, x398000, x398001, x398002, x398003, x398004, x402000, x402001, x402002, x402003, x402004, x402005, x402006, x402007, x402008 => if x11 < (x10.length : Int) then (if 0 ≤ x11 then (if (rd x10 x11) < 1 then (some false) else (if (rd x10 x11) ≥ (x398004.length : Int) then (some false) else (balustradelaw16_FunKinds.l4 k x3 x5 x6 x10 (wrap64 (x11 + 1)) x389000 x389001 x389002 x398000 x398001 x398002 x398003 x398004 x402000 x402001 x402002 x402003 x402004 x402005 x402006 x402007 x402008))) else (none)) else ((balustraderef15_Check.f x402000).bind fun t418 => (if t418 = true then (if x402007 ≥ (x389002.length : Int) then (some false) else (if x402000 = 39 then (if x402005 ≥ (x389000.length : Int) then (some false) else (balustradelaw16_FunKinds.l2 k x3 x5 (wrap64 (x6 + 1)) x389000 x389001 x389002 x398000 x398001 x398002 x398003 x398004)) else (balustradelaw16_FunKinds.l2 k x3 x5 (wrap64 (x6 + 1)) x389000 x389001 x389002 x398000 x398001 x398002 x398003 x398004))) else (if x402000 = 39 then (if x402005 ≥ (x389000.length : Int) then (some false) else (balustradelaw16_FunKinds.l2 k x3 x5 (wrap64 (x6 + 1)) x389000 x389001 x389002 x398000 x398001 x398002 x398003 x398004)) else (balustradelaw16_FunKinds.l2 k x3 x5 (wrap64 (x6 + 1)) x389000 x389001 x389002 x398000 x398001 x398002 x398003 x398004))))
end
def balustradelaw16_FunKinds.f (k : Nat) (l0_0 : List (S39)) (a0_1 : Int) (l0_2 : List (S48)) : Option (Bool) := (balustraderef16_Few.f k l0_0 a0_1 l0_2 300).bind fun t389 => (if t389 = true then ((fun_Check.f k l0_0 a0_1 l0_2).bind fun bt390 => (balustradelaw16_FunKinds.j0 k (bt390.2.2.2 != 0) l0_0 a0_1 l0_2)) else (balustradelaw16_FunKinds.j0 k true l0_0 a0_1 l0_2))
def balustradelaw16_FunKinds.T14 : Bool × List (List Nat × List Nat) := (true, [([], []), ([0], [0]), ([1, 1], [1]), ([], []), ([3, 2], [3]), ([4], [4]), ([2, 5, 4], [2, 5]), ([6, 6, 0, 1, 2, 3, 4, 5, 6], [6])])
def balustradelaw16_FunKinds.B14 : List Nat := [0, 1, 3, 0, 15, 31, 63, 127]
theorem balustradelaw16_FunKinds.tab14 : rtab .any (opsOf Try.f4 14) = balustradelaw16_FunKinds.T14 := by kernel_rfl
theorem balustradelaw16_FunKinds.bits14 : waitsOk balustradelaw16_FunKinds.T14.2 balustradelaw16_FunKinds.B14 = true := by kernel_rfl
def balustradelaw16_FunKinds.T18 : Bool × List (List Nat × List Nat) := (true, [([], []), ([], []), ([0, 1], [0, 1]), ([2], [2]), ([], []), ([4], [4]), ([5], [5]), ([3, 6], [3, 6])])
def balustradelaw16_FunKinds.B18 : List Nat := [0, 0, 3, 7, 0, 16, 48, 127]
theorem balustradelaw16_FunKinds.tab18 : rtab .any (opsOf Try.f4 18) = balustradelaw16_FunKinds.T18 := by kernel_rfl
theorem balustradelaw16_FunKinds.bits18 : waitsOk balustradelaw16_FunKinds.T18.2 balustradelaw16_FunKinds.B18 = true := by kernel_rfl
def balustradelaw16_FunKinds.T24 : Bool × List (List Nat × List Nat) := (true, [([], []), ([], []), ([0, 1], [0, 1]), ([2], [2]), ([3], [3]), ([4], [4]), ([5], [5]), ([5], [5]), ([6, 7, 5], [5, 6, 7]), ([8, 5], [5, 8]), ([5], [5]), ([10, 5], [5, 10]), ([11, 5], [5, 11]), ([9, 12, 5], [5, 9, 12]), ([5, 13], [5, 13])])
def balustradelaw16_FunKinds.B24 : List Nat := [0, 0, 3, 7, 15, 31, 63, 63, 255, 511, 63, 1087, 3135, 8191, 16383]
theorem balustradelaw16_FunKinds.tab24 : rtab .any (opsOf Try.f4 24) = balustradelaw16_FunKinds.T24 := by kernel_rfl
theorem balustradelaw16_FunKinds.bits24 : waitsOk balustradelaw16_FunKinds.T24.2 balustradelaw16_FunKinds.B24 = true := by kernel_rfl
set_option maxHeartbeats 8000000 in
set_option maxRecDepth 100000 in
theorem balustradelaw16_FunKinds.calls (k : Nat) (A0_0 : Option Addr) (c0_0 : Nat) (l0_0 : List (S39)) (a0_1 : Int) (A0_2 : Option Addr) (c0_2 : Nat) (l0_2 : List (S48)) (r : Bool) (w : World) (hr0_0 : Kd.C k39 w A0_0 l0_0.length l0_0) (hc0_0 : l0_0.length ≤ c0_0) (hr0_2 : Kd.C k48 w A0_2 l0_2.length l0_2) (hc0_2 : l0_2.length ≤ c0_2) (h : balustradelaw16_FunKinds.f k l0_0 a0_1 l0_2 = some r) :
  Calls Try.prog 4 #[.agg #[.slice A0_0 l0_0.length c0_0, .int .i64 a0_1, .slice A0_2 l0_2.length c0_2]] w fun e w' => e = .returned (.bool r) ∧ Below w.heap.size w w' := by
 have hu25 := Try.underlying25
 have hu39 := Try.underlying39
 have hu42 := Try.underlying42
 have HR0_0 := Aside0.mk hr0_0
 have HC0_0 := Aside0.mk hc0_0
 clear hr0_0 hc0_0
 have HR0_2 := Aside0.mk hr0_2
 have HC0_2 := Aside0.mk hc0_2
 clear hr0_2 hc0_2
 have hfd30 : ∀ (a b c d : Int) (w : World), (Instr.field 30 (.agg #[.int .i64 a, .int .i64 b, .int .i64 c, .int .i64 d]) 3).run Try.prog w = .ok (.int .i64 d) w := fun _ _ _ _ _ => by kernel_rfl
 have HB := Aside0.mk (Below.refl w.heap.size w)
 have H : ((balustraderef16_Few.f k l0_0 a0_1 l0_2 300).bind fun t389 => (if t389 = true then ((fun_Check.f k l0_0 a0_1 l0_2).bind fun bt390 => (balustradelaw16_FunKinds.j0 k (bt390.2.2.2 != 0) l0_0 a0_1 l0_2)) else (balustradelaw16_FunKinds.j0 k true l0_0 a0_1 l0_2))) = some r := h
 clear h
 have HC2 := Aside0.mk H
 clear H
 go_enter Try.func4, Try.ntmps4
 go_upto_region 1 with (first | ((with_reducible refine gate_dst (N := 1) rfl ?_); (try (refine gate_guard (by rfl) ?_; dsimp only)); refine box_event ?hg (N := 1) ?hd (cs := #[.slice A0_0 l0_0.length c0_0, .int .i64 a0_1, .slice A0_2 l0_2.length c0_2]) (t := 25) ?hr ?_; (case hd => rfl); (case hg => rfl); (case hr => first | (go_simp; done) | (go_simp; rfl)); intro gb388 hg w3 hbox hb; have n0_ := Aside0.mk (below_step (zB) hb); have n1_ := Aside0.mk (hbox); have n2_ := Aside0.mk ((by rw [hg]; exact (below_size (zB)) : w.heap.size ≤ gb388)); have n3_ := Aside0.mk ((by rw [hg]; exact (below_size (zB)) : w.heap.size ≤ gb388)); clear HB; have HB := n0_; have BK388 := n1_; have GW388 := n2_; have GE388 := n3_; clear n0_ n1_ n2_ n3_; clear hb hbox hg))
 (try simp only [Act.put, List.setIfInBounds_toArray, List.set_cons_zero, List.set_cons_succ])
 go_cut [20] (fun v20 wc => ∃ (kq : Nat) (x20_1 : Bool), v20 = .bool x20_1 ∧ Aside0 (balustradelaw16_FunKinds.j0 kq x20_1 l0_0 a0_1 l0_2 = some r) ∧ Aside0 (kq ≤ k) ∧ Aside0 (wc.heap[gb388]? = some (.cells #[(.slice A0_0 l0_0.length c0_0), .int .i64 a0_1, (.slice A0_2 l0_2.length c0_2)] 25 (0, 0))) ∧ Aside0 (Below w.heap.size w wc))
 case first =>
  have H := HC2.out
  clear HC2
  replace H := Option.bind_eq_some_iff.mp H
  obtain ⟨t389, A40, H⟩ := H
  replace H : (if t389 = true then ((fun_Check.f k l0_0 a0_1 l0_2).bind fun bt390 => (balustradelaw16_FunKinds.j0 k (bt390.2.2.2 != 0) l0_0 a0_1 l0_2)) else (balustradelaw16_FunKinds.j0 k true l0_0 a0_1 l0_2)) = some r := H
  have A4 := Aside0.mk A40
  clear A40
  by_cases c5 : t389 = true
  ·subst c5
   have H1 : ((fun_Check.f k l0_0 a0_1 l0_2).bind fun bt390 => (balustradelaw16_FunKinds.j0 k (bt390.2.2.2 != 0) l0_0 a0_1 l0_2)) = some r := by rw [if_pos rfl] at H; exact H
   clear H
   have H := H1
   clear H1
   replace H := Option.bind_eq_some_iff.mp H
   obtain ⟨⟨t390, t391, t392, t393⟩, A60, H⟩ := H
   replace H : (balustradelaw16_FunKinds.j0 k (t393 != 0) l0_0 a0_1 l0_2) = some r := H
   have A6 := Aside0.mk A60
   clear A60
   have H' := Aside0.mk H
   clear H
   have hcz7_0 : w3.cell? ⟨gb388, 0, none⟩ = some (.slice A0_0 l0_0.length c0_0) := (blk_cell BK388.out 0).trans rfl
   have hcz7_1 : w3.cell? ⟨gb388, 1, none⟩ = some (.int .i64 a0_1) := (blk_cell BK388.out 1).trans rfl
   have hcz7_2 : w3.cell? ⟨gb388, 2, none⟩ = some (.slice A0_2 l0_2.length c0_2) := (blk_cell BK388.out 2).trans rfl
   have hfz7_0 := blk_frozen BK388.out 0
   have hfz7_1 := blk_frozen BK388.out 1
   have hfz7_2 := blk_frozen BK388.out 2
   go_wp2_with (first | ((with_reducible refine gate_callee (f := 7) rfl ?_); refine goesL_ (some 13) rfl rfl Try.func7 (by kernel_rfl) rfl #[.agg #[.slice A0_0 l0_0.length c0_0, .int .i64 a0_1, .slice A0_2 l0_2.length c0_2], .int .i64 300] rfl zE ?_; (with_reducible refine (balustraderef16_Few.calls k _ _ l0_0 a0_1 _ _ l0_2 300 true _ ?side1 ?side2 ?side3 ?side4 A4.out).mono ?_); (case side1 => exact zC (Kd.C_below HR0_0.out HB.out)); (case side2 => exact HC0_0.out); (case side3 => exact zC (Kd.C_below HR0_2.out HB.out)); (case side4 => exact HC0_2.out); rintro e w8 ⟨rfl, hb⟩; refine ⟨_, rfl, ?_⟩; have n0_ := Aside0.mk (blk_below (g := gb388) (o := .cells #[.slice A0_0 l0_0.length c0_0, .int .i64 a0_1, .slice A0_2 l0_2.length c0_2] 25 (0, 0)) (zK BK388.out) hb); have n1_ := Aside0.mk (below_step (by repeat (first | (with_reducible first | exact HB.out | apply below_alloc | apply pw_below_drewN | apply below_drew1 | refine below_set ?_ GE388.out) | exact HB.out)) hb); clear BK388; clear HB; have BK388 := n0_; have HB := n1_; clear n0_ n1_; (try clear hb); (try clear hb2); (try clear hk); (try clear hi); have hcz9_0 : w8.cell? ⟨gb388, 0, none⟩ = some (.slice A0_0 l0_0.length c0_0) := (blk_cell BK388.out 0).trans rfl; have hcz9_1 : w8.cell? ⟨gb388, 1, none⟩ = some (.int .i64 a0_1) := (blk_cell BK388.out 1).trans rfl; have hcz9_2 : w8.cell? ⟨gb388, 2, none⟩ = some (.slice A0_2 l0_2.length c0_2) := (blk_cell BK388.out 2).trans rfl; have hfz9_0 := blk_frozen BK388.out 0; have hfz9_1 := blk_frozen BK388.out 1; have hfz9_2 := blk_frozen BK388.out 2) | (go_at_call 9; (with_reducible refine (fun_Check.calls k _ _ l0_0 a0_1 _ _ l0_2 t390 t391 t392 t393 _ ?side1 ?side2 ?side3 ?side4 A6.out).mono ?_); (case side1 => exact zC (Kd.C_below HR0_0.out HB.out)); (case side2 => exact HC0_0.out); (case side3 => exact zC (Kd.C_below HR0_2.out HB.out)); (case side4 => exact HC0_2.out); rintro e w10 ⟨rfl, hb⟩; have n0_ := Aside0.mk (blk_below (g := gb388) (o := .cells #[.slice A0_0 l0_0.length c0_0, .int .i64 a0_1, .slice A0_2 l0_2.length c0_2] 25 (0, 0)) (zK BK388.out) hb); have n1_ := Aside0.mk (below_step (by repeat (first | (with_reducible first | exact HB.out | apply below_alloc | apply pw_below_drewN | apply below_drew1 | refine below_set ?_ GE388.out) | exact HB.out)) hb); clear BK388; clear HB; have BK388 := n0_; have HB := n1_; clear n0_ n1_; (try clear hb); (try clear hb2); (try clear hk); (try clear hi)))
   go_meet
   case rel => exact ⟨_, ((t393 != 0)), zQ, H', ⟨by first | omega | exact Nat.le_refl _⟩, ⟨zK BK388.out⟩, ⟨by repeat (first | (with_reducible first | exact HB.out | apply below_alloc | apply pw_below_drewN | apply below_drew1 | refine below_set ?_ GE388.out) | exact HB.out)⟩⟩
  ·replace c5 := Bool.eq_false_iff.mpr c5
   subst c5
   have H1 : (balustradelaw16_FunKinds.j0 k true l0_0 a0_1 l0_2) = some r := by rw [if_neg (show ¬ (false = true) by decide)] at H; exact H
   clear H
   have H := H1
   clear H1
   have H' := Aside0.mk H
   clear H
   have hcz11_0 : w3.cell? ⟨gb388, 0, none⟩ = some (.slice A0_0 l0_0.length c0_0) := (blk_cell BK388.out 0).trans rfl
   have hcz11_1 : w3.cell? ⟨gb388, 1, none⟩ = some (.int .i64 a0_1) := (blk_cell BK388.out 1).trans rfl
   have hcz11_2 : w3.cell? ⟨gb388, 2, none⟩ = some (.slice A0_2 l0_2.length c0_2) := (blk_cell BK388.out 2).trans rfl
   have hfz11_0 := blk_frozen BK388.out 0
   have hfz11_1 := blk_frozen BK388.out 1
   have hfz11_2 := blk_frozen BK388.out 2
   go_wp2_with (first | ((with_reducible refine gate_callee (f := 7) rfl ?_); refine goesL_ (some 13) rfl rfl Try.func7 (by kernel_rfl) rfl #[.agg #[.slice A0_0 l0_0.length c0_0, .int .i64 a0_1, .slice A0_2 l0_2.length c0_2], .int .i64 300] rfl zE ?_; (with_reducible refine (balustraderef16_Few.calls k _ _ l0_0 a0_1 _ _ l0_2 300 false _ ?side1 ?side2 ?side3 ?side4 A4.out).mono ?_); (case side1 => exact zC (Kd.C_below HR0_0.out HB.out)); (case side2 => exact HC0_0.out); (case side3 => exact zC (Kd.C_below HR0_2.out HB.out)); (case side4 => exact HC0_2.out); rintro e w12 ⟨rfl, hb⟩; refine ⟨_, rfl, ?_⟩; have n0_ := Aside0.mk (blk_below (g := gb388) (o := .cells #[.slice A0_0 l0_0.length c0_0, .int .i64 a0_1, .slice A0_2 l0_2.length c0_2] 25 (0, 0)) (zK BK388.out) hb); have n1_ := Aside0.mk (below_step (by repeat (first | (with_reducible first | exact HB.out | apply below_alloc | apply pw_below_drewN | apply below_drew1 | refine below_set ?_ GE388.out) | exact HB.out)) hb); clear BK388; clear HB; have BK388 := n0_; have HB := n1_; clear n0_ n1_; (try clear hb); (try clear hb2); (try clear hk); (try clear hi)))
   go_meet
   case rel => exact ⟨_, (true), zQ, H', ⟨by first | omega | exact Nat.le_refl _⟩, ⟨zK BK388.out⟩, ⟨by repeat (first | (with_reducible first | exact HB.out | apply below_alloc | apply pw_below_drewN | apply below_drew1 | refine below_set ?_ GE388.out) | exact HB.out)⟩⟩
 case rest =>
  clear HC2
  try clear p2
  try clear c4
  try clear c5
  try clear c7
  try clear hcz11_0
  try clear hcz11_1
  try clear hcz11_2
  try clear hcz7_0
  try clear hcz7_1
  try clear hcz7_2
  try clear hcz9_0
  try clear hcz9_1
  try clear hcz9_2
  try clear hfz11_0
  try clear hfz11_1
  try clear hfz11_2
  try clear hfz7_0
  try clear hfz7_1
  try clear hfz7_2
  try clear hfz9_0
  try clear hfz9_1
  try clear hfz9_2
  obtain ⟨kq, x20_1, rfl, HA, HJ1, BK388, HB⟩ := hcut
  cases kq with
  | zero => exact absurd HA.out (by simp [balustradelaw16_FunKinds.j0])
  | succ kj1 =>
   have H := HA.out
   clear HA
   simp only [balustradelaw16_FunKinds.j0] at H
   by_cases c13 : x20_1 = true
   ·subst c13
    have H1 : ((balustradelaw16_works.f kj1).bind fun t394 => (some t394)) = some r := by rw [if_pos rfl] at H; exact H
    clear H
    have H := H1
    clear H1
    replace H := Option.bind_eq_some_iff.mp H
    obtain ⟨t394, A140, H⟩ := H
    replace H : (some t394) = some r := H
    have A14 := Aside0.mk A140
    clear A140
    obtain rfl := Option.some.inj H
    go_wp2_with (first | ((with_reducible refine gate_callee (f := 8) rfl ?_); refine goesL_ (some 21) rfl rfl Try.func8 (by kernel_rfl) rfl #[] rfl zE ?_; (with_reducible refine (balustradelaw16_works.calls kj1  t394 _ A14.out).mono ?_); rintro e w15 ⟨rfl, hb⟩; refine ⟨_, rfl, ?_⟩; have n0_ := Aside0.mk (blk_below (g := gb388) (o := .cells #[.slice A0_0 l0_0.length c0_0, .int .i64 a0_1, .slice A0_2 l0_2.length c0_2] 25 (0, 0)) (zK BK388.out) hb); have n1_ := Aside0.mk (below_step (by repeat (first | (with_reducible first | exact HB.out | apply below_alloc | apply pw_below_drewN | apply below_drew1 | refine below_set ?_ GE388.out) | exact HB.out)) hb); clear BK388; clear HB; have BK388 := n0_; have HB := n1_; clear n0_ n1_; (try clear hb); (try clear hb2); (try clear hk); (try clear hi)))
    go_ret
    exact ⟨zV, by repeat (first | (with_reducible first | exact HB.out | apply below_alloc | apply pw_below_drewN | apply below_drew1 | refine below_set ?_ GE388.out) | exact HB.out)⟩
   ·replace c13 := Bool.eq_false_iff.mpr c13
    subst c13
    have H1 : (balustradelaw16_FunKinds.l0 kj1 0 l0_0 a0_1 l0_2) = some r := by rw [if_neg (show ¬ (false = true) by decide)] at H; exact H
    clear H
    have H := H1
    clear H1
    have H' := Aside0.mk H
    clear H
    go_wp2
    go_loopg [3] kj1 (fun kq v3 w' => ∃ (x3_2 : Int), v3 = .int .i64 x3_2 ∧ Aside0 (balustradelaw16_FunKinds.l0 kq x3_2 l0_0 a0_1 l0_2 = some r) ∧ Aside0 (kq ≤ kj1) ∧ Aside0 (w'.heap[gb388]? = some (.cells #[(.slice A0_0 l0_0.length c0_0), .int .i64 a0_1, (.slice A0_2 l0_2.length c0_2)] 25 (0, 0))) ∧ Aside0 (Below w.heap.size w w'))
    case atStart => exact ⟨(0), zQ, H', ⟨Nat.le_refl _⟩, ⟨zK BK388.out⟩, ⟨by repeat (first | (with_reducible first | exact HB.out | apply below_alloc | apply pw_below_drewN | apply below_drew1 | refine below_set ?_ GE388.out) | exact HB.out)⟩⟩
    case round =>
     clear H'
     try clear c1
     try clear p2
     try clear c4
     try clear c5
     try clear c7
     try clear c8
     try clear c13
     try clear hcz11_0
     try clear hcz11_1
     try clear hcz11_2
     try clear hcz7_0
     try clear hcz7_1
     try clear hcz7_2
     try clear hcz9_0
     try clear hcz9_1
     try clear hcz9_2
     try clear hfz11_0
     try clear hfz11_1
     try clear hfz11_2
     try clear hfz7_0
     try clear hfz7_1
     try clear hfz7_2
     try clear hfz9_0
     try clear hfz9_1
     try clear hfz9_2
     try clear p2
     obtain ⟨x3_2, rfl, HA, HK2, BK388, HB⟩ := hrel
     cases gk with
     | zero => exact absurd HA.out (by simp [balustradelaw16_FunKinds.l0])
     | succ k2 =>
      have H := HA.out
      clear HA
      simp only [balustradelaw16_FunKinds.l0] at H
      by_cases c16 : x3_2 < (l0_0.length : Int)
      ·rw [if_pos c16] at H
       have c16b0 : decide (x3_2 < (l0_0.length : Int)) = true := decide_eq_true c16
       clear c16
       by_cases c17 : 0 ≤ x3_2
       ·rw [if_pos c17] at H
        have c17b0 : decide (0 ≤ x3_2) = true := decide_eq_true c17
        clear c17
        have H' := Aside0.mk H
        clear H
        have hcz18_0 : wr.cell? ⟨gb388, 0, none⟩ = some (.slice A0_0 l0_0.length c0_0) := (blk_cell BK388.out 0).trans rfl
        have hcz18_1 : wr.cell? ⟨gb388, 1, none⟩ = some (.int .i64 a0_1) := (blk_cell BK388.out 1).trans rfl
        have hcz18_2 : wr.cell? ⟨gb388, 2, none⟩ = some (.slice A0_2 l0_2.length c0_2) := (blk_cell BK388.out 2).trans rfl
        have hfz18_0 := blk_frozen BK388.out 0
        have hfz18_1 := blk_frozen BK388.out 1
        have hfz18_2 := blk_frozen BK388.out 2
        have p396 : 0 ≤ (x3_2 : Int) := zO
        have q396 : x3_2 < (l0_0.length : Int) := zO
        obtain ⟨ad396, A396_3, c396_3, A396_4, c396_4, e396, hx396_0, hx396_1, hx396_2, hx396_3, hx396_4, hl396_3, hi396_3, hl396_4, hi396_4⟩ := at_T39 HR0_0.out x3_2 p396 q396
        cases e396
        replace hx396_0 := (HB.out.cell (World.block_lt_of_cell? w _ hx396_0)).trans hx396_0
        replace hx396_1 := (HB.out.cell (World.block_lt_of_cell? w _ hx396_1)).trans hx396_1
        replace hx396_2 := (HB.out.cell (World.block_lt_of_cell? w _ hx396_2)).trans hx396_2
        replace hx396_3 := (HB.out.cell (World.block_lt_of_cell? w _ hx396_3)).trans hx396_3
        replace hx396_4 := (HB.out.cell (World.block_lt_of_cell? w _ hx396_4)).trans hx396_4
        have HR396_3 := Aside0.mk hi396_3
        have HC396_3 := Aside0.mk hl396_3
        clear hi396_3 hl396_3
        have HR396_4 := Aside0.mk hi396_4
        have HC396_4 := Aside0.mk hl396_4
        clear hi396_4 hl396_4
        replace p396 := eq_true p396
        replace q396 := eq_true q396
        go_wp2_with (first | ((with_reducible refine gate_dst (N := 4) rfl ?_); (try (refine gate_guard (by rfl) ?_; dsimp only)); refine box_event ?hg (N := 4) ?hd (cs := #[.string (⟨#[]⟩ : ByteArray), .int .i64 0, .int .i64 0, .slice none 0 0, .slice none 0 0]) (t := 39) ?hr ?_; (case hd => rfl); (case hg => rfl); (case hr => first | (go_simp; done) | (go_simp; rfl)); intro gb397 hg w19 hbox hb; have n0_ := Aside0.mk (blk_below (g := gb388) (o := .cells #[.slice (some ad396) l0_0.length c0_0, .int .i64 a0_1, .slice A0_2 l0_2.length c0_2] 25 (0, 0)) (zK BK388.out) hb); have n1_ := Aside0.mk (below_step (by repeat (first | (with_reducible first | exact HB.out | apply below_alloc | apply pw_below_drewN | apply below_drew1 | refine below_set ?_ GE388.out) | exact HB.out)) hb); have n2_ := Aside0.mk (hbox); have n3_ := Aside0.mk ((by rw [hg]; exact (below_size (by repeat (first | (with_reducible first | exact HB.out | apply below_alloc | apply pw_below_drewN | apply below_drew1 | refine below_set ?_ GE388.out) | exact HB.out))) : w.heap.size ≤ gb397)); have n4_ := Aside0.mk ((by rw [hg]; exact (below_size (by repeat (first | (with_reducible first | exact HB.out | apply below_alloc | apply pw_below_drewN | apply below_drew1 | refine below_set ?_ GE388.out) | exact HB.out))) : w.heap.size ≤ gb397)); have n5_ := Aside0.mk ((by rw [hg]; exact Nat.ne_of_lt (blk_lt (g := gb388) (o := .cells #[.slice (some ad396) l0_0.length c0_0, .int .i64 a0_1, .slice A0_2 l0_2.length c0_2] 25 (0, 0)) (zK BK388.out)) : gb388 ≠ gb397)); have n6_ := Aside0.mk ((by rw [hg]; exact Nat.ne_of_gt (blk_lt (g := gb388) (o := .cells #[.slice (some ad396) l0_0.length c0_0, .int .i64 a0_1, .slice A0_2 l0_2.length c0_2] 25 (0, 0)) (zK BK388.out)) : gb397 ≠ gb388)); clear BK388; clear HB; have BK388 := n0_; have HB := n1_; have BK397 := n2_; have GW397 := n3_; have GE397 := n4_; have NB388_397 := n5_; have NB397_388 := n6_; clear n0_ n1_ n2_ n3_ n4_ n5_ n6_; clear hb hbox hg; have hnb20 := NB397_388.out; have hnc20 := NB388_397.out; have hcz21_0 : w19.cell? ⟨gb397, 0, none⟩ = some (.string (⟨#[]⟩ : ByteArray)) := (blk_cell BK397.out 0).trans rfl; have hcz21_1 : w19.cell? ⟨gb397, 1, none⟩ = some (.int .i64 0) := (blk_cell BK397.out 1).trans rfl; have hcz21_2 : w19.cell? ⟨gb397, 2, none⟩ = some (.int .i64 0) := (blk_cell BK397.out 2).trans rfl; have hcz21_3 : w19.cell? ⟨gb397, 3, none⟩ = some (.slice none 0 0) := (blk_cell BK397.out 3).trans rfl; have hcz21_4 : w19.cell? ⟨gb397, 4, none⟩ = some (.slice none 0 0) := (blk_cell BK397.out 4).trans rfl; have hfz21_0 := blk_frozen BK397.out 0; have hfz21_1 := blk_frozen BK397.out 1; have hfz21_2 := blk_frozen BK397.out 2; have hfz21_3 := blk_frozen BK397.out 3; have hfz21_4 := blk_frozen BK397.out 4))
        go_loopg [5] k2 (fun kq v5 w' => ∃ (x5_3 : Int), v5 = .int .i64 x5_3 ∧ Aside0 (balustradelaw16_FunKinds.l1 kq x3_2 x5_3 l0_0 a0_1 l0_2 ((rd_T39 l0_0 x3_2).f0) ((rd_T39 l0_0 x3_2).f1) ((rd_T39 l0_0 x3_2).f2) ((rd_T39 l0_0 x3_2).f3) ((rd_T39 l0_0 x3_2).f4) = some r) ∧ Aside0 (kq ≤ k2) ∧ Aside0 (w'.heap[gb388]? = some (.cells #[(.slice (some ad396) l0_0.length c0_0), .int .i64 a0_1, (.slice A0_2 l0_2.length c0_2)] 25 (0, 0))) ∧ Aside0 (w'.heap[gb397]? = some (.cells #[.string ((rd_T39 l0_0 x3_2).f0), .int .i64 ((rd_T39 l0_0 x3_2).f1), .int .i64 ((rd_T39 l0_0 x3_2).f2), (.slice A396_3 ((rd_T39 l0_0 x3_2).f3).length c396_3), (.slice A396_4 ((rd_T39 l0_0 x3_2).f4).length c396_4)] 39 (0, 0))) ∧ Aside0 (Below w.heap.size w w'))
        case atStart => exact ⟨(0), zQ, H', ⟨Nat.le_refl _⟩, ⟨by (with_reducible repeat (first | refine blk_drewN ?_ _ | refine blk_drew ?_ | refine blk_alloc ?_ _)); refine blk_far ?_ NB388_397.out _; (with_reducible repeat (first | refine blk_drewN ?_ _ | refine blk_drew ?_ | refine blk_alloc ?_ _)); refine blk_far ?_ NB388_397.out _; (with_reducible repeat (first | refine blk_drewN ?_ _ | refine blk_drew ?_ | refine blk_alloc ?_ _)); refine blk_far ?_ NB388_397.out _; (with_reducible repeat (first | refine blk_drewN ?_ _ | refine blk_drew ?_ | refine blk_alloc ?_ _)); refine blk_far ?_ NB388_397.out _; (with_reducible repeat (first | refine blk_drewN ?_ _ | refine blk_drew ?_ | refine blk_alloc ?_ _)); refine blk_far ?_ NB388_397.out _; (with_reducible repeat (first | refine blk_drewN ?_ _ | refine blk_drew ?_ | refine blk_alloc ?_ _)); exact BK388.out⟩, ⟨by (with_reducible repeat (first | refine blk_drewN ?_ _ | refine blk_drew ?_ | refine blk_alloc ?_ _)); refine blk_put (cs := #[.string ((rd_T39 l0_0 x3_2).f0), .int .i64 ((rd_T39 l0_0 x3_2).f1), .int .i64 ((rd_T39 l0_0 x3_2).f2), .slice A396_3 ((rd_T39 l0_0 x3_2).f3).length c396_3, .slice none 0 0]) ?_ 4 _ rfl; (with_reducible repeat (first | refine blk_drewN ?_ _ | refine blk_drew ?_ | refine blk_alloc ?_ _)); refine blk_put (cs := #[.string ((rd_T39 l0_0 x3_2).f0), .int .i64 ((rd_T39 l0_0 x3_2).f1), .int .i64 ((rd_T39 l0_0 x3_2).f2), .slice none 0 0, .slice none 0 0]) ?_ 3 _ rfl; (with_reducible repeat (first | refine blk_drewN ?_ _ | refine blk_drew ?_ | refine blk_alloc ?_ _)); refine blk_put (cs := #[.string ((rd_T39 l0_0 x3_2).f0), .int .i64 ((rd_T39 l0_0 x3_2).f1), .int .i64 0, .slice none 0 0, .slice none 0 0]) ?_ 2 _ rfl; (with_reducible repeat (first | refine blk_drewN ?_ _ | refine blk_drew ?_ | refine blk_alloc ?_ _)); refine blk_put (cs := #[.string ((rd_T39 l0_0 x3_2).f0), .int .i64 0, .int .i64 0, .slice none 0 0, .slice none 0 0]) ?_ 1 _ rfl; (with_reducible repeat (first | refine blk_drewN ?_ _ | refine blk_drew ?_ | refine blk_alloc ?_ _)); refine blk_put (cs := #[.string (⟨#[]⟩ : ByteArray), .int .i64 0, .int .i64 0, .slice none 0 0, .slice none 0 0]) ?_ 0 _ rfl; (with_reducible repeat (first | refine blk_drewN ?_ _ | refine blk_drew ?_ | refine blk_alloc ?_ _)); exact BK397.out⟩, ⟨by repeat (first | (with_reducible first | exact HB.out | apply below_alloc | apply pw_below_drewN | apply below_drew1 | refine below_set ?_ GE388.out | refine below_set ?_ GE397.out) | exact HB.out)⟩⟩
        case round =>
         clear H'
         try clear c1
         try clear c2
         try clear p2
         try clear c3
         try clear p3
         try clear q3
         try clear hx3
         try clear c4
         try clear c5
         try clear c7
         try clear c8
         try clear c13
         try clear c16
         try clear c16b0
         try clear c17
         try clear c17b0
         try clear c20
         try clear hcz11_0
         try clear hcz11_1
         try clear hcz11_2
         try clear hcz18_0
         try clear hcz18_1
         try clear hcz18_2
         try clear hcz21_0
         try clear hcz21_1
         try clear hcz21_2
         try clear hcz21_3
         try clear hcz21_4
         try clear hcz7_0
         try clear hcz7_1
         try clear hcz7_2
         try clear hcz9_0
         try clear hcz9_1
         try clear hcz9_2
         try clear hfz11_0
         try clear hfz11_1
         try clear hfz11_2
         try clear hfz18_0
         try clear hfz18_1
         try clear hfz18_2
         try clear hfz21_0
         try clear hfz21_1
         try clear hfz21_2
         try clear hfz21_3
         try clear hfz21_4
         try clear hfz7_0
         try clear hfz7_1
         try clear hfz7_2
         try clear hfz9_0
         try clear hfz9_1
         try clear hfz9_2
         try clear hx396_0
         try clear hx396_1
         try clear hx396_2
         try clear hx396_3
         try clear hx396_4
         try clear p2
         try clear p396
         try clear q396
         obtain ⟨x5_3, rfl, HA, HK3, BK388, BK397, HB⟩ := hrel
         cases gk with
         | zero => exact absurd HA.out (by simp [balustradelaw16_FunKinds.l1])
         | succ k3 =>
          have H := HA.out
          clear HA
          simp only [balustradelaw16_FunKinds.l1] at H
          by_cases c22 : x5_3 < (((rd_T39 l0_0 x3_2).f4).length : Int)
          ·rw [if_pos c22] at H
           have c22b0 : decide (x5_3 < (((rd_T39 l0_0 x3_2).f4).length : Int)) = true := decide_eq_true c22
           clear c22
           have H' := Aside0.mk H
           clear H
           have hnb23 := NB397_388.out
           have hnc23 := NB388_397.out
           obtain ⟨hcz24_0, hcz24_1, hcz24_2, hcz24_3, hcz24_4⟩ := zc5 BK397.out
           obtain ⟨hfz24_0, hfz24_1, hfz24_2, hfz24_3, hfz24_4⟩ := zf5 BK397.out
           go_wp2
           go_loopg [6] k3 (fun kq v6 w' => ∃ (x6_4 : Int), v6 = .int .i64 x6_4 ∧ Aside0 (balustradelaw16_FunKinds.l2 kq x3_2 x5_3 x6_4 l0_0 a0_1 l0_2 ((rd_T39 l0_0 x3_2).f0) ((rd_T39 l0_0 x3_2).f1) ((rd_T39 l0_0 x3_2).f2) ((rd_T39 l0_0 x3_2).f3) ((rd_T39 l0_0 x3_2).f4) = some r) ∧ Aside0 (kq ≤ k3) ∧ Aside0 (w'.heap[gb388]? = some (.cells #[(.slice (some ad396) l0_0.length c0_0), .int .i64 a0_1, (.slice A0_2 l0_2.length c0_2)] 25 (0, 0))) ∧ Aside0 (w'.heap[gb397]? = some (.cells #[.string ((rd_T39 l0_0 x3_2).f0), .int .i64 ((rd_T39 l0_0 x3_2).f1), .int .i64 ((rd_T39 l0_0 x3_2).f2), (.slice A396_3 ((rd_T39 l0_0 x3_2).f3).length c396_3), (.slice A396_4 ((rd_T39 l0_0 x3_2).f4).length c396_4)] 39 (0, 0))) ∧ Aside0 (Below w.heap.size w w'))
           case atStart => exact ⟨(0), zQ, H', ⟨Nat.le_refl _⟩, ⟨zK BK388.out⟩, ⟨zK BK397.out⟩, ⟨by repeat (first | (with_reducible first | exact HB.out | apply below_alloc | apply pw_below_drewN | apply below_drew1 | refine below_set ?_ GE388.out | refine below_set ?_ GE397.out) | exact HB.out)⟩⟩
           case round =>
            clear H'
            try clear c1
            try clear c2
            try clear p2
            try clear c3
            try clear p3
            try clear q3
            try clear hx3
            try clear c4
            try clear c5
            try clear c7
            try clear c8
            try clear c13
            try clear c16
            try clear c16b0
            try clear c17
            try clear c17b0
            try clear c20
            try clear c22
            try clear c22b0
            try clear c23
            try clear hcz11_0
            try clear hcz11_1
            try clear hcz11_2
            try clear hcz18_0
            try clear hcz18_1
            try clear hcz18_2
            try clear hcz21_0
            try clear hcz21_1
            try clear hcz21_2
            try clear hcz21_3
            try clear hcz21_4
            try clear hcz24_0
            try clear hcz24_1
            try clear hcz24_2
            try clear hcz24_3
            try clear hcz24_4
            try clear hcz7_0
            try clear hcz7_1
            try clear hcz7_2
            try clear hcz9_0
            try clear hcz9_1
            try clear hcz9_2
            try clear hfz11_0
            try clear hfz11_1
            try clear hfz11_2
            try clear hfz18_0
            try clear hfz18_1
            try clear hfz18_2
            try clear hfz21_0
            try clear hfz21_1
            try clear hfz21_2
            try clear hfz21_3
            try clear hfz21_4
            try clear hfz24_0
            try clear hfz24_1
            try clear hfz24_2
            try clear hfz24_3
            try clear hfz24_4
            try clear hfz7_0
            try clear hfz7_1
            try clear hfz7_2
            try clear hfz9_0
            try clear hfz9_1
            try clear hfz9_2
            try clear hx396_0
            try clear hx396_1
            try clear hx396_2
            try clear hx396_3
            try clear hx396_4
            try clear p2
            try clear p3
            try clear p396
            try clear q3
            try clear q396
            obtain ⟨x6_4, rfl, HA, HK4, BK388, BK397, HB⟩ := hrel
            cases gk with
            | zero => exact absurd HA.out (by simp [balustradelaw16_FunKinds.l2])
            | succ k4 =>
             have H := HA.out
             clear HA
             simp only [balustradelaw16_FunKinds.l2] at H
             by_cases c25 : 0 ≤ x5_3
             ·rw [if_pos c25] at H
              have c25b0 : decide (0 ≤ x5_3) = true := decide_eq_true c25
              clear c25
              by_cases c26 : x5_3 < (((rd_T39 l0_0 x3_2).f4).length : Int)
              ·rw [if_pos c26] at H
               have c26b0 : decide (x5_3 < (((rd_T39 l0_0 x3_2).f4).length : Int)) = true := decide_eq_true c26
               clear c26
               by_cases c27 : x6_4 < ((rd_L5 ((rd_T39 l0_0 x3_2).f4) x5_3).length : Int)
               ·rw [if_pos c27] at H
                have c27b0 : decide (x6_4 < ((rd_L5 ((rd_T39 l0_0 x3_2).f4) x5_3).length : Int)) = true := decide_eq_true c27
                clear c27
                by_cases c28 : 0 ≤ x6_4
                ·rw [if_pos c28] at H
                 have c28b0 : decide (0 ≤ x6_4) = true := decide_eq_true c28
                 clear c28
                 replace H := Option.bind_eq_some_iff.mp H
                 obtain ⟨t402, A290, H⟩ := H
                 replace H : ((balustradebase_Ints.f t402).bind fun t405 => ((balustraderef15_Def.f ((rd_T42 (rd_L5 ((rd_T39 l0_0 x3_2).f4) x5_3) x6_4).f0) ((rd_T42 (rd_L5 ((rd_T39 l0_0 x3_2).f4) x5_3) x6_4).f1) ((rd_T42 (rd_L5 ((rd_T39 l0_0 x3_2).f4) x5_3) x6_4).f2) ((rd_T42 (rd_L5 ((rd_T39 l0_0 x3_2).f4) x5_3) x6_4).f3) ((rd_T42 (rd_L5 ((rd_T39 l0_0 x3_2).f4) x5_3) x6_4).f4) ((rd_T42 (rd_L5 ((rd_T39 l0_0 x3_2).f4) x5_3) x6_4).f5) ((rd_T42 (rd_L5 ((rd_T39 l0_0 x3_2).f4) x5_3) x6_4).f6) ((rd_T42 (rd_L5 ((rd_T39 l0_0 x3_2).f4) x5_3) x6_4).f7) ((rd_T42 (rd_L5 ((rd_T39 l0_0 x3_2).f4) x5_3) x6_4).f8)).bind fun t408 => (if t405.length < 17592186044416 then (balustradelaw16_FunKinds.l3 k4 x3_2 x5_3 x6_4 (t405 ++ [t408]) 0 l0_0 a0_1 l0_2 ((rd_T39 l0_0 x3_2).f0) ((rd_T39 l0_0 x3_2).f1) ((rd_T39 l0_0 x3_2).f2) ((rd_T39 l0_0 x3_2).f3) ((rd_T39 l0_0 x3_2).f4) ((rd_T42 (rd_L5 ((rd_T39 l0_0 x3_2).f4) x5_3) x6_4).f0) ((rd_T42 (rd_L5 ((rd_T39 l0_0 x3_2).f4) x5_3) x6_4).f1) ((rd_T42 (rd_L5 ((rd_T39 l0_0 x3_2).f4) x5_3) x6_4).f2) ((rd_T42 (rd_L5 ((rd_T39 l0_0 x3_2).f4) x5_3) x6_4).f3) ((rd_T42 (rd_L5 ((rd_T39 l0_0 x3_2).f4) x5_3) x6_4).f4) ((rd_T42 (rd_L5 ((rd_T39 l0_0 x3_2).f4) x5_3) x6_4).f5) ((rd_T42 (rd_L5 ((rd_T39 l0_0 x3_2).f4) x5_3) x6_4).f6) ((rd_T42 (rd_L5 ((rd_T39 l0_0 x3_2).f4) x5_3) x6_4).f7) ((rd_T42 (rd_L5 ((rd_T39 l0_0 x3_2).f4) x5_3) x6_4).f8)) else (none)))) = some r := H
                 have A29 := Aside0.mk A290
                 clear A290
                 replace H := Option.bind_eq_some_iff.mp H
                 obtain ⟨t405, A300, H⟩ := H
                 replace H : ((balustraderef15_Def.f ((rd_T42 (rd_L5 ((rd_T39 l0_0 x3_2).f4) x5_3) x6_4).f0) ((rd_T42 (rd_L5 ((rd_T39 l0_0 x3_2).f4) x5_3) x6_4).f1) ((rd_T42 (rd_L5 ((rd_T39 l0_0 x3_2).f4) x5_3) x6_4).f2) ((rd_T42 (rd_L5 ((rd_T39 l0_0 x3_2).f4) x5_3) x6_4).f3) ((rd_T42 (rd_L5 ((rd_T39 l0_0 x3_2).f4) x5_3) x6_4).f4) ((rd_T42 (rd_L5 ((rd_T39 l0_0 x3_2).f4) x5_3) x6_4).f5) ((rd_T42 (rd_L5 ((rd_T39 l0_0 x3_2).f4) x5_3) x6_4).f6) ((rd_T42 (rd_L5 ((rd_T39 l0_0 x3_2).f4) x5_3) x6_4).f7) ((rd_T42 (rd_L5 ((rd_T39 l0_0 x3_2).f4) x5_3) x6_4).f8)).bind fun t408 => (if t405.length < 17592186044416 then (balustradelaw16_FunKinds.l3 k4 x3_2 x5_3 x6_4 (t405 ++ [t408]) 0 l0_0 a0_1 l0_2 ((rd_T39 l0_0 x3_2).f0) ((rd_T39 l0_0 x3_2).f1) ((rd_T39 l0_0 x3_2).f2) ((rd_T39 l0_0 x3_2).f3) ((rd_T39 l0_0 x3_2).f4) ((rd_T42 (rd_L5 ((rd_T39 l0_0 x3_2).f4) x5_3) x6_4).f0) ((rd_T42 (rd_L5 ((rd_T39 l0_0 x3_2).f4) x5_3) x6_4).f1) ((rd_T42 (rd_L5 ((rd_T39 l0_0 x3_2).f4) x5_3) x6_4).f2) ((rd_T42 (rd_L5 ((rd_T39 l0_0 x3_2).f4) x5_3) x6_4).f3) ((rd_T42 (rd_L5 ((rd_T39 l0_0 x3_2).f4) x5_3) x6_4).f4) ((rd_T42 (rd_L5 ((rd_T39 l0_0 x3_2).f4) x5_3) x6_4).f5) ((rd_T42 (rd_L5 ((rd_T39 l0_0 x3_2).f4) x5_3) x6_4).f6) ((rd_T42 (rd_L5 ((rd_T39 l0_0 x3_2).f4) x5_3) x6_4).f7) ((rd_T42 (rd_L5 ((rd_T39 l0_0 x3_2).f4) x5_3) x6_4).f8)) else (none))) = some r := H
                 have A30 := Aside0.mk A300
                 clear A300
                 replace H := Option.bind_eq_some_iff.mp H
                 obtain ⟨t408, A310, H⟩ := H
                 replace H : (if t405.length < 17592186044416 then (balustradelaw16_FunKinds.l3 k4 x3_2 x5_3 x6_4 (t405 ++ [t408]) 0 l0_0 a0_1 l0_2 ((rd_T39 l0_0 x3_2).f0) ((rd_T39 l0_0 x3_2).f1) ((rd_T39 l0_0 x3_2).f2) ((rd_T39 l0_0 x3_2).f3) ((rd_T39 l0_0 x3_2).f4) ((rd_T42 (rd_L5 ((rd_T39 l0_0 x3_2).f4) x5_3) x6_4).f0) ((rd_T42 (rd_L5 ((rd_T39 l0_0 x3_2).f4) x5_3) x6_4).f1) ((rd_T42 (rd_L5 ((rd_T39 l0_0 x3_2).f4) x5_3) x6_4).f2) ((rd_T42 (rd_L5 ((rd_T39 l0_0 x3_2).f4) x5_3) x6_4).f3) ((rd_T42 (rd_L5 ((rd_T39 l0_0 x3_2).f4) x5_3) x6_4).f4) ((rd_T42 (rd_L5 ((rd_T39 l0_0 x3_2).f4) x5_3) x6_4).f5) ((rd_T42 (rd_L5 ((rd_T39 l0_0 x3_2).f4) x5_3) x6_4).f6) ((rd_T42 (rd_L5 ((rd_T39 l0_0 x3_2).f4) x5_3) x6_4).f7) ((rd_T42 (rd_L5 ((rd_T39 l0_0 x3_2).f4) x5_3) x6_4).f8)) else (none)) = some r := H
                 have A31 := Aside0.mk A310
                 clear A310
                 by_cases c32 : t405.length < 17592186044416
                 ·rw [if_pos c32] at H
                  have LMc32 := Aside0.mk c32
                  clear c32
                  obtain ⟨y409, hy409⟩ : ∃ y_ : List Int, y_ = (t405 ++ [t408]) := ⟨_, rfl⟩
                  replace H : (balustradelaw16_FunKinds.l3 k4 x3_2 x5_3 x6_4 y409 0 l0_0 a0_1 l0_2 ((rd_T39 l0_0 x3_2).f0) ((rd_T39 l0_0 x3_2).f1) ((rd_T39 l0_0 x3_2).f2) ((rd_T39 l0_0 x3_2).f3) ((rd_T39 l0_0 x3_2).f4) ((rd_T42 (rd_L5 ((rd_T39 l0_0 x3_2).f4) x5_3) x6_4).f0) ((rd_T42 (rd_L5 ((rd_T39 l0_0 x3_2).f4) x5_3) x6_4).f1) ((rd_T42 (rd_L5 ((rd_T39 l0_0 x3_2).f4) x5_3) x6_4).f2) ((rd_T42 (rd_L5 ((rd_T39 l0_0 x3_2).f4) x5_3) x6_4).f3) ((rd_T42 (rd_L5 ((rd_T39 l0_0 x3_2).f4) x5_3) x6_4).f4) ((rd_T42 (rd_L5 ((rd_T39 l0_0 x3_2).f4) x5_3) x6_4).f5) ((rd_T42 (rd_L5 ((rd_T39 l0_0 x3_2).f4) x5_3) x6_4).f6) ((rd_T42 (rd_L5 ((rd_T39 l0_0 x3_2).f4) x5_3) x6_4).f7) ((rd_T42 (rd_L5 ((rd_T39 l0_0 x3_2).f4) x5_3) x6_4).f8)) = some r := by first | (rw [hy409]; with_reducible exact H) | (have H2_ := (Option.bind_some _ _).symm.trans H; rw [hy409]; with_reducible exact H2_) | (have H2_ := (Option.bind_some _ _).symm.trans H; with_reducible exact H2_) | with_reducible exact H | (rw [hy409]; exact H) | exact H
                  have Ny409 := Aside0.mk hy409
                  clear hy409
                  have H' := Aside0.mk H
                  clear H
                  have hnb33 := NB397_388.out
                  have hnc33 := NB388_397.out
                  obtain ⟨hcz34_0, hcz34_1, hcz34_2, hcz34_3, hcz34_4⟩ := zc5 BK397.out
                  obtain ⟨hfz34_0, hfz34_1, hfz34_2, hfz34_3, hfz34_4⟩ := zf5 BK397.out
                  have p398 : 0 ≤ (x5_3 : Int) := zO
                  have q398 : x5_3 < (((rd_T39 l0_0 x3_2).f4).length : Int) := zO
                  obtain ⟨ad398, A398_0, c398_0, e398, hx398_0, hl398_0, hi398_0⟩ := at_L5 HR396_4.out x5_3 p398 q398
                  cases e398
                  replace hx398_0 := (HB.out.cell (World.block_lt_of_cell? w _ hx398_0)).trans hx398_0
                  have HR398_0 := Aside0.mk hi398_0
                  have HC398_0 := Aside0.mk hl398_0
                  clear hi398_0 hl398_0
                  replace p398 := eq_true p398
                  replace q398 := eq_true q398
                  have p399 : 0 ≤ (x5_3 : Int) := zO
                  have q399 : x5_3 < (((rd_T39 l0_0 x3_2).f4).length : Int) := zO
                  obtain ⟨ad399, A399_0, c399_0, e399, hx399_0, hl399_0, hi399_0⟩ := at_L5 HR396_4.out x5_3 p399 q399
                  obtain rfl : ad398 = ad399 := (by injection e399)
                  replace hx399_0 := (HB.out.cell (World.block_lt_of_cell? w _ hx399_0)).trans hx399_0
                  have HR399_0 := Aside0.mk hi399_0
                  have HC399_0 := Aside0.mk hl399_0
                  clear hi399_0 hl399_0
                  replace p399 := eq_true p399
                  replace q399 := eq_true q399
                  have ea_ := Option.some.inj (hx398_0.symm.trans hx399_0)
                  injection ea_ with ea_ en_ ec_
                  subst ea_
                  subst ec_
                  clear en_
                  have p400 : 0 ≤ (x6_4 : Int) := zO
                  have q400 : x6_4 < ((rd_L5 ((rd_T39 l0_0 x3_2).f4) x5_3).length : Int) := zO
                  obtain ⟨ad400, A400_8, c400_8, e400, hx400_0, hx400_1, hx400_2, hx400_3, hx400_4, hx400_5, hx400_6, hx400_7, hx400_8, hl400_8, hi400_8⟩ := at_T42 HR399_0.out x6_4 p400 q400
                  cases e400
                  replace hx400_0 := (HB.out.cell (World.block_lt_of_cell? w _ hx400_0)).trans hx400_0
                  replace hx400_1 := (HB.out.cell (World.block_lt_of_cell? w _ hx400_1)).trans hx400_1
                  replace hx400_2 := (HB.out.cell (World.block_lt_of_cell? w _ hx400_2)).trans hx400_2
                  replace hx400_3 := (HB.out.cell (World.block_lt_of_cell? w _ hx400_3)).trans hx400_3
                  replace hx400_4 := (HB.out.cell (World.block_lt_of_cell? w _ hx400_4)).trans hx400_4
                  replace hx400_5 := (HB.out.cell (World.block_lt_of_cell? w _ hx400_5)).trans hx400_5
                  replace hx400_6 := (HB.out.cell (World.block_lt_of_cell? w _ hx400_6)).trans hx400_6
                  replace hx400_7 := (HB.out.cell (World.block_lt_of_cell? w _ hx400_7)).trans hx400_7
                  replace hx400_8 := (HB.out.cell (World.block_lt_of_cell? w _ hx400_8)).trans hx400_8
                  have HR400_8 := Aside0.mk hi400_8
                  have HC400_8 := Aside0.mk hl400_8
                  clear hi400_8 hl400_8
                  replace p400 := eq_true p400
                  replace q400 := eq_true q400
                  try go_wp2_with (first | ((with_reducible refine gate_dst (N := 7) rfl ?_); (try (refine gate_guard (by rfl) ?_; dsimp only)); refine box_event ?hg (N := 7) ?hd (cs := #[.int .i64 0, .int .i64 0, .int .i64 0, .int .i64 0, .int .i64 0, .int .i64 0, .int .i64 0, .int .i64 0, .slice none 0 0]) (t := 42) ?hr ?_; (case hd => rfl); (case hg => rfl); (case hr => first | (go_simp; done) | (go_simp; rfl)); intro gb401 hg w35 hbox hb; have n0_ := Aside0.mk (blk_below (g := gb388) (o := .cells #[.slice (some ad396) l0_0.length c0_0, .int .i64 a0_1, .slice A0_2 l0_2.length c0_2] 25 (0, 0)) (zK BK388.out) hb); have n1_ := Aside0.mk (blk_below (g := gb397) (o := .cells #[.string ((rd_T39 l0_0 x3_2).f0), .int .i64 ((rd_T39 l0_0 x3_2).f1), .int .i64 ((rd_T39 l0_0 x3_2).f2), .slice A396_3 ((rd_T39 l0_0 x3_2).f3).length c396_3, .slice (some ad398) ((rd_T39 l0_0 x3_2).f4).length c396_4] 39 (0, 0)) (zK BK397.out) hb); have n2_ := Aside0.mk (below_step (by repeat (first | (with_reducible first | exact HB.out | apply below_alloc | apply pw_below_drewN | apply below_drew1 | refine below_set ?_ GE388.out | refine below_set ?_ GE397.out) | exact HB.out)) hb); have n3_ := Aside0.mk (hbox); have n4_ := Aside0.mk ((by rw [hg]; exact (below_size (by repeat (first | (with_reducible first | exact HB.out | apply below_alloc | apply pw_below_drewN | apply below_drew1 | refine below_set ?_ GE388.out | refine below_set ?_ GE397.out) | exact HB.out))) : w.heap.size ≤ gb401)); have n5_ := Aside0.mk ((by rw [hg]; exact (below_size (by repeat (first | (with_reducible first | exact HB.out | apply below_alloc | apply pw_below_drewN | apply below_drew1 | refine below_set ?_ GE388.out | refine below_set ?_ GE397.out) | exact HB.out))) : w.heap.size ≤ gb401)); have n6_ := Aside0.mk ((by rw [hg]; exact Nat.ne_of_lt (blk_lt (g := gb388) (o := .cells #[.slice (some ad396) l0_0.length c0_0, .int .i64 a0_1, .slice A0_2 l0_2.length c0_2] 25 (0, 0)) (zK BK388.out)) : gb388 ≠ gb401)); have n7_ := Aside0.mk ((by rw [hg]; exact Nat.ne_of_gt (blk_lt (g := gb388) (o := .cells #[.slice (some ad396) l0_0.length c0_0, .int .i64 a0_1, .slice A0_2 l0_2.length c0_2] 25 (0, 0)) (zK BK388.out)) : gb401 ≠ gb388)); have n8_ := Aside0.mk ((by rw [hg]; exact Nat.ne_of_lt (blk_lt (g := gb397) (o := .cells #[.string ((rd_T39 l0_0 x3_2).f0), .int .i64 ((rd_T39 l0_0 x3_2).f1), .int .i64 ((rd_T39 l0_0 x3_2).f2), .slice A396_3 ((rd_T39 l0_0 x3_2).f3).length c396_3, .slice (some ad398) ((rd_T39 l0_0 x3_2).f4).length c396_4] 39 (0, 0)) (zK BK397.out)) : gb397 ≠ gb401)); have n9_ := Aside0.mk ((by rw [hg]; exact Nat.ne_of_gt (blk_lt (g := gb397) (o := .cells #[.string ((rd_T39 l0_0 x3_2).f0), .int .i64 ((rd_T39 l0_0 x3_2).f1), .int .i64 ((rd_T39 l0_0 x3_2).f2), .slice A396_3 ((rd_T39 l0_0 x3_2).f3).length c396_3, .slice (some ad398) ((rd_T39 l0_0 x3_2).f4).length c396_4] 39 (0, 0)) (zK BK397.out)) : gb401 ≠ gb397)); clear BK388; clear BK397; clear HB; have BK388 := n0_; have BK397 := n1_; have HB := n2_; have BK401 := n3_; have GW401 := n4_; have GE401 := n5_; have NB388_401 := n6_; have NB401_388 := n7_; have NB397_401 := n8_; have NB401_397 := n9_; clear n0_ n1_ n2_ n3_ n4_ n5_ n6_ n7_ n8_ n9_; clear hb hbox hg; have hnb36 := NB401_388.out; have hnc36 := NB388_401.out; have hnb37 := NB401_397.out; have hnc37 := NB397_401.out; have hcz38_0 : w35.cell? ⟨gb401, 0, none⟩ = some (.int .i64 0) := (blk_cell BK401.out 0).trans rfl; have hcz38_1 : w35.cell? ⟨gb401, 1, none⟩ = some (.int .i64 0) := (blk_cell BK401.out 1).trans rfl; have hcz38_2 : w35.cell? ⟨gb401, 2, none⟩ = some (.int .i64 0) := (blk_cell BK401.out 2).trans rfl; have hcz38_3 : w35.cell? ⟨gb401, 3, none⟩ = some (.int .i64 0) := (blk_cell BK401.out 3).trans rfl; have hcz38_4 : w35.cell? ⟨gb401, 4, none⟩ = some (.int .i64 0) := (blk_cell BK401.out 4).trans rfl; have hcz38_5 : w35.cell? ⟨gb401, 5, none⟩ = some (.int .i64 0) := (blk_cell BK401.out 5).trans rfl; have hcz38_6 : w35.cell? ⟨gb401, 6, none⟩ = some (.int .i64 0) := (blk_cell BK401.out 6).trans rfl; have hcz38_7 : w35.cell? ⟨gb401, 7, none⟩ = some (.int .i64 0) := (blk_cell BK401.out 7).trans rfl; have hcz38_8 : w35.cell? ⟨gb401, 8, none⟩ = some (.slice none 0 0) := (blk_cell BK401.out 8).trans rfl; have hfz38_0 := blk_frozen BK401.out 0; have hfz38_1 := blk_frozen BK401.out 1; have hfz38_2 := blk_frozen BK401.out 2; have hfz38_3 := blk_frozen BK401.out 3; have hfz38_4 := blk_frozen BK401.out 4; have hfz38_5 := blk_frozen BK401.out 5; have hfz38_6 := blk_frozen BK401.out 6; have hfz38_7 := blk_frozen BK401.out 7; have hfz38_8 := blk_frozen BK401.out 8))
                  have n0_ : Aside0 ((((((((((w35.setCell ⟨gb401, 0, none⟩ (.int .i64 ((rd_T42 (rd_L5 ((rd_T39 l0_0 x3_2).f4) x5_3) x6_4).f0))).setCell ⟨gb401, 1, none⟩ (.int .i64 ((rd_T42 (rd_L5 ((rd_T39 l0_0 x3_2).f4) x5_3) x6_4).f1))).setCell ⟨gb401, 2, none⟩ (.int .i64 ((rd_T42 (rd_L5 ((rd_T39 l0_0 x3_2).f4) x5_3) x6_4).f2))).setCell ⟨gb401, 3, none⟩ (.int .i64 ((rd_T42 (rd_L5 ((rd_T39 l0_0 x3_2).f4) x5_3) x6_4).f3))).setCell ⟨gb401, 4, none⟩ (.int .i64 ((rd_T42 (rd_L5 ((rd_T39 l0_0 x3_2).f4) x5_3) x6_4).f4))).setCell ⟨gb401, 5, none⟩ (.int .i64 ((rd_T42 (rd_L5 ((rd_T39 l0_0 x3_2).f4) x5_3) x6_4).f5))).setCell ⟨gb401, 6, none⟩ (.int .i64 ((rd_T42 (rd_L5 ((rd_T39 l0_0 x3_2).f4) x5_3) x6_4).f6))).setCell ⟨gb401, 7, none⟩ (.int .i64 ((rd_T42 (rd_L5 ((rd_T39 l0_0 x3_2).f4) x5_3) x6_4).f7))).setCell ⟨gb401, 8, none⟩ (.slice A400_8 ((rd_T42 (rd_L5 ((rd_T39 l0_0 x3_2).f4) x5_3) x6_4).f8).length c400_8)).heap[gb388]? = some (.cells #[.slice (some ad396) l0_0.length c0_0, .int .i64 a0_1, .slice A0_2 l0_2.length c0_2] 25 (0, 0))) := ⟨by (with_reducible repeat (first | refine blk_drewN ?_ _ | refine blk_drew ?_ | refine blk_alloc ?_ _)); refine blk_far ?_ NB388_401.out _; (with_reducible repeat (first | refine blk_drewN ?_ _ | refine blk_drew ?_ | refine blk_alloc ?_ _)); refine blk_far ?_ NB388_401.out _; (with_reducible repeat (first | refine blk_drewN ?_ _ | refine blk_drew ?_ | refine blk_alloc ?_ _)); refine blk_far ?_ NB388_401.out _; (with_reducible repeat (first | refine blk_drewN ?_ _ | refine blk_drew ?_ | refine blk_alloc ?_ _)); refine blk_far ?_ NB388_401.out _; (with_reducible repeat (first | refine blk_drewN ?_ _ | refine blk_drew ?_ | refine blk_alloc ?_ _)); refine blk_far ?_ NB388_401.out _; (with_reducible repeat (first | refine blk_drewN ?_ _ | refine blk_drew ?_ | refine blk_alloc ?_ _)); refine blk_far ?_ NB388_401.out _; (with_reducible repeat (first | refine blk_drewN ?_ _ | refine blk_drew ?_ | refine blk_alloc ?_ _)); refine blk_far ?_ NB388_401.out _; (with_reducible repeat (first | refine blk_drewN ?_ _ | refine blk_drew ?_ | refine blk_alloc ?_ _)); refine blk_far ?_ NB388_401.out _; (with_reducible repeat (first | refine blk_drewN ?_ _ | refine blk_drew ?_ | refine blk_alloc ?_ _)); refine blk_far ?_ NB388_401.out _; (with_reducible repeat (first | refine blk_drewN ?_ _ | refine blk_drew ?_ | refine blk_alloc ?_ _)); exact BK388.out⟩
                  have n1_ : Aside0 ((((((((((w35.setCell ⟨gb401, 0, none⟩ (.int .i64 ((rd_T42 (rd_L5 ((rd_T39 l0_0 x3_2).f4) x5_3) x6_4).f0))).setCell ⟨gb401, 1, none⟩ (.int .i64 ((rd_T42 (rd_L5 ((rd_T39 l0_0 x3_2).f4) x5_3) x6_4).f1))).setCell ⟨gb401, 2, none⟩ (.int .i64 ((rd_T42 (rd_L5 ((rd_T39 l0_0 x3_2).f4) x5_3) x6_4).f2))).setCell ⟨gb401, 3, none⟩ (.int .i64 ((rd_T42 (rd_L5 ((rd_T39 l0_0 x3_2).f4) x5_3) x6_4).f3))).setCell ⟨gb401, 4, none⟩ (.int .i64 ((rd_T42 (rd_L5 ((rd_T39 l0_0 x3_2).f4) x5_3) x6_4).f4))).setCell ⟨gb401, 5, none⟩ (.int .i64 ((rd_T42 (rd_L5 ((rd_T39 l0_0 x3_2).f4) x5_3) x6_4).f5))).setCell ⟨gb401, 6, none⟩ (.int .i64 ((rd_T42 (rd_L5 ((rd_T39 l0_0 x3_2).f4) x5_3) x6_4).f6))).setCell ⟨gb401, 7, none⟩ (.int .i64 ((rd_T42 (rd_L5 ((rd_T39 l0_0 x3_2).f4) x5_3) x6_4).f7))).setCell ⟨gb401, 8, none⟩ (.slice A400_8 ((rd_T42 (rd_L5 ((rd_T39 l0_0 x3_2).f4) x5_3) x6_4).f8).length c400_8)).heap[gb397]? = some (.cells #[.string ((rd_T39 l0_0 x3_2).f0), .int .i64 ((rd_T39 l0_0 x3_2).f1), .int .i64 ((rd_T39 l0_0 x3_2).f2), .slice A396_3 ((rd_T39 l0_0 x3_2).f3).length c396_3, .slice (some ad398) ((rd_T39 l0_0 x3_2).f4).length c396_4] 39 (0, 0))) := ⟨by (with_reducible repeat (first | refine blk_drewN ?_ _ | refine blk_drew ?_ | refine blk_alloc ?_ _)); refine blk_far ?_ NB397_401.out _; (with_reducible repeat (first | refine blk_drewN ?_ _ | refine blk_drew ?_ | refine blk_alloc ?_ _)); refine blk_far ?_ NB397_401.out _; (with_reducible repeat (first | refine blk_drewN ?_ _ | refine blk_drew ?_ | refine blk_alloc ?_ _)); refine blk_far ?_ NB397_401.out _; (with_reducible repeat (first | refine blk_drewN ?_ _ | refine blk_drew ?_ | refine blk_alloc ?_ _)); refine blk_far ?_ NB397_401.out _; (with_reducible repeat (first | refine blk_drewN ?_ _ | refine blk_drew ?_ | refine blk_alloc ?_ _)); refine blk_far ?_ NB397_401.out _; (with_reducible repeat (first | refine blk_drewN ?_ _ | refine blk_drew ?_ | refine blk_alloc ?_ _)); refine blk_far ?_ NB397_401.out _; (with_reducible repeat (first | refine blk_drewN ?_ _ | refine blk_drew ?_ | refine blk_alloc ?_ _)); refine blk_far ?_ NB397_401.out _; (with_reducible repeat (first | refine blk_drewN ?_ _ | refine blk_drew ?_ | refine blk_alloc ?_ _)); refine blk_far ?_ NB397_401.out _; (with_reducible repeat (first | refine blk_drewN ?_ _ | refine blk_drew ?_ | refine blk_alloc ?_ _)); refine blk_far ?_ NB397_401.out _; (with_reducible repeat (first | refine blk_drewN ?_ _ | refine blk_drew ?_ | refine blk_alloc ?_ _)); exact BK397.out⟩
                  have n2_ : Aside0 ((((((((((w35.setCell ⟨gb401, 0, none⟩ (.int .i64 ((rd_T42 (rd_L5 ((rd_T39 l0_0 x3_2).f4) x5_3) x6_4).f0))).setCell ⟨gb401, 1, none⟩ (.int .i64 ((rd_T42 (rd_L5 ((rd_T39 l0_0 x3_2).f4) x5_3) x6_4).f1))).setCell ⟨gb401, 2, none⟩ (.int .i64 ((rd_T42 (rd_L5 ((rd_T39 l0_0 x3_2).f4) x5_3) x6_4).f2))).setCell ⟨gb401, 3, none⟩ (.int .i64 ((rd_T42 (rd_L5 ((rd_T39 l0_0 x3_2).f4) x5_3) x6_4).f3))).setCell ⟨gb401, 4, none⟩ (.int .i64 ((rd_T42 (rd_L5 ((rd_T39 l0_0 x3_2).f4) x5_3) x6_4).f4))).setCell ⟨gb401, 5, none⟩ (.int .i64 ((rd_T42 (rd_L5 ((rd_T39 l0_0 x3_2).f4) x5_3) x6_4).f5))).setCell ⟨gb401, 6, none⟩ (.int .i64 ((rd_T42 (rd_L5 ((rd_T39 l0_0 x3_2).f4) x5_3) x6_4).f6))).setCell ⟨gb401, 7, none⟩ (.int .i64 ((rd_T42 (rd_L5 ((rd_T39 l0_0 x3_2).f4) x5_3) x6_4).f7))).setCell ⟨gb401, 8, none⟩ (.slice A400_8 ((rd_T42 (rd_L5 ((rd_T39 l0_0 x3_2).f4) x5_3) x6_4).f8).length c400_8)).heap[gb401]? = some (.cells #[.int .i64 ((rd_T42 (rd_L5 ((rd_T39 l0_0 x3_2).f4) x5_3) x6_4).f0), .int .i64 ((rd_T42 (rd_L5 ((rd_T39 l0_0 x3_2).f4) x5_3) x6_4).f1), .int .i64 ((rd_T42 (rd_L5 ((rd_T39 l0_0 x3_2).f4) x5_3) x6_4).f2), .int .i64 ((rd_T42 (rd_L5 ((rd_T39 l0_0 x3_2).f4) x5_3) x6_4).f3), .int .i64 ((rd_T42 (rd_L5 ((rd_T39 l0_0 x3_2).f4) x5_3) x6_4).f4), .int .i64 ((rd_T42 (rd_L5 ((rd_T39 l0_0 x3_2).f4) x5_3) x6_4).f5), .int .i64 ((rd_T42 (rd_L5 ((rd_T39 l0_0 x3_2).f4) x5_3) x6_4).f6), .int .i64 ((rd_T42 (rd_L5 ((rd_T39 l0_0 x3_2).f4) x5_3) x6_4).f7), .slice A400_8 ((rd_T42 (rd_L5 ((rd_T39 l0_0 x3_2).f4) x5_3) x6_4).f8).length c400_8] 42 (0, 0))) := ⟨by (with_reducible repeat (first | refine blk_drewN ?_ _ | refine blk_drew ?_ | refine blk_alloc ?_ _)); refine blk_put (cs := #[.int .i64 ((rd_T42 (rd_L5 ((rd_T39 l0_0 x3_2).f4) x5_3) x6_4).f0), .int .i64 ((rd_T42 (rd_L5 ((rd_T39 l0_0 x3_2).f4) x5_3) x6_4).f1), .int .i64 ((rd_T42 (rd_L5 ((rd_T39 l0_0 x3_2).f4) x5_3) x6_4).f2), .int .i64 ((rd_T42 (rd_L5 ((rd_T39 l0_0 x3_2).f4) x5_3) x6_4).f3), .int .i64 ((rd_T42 (rd_L5 ((rd_T39 l0_0 x3_2).f4) x5_3) x6_4).f4), .int .i64 ((rd_T42 (rd_L5 ((rd_T39 l0_0 x3_2).f4) x5_3) x6_4).f5), .int .i64 ((rd_T42 (rd_L5 ((rd_T39 l0_0 x3_2).f4) x5_3) x6_4).f6), .int .i64 ((rd_T42 (rd_L5 ((rd_T39 l0_0 x3_2).f4) x5_3) x6_4).f7), .slice none 0 0]) ?_ 8 _ rfl; (with_reducible repeat (first | refine blk_drewN ?_ _ | refine blk_drew ?_ | refine blk_alloc ?_ _)); refine blk_put (cs := #[.int .i64 ((rd_T42 (rd_L5 ((rd_T39 l0_0 x3_2).f4) x5_3) x6_4).f0), .int .i64 ((rd_T42 (rd_L5 ((rd_T39 l0_0 x3_2).f4) x5_3) x6_4).f1), .int .i64 ((rd_T42 (rd_L5 ((rd_T39 l0_0 x3_2).f4) x5_3) x6_4).f2), .int .i64 ((rd_T42 (rd_L5 ((rd_T39 l0_0 x3_2).f4) x5_3) x6_4).f3), .int .i64 ((rd_T42 (rd_L5 ((rd_T39 l0_0 x3_2).f4) x5_3) x6_4).f4), .int .i64 ((rd_T42 (rd_L5 ((rd_T39 l0_0 x3_2).f4) x5_3) x6_4).f5), .int .i64 ((rd_T42 (rd_L5 ((rd_T39 l0_0 x3_2).f4) x5_3) x6_4).f6), .int .i64 0, .slice none 0 0]) ?_ 7 _ rfl; (with_reducible repeat (first | refine blk_drewN ?_ _ | refine blk_drew ?_ | refine blk_alloc ?_ _)); refine blk_put (cs := #[.int .i64 ((rd_T42 (rd_L5 ((rd_T39 l0_0 x3_2).f4) x5_3) x6_4).f0), .int .i64 ((rd_T42 (rd_L5 ((rd_T39 l0_0 x3_2).f4) x5_3) x6_4).f1), .int .i64 ((rd_T42 (rd_L5 ((rd_T39 l0_0 x3_2).f4) x5_3) x6_4).f2), .int .i64 ((rd_T42 (rd_L5 ((rd_T39 l0_0 x3_2).f4) x5_3) x6_4).f3), .int .i64 ((rd_T42 (rd_L5 ((rd_T39 l0_0 x3_2).f4) x5_3) x6_4).f4), .int .i64 ((rd_T42 (rd_L5 ((rd_T39 l0_0 x3_2).f4) x5_3) x6_4).f5), .int .i64 0, .int .i64 0, .slice none 0 0]) ?_ 6 _ rfl; (with_reducible repeat (first | refine blk_drewN ?_ _ | refine blk_drew ?_ | refine blk_alloc ?_ _)); refine blk_put (cs := #[.int .i64 ((rd_T42 (rd_L5 ((rd_T39 l0_0 x3_2).f4) x5_3) x6_4).f0), .int .i64 ((rd_T42 (rd_L5 ((rd_T39 l0_0 x3_2).f4) x5_3) x6_4).f1), .int .i64 ((rd_T42 (rd_L5 ((rd_T39 l0_0 x3_2).f4) x5_3) x6_4).f2), .int .i64 ((rd_T42 (rd_L5 ((rd_T39 l0_0 x3_2).f4) x5_3) x6_4).f3), .int .i64 ((rd_T42 (rd_L5 ((rd_T39 l0_0 x3_2).f4) x5_3) x6_4).f4), .int .i64 0, .int .i64 0, .int .i64 0, .slice none 0 0]) ?_ 5 _ rfl; (with_reducible repeat (first | refine blk_drewN ?_ _ | refine blk_drew ?_ | refine blk_alloc ?_ _)); refine blk_put (cs := #[.int .i64 ((rd_T42 (rd_L5 ((rd_T39 l0_0 x3_2).f4) x5_3) x6_4).f0), .int .i64 ((rd_T42 (rd_L5 ((rd_T39 l0_0 x3_2).f4) x5_3) x6_4).f1), .int .i64 ((rd_T42 (rd_L5 ((rd_T39 l0_0 x3_2).f4) x5_3) x6_4).f2), .int .i64 ((rd_T42 (rd_L5 ((rd_T39 l0_0 x3_2).f4) x5_3) x6_4).f3), .int .i64 0, .int .i64 0, .int .i64 0, .int .i64 0, .slice none 0 0]) ?_ 4 _ rfl; (with_reducible repeat (first | refine blk_drewN ?_ _ | refine blk_drew ?_ | refine blk_alloc ?_ _)); refine blk_put (cs := #[.int .i64 ((rd_T42 (rd_L5 ((rd_T39 l0_0 x3_2).f4) x5_3) x6_4).f0), .int .i64 ((rd_T42 (rd_L5 ((rd_T39 l0_0 x3_2).f4) x5_3) x6_4).f1), .int .i64 ((rd_T42 (rd_L5 ((rd_T39 l0_0 x3_2).f4) x5_3) x6_4).f2), .int .i64 0, .int .i64 0, .int .i64 0, .int .i64 0, .int .i64 0, .slice none 0 0]) ?_ 3 _ rfl; (with_reducible repeat (first | refine blk_drewN ?_ _ | refine blk_drew ?_ | refine blk_alloc ?_ _)); refine blk_put (cs := #[.int .i64 ((rd_T42 (rd_L5 ((rd_T39 l0_0 x3_2).f4) x5_3) x6_4).f0), .int .i64 ((rd_T42 (rd_L5 ((rd_T39 l0_0 x3_2).f4) x5_3) x6_4).f1), .int .i64 0, .int .i64 0, .int .i64 0, .int .i64 0, .int .i64 0, .int .i64 0, .slice none 0 0]) ?_ 2 _ rfl; (with_reducible repeat (first | refine blk_drewN ?_ _ | refine blk_drew ?_ | refine blk_alloc ?_ _)); refine blk_put (cs := #[.int .i64 ((rd_T42 (rd_L5 ((rd_T39 l0_0 x3_2).f4) x5_3) x6_4).f0), .int .i64 0, .int .i64 0, .int .i64 0, .int .i64 0, .int .i64 0, .int .i64 0, .int .i64 0, .slice none 0 0]) ?_ 1 _ rfl; (with_reducible repeat (first | refine blk_drewN ?_ _ | refine blk_drew ?_ | refine blk_alloc ?_ _)); refine blk_put (cs := #[.int .i64 0, .int .i64 0, .int .i64 0, .int .i64 0, .int .i64 0, .int .i64 0, .int .i64 0, .int .i64 0, .slice none 0 0]) ?_ 0 _ rfl; (with_reducible repeat (first | refine blk_drewN ?_ _ | refine blk_drew ?_ | refine blk_alloc ?_ _)); exact BK401.out⟩
                  have n3_ : Aside0 (Below w.heap.size w (((((((((w35.setCell ⟨gb401, 0, none⟩ (.int .i64 ((rd_T42 (rd_L5 ((rd_T39 l0_0 x3_2).f4) x5_3) x6_4).f0))).setCell ⟨gb401, 1, none⟩ (.int .i64 ((rd_T42 (rd_L5 ((rd_T39 l0_0 x3_2).f4) x5_3) x6_4).f1))).setCell ⟨gb401, 2, none⟩ (.int .i64 ((rd_T42 (rd_L5 ((rd_T39 l0_0 x3_2).f4) x5_3) x6_4).f2))).setCell ⟨gb401, 3, none⟩ (.int .i64 ((rd_T42 (rd_L5 ((rd_T39 l0_0 x3_2).f4) x5_3) x6_4).f3))).setCell ⟨gb401, 4, none⟩ (.int .i64 ((rd_T42 (rd_L5 ((rd_T39 l0_0 x3_2).f4) x5_3) x6_4).f4))).setCell ⟨gb401, 5, none⟩ (.int .i64 ((rd_T42 (rd_L5 ((rd_T39 l0_0 x3_2).f4) x5_3) x6_4).f5))).setCell ⟨gb401, 6, none⟩ (.int .i64 ((rd_T42 (rd_L5 ((rd_T39 l0_0 x3_2).f4) x5_3) x6_4).f6))).setCell ⟨gb401, 7, none⟩ (.int .i64 ((rd_T42 (rd_L5 ((rd_T39 l0_0 x3_2).f4) x5_3) x6_4).f7))).setCell ⟨gb401, 8, none⟩ (.slice A400_8 ((rd_T42 (rd_L5 ((rd_T39 l0_0 x3_2).f4) x5_3) x6_4).f8).length c400_8))) := ⟨by repeat (first | (with_reducible first | exact HB.out | apply below_alloc | apply pw_below_drewN | apply below_drew1 | refine below_set ?_ GE388.out | refine below_set ?_ GE397.out | refine below_set ?_ GE401.out) | exact HB.out)⟩
                  (try clear BK388)
                  (try clear BK397)
                  (try clear BK401)
                  (try clear HB)
                  generalize (((((((((w35.setCell ⟨gb401, 0, none⟩ (.int .i64 ((rd_T42 (rd_L5 ((rd_T39 l0_0 x3_2).f4) x5_3) x6_4).f0))).setCell ⟨gb401, 1, none⟩ (.int .i64 ((rd_T42 (rd_L5 ((rd_T39 l0_0 x3_2).f4) x5_3) x6_4).f1))).setCell ⟨gb401, 2, none⟩ (.int .i64 ((rd_T42 (rd_L5 ((rd_T39 l0_0 x3_2).f4) x5_3) x6_4).f2))).setCell ⟨gb401, 3, none⟩ (.int .i64 ((rd_T42 (rd_L5 ((rd_T39 l0_0 x3_2).f4) x5_3) x6_4).f3))).setCell ⟨gb401, 4, none⟩ (.int .i64 ((rd_T42 (rd_L5 ((rd_T39 l0_0 x3_2).f4) x5_3) x6_4).f4))).setCell ⟨gb401, 5, none⟩ (.int .i64 ((rd_T42 (rd_L5 ((rd_T39 l0_0 x3_2).f4) x5_3) x6_4).f5))).setCell ⟨gb401, 6, none⟩ (.int .i64 ((rd_T42 (rd_L5 ((rd_T39 l0_0 x3_2).f4) x5_3) x6_4).f6))).setCell ⟨gb401, 7, none⟩ (.int .i64 ((rd_T42 (rd_L5 ((rd_T39 l0_0 x3_2).f4) x5_3) x6_4).f7))).setCell ⟨gb401, 8, none⟩ (.slice A400_8 ((rd_T42 (rd_L5 ((rd_T39 l0_0 x3_2).f4) x5_3) x6_4).f8).length c400_8)) = w39 at n0_ n1_ n2_ n3_ ⊢
                  have BK388 := n0_
                  have BK397 := n1_
                  have BK401 := n2_
                  have HB := n3_
                  clear n0_ n1_ n2_ n3_
                  have n0_ := Aside0.mk (blk_drew BK388.out)
                  have n1_ := Aside0.mk (blk_drew BK397.out)
                  have n2_ := Aside0.mk (blk_drew BK401.out)
                  have n3_ := Aside0.mk (below_drew1 HB.out)
                  clear BK388
                  clear BK397
                  clear BK401
                  clear HB
                  have BK388 := n0_
                  have BK397 := n1_
                  have BK401 := n2_
                  have HB := n3_
                  clear n0_ n1_ n2_ n3_
                  refine start_ (n := 8) (S := fun w' => w'.cell? ⟨gb401, 0, none⟩ = some (.int .i64 ((rd_T42 (rd_L5 ((rd_T39 l0_0 x3_2).f4) x5_3) x6_4).f0)) ∧ w'.cell? ⟨gb401, 1, none⟩ = some (.int .i64 ((rd_T42 (rd_L5 ((rd_T39 l0_0 x3_2).f4) x5_3) x6_4).f1)) ∧ w'.cell? ⟨gb401, 2, none⟩ = some (.int .i64 ((rd_T42 (rd_L5 ((rd_T39 l0_0 x3_2).f4) x5_3) x6_4).f2)) ∧ w'.cell? ⟨gb401, 3, none⟩ = some (.int .i64 ((rd_T42 (rd_L5 ((rd_T39 l0_0 x3_2).f4) x5_3) x6_4).f3)) ∧ w'.cell? ⟨gb401, 4, none⟩ = some (.int .i64 ((rd_T42 (rd_L5 ((rd_T39 l0_0 x3_2).f4) x5_3) x6_4).f4)) ∧ w'.cell? ⟨gb401, 5, none⟩ = some (.int .i64 ((rd_T42 (rd_L5 ((rd_T39 l0_0 x3_2).f4) x5_3) x6_4).f5)) ∧ w'.cell? ⟨gb401, 6, none⟩ = some (.int .i64 ((rd_T42 (rd_L5 ((rd_T39 l0_0 x3_2).f4) x5_3) x6_4).f6)) ∧ w'.cell? ⟨gb401, 7, none⟩ = some (.int .i64 ((rd_T42 (rd_L5 ((rd_T39 l0_0 x3_2).f4) x5_3) x6_4).f7)) ∧ w'.cell? ⟨gb401, 8, none⟩ = some (.slice A400_8 ((rd_T42 (rd_L5 ((rd_T39 l0_0 x3_2).f4) x5_3) x6_4).f8).length c400_8)) (ds := []) #[false, false, false, false, false, false, false, false] (by kernel_rfl) rfl rfl ⟨(blk_cell BK401.out 0).trans rfl, (blk_cell BK401.out 1).trans rfl, (blk_cell BK401.out 2).trans rfl, (blk_cell BK401.out 3).trans rfl, (blk_cell BK401.out 4).trans rfl, (blk_cell BK401.out 5).trans rfl, (blk_cell BK401.out 6).trans rfl, (blk_cell BK401.out 7).trans rfl, (blk_cell BK401.out 8).trans rfl⟩ (fun hHeld => ?_); refine with_tabW balustradelaw16_FunKinds.tab14 balustradelaw16_FunKinds.bits14 (fun HT_ HW_ => ?_)
                  generalize w39.drew = w40 at BK388 BK397 BK401 HB hHeld ⊢
                  refine take_ (i := 0) (N := some 59) (v := ?_) (a' := ?_) (zb 8 1) rfl rfl (take_ofW HT_.out HW_.out (by kernel_rfl)) (fun _ _ _ h => h) (Or.inl ⟨by rfl, ?_⟩) hHeld ?_ ?_
                  rotate_left
                  ·rintro w' ⟨s0, s1, s2, s3, s4, s5, s6, s7, s8⟩
                   go_simp
                   with_reducible rfl
                  rotate_left
                  ·simp only [Act.put, List.setIfInBounds_toArray, List.set_cons_zero, List.set_cons_succ, i64_w, i32_w]
                   rfl
                  refine take_ (i := 3) (N := some 62) (v := ?_) (a' := ?_) (zb 8 9) rfl rfl (take_ofW HT_.out HW_.out (by kernel_rfl)) (fun _ _ _ h => h) (Or.inl ⟨by rfl, ?_⟩) hHeld ?_ ?_
                  rotate_left
                  ·rintro w' ⟨s0, s1, s2, s3, s4, s5, s6, s7, s8⟩
                   go_simp
                   with_reducible rfl
                  rotate_left
                  ·simp only [Act.put, List.setIfInBounds_toArray, List.set_cons_zero, List.set_cons_succ, i64_w, i32_w]
                   rfl
                  refine one_ (i := 1) (N := some 60) (zb 8 11) rfl rfl (one_of HT_.out (by kernel_rfl)) (by decide) (fun K hK => ?_)
                  refine goes_ Try.func16 (by kernel_rfl) rfl #[.agg #[.int .i64 ((rd_T42 (rd_L5 ((rd_T39 l0_0 x3_2).f4) x5_3) x6_4).f0), .int .i64 ((rd_T42 (rd_L5 ((rd_T39 l0_0 x3_2).f4) x5_3) x6_4).f1), .int .i64 ((rd_T42 (rd_L5 ((rd_T39 l0_0 x3_2).f4) x5_3) x6_4).f2), .int .i64 ((rd_T42 (rd_L5 ((rd_T39 l0_0 x3_2).f4) x5_3) x6_4).f3), .int .i64 ((rd_T42 (rd_L5 ((rd_T39 l0_0 x3_2).f4) x5_3) x6_4).f4), .int .i64 ((rd_T42 (rd_L5 ((rd_T39 l0_0 x3_2).f4) x5_3) x6_4).f5), .int .i64 ((rd_T42 (rd_L5 ((rd_T39 l0_0 x3_2).f4) x5_3) x6_4).f6), .int .i64 ((rd_T42 (rd_L5 ((rd_T39 l0_0 x3_2).f4) x5_3) x6_4).f7), .slice A400_8 ((rd_T42 (rd_L5 ((rd_T39 l0_0 x3_2).f4) x5_3) x6_4).f8).length c400_8]] (by rfl) rfl rfl zE ?_
                  with_reducible refine (balustraderef15_Uses.calls k4 ((rd_T42 (rd_L5 ((rd_T39 l0_0 x3_2).f4) x5_3) x6_4).f0) ((rd_T42 (rd_L5 ((rd_T39 l0_0 x3_2).f4) x5_3) x6_4).f1) ((rd_T42 (rd_L5 ((rd_T39 l0_0 x3_2).f4) x5_3) x6_4).f2) ((rd_T42 (rd_L5 ((rd_T39 l0_0 x3_2).f4) x5_3) x6_4).f3) ((rd_T42 (rd_L5 ((rd_T39 l0_0 x3_2).f4) x5_3) x6_4).f4) ((rd_T42 (rd_L5 ((rd_T39 l0_0 x3_2).f4) x5_3) x6_4).f5) ((rd_T42 (rd_L5 ((rd_T39 l0_0 x3_2).f4) x5_3) x6_4).f6) ((rd_T42 (rd_L5 ((rd_T39 l0_0 x3_2).f4) x5_3) x6_4).f7) _ _ ((rd_T42 (rd_L5 ((rd_T39 l0_0 x3_2).f4) x5_3) x6_4).f8) t402 _ ?side1 ?side2 A29.out).mono ?_
                  (case side1 => exact zC (Kd.C_below HR400_8.out HB.out))
                  (case side2 => exact HC400_8.out)
                  rintro e w41 ⟨v403, rfl, ho0, hb⟩
                  refine ⟨_, rfl, ?_⟩
                  have n0_ := Aside0.mk (Kd.R_lower ho0 (below_size (by repeat (first | (with_reducible first | exact HB.out | apply below_alloc | apply pw_below_drewN | apply below_drew1 | refine below_set ?_ GE388.out | refine below_set ?_ GE397.out | refine below_set ?_ GE401.out) | exact HB.out))))
                  have n1_ := Aside0.mk (blk_below (g := gb388) (o := .cells #[.slice (some ad396) l0_0.length c0_0, .int .i64 a0_1, .slice A0_2 l0_2.length c0_2] 25 (0, 0)) (zK BK388.out) hb)
                  have n2_ := Aside0.mk (blk_below (g := gb397) (o := .cells #[.string ((rd_T39 l0_0 x3_2).f0), .int .i64 ((rd_T39 l0_0 x3_2).f1), .int .i64 ((rd_T39 l0_0 x3_2).f2), .slice A396_3 ((rd_T39 l0_0 x3_2).f3).length c396_3, .slice (some ad398) ((rd_T39 l0_0 x3_2).f4).length c396_4] 39 (0, 0)) (zK BK397.out) hb)
                  have n3_ := Aside0.mk (blk_below (g := gb401) (o := .cells #[.int .i64 ((rd_T42 (rd_L5 ((rd_T39 l0_0 x3_2).f4) x5_3) x6_4).f0), .int .i64 ((rd_T42 (rd_L5 ((rd_T39 l0_0 x3_2).f4) x5_3) x6_4).f1), .int .i64 ((rd_T42 (rd_L5 ((rd_T39 l0_0 x3_2).f4) x5_3) x6_4).f2), .int .i64 ((rd_T42 (rd_L5 ((rd_T39 l0_0 x3_2).f4) x5_3) x6_4).f3), .int .i64 ((rd_T42 (rd_L5 ((rd_T39 l0_0 x3_2).f4) x5_3) x6_4).f4), .int .i64 ((rd_T42 (rd_L5 ((rd_T39 l0_0 x3_2).f4) x5_3) x6_4).f5), .int .i64 ((rd_T42 (rd_L5 ((rd_T39 l0_0 x3_2).f4) x5_3) x6_4).f6), .int .i64 ((rd_T42 (rd_L5 ((rd_T39 l0_0 x3_2).f4) x5_3) x6_4).f7), .slice A400_8 ((rd_T42 (rd_L5 ((rd_T39 l0_0 x3_2).f4) x5_3) x6_4).f8).length c400_8] 42 (0, 0)) (zK BK401.out) hb)
                  have n4_ := Aside0.mk (below_step (by repeat (first | (with_reducible first | exact HB.out | apply below_alloc | apply pw_below_drewN | apply below_drew1 | refine below_set ?_ GE388.out | refine below_set ?_ GE397.out | refine below_set ?_ GE401.out) | exact HB.out)) hb)
                  clear BK388
                  clear BK397
                  clear BK401
                  clear HB
                  have HO404 := n0_
                  have BK388 := n1_
                  have BK397 := n2_
                  have BK401 := n3_
                  have HB := n4_
                  clear n0_ n1_ n2_ n3_ n4_
                  (try clear hb)
                  (try clear hb2)
                  (try clear hk)
                  (try clear hi)
                  (try clear ho0)
                  obtain ⟨Ao42, co42, eo42⟩ := Kd.R_slice HO404.out
                  (first | subst eo42 | (injection eo42 with f1_ f2_ f3_; have f4_ := f1_.symm; have f5_ := f3_.symm; clear f1_ f2_ f3_; subst f4_; subst f5_))
                  refine hK.out _ _ ⟨(blk_cell BK401.out 0).trans rfl, (blk_cell BK401.out 1).trans rfl, (blk_cell BK401.out 2).trans rfl, (blk_cell BK401.out 3).trans rfl, (blk_cell BK401.out 4).trans rfl, (blk_cell BK401.out 5).trans rfl, (blk_cell BK401.out 6).trans rfl, (blk_cell BK401.out 7).trans rfl, (blk_cell BK401.out 8).trans rfl⟩ (fun hHeld => ?_)
                  clear hK K
                  refine norm_ (a' := ?_) ?_ ?_
                  rotate_left
                  ·show Act.put _ (some 60) _ = _
                   simp only [Act.put, List.setIfInBounds_toArray, List.set_cons_zero, List.set_cons_succ, i64_w, i32_w]
                   rfl
                  refine one_ (i := 2) (N := some 61) (zb 8 15) rfl rfl (one_of HT_.out (by kernel_rfl)) (by decide) (fun K hK => ?_)
                  refine goes_ Try.func15 (by kernel_rfl) rfl #[.slice Ao42 t402.length co42] (by rfl) rfl rfl zE ?_
                  with_reducible refine (balustradebase_Ints.calls _ _ t402 t405 _ ?side1 ?side2 A30.out).mono ?_
                  (case side1 => exact zC (Kd.R_reads' HO404.out).2.2)
                  (case side2 => exact (Kd.R_reads' HO404.out).2.1)
                  rintro e w43 ⟨v406, rfl, ho0, hb⟩
                  refine ⟨_, rfl, ?_⟩
                  have n0_ := Aside0.mk (Kd.R_elder' (zR HO404.out) (Kd.R_base ho0) hb)
                  have n1_ := Aside0.mk (Kd.R_lower (Kd.R_new' ho0 (Kd.R_lt (zR HO404.out))) (below_size (by repeat (first | (with_reducible first | exact HB.out | apply below_alloc | apply pw_below_drewN | apply below_drew1 | refine below_set ?_ GE388.out | refine below_set ?_ GE397.out | refine below_set ?_ GE401.out) | exact HB.out))))
                  have n2_ := Aside0.mk (blk_below (g := gb388) (o := .cells #[.slice (some ad396) l0_0.length c0_0, .int .i64 a0_1, .slice A0_2 l0_2.length c0_2] 25 (0, 0)) (zK BK388.out) hb)
                  have n3_ := Aside0.mk (blk_below (g := gb397) (o := .cells #[.string ((rd_T39 l0_0 x3_2).f0), .int .i64 ((rd_T39 l0_0 x3_2).f1), .int .i64 ((rd_T39 l0_0 x3_2).f2), .slice A396_3 ((rd_T39 l0_0 x3_2).f3).length c396_3, .slice (some ad398) ((rd_T39 l0_0 x3_2).f4).length c396_4] 39 (0, 0)) (zK BK397.out) hb)
                  have n4_ := Aside0.mk (blk_below (g := gb401) (o := .cells #[.int .i64 ((rd_T42 (rd_L5 ((rd_T39 l0_0 x3_2).f4) x5_3) x6_4).f0), .int .i64 ((rd_T42 (rd_L5 ((rd_T39 l0_0 x3_2).f4) x5_3) x6_4).f1), .int .i64 ((rd_T42 (rd_L5 ((rd_T39 l0_0 x3_2).f4) x5_3) x6_4).f2), .int .i64 ((rd_T42 (rd_L5 ((rd_T39 l0_0 x3_2).f4) x5_3) x6_4).f3), .int .i64 ((rd_T42 (rd_L5 ((rd_T39 l0_0 x3_2).f4) x5_3) x6_4).f4), .int .i64 ((rd_T42 (rd_L5 ((rd_T39 l0_0 x3_2).f4) x5_3) x6_4).f5), .int .i64 ((rd_T42 (rd_L5 ((rd_T39 l0_0 x3_2).f4) x5_3) x6_4).f6), .int .i64 ((rd_T42 (rd_L5 ((rd_T39 l0_0 x3_2).f4) x5_3) x6_4).f7), .slice A400_8 ((rd_T42 (rd_L5 ((rd_T39 l0_0 x3_2).f4) x5_3) x6_4).f8).length c400_8] 42 (0, 0)) (zK BK401.out) hb)
                  have n5_ := Aside0.mk (below_step (by repeat (first | (with_reducible first | exact HB.out | apply below_alloc | apply pw_below_drewN | apply below_drew1 | refine below_set ?_ GE388.out | refine below_set ?_ GE397.out | refine below_set ?_ GE401.out) | exact HB.out)) hb)
                  clear HO404
                  clear BK388
                  clear BK397
                  clear BK401
                  clear HB
                  have HO404 := n0_
                  have HO407 := n1_
                  have BK388 := n2_
                  have BK397 := n3_
                  have BK401 := n4_
                  have HB := n5_
                  clear n0_ n1_ n2_ n3_ n4_ n5_
                  (try clear hb)
                  (try clear hb2)
                  (try clear hk)
                  (try clear hi)
                  (try clear ho0)
                  refine hK.out _ _ ⟨(blk_cell BK401.out 0).trans rfl, (blk_cell BK401.out 1).trans rfl, (blk_cell BK401.out 2).trans rfl, (blk_cell BK401.out 3).trans rfl, (blk_cell BK401.out 4).trans rfl, (blk_cell BK401.out 5).trans rfl, (blk_cell BK401.out 6).trans rfl, (blk_cell BK401.out 7).trans rfl, (blk_cell BK401.out 8).trans rfl⟩ (fun hHeld => ?_)
                  clear hK K
                  refine norm_ (a' := ?_) ?_ ?_
                  rotate_left
                  ·show Act.put _ (some 61) _ = _
                   simp only [Act.put, List.setIfInBounds_toArray, List.set_cons_zero, List.set_cons_succ, i64_w, i32_w]
                   rfl
                  refine one_ (i := 4) (N := some 63) (zb 8 31) rfl rfl (one_of HT_.out (by kernel_rfl)) (by decide) (fun K hK => ?_)
                  refine goes_ Try.func17 (by kernel_rfl) rfl #[.agg #[.int .i64 ((rd_T42 (rd_L5 ((rd_T39 l0_0 x3_2).f4) x5_3) x6_4).f0), .int .i64 ((rd_T42 (rd_L5 ((rd_T39 l0_0 x3_2).f4) x5_3) x6_4).f1), .int .i64 ((rd_T42 (rd_L5 ((rd_T39 l0_0 x3_2).f4) x5_3) x6_4).f2), .int .i64 ((rd_T42 (rd_L5 ((rd_T39 l0_0 x3_2).f4) x5_3) x6_4).f3), .int .i64 ((rd_T42 (rd_L5 ((rd_T39 l0_0 x3_2).f4) x5_3) x6_4).f4), .int .i64 ((rd_T42 (rd_L5 ((rd_T39 l0_0 x3_2).f4) x5_3) x6_4).f5), .int .i64 ((rd_T42 (rd_L5 ((rd_T39 l0_0 x3_2).f4) x5_3) x6_4).f6), .int .i64 ((rd_T42 (rd_L5 ((rd_T39 l0_0 x3_2).f4) x5_3) x6_4).f7), .slice A400_8 ((rd_T42 (rd_L5 ((rd_T39 l0_0 x3_2).f4) x5_3) x6_4).f8).length c400_8]] (by rfl) rfl rfl zE ?_
                  with_reducible refine (balustraderef15_Def.calls ((rd_T42 (rd_L5 ((rd_T39 l0_0 x3_2).f4) x5_3) x6_4).f0) ((rd_T42 (rd_L5 ((rd_T39 l0_0 x3_2).f4) x5_3) x6_4).f1) ((rd_T42 (rd_L5 ((rd_T39 l0_0 x3_2).f4) x5_3) x6_4).f2) ((rd_T42 (rd_L5 ((rd_T39 l0_0 x3_2).f4) x5_3) x6_4).f3) ((rd_T42 (rd_L5 ((rd_T39 l0_0 x3_2).f4) x5_3) x6_4).f4) ((rd_T42 (rd_L5 ((rd_T39 l0_0 x3_2).f4) x5_3) x6_4).f5) ((rd_T42 (rd_L5 ((rd_T39 l0_0 x3_2).f4) x5_3) x6_4).f6) ((rd_T42 (rd_L5 ((rd_T39 l0_0 x3_2).f4) x5_3) x6_4).f7) _ _ ((rd_T42 (rd_L5 ((rd_T39 l0_0 x3_2).f4) x5_3) x6_4).f8) t408 _ ?side1 ?side2 A31.out).mono ?_
                  (case side1 => exact zC (Kd.C_below HR400_8.out HB.out))
                  (case side2 => exact HC400_8.out)
                  rintro e w44 ⟨rfl, hb⟩
                  refine ⟨_, rfl, ?_⟩
                  have n0_ := Aside0.mk (Kd.R_below (zR HO404.out) hb)
                  have n1_ := Aside0.mk (Kd.R_below (zR HO407.out) hb)
                  have n2_ := Aside0.mk (blk_below (g := gb388) (o := .cells #[.slice (some ad396) l0_0.length c0_0, .int .i64 a0_1, .slice A0_2 l0_2.length c0_2] 25 (0, 0)) (zK BK388.out) hb)
                  have n3_ := Aside0.mk (blk_below (g := gb397) (o := .cells #[.string ((rd_T39 l0_0 x3_2).f0), .int .i64 ((rd_T39 l0_0 x3_2).f1), .int .i64 ((rd_T39 l0_0 x3_2).f2), .slice A396_3 ((rd_T39 l0_0 x3_2).f3).length c396_3, .slice (some ad398) ((rd_T39 l0_0 x3_2).f4).length c396_4] 39 (0, 0)) (zK BK397.out) hb)
                  have n4_ := Aside0.mk (blk_below (g := gb401) (o := .cells #[.int .i64 ((rd_T42 (rd_L5 ((rd_T39 l0_0 x3_2).f4) x5_3) x6_4).f0), .int .i64 ((rd_T42 (rd_L5 ((rd_T39 l0_0 x3_2).f4) x5_3) x6_4).f1), .int .i64 ((rd_T42 (rd_L5 ((rd_T39 l0_0 x3_2).f4) x5_3) x6_4).f2), .int .i64 ((rd_T42 (rd_L5 ((rd_T39 l0_0 x3_2).f4) x5_3) x6_4).f3), .int .i64 ((rd_T42 (rd_L5 ((rd_T39 l0_0 x3_2).f4) x5_3) x6_4).f4), .int .i64 ((rd_T42 (rd_L5 ((rd_T39 l0_0 x3_2).f4) x5_3) x6_4).f5), .int .i64 ((rd_T42 (rd_L5 ((rd_T39 l0_0 x3_2).f4) x5_3) x6_4).f6), .int .i64 ((rd_T42 (rd_L5 ((rd_T39 l0_0 x3_2).f4) x5_3) x6_4).f7), .slice A400_8 ((rd_T42 (rd_L5 ((rd_T39 l0_0 x3_2).f4) x5_3) x6_4).f8).length c400_8] 42 (0, 0)) (zK BK401.out) hb)
                  have n5_ := Aside0.mk (below_step (by repeat (first | (with_reducible first | exact HB.out | apply below_alloc | apply pw_below_drewN | apply below_drew1 | refine below_set ?_ GE388.out | refine below_set ?_ GE397.out | refine below_set ?_ GE401.out) | exact HB.out)) hb)
                  clear HO404
                  clear HO407
                  clear BK388
                  clear BK397
                  clear BK401
                  clear HB
                  have HO404 := n0_
                  have HO407 := n1_
                  have BK388 := n2_
                  have BK397 := n3_
                  have BK401 := n4_
                  have HB := n5_
                  clear n0_ n1_ n2_ n3_ n4_ n5_
                  (try clear hb)
                  (try clear hb2)
                  (try clear hk)
                  (try clear hi)
                  refine hK.out _ _ ⟨(blk_cell BK401.out 0).trans rfl, (blk_cell BK401.out 1).trans rfl, (blk_cell BK401.out 2).trans rfl, (blk_cell BK401.out 3).trans rfl, (blk_cell BK401.out 4).trans rfl, (blk_cell BK401.out 5).trans rfl, (blk_cell BK401.out 6).trans rfl, (blk_cell BK401.out 7).trans rfl, (blk_cell BK401.out 8).trans rfl⟩ (fun hHeld => ?_)
                  clear hK K
                  refine norm_ (a' := ?_) ?_ ?_
                  rotate_left
                  ·show Act.put _ (some 63) _ = _
                   simp only [Act.put, List.setIfInBounds_toArray, List.set_cons_zero, List.set_cons_succ, i64_w, i32_w]
                   rfl
                  refine one_ (i := 5) (N := some 64) (zb 8 63) rfl rfl (one_of HT_.out (by kernel_rfl)) (by decide) (fun K hK => ?_)
                  refine value_ (w1 := ?_) (v := ?_) (by rfl) rfl ?_ ?_
                  rotate_left 2
                  ·go_simp
                   constructor
                   ·rfl
                   ·rfl
                  refine hK.out _ _ ⟨(blk_cell (blk_alloc BK401.out _) 0).trans rfl, (blk_cell (blk_alloc BK401.out _) 1).trans rfl, (blk_cell (blk_alloc BK401.out _) 2).trans rfl, (blk_cell (blk_alloc BK401.out _) 3).trans rfl, (blk_cell (blk_alloc BK401.out _) 4).trans rfl, (blk_cell (blk_alloc BK401.out _) 5).trans rfl, (blk_cell (blk_alloc BK401.out _) 6).trans rfl, (blk_cell (blk_alloc BK401.out _) 7).trans rfl, (blk_cell (blk_alloc BK401.out _) 8).trans rfl⟩ (fun hHeld => ?_)
                  clear hK K
                  refine norm_ (a' := ?_) ?_ ?_
                  rotate_left
                  ·show Act.put _ (some 64) _ = _
                   simp only [Act.put, List.setIfInBounds_toArray, List.set_cons_zero, List.set_cons_succ, i64_w, i32_w]
                   rfl
                  refine one_ (i := 6) (N := some 65) (zb 8 127) rfl rfl (one_of HT_.out (by kernel_rfl)) (by decide) (fun K hK => ?_)
                  refine Kd.R_append_step (Kd.int .i64) (w0 := w) w.heap.size (by rfl) (.tmp 61) (.tmp 64) 36 3 (.int .i64 0) 8 rfl Try.underlying36 info3 rfl (by decide) (by omega) v406 t405 t408 [.int .i64 t408] (fun k_ => some k_ ≠ (.slice Ao42 t402.length co42 : Value).ownBlock) (fun _ => False) rfl rfl ?aP (fun _ hk => hk.elim) ?aF ?aO ?aB ?aS ?aL ?_
                  (case aP => exact rfl)
                  (case aB => exact (by repeat (first | (with_reducible first | exact HB.out | apply below_alloc | apply pw_below_drewN | apply below_drew1 | refine below_set ?_ GE388.out | refine below_set ?_ GE397.out | refine below_set ?_ GE401.out) | exact HB.out)))
                  (case aF => exact (fun k_ hk => Kd.fresh' (Kd.R_lt (zR HO404.out)) k_ hk))
                  (case aO => exact (by (with_reducible repeat (first | apply Kd.R_alloc | apply Kd.R_drewN | apply Kd.R_drew)); exact Kd.R_mono HO407.out (fun _ hk => hk.2)))
                  (case aS => exact (below_size (by repeat (first | (with_reducible first | exact HB.out | apply below_alloc | apply pw_below_drewN | apply below_drew1 | refine below_set ?_ GE388.out | refine below_set ?_ GE397.out | refine below_set ?_ GE401.out) | exact HB.out))))
                  (case aL => have := LMc32.out; omega)
                  intro v410 w45 ho hb hg hat
                  rw [← Ny409.out] at ho
                  have n0_ := Aside0.mk (blk_grown (g := gb388) (o := .cells #[.slice (some ad396) l0_0.length c0_0, .int .i64 a0_1, .slice A0_2 l0_2.length c0_2] 25 (0, 0)) (zK BK388.out) hg (Kd.R_ne HO407.out BK388.out (by decide)))
                  have n1_ := Aside0.mk (blk_grown (g := gb397) (o := .cells #[.string ((rd_T39 l0_0 x3_2).f0), .int .i64 ((rd_T39 l0_0 x3_2).f1), .int .i64 ((rd_T39 l0_0 x3_2).f2), .slice A396_3 ((rd_T39 l0_0 x3_2).f3).length c396_3, .slice (some ad398) ((rd_T39 l0_0 x3_2).f4).length c396_4] 39 (0, 0)) (zK BK397.out) hg (Kd.R_ne HO407.out BK397.out (by decide)))
                  have n2_ := Aside0.mk (blk_grown (g := gb401) (o := .cells #[.int .i64 ((rd_T42 (rd_L5 ((rd_T39 l0_0 x3_2).f4) x5_3) x6_4).f0), .int .i64 ((rd_T42 (rd_L5 ((rd_T39 l0_0 x3_2).f4) x5_3) x6_4).f1), .int .i64 ((rd_T42 (rd_L5 ((rd_T39 l0_0 x3_2).f4) x5_3) x6_4).f2), .int .i64 ((rd_T42 (rd_L5 ((rd_T39 l0_0 x3_2).f4) x5_3) x6_4).f3), .int .i64 ((rd_T42 (rd_L5 ((rd_T39 l0_0 x3_2).f4) x5_3) x6_4).f4), .int .i64 ((rd_T42 (rd_L5 ((rd_T39 l0_0 x3_2).f4) x5_3) x6_4).f5), .int .i64 ((rd_T42 (rd_L5 ((rd_T39 l0_0 x3_2).f4) x5_3) x6_4).f6), .int .i64 ((rd_T42 (rd_L5 ((rd_T39 l0_0 x3_2).f4) x5_3) x6_4).f7), .slice A400_8 ((rd_T42 (rd_L5 ((rd_T39 l0_0 x3_2).f4) x5_3) x6_4).f8).length c400_8] 42 (0, 0)) (zK BK401.out) hg (Kd.R_ne HO407.out BK401.out (by decide)))
                  have n3_ := Aside0.mk (Kd.R_after (ok := (fun _ => True)) (zR HO404.out) hg hat)
                  have n4_ := Aside0.mk (hb)
                  have n5_ := Aside0.mk (ho)
                  clear BK388
                  clear BK397
                  clear BK401
                  clear HO404
                  clear HB
                  clear HO407
                  have BK388 := n0_
                  have BK397 := n1_
                  have BK401 := n2_
                  have HO404 := n3_
                  have HB := n4_
                  have HO411 := n5_
                  clear n0_ n1_ n2_ n3_ n4_ n5_
                  clear ho hb hg hat
                  refine hK.out _ _ ⟨(blk_cell BK401.out 0).trans rfl, (blk_cell BK401.out 1).trans rfl, (blk_cell BK401.out 2).trans rfl, (blk_cell BK401.out 3).trans rfl, (blk_cell BK401.out 4).trans rfl, (blk_cell BK401.out 5).trans rfl, (blk_cell BK401.out 6).trans rfl, (blk_cell BK401.out 7).trans rfl, (blk_cell BK401.out 8).trans rfl⟩ (fun hHeld => ?_)
                  clear hK K
                  refine norm_ (a' := ?_) ?_ ?_
                  rotate_left
                  ·show Act.put _ (some 65) _ = _
                   simp only [Act.put, List.setIfInBounds_toArray, List.set_cons_zero, List.set_cons_succ, i64_w, i32_w]
                   rfl
                  refine pure_ (i := 7) (N := some 8) (v := ?_) (a' := ?_) (zb 8 255) rfl rfl (any_of HT_.out (by kernel_rfl)) (fun _ _ _ h => h) (Or.inl ⟨by rfl, ?_⟩) ?_ ?_
                  rotate_left
                  ·intro w'
                   go_simp
                   with_reducible rfl
                  rotate_left
                  ·simp only [Act.put, List.setIfInBounds_toArray, List.set_cons_zero, List.set_cons_succ, i64_w, i32_w]
                   rfl
                  refine done_ (done_of HT_.out (by kernel_rfl)) ?_
                  try go_wp2
                  go_loopg [9] k4 (fun kq v9 w' => ∃ (x9_5 : Int), v9 = .int .i64 x9_5 ∧ Aside0 (balustradelaw16_FunKinds.l3 kq x3_2 x5_3 x6_4 y409 x9_5 l0_0 a0_1 l0_2 ((rd_T39 l0_0 x3_2).f0) ((rd_T39 l0_0 x3_2).f1) ((rd_T39 l0_0 x3_2).f2) ((rd_T39 l0_0 x3_2).f3) ((rd_T39 l0_0 x3_2).f4) ((rd_T42 (rd_L5 ((rd_T39 l0_0 x3_2).f4) x5_3) x6_4).f0) ((rd_T42 (rd_L5 ((rd_T39 l0_0 x3_2).f4) x5_3) x6_4).f1) ((rd_T42 (rd_L5 ((rd_T39 l0_0 x3_2).f4) x5_3) x6_4).f2) ((rd_T42 (rd_L5 ((rd_T39 l0_0 x3_2).f4) x5_3) x6_4).f3) ((rd_T42 (rd_L5 ((rd_T39 l0_0 x3_2).f4) x5_3) x6_4).f4) ((rd_T42 (rd_L5 ((rd_T39 l0_0 x3_2).f4) x5_3) x6_4).f5) ((rd_T42 (rd_L5 ((rd_T39 l0_0 x3_2).f4) x5_3) x6_4).f6) ((rd_T42 (rd_L5 ((rd_T39 l0_0 x3_2).f4) x5_3) x6_4).f7) ((rd_T42 (rd_L5 ((rd_T39 l0_0 x3_2).f4) x5_3) x6_4).f8) = some r) ∧ Aside0 (kq ≤ k4) ∧ Aside0 (Kd.R (Kd.int .i64) 3 w' w.heap.size (fun _ => True) v410 y409) ∧ Aside0 (w'.heap[gb388]? = some (.cells #[(.slice (some ad396) l0_0.length c0_0), .int .i64 a0_1, (.slice A0_2 l0_2.length c0_2)] 25 (0, 0))) ∧ Aside0 (w'.heap[gb397]? = some (.cells #[.string ((rd_T39 l0_0 x3_2).f0), .int .i64 ((rd_T39 l0_0 x3_2).f1), .int .i64 ((rd_T39 l0_0 x3_2).f2), (.slice A396_3 ((rd_T39 l0_0 x3_2).f3).length c396_3), (.slice (some ad398) ((rd_T39 l0_0 x3_2).f4).length c396_4)] 39 (0, 0))) ∧ Aside0 (w'.heap[gb401]? = some (.cells #[.int .i64 ((rd_T42 (rd_L5 ((rd_T39 l0_0 x3_2).f4) x5_3) x6_4).f0), .int .i64 ((rd_T42 (rd_L5 ((rd_T39 l0_0 x3_2).f4) x5_3) x6_4).f1), .int .i64 ((rd_T42 (rd_L5 ((rd_T39 l0_0 x3_2).f4) x5_3) x6_4).f2), .int .i64 ((rd_T42 (rd_L5 ((rd_T39 l0_0 x3_2).f4) x5_3) x6_4).f3), .int .i64 ((rd_T42 (rd_L5 ((rd_T39 l0_0 x3_2).f4) x5_3) x6_4).f4), .int .i64 ((rd_T42 (rd_L5 ((rd_T39 l0_0 x3_2).f4) x5_3) x6_4).f5), .int .i64 ((rd_T42 (rd_L5 ((rd_T39 l0_0 x3_2).f4) x5_3) x6_4).f6), .int .i64 ((rd_T42 (rd_L5 ((rd_T39 l0_0 x3_2).f4) x5_3) x6_4).f7), (.slice A400_8 ((rd_T42 (rd_L5 ((rd_T39 l0_0 x3_2).f4) x5_3) x6_4).f8).length c400_8)] 42 (0, 0))) ∧ Aside0 (Below w.heap.size w w'))
                  case atStart => exact ⟨(0), zQ, H', ⟨Nat.le_refl _⟩, ⟨by (with_reducible repeat (first | apply Kd.R_alloc | apply Kd.R_drewN | apply Kd.R_drew)); exact Kd.R_mono HO411.out (fun _ hk => trivial)⟩, ⟨zK BK388.out⟩, ⟨zK BK397.out⟩, ⟨zK BK401.out⟩, ⟨by repeat (first | (with_reducible first | exact HB.out | apply below_alloc | apply pw_below_drewN | apply below_drew1 | refine below_set ?_ GE388.out | refine below_set ?_ GE397.out | refine below_set ?_ GE401.out) | exact HB.out)⟩⟩
                  case round =>
                   clear H'
                   try clear c1
                   try clear c2
                   try clear p2
                   try clear c3
                   try clear p3
                   try clear q3
                   try clear hx3
                   try clear c4
                   try clear p4
                   try clear q4
                   try clear hx4
                   try clear c5
                   try clear c7
                   try clear c8
                   try clear c13
                   try clear c15
                   try clear c16
                   try clear c16b0
                   try clear c17
                   try clear c17b0
                   try clear c20
                   try clear c22
                   try clear c22b0
                   try clear c23
                   try clear c25
                   try clear c25b0
                   try clear c26
                   try clear c26b0
                   try clear c27
                   try clear c27b0
                   try clear c28
                   try clear c28b0
                   try clear c32
                   try clear c33
                   try clear c36
                   try clear c37
                   try clear c39
                   try clear p39
                   try clear q39
                   try clear hx39
                   try clear c40
                   try clear p40
                   try clear q40
                   try clear hx40
                   try clear hcz11_0
                   try clear hcz11_1
                   try clear hcz11_2
                   try clear hcz18_0
                   try clear hcz18_1
                   try clear hcz18_2
                   try clear hcz21_0
                   try clear hcz21_1
                   try clear hcz21_2
                   try clear hcz21_3
                   try clear hcz21_4
                   try clear hcz24_0
                   try clear hcz24_1
                   try clear hcz24_2
                   try clear hcz24_3
                   try clear hcz24_4
                   try clear hcz34_0
                   try clear hcz34_1
                   try clear hcz34_2
                   try clear hcz34_3
                   try clear hcz34_4
                   try clear hcz38_0
                   try clear hcz38_1
                   try clear hcz38_2
                   try clear hcz38_3
                   try clear hcz38_4
                   try clear hcz38_5
                   try clear hcz38_6
                   try clear hcz38_7
                   try clear hcz38_8
                   try clear hcz7_0
                   try clear hcz7_1
                   try clear hcz7_2
                   try clear hcz9_0
                   try clear hcz9_1
                   try clear hcz9_2
                   try clear hfz11_0
                   try clear hfz11_1
                   try clear hfz11_2
                   try clear hfz18_0
                   try clear hfz18_1
                   try clear hfz18_2
                   try clear hfz21_0
                   try clear hfz21_1
                   try clear hfz21_2
                   try clear hfz21_3
                   try clear hfz21_4
                   try clear hfz24_0
                   try clear hfz24_1
                   try clear hfz24_2
                   try clear hfz24_3
                   try clear hfz24_4
                   try clear hfz34_0
                   try clear hfz34_1
                   try clear hfz34_2
                   try clear hfz34_3
                   try clear hfz34_4
                   try clear hfz38_0
                   try clear hfz38_1
                   try clear hfz38_2
                   try clear hfz38_3
                   try clear hfz38_4
                   try clear hfz38_5
                   try clear hfz38_6
                   try clear hfz38_7
                   try clear hfz38_8
                   try clear hfz7_0
                   try clear hfz7_1
                   try clear hfz7_2
                   try clear hfz9_0
                   try clear hfz9_1
                   try clear hfz9_2
                   try clear hx396_0
                   try clear hx396_1
                   try clear hx396_2
                   try clear hx396_3
                   try clear hx396_4
                   try clear hx398_0
                   try clear hx399_0
                   try clear hx400_0
                   try clear hx400_1
                   try clear hx400_2
                   try clear hx400_3
                   try clear hx400_4
                   try clear hx400_5
                   try clear hx400_6
                   try clear hx400_7
                   try clear hx400_8
                   try clear p2
                   try clear p3
                   try clear p396
                   try clear p398
                   try clear p399
                   try clear p400
                   try clear q3
                   try clear q396
                   try clear q398
                   try clear q399
                   try clear q400
                   obtain ⟨x9_5, rfl, HA, HK5, HO_8, BK388, BK397, BK401, HB⟩ := hrel
                   cases gk with
                   | zero => exact absurd HA.out (by simp [balustradelaw16_FunKinds.l3])
                   | succ k5 =>
                    have H := HA.out
                    clear HA
                    simp only [balustradelaw16_FunKinds.l3] at H
                    by_cases c46 : x9_5 < (y409.length : Int)
                    ·rw [if_pos c46] at H
                     have c46b0 : decide (x9_5 < (y409.length : Int)) = true := decide_eq_true c46
                     clear c46
                     by_cases c47 : 0 ≤ x9_5
                     ·rw [if_pos c47] at H
                      have c47b0 : decide (0 ≤ x9_5) = true := decide_eq_true c47
                      clear c47
                      by_cases c48 : (rd y409 x9_5) ≥ (((rd_T39 l0_0 x3_2).f3).length : Int)
                      ·rw [if_pos c48] at H
                       have c48b0 : decide ((((rd_T39 l0_0 x3_2).f3).length : Int) ≤ (rd y409 x9_5)) = true := decide_eq_true c48
                       clear c48
                       obtain rfl := Option.some.inj H
                       obtain ⟨Ao49, co49, eo49⟩ := Kd.R_slice HO_8.out
                       subst eo49
                       try go_wp2
                       have n0_ := Aside0.mk (Kd.R_drew HO_8.out)
                       have n1_ := Aside0.mk (blk_drew BK388.out)
                       have n2_ := Aside0.mk (blk_drew BK397.out)
                       have n3_ := Aside0.mk (blk_drew BK401.out)
                       have n4_ := Aside0.mk (below_drew1 HB.out)
                       clear HO_8
                       clear BK388
                       clear BK397
                       clear BK401
                       clear HB
                       have HO_8 := n0_
                       have BK388 := n1_
                       have BK397 := n2_
                       have BK401 := n3_
                       have HB := n4_
                       clear n0_ n1_ n2_ n3_ n4_
                       have p412 : 0 ≤ (x9_5 : Int) := zO
                       have q412 : x9_5 < (y409.length : Int) := zO
                       obtain ⟨ad412, e412, hx412_0⟩ := Kd.at_int (Kd.R_reads' HO_8.out).2.2 x9_5 p412 q412
                       cases e412
                       replace p412 := eq_true p412
                       replace q412 := eq_true q412
                       refine start_ (n := 8) (S := fun w' => w'.cell? ⟨gb397, 0, none⟩ = some (.string ((rd_T39 l0_0 x3_2).f0)) ∧ w'.cell? ⟨gb397, 1, none⟩ = some (.int .i64 ((rd_T39 l0_0 x3_2).f1)) ∧ w'.cell? ⟨gb397, 2, none⟩ = some (.int .i64 ((rd_T39 l0_0 x3_2).f2)) ∧ w'.cell? ⟨gb397, 3, none⟩ = some (.slice A396_3 ((rd_T39 l0_0 x3_2).f3).length c396_3) ∧ w'.cell? ⟨gb397, 4, none⟩ = some (.slice (some ad398) ((rd_T39 l0_0 x3_2).f4).length c396_4) ∧ w'.cell? (ad412.add (x9_5).toNat) = some (.int .i64 (rd y409 x9_5))) (ds := []) #[false, false, false, false, false, false, false, false] (by kernel_rfl) rfl rfl ⟨(blk_cell BK397.out 0).trans rfl, (blk_cell BK397.out 1).trans rfl, (blk_cell BK397.out 2).trans rfl, (blk_cell BK397.out 3).trans rfl, (blk_cell BK397.out 4).trans rfl, hx412_0⟩ (fun hHeld => ?_); refine with_tabW balustradelaw16_FunKinds.tab18 balustradelaw16_FunKinds.bits18 (fun HT_ HW_ => ?_)
                       generalize wr.drew = w50 at HO_8 BK388 BK397 BK401 HB hx412_0 hHeld ⊢
                       refine pure_ (i := 0) (N := some 72) (v := ?_) (a' := ?_) (zb 8 1) rfl rfl (any_of HT_.out (by kernel_rfl)) (fun _ _ _ h => h) (Or.inl ⟨by rfl, ?_⟩) ?_ ?_
                       rotate_left
                       ·intro w'
                        go_simp
                        with_reducible rfl
                       rotate_left
                       ·simp only [Act.put, List.setIfInBounds_toArray, List.set_cons_zero, List.set_cons_succ, i64_w, i32_w]
                        rfl
                       refine pure_ (i := 1) (N := some 73) (v := ?_) (a' := ?_) (zb 8 3) rfl rfl (any_of HT_.out (by kernel_rfl)) (fun _ _ _ h => h) (Or.inl ⟨by rfl, ?_⟩) ?_ ?_
                       rotate_left
                       ·intro w'
                        go_simp
                        with_reducible rfl
                       rotate_left
                       ·simp only [Act.put, List.setIfInBounds_toArray, List.set_cons_zero, List.set_cons_succ, i64_w, i32_w]
                        rfl
                       refine pure_ (i := 2) (N := some 74) (v := ?_) (a' := ?_) (zb 8 7) rfl rfl (any_of HT_.out (by kernel_rfl)) (fun _ _ _ h => h) (Or.inl ⟨by rfl, ?_⟩) ?_ ?_
                       rotate_left
                       ·intro w'
                        go_simp
                        with_reducible rfl
                       rotate_left
                       ·simp only [Act.put, List.setIfInBounds_toArray, List.set_cons_zero, List.set_cons_succ, i64_w, i32_w]
                        rfl
                       refine pure_ (i := 4) (N := some 76) (v := ?_) (a' := ?_) (zb 8 23) rfl rfl (any_of HT_.out (by kernel_rfl)) (fun _ _ _ h => h) (Or.inl ⟨by rfl, ?_⟩) ?_ ?_
                       rotate_left
                       ·intro w'
                        go_simp
                        with_reducible rfl
                       rotate_left
                       ·simp only [Act.put, List.setIfInBounds_toArray, List.set_cons_zero, List.set_cons_succ, i64_w, i32_w]
                        rfl
                       refine take_ (i := 3) (N := some 75) (v := ?_) (a' := ?_) (zb 8 31) rfl rfl (take_ofW HT_.out HW_.out (by kernel_rfl)) (fun _ _ _ h => h) (Or.inl ⟨by rfl, ?_⟩) hHeld ?_ ?_
                       rotate_left
                       ·rintro w' ⟨s0, s1, s2, s3, s4, s5⟩
                        go_simp
                        with_reducible rfl
                       rotate_left
                       ·simp only [Act.put, List.setIfInBounds_toArray, List.set_cons_zero, List.set_cons_succ, i64_w, i32_w]
                        rfl
                       refine take_ (i := 5) (N := some 77) (v := ?_) (a' := ?_) (zb 8 63) rfl rfl (take_ofW HT_.out HW_.out (by kernel_rfl)) (fun _ _ _ h => h) (Or.inl ⟨by rfl, ?_⟩) hHeld ?_ ?_
                       rotate_left
                       ·rintro w' ⟨s0, s1, s2, s3, s4, s5⟩
                        go_simp
                        with_reducible rfl
                       rotate_left
                       ·simp only [Act.put, List.setIfInBounds_toArray, List.set_cons_zero, List.set_cons_succ, i64_w, i32_w]
                        rfl
                       refine pure_ (i := 6) (N := some 78) (v := ?_) (a' := ?_) (zb 8 127) rfl rfl (any_of HT_.out (by kernel_rfl)) (fun _ _ _ h => h) (Or.inl ⟨by rfl, ?_⟩) ?_ ?_
                       rotate_left
                       ·intro w'
                        go_simp
                        with_reducible rfl
                       rotate_left
                       ·simp only [Act.put, List.setIfInBounds_toArray, List.set_cons_zero, List.set_cons_succ, i64_w, i32_w]
                        rfl
                       refine pure_ (i := 7) (N := some 79) (v := ?_) (a' := ?_) (zb 8 255) rfl rfl (any_of HT_.out (by kernel_rfl)) (fun _ _ _ h => h) (Or.inl ⟨by rfl, ?_⟩) ?_ ?_
                       rotate_left
                       ·intro w'
                        go_simp
                        with_reducible rfl
                       rotate_left
                       ·simp only [Act.put, List.setIfInBounds_toArray, List.set_cons_zero, List.set_cons_succ, i64_w, i32_w]
                        rfl
                       refine done_ (done_of HT_.out (by kernel_rfl)) ?_
                       try go_wp2
                       go_ret
                       exact ⟨zV, by repeat (first | (with_reducible first | exact HB.out | apply below_alloc | apply pw_below_drewN | apply below_drew1 | refine below_set ?_ GE388.out | refine below_set ?_ GE397.out | refine below_set ?_ GE401.out) | exact HB.out)⟩
                      ·rw [if_neg c48] at H
                       have c48b0 : decide ((((rd_T39 l0_0 x3_2).f3).length : Int) ≤ (rd y409 x9_5)) = false := decide_eq_false c48
                       clear c48
                       have H' := Aside0.mk H
                       clear H
                       obtain ⟨Ao51, co51, eo51⟩ := Kd.R_slice HO_8.out
                       subst eo51
                       try go_wp2
                       have n0_ := Aside0.mk (Kd.R_drew HO_8.out)
                       have n1_ := Aside0.mk (blk_drew BK388.out)
                       have n2_ := Aside0.mk (blk_drew BK397.out)
                       have n3_ := Aside0.mk (blk_drew BK401.out)
                       have n4_ := Aside0.mk (below_drew1 HB.out)
                       clear HO_8
                       clear BK388
                       clear BK397
                       clear BK401
                       clear HB
                       have HO_8 := n0_
                       have BK388 := n1_
                       have BK397 := n2_
                       have BK401 := n3_
                       have HB := n4_
                       clear n0_ n1_ n2_ n3_ n4_
                       have p412 : 0 ≤ (x9_5 : Int) := zO
                       have q412 : x9_5 < (y409.length : Int) := zO
                       obtain ⟨ad412, e412, hx412_0⟩ := Kd.at_int (Kd.R_reads' HO_8.out).2.2 x9_5 p412 q412
                       cases e412
                       replace p412 := eq_true p412
                       replace q412 := eq_true q412
                       refine start_ (n := 8) (S := fun w' => w'.cell? ⟨gb397, 0, none⟩ = some (.string ((rd_T39 l0_0 x3_2).f0)) ∧ w'.cell? ⟨gb397, 1, none⟩ = some (.int .i64 ((rd_T39 l0_0 x3_2).f1)) ∧ w'.cell? ⟨gb397, 2, none⟩ = some (.int .i64 ((rd_T39 l0_0 x3_2).f2)) ∧ w'.cell? ⟨gb397, 3, none⟩ = some (.slice A396_3 ((rd_T39 l0_0 x3_2).f3).length c396_3) ∧ w'.cell? ⟨gb397, 4, none⟩ = some (.slice (some ad398) ((rd_T39 l0_0 x3_2).f4).length c396_4) ∧ w'.cell? (ad412.add (x9_5).toNat) = some (.int .i64 (rd y409 x9_5))) (ds := []) #[false, false, false, false, false, false, false, false] (by kernel_rfl) rfl rfl ⟨(blk_cell BK397.out 0).trans rfl, (blk_cell BK397.out 1).trans rfl, (blk_cell BK397.out 2).trans rfl, (blk_cell BK397.out 3).trans rfl, (blk_cell BK397.out 4).trans rfl, hx412_0⟩ (fun hHeld => ?_); refine with_tabW balustradelaw16_FunKinds.tab18 balustradelaw16_FunKinds.bits18 (fun HT_ HW_ => ?_)
                       generalize wr.drew = w52 at HO_8 BK388 BK397 BK401 HB hx412_0 hHeld ⊢
                       refine pure_ (i := 0) (N := some 72) (v := ?_) (a' := ?_) (zb 8 1) rfl rfl (any_of HT_.out (by kernel_rfl)) (fun _ _ _ h => h) (Or.inl ⟨by rfl, ?_⟩) ?_ ?_
                       rotate_left
                       ·intro w'
                        go_simp
                        with_reducible rfl
                       rotate_left
                       ·simp only [Act.put, List.setIfInBounds_toArray, List.set_cons_zero, List.set_cons_succ, i64_w, i32_w]
                        rfl
                       refine pure_ (i := 1) (N := some 73) (v := ?_) (a' := ?_) (zb 8 3) rfl rfl (any_of HT_.out (by kernel_rfl)) (fun _ _ _ h => h) (Or.inl ⟨by rfl, ?_⟩) ?_ ?_
                       rotate_left
                       ·intro w'
                        go_simp
                        with_reducible rfl
                       rotate_left
                       ·simp only [Act.put, List.setIfInBounds_toArray, List.set_cons_zero, List.set_cons_succ, i64_w, i32_w]
                        rfl
                       refine pure_ (i := 2) (N := some 74) (v := ?_) (a' := ?_) (zb 8 7) rfl rfl (any_of HT_.out (by kernel_rfl)) (fun _ _ _ h => h) (Or.inl ⟨by rfl, ?_⟩) ?_ ?_
                       rotate_left
                       ·intro w'
                        go_simp
                        with_reducible rfl
                       rotate_left
                       ·simp only [Act.put, List.setIfInBounds_toArray, List.set_cons_zero, List.set_cons_succ, i64_w, i32_w]
                        rfl
                       refine pure_ (i := 4) (N := some 76) (v := ?_) (a' := ?_) (zb 8 23) rfl rfl (any_of HT_.out (by kernel_rfl)) (fun _ _ _ h => h) (Or.inl ⟨by rfl, ?_⟩) ?_ ?_
                       rotate_left
                       ·intro w'
                        go_simp
                        with_reducible rfl
                       rotate_left
                       ·simp only [Act.put, List.setIfInBounds_toArray, List.set_cons_zero, List.set_cons_succ, i64_w, i32_w]
                        rfl
                       refine take_ (i := 3) (N := some 75) (v := ?_) (a' := ?_) (zb 8 31) rfl rfl (take_ofW HT_.out HW_.out (by kernel_rfl)) (fun _ _ _ h => h) (Or.inl ⟨by rfl, ?_⟩) hHeld ?_ ?_
                       rotate_left
                       ·rintro w' ⟨s0, s1, s2, s3, s4, s5⟩
                        go_simp
                        with_reducible rfl
                       rotate_left
                       ·simp only [Act.put, List.setIfInBounds_toArray, List.set_cons_zero, List.set_cons_succ, i64_w, i32_w]
                        rfl
                       refine take_ (i := 5) (N := some 77) (v := ?_) (a' := ?_) (zb 8 63) rfl rfl (take_ofW HT_.out HW_.out (by kernel_rfl)) (fun _ _ _ h => h) (Or.inl ⟨by rfl, ?_⟩) hHeld ?_ ?_
                       rotate_left
                       ·rintro w' ⟨s0, s1, s2, s3, s4, s5⟩
                        go_simp
                        with_reducible rfl
                       rotate_left
                       ·simp only [Act.put, List.setIfInBounds_toArray, List.set_cons_zero, List.set_cons_succ, i64_w, i32_w]
                        rfl
                       refine pure_ (i := 6) (N := some 78) (v := ?_) (a' := ?_) (zb 8 127) rfl rfl (any_of HT_.out (by kernel_rfl)) (fun _ _ _ h => h) (Or.inl ⟨by rfl, ?_⟩) ?_ ?_
                       rotate_left
                       ·intro w'
                        go_simp
                        with_reducible rfl
                       rotate_left
                       ·simp only [Act.put, List.setIfInBounds_toArray, List.set_cons_zero, List.set_cons_succ, i64_w, i32_w]
                        rfl
                       refine pure_ (i := 7) (N := some 79) (v := ?_) (a' := ?_) (zb 8 255) rfl rfl (any_of HT_.out (by kernel_rfl)) (fun _ _ _ h => h) (Or.inl ⟨by rfl, ?_⟩) ?_ ?_
                       rotate_left
                       ·intro w'
                        go_simp
                        with_reducible rfl
                       rotate_left
                       ·simp only [Act.put, List.setIfInBounds_toArray, List.set_cons_zero, List.set_cons_succ, i64_w, i32_w]
                        rfl
                       refine done_ (done_of HT_.out (by kernel_rfl)) ?_
                       try go_wp2
                       go_roundg k5
                       case measure => have := HJ1.out; have := HK2.out; have := HK3.out; have := HK4.out; have := HK5.out; omega
                       case rel => exact ⟨(wrap64 (x9_5 + 1)), zQ, H', ⟨by have := HJ1.out; have := HK2.out; have := HK3.out; have := HK4.out; have := HK5.out; omega⟩, ⟨zR HO_8.out⟩, ⟨zK BK388.out⟩, ⟨zK BK397.out⟩, ⟨zK BK401.out⟩, ⟨by repeat (first | (with_reducible first | exact HB.out | apply below_alloc | apply pw_below_drewN | apply below_drew1 | refine below_set ?_ GE388.out | refine below_set ?_ GE397.out | refine below_set ?_ GE401.out) | exact HB.out)⟩⟩
                     ·rw [if_neg c47] at H
                      exact absurd H (by simp)
                    ·rw [if_neg c46] at H
                     have c46b0 : decide (x9_5 < (y409.length : Int)) = false := decide_eq_false c46
                     clear c46
                     replace H := Option.bind_eq_some_iff.mp H
                     obtain ⟨t413, A530, H⟩ := H
                     replace H : (balustradelaw16_FunKinds.l4 k5 x3_2 x5_3 x6_4 t413 0 l0_0 a0_1 l0_2 ((rd_T39 l0_0 x3_2).f0) ((rd_T39 l0_0 x3_2).f1) ((rd_T39 l0_0 x3_2).f2) ((rd_T39 l0_0 x3_2).f3) ((rd_T39 l0_0 x3_2).f4) ((rd_T42 (rd_L5 ((rd_T39 l0_0 x3_2).f4) x5_3) x6_4).f0) ((rd_T42 (rd_L5 ((rd_T39 l0_0 x3_2).f4) x5_3) x6_4).f1) ((rd_T42 (rd_L5 ((rd_T39 l0_0 x3_2).f4) x5_3) x6_4).f2) ((rd_T42 (rd_L5 ((rd_T39 l0_0 x3_2).f4) x5_3) x6_4).f3) ((rd_T42 (rd_L5 ((rd_T39 l0_0 x3_2).f4) x5_3) x6_4).f4) ((rd_T42 (rd_L5 ((rd_T39 l0_0 x3_2).f4) x5_3) x6_4).f5) ((rd_T42 (rd_L5 ((rd_T39 l0_0 x3_2).f4) x5_3) x6_4).f6) ((rd_T42 (rd_L5 ((rd_T39 l0_0 x3_2).f4) x5_3) x6_4).f7) ((rd_T42 (rd_L5 ((rd_T39 l0_0 x3_2).f4) x5_3) x6_4).f8)) = some r := H
                     have A53 := Aside0.mk A530
                     clear A530
                     have H' := Aside0.mk H
                     clear H
                     obtain ⟨Ao54, co54, eo54⟩ := Kd.R_slice HO_8.out
                     subst eo54
                     have hnb55 := NB401_388.out
                     have hnc55 := NB388_401.out
                     have hnb56 := NB401_397.out
                     have hnc56 := NB397_401.out
                     obtain ⟨hcz57_0, hcz57_1, hcz57_2, hcz57_3, hcz57_4, hcz57_5, hcz57_6, hcz57_7, hcz57_8⟩ := zc9 BK401.out
                     obtain ⟨hfz57_0, hfz57_1, hfz57_2, hfz57_3, hfz57_4, hfz57_5, hfz57_6, hfz57_7, hfz57_8⟩ := zf9 BK401.out
                     go_wp2_with (first | ((with_reducible refine gate_callee (f := 18) rfl ?_); refine goesL_ (some 81) rfl rfl Try.func18 (by kernel_rfl) rfl #[.agg #[.int .i64 ((rd_T42 (rd_L5 ((rd_T39 l0_0 x3_2).f4) x5_3) x6_4).f0), .int .i64 ((rd_T42 (rd_L5 ((rd_T39 l0_0 x3_2).f4) x5_3) x6_4).f1), .int .i64 ((rd_T42 (rd_L5 ((rd_T39 l0_0 x3_2).f4) x5_3) x6_4).f2), .int .i64 ((rd_T42 (rd_L5 ((rd_T39 l0_0 x3_2).f4) x5_3) x6_4).f3), .int .i64 ((rd_T42 (rd_L5 ((rd_T39 l0_0 x3_2).f4) x5_3) x6_4).f4), .int .i64 ((rd_T42 (rd_L5 ((rd_T39 l0_0 x3_2).f4) x5_3) x6_4).f5), .int .i64 ((rd_T42 (rd_L5 ((rd_T39 l0_0 x3_2).f4) x5_3) x6_4).f6), .int .i64 ((rd_T42 (rd_L5 ((rd_T39 l0_0 x3_2).f4) x5_3) x6_4).f7), .slice A400_8 ((rd_T42 (rd_L5 ((rd_T39 l0_0 x3_2).f4) x5_3) x6_4).f8).length c400_8]] rfl zE ?_; (with_reducible refine (balustraderef15_Targets.calls k5 ((rd_T42 (rd_L5 ((rd_T39 l0_0 x3_2).f4) x5_3) x6_4).f0) ((rd_T42 (rd_L5 ((rd_T39 l0_0 x3_2).f4) x5_3) x6_4).f1) ((rd_T42 (rd_L5 ((rd_T39 l0_0 x3_2).f4) x5_3) x6_4).f2) ((rd_T42 (rd_L5 ((rd_T39 l0_0 x3_2).f4) x5_3) x6_4).f3) ((rd_T42 (rd_L5 ((rd_T39 l0_0 x3_2).f4) x5_3) x6_4).f4) ((rd_T42 (rd_L5 ((rd_T39 l0_0 x3_2).f4) x5_3) x6_4).f5) ((rd_T42 (rd_L5 ((rd_T39 l0_0 x3_2).f4) x5_3) x6_4).f6) ((rd_T42 (rd_L5 ((rd_T39 l0_0 x3_2).f4) x5_3) x6_4).f7) _ _ ((rd_T42 (rd_L5 ((rd_T39 l0_0 x3_2).f4) x5_3) x6_4).f8) t413 _ ?side1 ?side2 A53.out).mono ?_); (case side1 => exact zC (Kd.C_below HR400_8.out HB.out)); (case side2 => exact HC400_8.out); rintro e w58 ⟨v414, rfl, ho0, hb⟩; refine ⟨_, rfl, ?_⟩; have n0_ := Aside0.mk (Kd.R_elder' (zR HO_8.out) (Kd.R_base ho0) hb); have n1_ := Aside0.mk (Kd.R_lower (Kd.R_new' ho0 (Kd.R_lt (zR HO_8.out))) (below_size (by repeat (first | (with_reducible first | exact HB.out | apply below_alloc | apply pw_below_drewN | apply below_drew1 | refine below_set ?_ GE388.out | refine below_set ?_ GE397.out | refine below_set ?_ GE401.out) | exact HB.out)))); have n2_ := Aside0.mk (blk_below (g := gb388) (o := .cells #[.slice (some ad396) l0_0.length c0_0, .int .i64 a0_1, .slice A0_2 l0_2.length c0_2] 25 (0, 0)) (zK BK388.out) hb); have n3_ := Aside0.mk (blk_below (g := gb397) (o := .cells #[.string ((rd_T39 l0_0 x3_2).f0), .int .i64 ((rd_T39 l0_0 x3_2).f1), .int .i64 ((rd_T39 l0_0 x3_2).f2), .slice A396_3 ((rd_T39 l0_0 x3_2).f3).length c396_3, .slice (some ad398) ((rd_T39 l0_0 x3_2).f4).length c396_4] 39 (0, 0)) (zK BK397.out) hb); have n4_ := Aside0.mk (blk_below (g := gb401) (o := .cells #[.int .i64 ((rd_T42 (rd_L5 ((rd_T39 l0_0 x3_2).f4) x5_3) x6_4).f0), .int .i64 ((rd_T42 (rd_L5 ((rd_T39 l0_0 x3_2).f4) x5_3) x6_4).f1), .int .i64 ((rd_T42 (rd_L5 ((rd_T39 l0_0 x3_2).f4) x5_3) x6_4).f2), .int .i64 ((rd_T42 (rd_L5 ((rd_T39 l0_0 x3_2).f4) x5_3) x6_4).f3), .int .i64 ((rd_T42 (rd_L5 ((rd_T39 l0_0 x3_2).f4) x5_3) x6_4).f4), .int .i64 ((rd_T42 (rd_L5 ((rd_T39 l0_0 x3_2).f4) x5_3) x6_4).f5), .int .i64 ((rd_T42 (rd_L5 ((rd_T39 l0_0 x3_2).f4) x5_3) x6_4).f6), .int .i64 ((rd_T42 (rd_L5 ((rd_T39 l0_0 x3_2).f4) x5_3) x6_4).f7), .slice A400_8 ((rd_T42 (rd_L5 ((rd_T39 l0_0 x3_2).f4) x5_3) x6_4).f8).length c400_8] 42 (0, 0)) (zK BK401.out) hb); have n5_ := Aside0.mk (below_step (by repeat (first | (with_reducible first | exact HB.out | apply below_alloc | apply pw_below_drewN | apply below_drew1 | refine below_set ?_ GE388.out | refine below_set ?_ GE397.out | refine below_set ?_ GE401.out) | exact HB.out)) hb); clear HO_8; clear BK388; clear BK397; clear BK401; clear HB; have HO_8 := n0_; have HO415 := n1_; have BK388 := n2_; have BK397 := n3_; have BK401 := n4_; have HB := n5_; clear n0_ n1_ n2_ n3_ n4_ n5_; (try clear hb); (try clear hb2); (try clear hk); (try clear hi); (try clear ho0)))
                     go_loopg [11] k5 (fun kq v11 w' => ∃ (x11_6 : Int), v11 = .int .i64 x11_6 ∧ Aside0 (balustradelaw16_FunKinds.l4 kq x3_2 x5_3 x6_4 t413 x11_6 l0_0 a0_1 l0_2 ((rd_T39 l0_0 x3_2).f0) ((rd_T39 l0_0 x3_2).f1) ((rd_T39 l0_0 x3_2).f2) ((rd_T39 l0_0 x3_2).f3) ((rd_T39 l0_0 x3_2).f4) ((rd_T42 (rd_L5 ((rd_T39 l0_0 x3_2).f4) x5_3) x6_4).f0) ((rd_T42 (rd_L5 ((rd_T39 l0_0 x3_2).f4) x5_3) x6_4).f1) ((rd_T42 (rd_L5 ((rd_T39 l0_0 x3_2).f4) x5_3) x6_4).f2) ((rd_T42 (rd_L5 ((rd_T39 l0_0 x3_2).f4) x5_3) x6_4).f3) ((rd_T42 (rd_L5 ((rd_T39 l0_0 x3_2).f4) x5_3) x6_4).f4) ((rd_T42 (rd_L5 ((rd_T39 l0_0 x3_2).f4) x5_3) x6_4).f5) ((rd_T42 (rd_L5 ((rd_T39 l0_0 x3_2).f4) x5_3) x6_4).f6) ((rd_T42 (rd_L5 ((rd_T39 l0_0 x3_2).f4) x5_3) x6_4).f7) ((rd_T42 (rd_L5 ((rd_T39 l0_0 x3_2).f4) x5_3) x6_4).f8) = some r) ∧ Aside0 (kq ≤ k5) ∧ Aside0 (Kd.R (Kd.int .i64) 3 w' w.heap.size (fun _ => True) v414 t413) ∧ Aside0 (w'.heap[gb388]? = some (.cells #[(.slice (some ad396) l0_0.length c0_0), .int .i64 a0_1, (.slice A0_2 l0_2.length c0_2)] 25 (0, 0))) ∧ Aside0 (w'.heap[gb397]? = some (.cells #[.string ((rd_T39 l0_0 x3_2).f0), .int .i64 ((rd_T39 l0_0 x3_2).f1), .int .i64 ((rd_T39 l0_0 x3_2).f2), (.slice A396_3 ((rd_T39 l0_0 x3_2).f3).length c396_3), (.slice (some ad398) ((rd_T39 l0_0 x3_2).f4).length c396_4)] 39 (0, 0))) ∧ Aside0 (w'.heap[gb401]? = some (.cells #[.int .i64 ((rd_T42 (rd_L5 ((rd_T39 l0_0 x3_2).f4) x5_3) x6_4).f0), .int .i64 ((rd_T42 (rd_L5 ((rd_T39 l0_0 x3_2).f4) x5_3) x6_4).f1), .int .i64 ((rd_T42 (rd_L5 ((rd_T39 l0_0 x3_2).f4) x5_3) x6_4).f2), .int .i64 ((rd_T42 (rd_L5 ((rd_T39 l0_0 x3_2).f4) x5_3) x6_4).f3), .int .i64 ((rd_T42 (rd_L5 ((rd_T39 l0_0 x3_2).f4) x5_3) x6_4).f4), .int .i64 ((rd_T42 (rd_L5 ((rd_T39 l0_0 x3_2).f4) x5_3) x6_4).f5), .int .i64 ((rd_T42 (rd_L5 ((rd_T39 l0_0 x3_2).f4) x5_3) x6_4).f6), .int .i64 ((rd_T42 (rd_L5 ((rd_T39 l0_0 x3_2).f4) x5_3) x6_4).f7), (.slice A400_8 ((rd_T42 (rd_L5 ((rd_T39 l0_0 x3_2).f4) x5_3) x6_4).f8).length c400_8)] 42 (0, 0))) ∧ Aside0 (Below w.heap.size w w'))
                     case atStart => exact ⟨(0), zQ, H', ⟨Nat.le_refl _⟩, ⟨by (with_reducible repeat (first | apply Kd.R_alloc | apply Kd.R_drewN | apply Kd.R_drew)); exact Kd.R_mono HO415.out (fun _ hk => trivial)⟩, ⟨zK BK388.out⟩, ⟨zK BK397.out⟩, ⟨zK BK401.out⟩, ⟨by repeat (first | (with_reducible first | exact HB.out | apply below_alloc | apply pw_below_drewN | apply below_drew1 | refine below_set ?_ GE388.out | refine below_set ?_ GE397.out | refine below_set ?_ GE401.out) | exact HB.out)⟩⟩
                     case round =>
                      clear H'
                      try clear c1
                      try clear c2
                      try clear p2
                      try clear c3
                      try clear p3
                      try clear q3
                      try clear hx3
                      try clear c4
                      try clear p4
                      try clear q4
                      try clear hx4
                      try clear c5
                      try clear p6
                      try clear c7
                      try clear c8
                      try clear c13
                      try clear c15
                      try clear c16
                      try clear c16b0
                      try clear c17
                      try clear c17b0
                      try clear c18
                      try clear c20
                      try clear c22
                      try clear c22b0
                      try clear c23
                      try clear c25
                      try clear c25b0
                      try clear c26
                      try clear c26b0
                      try clear c27
                      try clear c27b0
                      try clear c28
                      try clear c28b0
                      try clear c32
                      try clear c33
                      try clear c36
                      try clear c37
                      try clear c39
                      try clear p39
                      try clear q39
                      try clear hx39
                      try clear c40
                      try clear p40
                      try clear q40
                      try clear hx40
                      try clear p41
                      try clear q41
                      try clear hx41
                      try clear c46
                      try clear c46b0
                      try clear c47
                      try clear c47b0
                      try clear c48
                      try clear c48b0
                      try clear c55
                      try clear c56
                      try clear hcz11_0
                      try clear hcz11_1
                      try clear hcz11_2
                      try clear hcz18_0
                      try clear hcz18_1
                      try clear hcz18_2
                      try clear hcz21_0
                      try clear hcz21_1
                      try clear hcz21_2
                      try clear hcz21_3
                      try clear hcz21_4
                      try clear hcz24_0
                      try clear hcz24_1
                      try clear hcz24_2
                      try clear hcz24_3
                      try clear hcz24_4
                      try clear hcz34_0
                      try clear hcz34_1
                      try clear hcz34_2
                      try clear hcz34_3
                      try clear hcz34_4
                      try clear hcz38_0
                      try clear hcz38_1
                      try clear hcz38_2
                      try clear hcz38_3
                      try clear hcz38_4
                      try clear hcz38_5
                      try clear hcz38_6
                      try clear hcz38_7
                      try clear hcz38_8
                      try clear hcz57_0
                      try clear hcz57_1
                      try clear hcz57_2
                      try clear hcz57_3
                      try clear hcz57_4
                      try clear hcz57_5
                      try clear hcz57_6
                      try clear hcz57_7
                      try clear hcz57_8
                      try clear hcz7_0
                      try clear hcz7_1
                      try clear hcz7_2
                      try clear hcz9_0
                      try clear hcz9_1
                      try clear hcz9_2
                      try clear hfz11_0
                      try clear hfz11_1
                      try clear hfz11_2
                      try clear hfz18_0
                      try clear hfz18_1
                      try clear hfz18_2
                      try clear hfz21_0
                      try clear hfz21_1
                      try clear hfz21_2
                      try clear hfz21_3
                      try clear hfz21_4
                      try clear hfz24_0
                      try clear hfz24_1
                      try clear hfz24_2
                      try clear hfz24_3
                      try clear hfz24_4
                      try clear hfz34_0
                      try clear hfz34_1
                      try clear hfz34_2
                      try clear hfz34_3
                      try clear hfz34_4
                      try clear hfz38_0
                      try clear hfz38_1
                      try clear hfz38_2
                      try clear hfz38_3
                      try clear hfz38_4
                      try clear hfz38_5
                      try clear hfz38_6
                      try clear hfz38_7
                      try clear hfz38_8
                      try clear hfz57_0
                      try clear hfz57_1
                      try clear hfz57_2
                      try clear hfz57_3
                      try clear hfz57_4
                      try clear hfz57_5
                      try clear hfz57_6
                      try clear hfz57_7
                      try clear hfz57_8
                      try clear hfz7_0
                      try clear hfz7_1
                      try clear hfz7_2
                      try clear hfz9_0
                      try clear hfz9_1
                      try clear hfz9_2
                      try clear hx396_0
                      try clear hx396_1
                      try clear hx396_2
                      try clear hx396_3
                      try clear hx396_4
                      try clear hx398_0
                      try clear hx399_0
                      try clear hx400_0
                      try clear hx400_1
                      try clear hx400_2
                      try clear hx400_3
                      try clear hx400_4
                      try clear hx400_5
                      try clear hx400_6
                      try clear hx400_7
                      try clear hx400_8
                      try clear hx412_0
                      try clear p2
                      try clear p3
                      try clear p39
                      try clear p396
                      try clear p398
                      try clear p399
                      try clear p4
                      try clear p40
                      try clear p400
                      try clear p412
                      try clear q3
                      try clear q39
                      try clear q396
                      try clear q398
                      try clear q399
                      try clear q4
                      try clear q40
                      try clear q400
                      try clear q412
                      obtain ⟨x11_6, rfl, HA, HK6, HO_10, BK388, BK397, BK401, HB⟩ := hrel
                      cases gk with
                      | zero => exact absurd HA.out (by simp [balustradelaw16_FunKinds.l4])
                      | succ k6 =>
                       have H := HA.out
                       clear HA
                       simp only [balustradelaw16_FunKinds.l4] at H
                       by_cases c59 : x11_6 < (t413.length : Int)
                       ·rw [if_pos c59] at H
                        have c59b0 : decide (x11_6 < (t413.length : Int)) = true := decide_eq_true c59
                        clear c59
                        by_cases c60 : 0 ≤ x11_6
                        ·rw [if_pos c60] at H
                         have c60b0 : decide (0 ≤ x11_6) = true := decide_eq_true c60
                         clear c60
                         by_cases c61 : (rd t413 x11_6) < 1
                         ·rw [if_pos c61] at H
                          have c61b0 : decide ((rd t413 x11_6) < 1) = true := decide_eq_true c61
                          clear c61
                          obtain rfl := Option.some.inj H
                          obtain ⟨Ao62, co62, eo62⟩ := Kd.R_slice HO_10.out
                          subst eo62
                          try go_wp2
                          have n0_ := Aside0.mk (Kd.R_drew HO_10.out)
                          have n1_ := Aside0.mk (blk_drew BK388.out)
                          have n2_ := Aside0.mk (blk_drew BK397.out)
                          have n3_ := Aside0.mk (blk_drew BK401.out)
                          have n4_ := Aside0.mk (below_drew1 HB.out)
                          clear HO_10
                          clear BK388
                          clear BK397
                          clear BK401
                          clear HB
                          have HO_10 := n0_
                          have BK388 := n1_
                          have BK397 := n2_
                          have BK401 := n3_
                          have HB := n4_
                          clear n0_ n1_ n2_ n3_ n4_
                          have p416 : 0 ≤ (x11_6 : Int) := zO
                          have q416 : x11_6 < (t413.length : Int) := zO
                          obtain ⟨ad416, e416, hx416_0⟩ := Kd.at_int (Kd.R_reads' HO_10.out).2.2 x11_6 p416 q416
                          cases e416
                          replace p416 := eq_true p416
                          replace q416 := eq_true q416
                          refine start_ (n := 15) (S := fun w' => w'.cell? (ad416.add (x11_6).toNat) = some (.int .i64 (rd t413 x11_6))) (ds := []) #[false, false, false, false, false, false, false, false, false, false, false, false, false, false, false] (by kernel_rfl) rfl rfl (hx416_0) (fun hHeld => ?_); refine with_tabW balustradelaw16_FunKinds.tab24 balustradelaw16_FunKinds.bits24 (fun HT_ HW_ => ?_)
                          generalize wr.drew = w63 at HO_10 BK388 BK397 BK401 HB hx416_0 hHeld ⊢
                          refine pure_ (i := 0) (N := some 88) (v := ?_) (a' := ?_) (zb 15 1) rfl rfl (any_of HT_.out (by kernel_rfl)) (fun _ _ _ h => h) (Or.inl ⟨by rfl, ?_⟩) ?_ ?_
                          rotate_left
                          ·intro w'
                           go_simp
                           with_reducible rfl
                          rotate_left
                          ·simp only [Act.put, List.setIfInBounds_toArray, List.set_cons_zero, List.set_cons_succ, i64_w, i32_w]
                           rfl
                          refine pure_ (i := 1) (N := some 89) (v := ?_) (a' := ?_) (zb 15 3) rfl rfl (any_of HT_.out (by kernel_rfl)) (fun _ _ _ h => h) (Or.inl ⟨by rfl, ?_⟩) ?_ ?_
                          rotate_left
                          ·intro w'
                           go_simp
                           with_reducible rfl
                          rotate_left
                          ·simp only [Act.put, List.setIfInBounds_toArray, List.set_cons_zero, List.set_cons_succ, i64_w, i32_w]
                           rfl
                          refine pure_ (i := 2) (N := some 90) (v := ?_) (a' := ?_) (zb 15 7) rfl rfl (any_of HT_.out (by kernel_rfl)) (fun _ _ _ h => h) (Or.inl ⟨by rfl, ?_⟩) ?_ ?_
                          rotate_left
                          ·intro w'
                           go_simp
                           with_reducible rfl
                          rotate_left
                          ·simp only [Act.put, List.setIfInBounds_toArray, List.set_cons_zero, List.set_cons_succ, i64_w, i32_w]
                           rfl
                          refine take_ (i := 3) (N := some 91) (v := ?_) (a' := ?_) (zb 15 15) rfl rfl (take_ofW HT_.out HW_.out (by kernel_rfl)) (fun _ _ _ h => h) (Or.inl ⟨by rfl, ?_⟩) hHeld ?_ ?_
                          rotate_left
                          ·intro w' s0
                           go_simp
                           with_reducible rfl
                          rotate_left
                          ·simp only [Act.put, List.setIfInBounds_toArray, List.set_cons_zero, List.set_cons_succ, i64_w, i32_w]
                           rfl
                          refine pure_ (i := 4) (N := some 92) (v := ?_) (a' := ?_) (zb 15 31) rfl rfl (any_of HT_.out (by kernel_rfl)) (fun _ _ _ h => h) (Or.inl ⟨by rfl, ?_⟩) ?_ ?_
                          rotate_left
                          ·intro w'
                           go_simp
                           with_reducible rfl
                          rotate_left
                          ·simp only [Act.put, List.setIfInBounds_toArray, List.set_cons_zero, List.set_cons_succ, i64_w, i32_w]
                           rfl
                          refine pure_ (i := 5) (N := some 93) (v := ?_) (a' := ?_) (zb 15 63) rfl rfl (any_of HT_.out (by kernel_rfl)) (fun _ _ _ h => h) (Or.inl ⟨by rfl, ?_⟩) ?_ ?_
                          rotate_left
                          ·intro w'
                           go_simp
                           with_reducible rfl
                          rotate_left
                          ·simp only [Act.put, List.setIfInBounds_toArray, List.set_cons_zero, List.set_cons_succ, i64_w, i32_w]
                           rfl
                          refine pure_ (i := 6) (N := some 94) (v := undef) (a' := ?_) (zb 15 127) rfl rfl (any_of HT_.out (by kernel_rfl)) (fun _ _ _ h => h) (Or.inr ⟨by rfl, rfl⟩) ?_ ?_
                          rotate_left
                          ·simp only [Act.put, List.setIfInBounds_toArray, List.set_cons_zero, List.set_cons_succ, i64_w, i32_w]
                           rfl
                          refine pure_ (i := 7) (N := some 95) (v := undef) (a' := ?_) (zb 15 255) rfl rfl (any_of HT_.out (by kernel_rfl)) (fun _ _ _ h => h) (Or.inr ⟨by rfl, rfl⟩) ?_ ?_
                          rotate_left
                          ·simp only [Act.put, List.setIfInBounds_toArray, List.set_cons_zero, List.set_cons_succ, i64_w, i32_w]
                           rfl
                          refine pure_ (i := 8) (N := some 96) (v := undef) (a' := ?_) (zb 15 511) rfl rfl (any_of HT_.out (by kernel_rfl)) (fun _ _ _ h => h) (Or.inr ⟨by rfl, rfl⟩) ?_ ?_
                          rotate_left
                          ·simp only [Act.put, List.setIfInBounds_toArray, List.set_cons_zero, List.set_cons_succ, i64_w, i32_w]
                           rfl
                          refine pure_ (i := 9) (N := some 97) (v := undef) (a' := ?_) (zb 15 1023) rfl rfl (any_of HT_.out (by kernel_rfl)) (fun _ _ _ h => h) (Or.inr ⟨by rfl, rfl⟩) ?_ ?_
                          rotate_left
                          ·simp only [Act.put, List.setIfInBounds_toArray, List.set_cons_zero, List.set_cons_succ, i64_w, i32_w]
                           rfl
                          refine pure_ (i := 10) (N := some 98) (v := undef) (a' := ?_) (zb 15 2047) rfl rfl (any_of HT_.out (by kernel_rfl)) (fun _ _ _ h => h) (Or.inr ⟨by rfl, rfl⟩) ?_ ?_
                          rotate_left
                          ·simp only [Act.put, List.setIfInBounds_toArray, List.set_cons_zero, List.set_cons_succ, i64_w, i32_w]
                           rfl
                          refine pure_ (i := 11) (N := some 99) (v := undef) (a' := ?_) (zb 15 4095) rfl rfl (any_of HT_.out (by kernel_rfl)) (fun _ _ _ h => h) (Or.inr ⟨by rfl, rfl⟩) ?_ ?_
                          rotate_left
                          ·simp only [Act.put, List.setIfInBounds_toArray, List.set_cons_zero, List.set_cons_succ, i64_w, i32_w]
                           rfl
                          refine pure_ (i := 12) (N := some 100) (v := undef) (a' := ?_) (zb 15 8191) rfl rfl (any_of HT_.out (by kernel_rfl)) (fun _ _ _ h => h) (Or.inr ⟨by rfl, rfl⟩) ?_ ?_
                          rotate_left
                          ·simp only [Act.put, List.setIfInBounds_toArray, List.set_cons_zero, List.set_cons_succ, i64_w, i32_w]
                           rfl
                          refine pure_ (i := 13) (N := some 101) (v := undef) (a' := ?_) (zb 15 16383) rfl rfl (any_of HT_.out (by kernel_rfl)) (fun _ _ _ h => h) (Or.inr ⟨by rfl, rfl⟩) ?_ ?_
                          rotate_left
                          ·simp only [Act.put, List.setIfInBounds_toArray, List.set_cons_zero, List.set_cons_succ, i64_w, i32_w]
                           rfl
                          refine pure_ (i := 14) (N := some 102) (v := ?_) (a' := ?_) (zb 15 32767) rfl rfl (any_of HT_.out (by kernel_rfl)) (fun _ _ _ h => h) (Or.inl ⟨by rfl, ?_⟩) ?_ ?_
                          rotate_left
                          ·intro w'
                           go_simp
                           with_reducible rfl
                          rotate_left
                          ·simp only [Act.put, List.setIfInBounds_toArray, List.set_cons_zero, List.set_cons_succ, i64_w, i32_w]
                           rfl
                          refine done_ (done_of HT_.out (by kernel_rfl)) ?_
                          try go_wp2
                          go_ret
                          exact ⟨zV, by repeat (first | (with_reducible first | exact HB.out | apply below_alloc | apply pw_below_drewN | apply below_drew1 | refine below_set ?_ GE388.out | refine below_set ?_ GE397.out | refine below_set ?_ GE401.out) | exact HB.out)⟩
                         ·rw [if_neg c61] at H
                          have c61b0 : decide ((rd t413 x11_6) < 1) = false := decide_eq_false c61
                          clear c61
                          by_cases c64 : (rd t413 x11_6) ≥ (((rd_T39 l0_0 x3_2).f4).length : Int)
                          ·rw [if_pos c64] at H
                           have c64b0 : decide ((((rd_T39 l0_0 x3_2).f4).length : Int) ≤ (rd t413 x11_6)) = true := decide_eq_true c64
                           clear c64
                           obtain rfl := Option.some.inj H
                           obtain ⟨Ao65, co65, eo65⟩ := Kd.R_slice HO_10.out
                           subst eo65
                           try go_wp2
                           have n0_ := Aside0.mk (Kd.R_drew HO_10.out)
                           have n1_ := Aside0.mk (blk_drew BK388.out)
                           have n2_ := Aside0.mk (blk_drew BK397.out)
                           have n3_ := Aside0.mk (blk_drew BK401.out)
                           have n4_ := Aside0.mk (below_drew1 HB.out)
                           clear HO_10
                           clear BK388
                           clear BK397
                           clear BK401
                           clear HB
                           have HO_10 := n0_
                           have BK388 := n1_
                           have BK397 := n2_
                           have BK401 := n3_
                           have HB := n4_
                           clear n0_ n1_ n2_ n3_ n4_
                           have p416 : 0 ≤ (x11_6 : Int) := zO
                           have q416 : x11_6 < (t413.length : Int) := zO
                           obtain ⟨ad416, e416, hx416_0⟩ := Kd.at_int (Kd.R_reads' HO_10.out).2.2 x11_6 p416 q416
                           cases e416
                           replace p416 := eq_true p416
                           replace q416 := eq_true q416
                           have p417 : 0 ≤ (x11_6 : Int) := zO
                           have q417 : x11_6 < (t413.length : Int) := zO
                           obtain ⟨ad417, e417, hx417_0⟩ := Kd.at_int (Kd.R_reads' HO_10.out).2.2 x11_6 p417 q417
                           obtain rfl : ad416 = ad417 := (by injection e417)
                           replace p417 := eq_true p417
                           replace q417 := eq_true q417
                           refine start_ (n := 15) (S := fun w' => w'.cell? ⟨gb397, 0, none⟩ = some (.string ((rd_T39 l0_0 x3_2).f0)) ∧ w'.cell? ⟨gb397, 1, none⟩ = some (.int .i64 ((rd_T39 l0_0 x3_2).f1)) ∧ w'.cell? ⟨gb397, 2, none⟩ = some (.int .i64 ((rd_T39 l0_0 x3_2).f2)) ∧ w'.cell? ⟨gb397, 3, none⟩ = some (.slice A396_3 ((rd_T39 l0_0 x3_2).f3).length c396_3) ∧ w'.cell? ⟨gb397, 4, none⟩ = some (.slice (some ad398) ((rd_T39 l0_0 x3_2).f4).length c396_4) ∧ w'.cell? (ad416.add (x11_6).toNat) = some (.int .i64 (rd t413 x11_6)) ∧ w'.cell? (ad416.add (x11_6).toNat) = some (.int .i64 (rd t413 x11_6))) (ds := []) #[false, false, false, false, false, false, false, false, false, false, false, false, false, false, false] (by kernel_rfl) rfl rfl ⟨(blk_cell BK397.out 0).trans rfl, (blk_cell BK397.out 1).trans rfl, (blk_cell BK397.out 2).trans rfl, (blk_cell BK397.out 3).trans rfl, (blk_cell BK397.out 4).trans rfl, hx416_0, hx417_0⟩ (fun hHeld => ?_); refine with_tabW balustradelaw16_FunKinds.tab24 balustradelaw16_FunKinds.bits24 (fun HT_ HW_ => ?_)
                           generalize wr.drew = w66 at HO_10 BK388 BK397 BK401 HB hx416_0 hx417_0 hHeld ⊢
                           refine pure_ (i := 0) (N := some 88) (v := ?_) (a' := ?_) (zb 15 1) rfl rfl (any_of HT_.out (by kernel_rfl)) (fun _ _ _ h => h) (Or.inl ⟨by rfl, ?_⟩) ?_ ?_
                           rotate_left
                           ·intro w'
                            go_simp
                            with_reducible rfl
                           rotate_left
                           ·simp only [Act.put, List.setIfInBounds_toArray, List.set_cons_zero, List.set_cons_succ, i64_w, i32_w]
                            rfl
                           refine pure_ (i := 1) (N := some 89) (v := ?_) (a' := ?_) (zb 15 3) rfl rfl (any_of HT_.out (by kernel_rfl)) (fun _ _ _ h => h) (Or.inl ⟨by rfl, ?_⟩) ?_ ?_
                           rotate_left
                           ·intro w'
                            go_simp
                            with_reducible rfl
                           rotate_left
                           ·simp only [Act.put, List.setIfInBounds_toArray, List.set_cons_zero, List.set_cons_succ, i64_w, i32_w]
                            rfl
                           refine pure_ (i := 2) (N := some 90) (v := ?_) (a' := ?_) (zb 15 7) rfl rfl (any_of HT_.out (by kernel_rfl)) (fun _ _ _ h => h) (Or.inl ⟨by rfl, ?_⟩) ?_ ?_
                           rotate_left
                           ·intro w'
                            go_simp
                            with_reducible rfl
                           rotate_left
                           ·simp only [Act.put, List.setIfInBounds_toArray, List.set_cons_zero, List.set_cons_succ, i64_w, i32_w]
                            rfl
                           refine take_ (i := 3) (N := some 91) (v := ?_) (a' := ?_) (zb 15 15) rfl rfl (take_ofW HT_.out HW_.out (by kernel_rfl)) (fun _ _ _ h => h) (Or.inl ⟨by rfl, ?_⟩) hHeld ?_ ?_
                           rotate_left
                           ·rintro w' ⟨s0, s1, s2, s3, s4, s5, s6⟩
                            go_simp
                            with_reducible rfl
                           rotate_left
                           ·simp only [Act.put, List.setIfInBounds_toArray, List.set_cons_zero, List.set_cons_succ, i64_w, i32_w]
                            rfl
                           refine pure_ (i := 4) (N := some 92) (v := ?_) (a' := ?_) (zb 15 31) rfl rfl (any_of HT_.out (by kernel_rfl)) (fun _ _ _ h => h) (Or.inl ⟨by rfl, ?_⟩) ?_ ?_
                           rotate_left
                           ·intro w'
                            go_simp
                            with_reducible rfl
                           rotate_left
                           ·simp only [Act.put, List.setIfInBounds_toArray, List.set_cons_zero, List.set_cons_succ, i64_w, i32_w]
                            rfl
                           refine pure_ (i := 5) (N := some 93) (v := ?_) (a' := ?_) (zb 15 63) rfl rfl (any_of HT_.out (by kernel_rfl)) (fun _ _ _ h => h) (Or.inl ⟨by rfl, ?_⟩) ?_ ?_
                           rotate_left
                           ·intro w'
                            go_simp
                            with_reducible rfl
                           rotate_left
                           ·simp only [Act.put, List.setIfInBounds_toArray, List.set_cons_zero, List.set_cons_succ, i64_w, i32_w]
                            rfl
                           refine pure_ (i := 6) (N := some 94) (v := ?_) (a' := ?_) (zb 15 127) rfl rfl (any_of HT_.out (by kernel_rfl)) (fun _ _ _ h => h) (Or.inl ⟨by rfl, ?_⟩) ?_ ?_
                           rotate_left
                           ·intro w'
                            go_simp
                            with_reducible rfl
                           rotate_left
                           ·simp only [Act.put, List.setIfInBounds_toArray, List.set_cons_zero, List.set_cons_succ, i64_w, i32_w]
                            rfl
                           refine pure_ (i := 7) (N := some 95) (v := ?_) (a' := ?_) (zb 15 255) rfl rfl (any_of HT_.out (by kernel_rfl)) (fun _ _ _ h => h) (Or.inl ⟨by rfl, ?_⟩) ?_ ?_
                           rotate_left
                           ·intro w'
                            go_simp
                            with_reducible rfl
                           rotate_left
                           ·simp only [Act.put, List.setIfInBounds_toArray, List.set_cons_zero, List.set_cons_succ, i64_w, i32_w]
                            rfl
                           refine pure_ (i := 8) (N := some 96) (v := ?_) (a' := ?_) (zb 15 511) rfl rfl (any_of HT_.out (by kernel_rfl)) (fun _ _ _ h => h) (Or.inl ⟨by rfl, ?_⟩) ?_ ?_
                           rotate_left
                           ·intro w'
                            go_simp
                            with_reducible rfl
                           rotate_left
                           ·simp only [Act.put, List.setIfInBounds_toArray, List.set_cons_zero, List.set_cons_succ, i64_w, i32_w]
                            rfl
                           refine pure_ (i := 10) (N := some 98) (v := ?_) (a' := ?_) (zb 15 1535) rfl rfl (any_of HT_.out (by kernel_rfl)) (fun _ _ _ h => h) (Or.inl ⟨by rfl, ?_⟩) ?_ ?_
                           rotate_left
                           ·intro w'
                            go_simp
                            with_reducible rfl
                           rotate_left
                           ·simp only [Act.put, List.setIfInBounds_toArray, List.set_cons_zero, List.set_cons_succ, i64_w, i32_w]
                            rfl
                           refine take_ (i := 9) (N := some 97) (v := ?_) (a' := ?_) (zb 15 2047) rfl rfl (take_ofW HT_.out HW_.out (by kernel_rfl)) (fun _ _ _ h => h) (Or.inl ⟨by rfl, ?_⟩) hHeld ?_ ?_
                           rotate_left
                           ·rintro w' ⟨s0, s1, s2, s3, s4, s5, s6⟩
                            go_simp
                            with_reducible rfl
                           rotate_left
                           ·simp only [Act.put, List.setIfInBounds_toArray, List.set_cons_zero, List.set_cons_succ, i64_w, i32_w]
                            rfl
                           refine take_ (i := 11) (N := some 99) (v := ?_) (a' := ?_) (zb 15 4095) rfl rfl (take_ofW HT_.out HW_.out (by kernel_rfl)) (fun _ _ _ h => h) (Or.inl ⟨by rfl, ?_⟩) hHeld ?_ ?_
                           rotate_left
                           ·rintro w' ⟨s0, s1, s2, s3, s4, s5, s6⟩
                            go_simp
                            with_reducible rfl
                           rotate_left
                           ·simp only [Act.put, List.setIfInBounds_toArray, List.set_cons_zero, List.set_cons_succ, i64_w, i32_w]
                            rfl
                           refine pure_ (i := 12) (N := some 100) (v := ?_) (a' := ?_) (zb 15 8191) rfl rfl (any_of HT_.out (by kernel_rfl)) (fun _ _ _ h => h) (Or.inl ⟨by rfl, ?_⟩) ?_ ?_
                           rotate_left
                           ·intro w'
                            go_simp
                            with_reducible rfl
                           rotate_left
                           ·simp only [Act.put, List.setIfInBounds_toArray, List.set_cons_zero, List.set_cons_succ, i64_w, i32_w]
                            rfl
                           refine pure_ (i := 13) (N := some 101) (v := ?_) (a' := ?_) (zb 15 16383) rfl rfl (any_of HT_.out (by kernel_rfl)) (fun _ _ _ h => h) (Or.inl ⟨by rfl, ?_⟩) ?_ ?_
                           rotate_left
                           ·intro w'
                            go_simp
                            with_reducible rfl
                           rotate_left
                           ·simp only [Act.put, List.setIfInBounds_toArray, List.set_cons_zero, List.set_cons_succ, i64_w, i32_w]
                            rfl
                           refine pure_ (i := 14) (N := some 102) (v := ?_) (a' := ?_) (zb 15 32767) rfl rfl (any_of HT_.out (by kernel_rfl)) (fun _ _ _ h => h) (Or.inl ⟨by rfl, ?_⟩) ?_ ?_
                           rotate_left
                           ·intro w'
                            go_simp
                            with_reducible rfl
                           rotate_left
                           ·simp only [Act.put, List.setIfInBounds_toArray, List.set_cons_zero, List.set_cons_succ, i64_w, i32_w]
                            rfl
                           refine done_ (done_of HT_.out (by kernel_rfl)) ?_
                           try go_wp2
                           go_ret
                           exact ⟨zV, by repeat (first | (with_reducible first | exact HB.out | apply below_alloc | apply pw_below_drewN | apply below_drew1 | refine below_set ?_ GE388.out | refine below_set ?_ GE397.out | refine below_set ?_ GE401.out) | exact HB.out)⟩
                          ·rw [if_neg c64] at H
                           have c64b0 : decide ((((rd_T39 l0_0 x3_2).f4).length : Int) ≤ (rd t413 x11_6)) = false := decide_eq_false c64
                           clear c64
                           have H' := Aside0.mk H
                           clear H
                           obtain ⟨Ao67, co67, eo67⟩ := Kd.R_slice HO_10.out
                           subst eo67
                           try go_wp2
                           have n0_ := Aside0.mk (Kd.R_drew HO_10.out)
                           have n1_ := Aside0.mk (blk_drew BK388.out)
                           have n2_ := Aside0.mk (blk_drew BK397.out)
                           have n3_ := Aside0.mk (blk_drew BK401.out)
                           have n4_ := Aside0.mk (below_drew1 HB.out)
                           clear HO_10
                           clear BK388
                           clear BK397
                           clear BK401
                           clear HB
                           have HO_10 := n0_
                           have BK388 := n1_
                           have BK397 := n2_
                           have BK401 := n3_
                           have HB := n4_
                           clear n0_ n1_ n2_ n3_ n4_
                           have p416 : 0 ≤ (x11_6 : Int) := zO
                           have q416 : x11_6 < (t413.length : Int) := zO
                           obtain ⟨ad416, e416, hx416_0⟩ := Kd.at_int (Kd.R_reads' HO_10.out).2.2 x11_6 p416 q416
                           cases e416
                           replace p416 := eq_true p416
                           replace q416 := eq_true q416
                           have p417 : 0 ≤ (x11_6 : Int) := zO
                           have q417 : x11_6 < (t413.length : Int) := zO
                           obtain ⟨ad417, e417, hx417_0⟩ := Kd.at_int (Kd.R_reads' HO_10.out).2.2 x11_6 p417 q417
                           obtain rfl : ad416 = ad417 := (by injection e417)
                           replace p417 := eq_true p417
                           replace q417 := eq_true q417
                           refine start_ (n := 15) (S := fun w' => w'.cell? ⟨gb397, 0, none⟩ = some (.string ((rd_T39 l0_0 x3_2).f0)) ∧ w'.cell? ⟨gb397, 1, none⟩ = some (.int .i64 ((rd_T39 l0_0 x3_2).f1)) ∧ w'.cell? ⟨gb397, 2, none⟩ = some (.int .i64 ((rd_T39 l0_0 x3_2).f2)) ∧ w'.cell? ⟨gb397, 3, none⟩ = some (.slice A396_3 ((rd_T39 l0_0 x3_2).f3).length c396_3) ∧ w'.cell? ⟨gb397, 4, none⟩ = some (.slice (some ad398) ((rd_T39 l0_0 x3_2).f4).length c396_4) ∧ w'.cell? (ad416.add (x11_6).toNat) = some (.int .i64 (rd t413 x11_6)) ∧ w'.cell? (ad416.add (x11_6).toNat) = some (.int .i64 (rd t413 x11_6))) (ds := []) #[false, false, false, false, false, false, false, false, false, false, false, false, false, false, false] (by kernel_rfl) rfl rfl ⟨(blk_cell BK397.out 0).trans rfl, (blk_cell BK397.out 1).trans rfl, (blk_cell BK397.out 2).trans rfl, (blk_cell BK397.out 3).trans rfl, (blk_cell BK397.out 4).trans rfl, hx416_0, hx417_0⟩ (fun hHeld => ?_); refine with_tabW balustradelaw16_FunKinds.tab24 balustradelaw16_FunKinds.bits24 (fun HT_ HW_ => ?_)
                           generalize wr.drew = w68 at HO_10 BK388 BK397 BK401 HB hx416_0 hx417_0 hHeld ⊢
                           refine pure_ (i := 0) (N := some 88) (v := ?_) (a' := ?_) (zb 15 1) rfl rfl (any_of HT_.out (by kernel_rfl)) (fun _ _ _ h => h) (Or.inl ⟨by rfl, ?_⟩) ?_ ?_
                           rotate_left
                           ·intro w'
                            go_simp
                            with_reducible rfl
                           rotate_left
                           ·simp only [Act.put, List.setIfInBounds_toArray, List.set_cons_zero, List.set_cons_succ, i64_w, i32_w]
                            rfl
                           refine pure_ (i := 1) (N := some 89) (v := ?_) (a' := ?_) (zb 15 3) rfl rfl (any_of HT_.out (by kernel_rfl)) (fun _ _ _ h => h) (Or.inl ⟨by rfl, ?_⟩) ?_ ?_
                           rotate_left
                           ·intro w'
                            go_simp
                            with_reducible rfl
                           rotate_left
                           ·simp only [Act.put, List.setIfInBounds_toArray, List.set_cons_zero, List.set_cons_succ, i64_w, i32_w]
                            rfl
                           refine pure_ (i := 2) (N := some 90) (v := ?_) (a' := ?_) (zb 15 7) rfl rfl (any_of HT_.out (by kernel_rfl)) (fun _ _ _ h => h) (Or.inl ⟨by rfl, ?_⟩) ?_ ?_
                           rotate_left
                           ·intro w'
                            go_simp
                            with_reducible rfl
                           rotate_left
                           ·simp only [Act.put, List.setIfInBounds_toArray, List.set_cons_zero, List.set_cons_succ, i64_w, i32_w]
                            rfl
                           refine take_ (i := 3) (N := some 91) (v := ?_) (a' := ?_) (zb 15 15) rfl rfl (take_ofW HT_.out HW_.out (by kernel_rfl)) (fun _ _ _ h => h) (Or.inl ⟨by rfl, ?_⟩) hHeld ?_ ?_
                           rotate_left
                           ·rintro w' ⟨s0, s1, s2, s3, s4, s5, s6⟩
                            go_simp
                            with_reducible rfl
                           rotate_left
                           ·simp only [Act.put, List.setIfInBounds_toArray, List.set_cons_zero, List.set_cons_succ, i64_w, i32_w]
                            rfl
                           refine pure_ (i := 4) (N := some 92) (v := ?_) (a' := ?_) (zb 15 31) rfl rfl (any_of HT_.out (by kernel_rfl)) (fun _ _ _ h => h) (Or.inl ⟨by rfl, ?_⟩) ?_ ?_
                           rotate_left
                           ·intro w'
                            go_simp
                            with_reducible rfl
                           rotate_left
                           ·simp only [Act.put, List.setIfInBounds_toArray, List.set_cons_zero, List.set_cons_succ, i64_w, i32_w]
                            rfl
                           refine pure_ (i := 5) (N := some 93) (v := ?_) (a' := ?_) (zb 15 63) rfl rfl (any_of HT_.out (by kernel_rfl)) (fun _ _ _ h => h) (Or.inl ⟨by rfl, ?_⟩) ?_ ?_
                           rotate_left
                           ·intro w'
                            go_simp
                            with_reducible rfl
                           rotate_left
                           ·simp only [Act.put, List.setIfInBounds_toArray, List.set_cons_zero, List.set_cons_succ, i64_w, i32_w]
                            rfl
                           refine pure_ (i := 6) (N := some 94) (v := ?_) (a' := ?_) (zb 15 127) rfl rfl (any_of HT_.out (by kernel_rfl)) (fun _ _ _ h => h) (Or.inl ⟨by rfl, ?_⟩) ?_ ?_
                           rotate_left
                           ·intro w'
                            go_simp
                            with_reducible rfl
                           rotate_left
                           ·simp only [Act.put, List.setIfInBounds_toArray, List.set_cons_zero, List.set_cons_succ, i64_w, i32_w]
                            rfl
                           refine pure_ (i := 7) (N := some 95) (v := ?_) (a' := ?_) (zb 15 255) rfl rfl (any_of HT_.out (by kernel_rfl)) (fun _ _ _ h => h) (Or.inl ⟨by rfl, ?_⟩) ?_ ?_
                           rotate_left
                           ·intro w'
                            go_simp
                            with_reducible rfl
                           rotate_left
                           ·simp only [Act.put, List.setIfInBounds_toArray, List.set_cons_zero, List.set_cons_succ, i64_w, i32_w]
                            rfl
                           refine pure_ (i := 8) (N := some 96) (v := ?_) (a' := ?_) (zb 15 511) rfl rfl (any_of HT_.out (by kernel_rfl)) (fun _ _ _ h => h) (Or.inl ⟨by rfl, ?_⟩) ?_ ?_
                           rotate_left
                           ·intro w'
                            go_simp
                            with_reducible rfl
                           rotate_left
                           ·simp only [Act.put, List.setIfInBounds_toArray, List.set_cons_zero, List.set_cons_succ, i64_w, i32_w]
                            rfl
                           refine pure_ (i := 10) (N := some 98) (v := ?_) (a' := ?_) (zb 15 1535) rfl rfl (any_of HT_.out (by kernel_rfl)) (fun _ _ _ h => h) (Or.inl ⟨by rfl, ?_⟩) ?_ ?_
                           rotate_left
                           ·intro w'
                            go_simp
                            with_reducible rfl
                           rotate_left
                           ·simp only [Act.put, List.setIfInBounds_toArray, List.set_cons_zero, List.set_cons_succ, i64_w, i32_w]
                            rfl
                           refine take_ (i := 9) (N := some 97) (v := ?_) (a' := ?_) (zb 15 2047) rfl rfl (take_ofW HT_.out HW_.out (by kernel_rfl)) (fun _ _ _ h => h) (Or.inl ⟨by rfl, ?_⟩) hHeld ?_ ?_
                           rotate_left
                           ·rintro w' ⟨s0, s1, s2, s3, s4, s5, s6⟩
                            go_simp
                            with_reducible rfl
                           rotate_left
                           ·simp only [Act.put, List.setIfInBounds_toArray, List.set_cons_zero, List.set_cons_succ, i64_w, i32_w]
                            rfl
                           refine take_ (i := 11) (N := some 99) (v := ?_) (a' := ?_) (zb 15 4095) rfl rfl (take_ofW HT_.out HW_.out (by kernel_rfl)) (fun _ _ _ h => h) (Or.inl ⟨by rfl, ?_⟩) hHeld ?_ ?_
                           rotate_left
                           ·rintro w' ⟨s0, s1, s2, s3, s4, s5, s6⟩
                            go_simp
                            with_reducible rfl
                           rotate_left
                           ·simp only [Act.put, List.setIfInBounds_toArray, List.set_cons_zero, List.set_cons_succ, i64_w, i32_w]
                            rfl
                           refine pure_ (i := 12) (N := some 100) (v := ?_) (a' := ?_) (zb 15 8191) rfl rfl (any_of HT_.out (by kernel_rfl)) (fun _ _ _ h => h) (Or.inl ⟨by rfl, ?_⟩) ?_ ?_
                           rotate_left
                           ·intro w'
                            go_simp
                            with_reducible rfl
                           rotate_left
                           ·simp only [Act.put, List.setIfInBounds_toArray, List.set_cons_zero, List.set_cons_succ, i64_w, i32_w]
                            rfl
                           refine pure_ (i := 13) (N := some 101) (v := ?_) (a' := ?_) (zb 15 16383) rfl rfl (any_of HT_.out (by kernel_rfl)) (fun _ _ _ h => h) (Or.inl ⟨by rfl, ?_⟩) ?_ ?_
                           rotate_left
                           ·intro w'
                            go_simp
                            with_reducible rfl
                           rotate_left
                           ·simp only [Act.put, List.setIfInBounds_toArray, List.set_cons_zero, List.set_cons_succ, i64_w, i32_w]
                            rfl
                           refine pure_ (i := 14) (N := some 102) (v := ?_) (a' := ?_) (zb 15 32767) rfl rfl (any_of HT_.out (by kernel_rfl)) (fun _ _ _ h => h) (Or.inl ⟨by rfl, ?_⟩) ?_ ?_
                           rotate_left
                           ·intro w'
                            go_simp
                            with_reducible rfl
                           rotate_left
                           ·simp only [Act.put, List.setIfInBounds_toArray, List.set_cons_zero, List.set_cons_succ, i64_w, i32_w]
                            rfl
                           refine done_ (done_of HT_.out (by kernel_rfl)) ?_
                           try go_wp2
                           go_roundg k6
                           case measure => have := HJ1.out; have := HK2.out; have := HK3.out; have := HK4.out; have := HK5.out; have := HK6.out; omega
                           case rel => exact ⟨(wrap64 (x11_6 + 1)), zQ, H', ⟨by have := HJ1.out; have := HK2.out; have := HK3.out; have := HK4.out; have := HK5.out; have := HK6.out; omega⟩, ⟨zR HO_10.out⟩, ⟨zK BK388.out⟩, ⟨zK BK397.out⟩, ⟨zK BK401.out⟩, ⟨by repeat (first | (with_reducible first | exact HB.out | apply below_alloc | apply pw_below_drewN | apply below_drew1 | refine below_set ?_ GE388.out | refine below_set ?_ GE397.out | refine below_set ?_ GE401.out) | exact HB.out)⟩⟩
                        ·rw [if_neg c60] at H
                         exact absurd H (by simp)
                       ·rw [if_neg c59] at H
                        have c59b0 : decide (x11_6 < (t413.length : Int)) = false := decide_eq_false c59
                        clear c59
                        replace H := Option.bind_eq_some_iff.mp H
                        obtain ⟨t418, A690, H⟩ := H
                        replace H : (if t418 = true then (if ((rd_T42 (rd_L5 ((rd_T39 l0_0 x3_2).f4) x5_3) x6_4).f7) ≥ (l0_2.length : Int) then (some false) else (if ((rd_T42 (rd_L5 ((rd_T39 l0_0 x3_2).f4) x5_3) x6_4).f0) = 39 then (if ((rd_T42 (rd_L5 ((rd_T39 l0_0 x3_2).f4) x5_3) x6_4).f5) ≥ (l0_0.length : Int) then (some false) else (balustradelaw16_FunKinds.l2 k6 x3_2 x5_3 (wrap64 (x6_4 + 1)) l0_0 a0_1 l0_2 ((rd_T39 l0_0 x3_2).f0) ((rd_T39 l0_0 x3_2).f1) ((rd_T39 l0_0 x3_2).f2) ((rd_T39 l0_0 x3_2).f3) ((rd_T39 l0_0 x3_2).f4))) else (balustradelaw16_FunKinds.l2 k6 x3_2 x5_3 (wrap64 (x6_4 + 1)) l0_0 a0_1 l0_2 ((rd_T39 l0_0 x3_2).f0) ((rd_T39 l0_0 x3_2).f1) ((rd_T39 l0_0 x3_2).f2) ((rd_T39 l0_0 x3_2).f3) ((rd_T39 l0_0 x3_2).f4)))) else (if ((rd_T42 (rd_L5 ((rd_T39 l0_0 x3_2).f4) x5_3) x6_4).f0) = 39 then (if ((rd_T42 (rd_L5 ((rd_T39 l0_0 x3_2).f4) x5_3) x6_4).f5) ≥ (l0_0.length : Int) then (some false) else (balustradelaw16_FunKinds.l2 k6 x3_2 x5_3 (wrap64 (x6_4 + 1)) l0_0 a0_1 l0_2 ((rd_T39 l0_0 x3_2).f0) ((rd_T39 l0_0 x3_2).f1) ((rd_T39 l0_0 x3_2).f2) ((rd_T39 l0_0 x3_2).f3) ((rd_T39 l0_0 x3_2).f4))) else (balustradelaw16_FunKinds.l2 k6 x3_2 x5_3 (wrap64 (x6_4 + 1)) l0_0 a0_1 l0_2 ((rd_T39 l0_0 x3_2).f0) ((rd_T39 l0_0 x3_2).f1) ((rd_T39 l0_0 x3_2).f2) ((rd_T39 l0_0 x3_2).f3) ((rd_T39 l0_0 x3_2).f4)))) = some r := H
                        have A69 := Aside0.mk A690
                        clear A690
                        by_cases c70 : t418 = true
                        ·subst c70
                         have H1 : (if ((rd_T42 (rd_L5 ((rd_T39 l0_0 x3_2).f4) x5_3) x6_4).f7) ≥ (l0_2.length : Int) then (some false) else (if ((rd_T42 (rd_L5 ((rd_T39 l0_0 x3_2).f4) x5_3) x6_4).f0) = 39 then (if ((rd_T42 (rd_L5 ((rd_T39 l0_0 x3_2).f4) x5_3) x6_4).f5) ≥ (l0_0.length : Int) then (some false) else (balustradelaw16_FunKinds.l2 k6 x3_2 x5_3 (wrap64 (x6_4 + 1)) l0_0 a0_1 l0_2 ((rd_T39 l0_0 x3_2).f0) ((rd_T39 l0_0 x3_2).f1) ((rd_T39 l0_0 x3_2).f2) ((rd_T39 l0_0 x3_2).f3) ((rd_T39 l0_0 x3_2).f4))) else (balustradelaw16_FunKinds.l2 k6 x3_2 x5_3 (wrap64 (x6_4 + 1)) l0_0 a0_1 l0_2 ((rd_T39 l0_0 x3_2).f0) ((rd_T39 l0_0 x3_2).f1) ((rd_T39 l0_0 x3_2).f2) ((rd_T39 l0_0 x3_2).f3) ((rd_T39 l0_0 x3_2).f4)))) = some r := by rw [if_pos rfl] at H; exact H
                         clear H
                         have H := H1
                         clear H1
                         by_cases c71 : ((rd_T42 (rd_L5 ((rd_T39 l0_0 x3_2).f4) x5_3) x6_4).f7) ≥ (l0_2.length : Int)
                         ·rw [if_pos c71] at H
                          have c71b0 : decide ((l0_2.length : Int) ≤ ((rd_T42 (rd_L5 ((rd_T39 l0_0 x3_2).f4) x5_3) x6_4).f7)) = true := decide_eq_true c71
                          clear c71
                          obtain rfl := Option.some.inj H
                          obtain ⟨Ao72, co72, eo72⟩ := Kd.R_slice HO_10.out
                          subst eo72
                          have hnb73 := NB401_388.out
                          have hnc73 := NB388_401.out
                          have hnb74 := NB401_397.out
                          have hnc74 := NB397_401.out
                          obtain ⟨hcz75_0, hcz75_1, hcz75_2, hcz75_3, hcz75_4, hcz75_5, hcz75_6, hcz75_7, hcz75_8⟩ := zc9 BK401.out
                          obtain ⟨hfz75_0, hfz75_1, hfz75_2, hfz75_3, hfz75_4, hfz75_5, hfz75_6, hfz75_7, hfz75_8⟩ := zf9 BK401.out
                          go_wp2_with (first | ((with_reducible refine gate_callee (f := 19) rfl ?_); refine goesL_ (some 105) rfl rfl Try.func19 (by kernel_rfl) rfl #[.int .i64 ((rd_T42 (rd_L5 ((rd_T39 l0_0 x3_2).f4) x5_3) x6_4).f0)] rfl zE ?_; (with_reducible refine (balustraderef15_Check.calls ((rd_T42 (rd_L5 ((rd_T39 l0_0 x3_2).f4) x5_3) x6_4).f0) true _ A69.out).mono ?_); rintro e w' ⟨rfl, ⟨nd, rfl⟩⟩; refine ⟨_, rfl, ?_⟩; have hnb76 := NB388_397.out; have hnc76 := NB397_388.out; have hcz77_0 : wr.cell? ⟨gb388, 0, none⟩ = some (.slice (some ad396) l0_0.length c0_0) := (blk_cell BK388.out 0).trans rfl; have hcz77_1 : wr.cell? ⟨gb388, 1, none⟩ = some (.int .i64 a0_1) := (blk_cell BK388.out 1).trans rfl; have hcz77_2 : wr.cell? ⟨gb388, 2, none⟩ = some (.slice A0_2 l0_2.length c0_2) := (blk_cell BK388.out 2).trans rfl; have hfz77_0 := blk_frozen BK388.out 0; have hfz77_1 := blk_frozen BK388.out 1; have hfz77_2 := blk_frozen BK388.out 2))
                          go_ret
                          exact ⟨zV, by repeat (first | (with_reducible first | exact HB.out | apply below_alloc | apply pw_below_drewN | apply below_drew1 | refine below_set ?_ GE388.out | refine below_set ?_ GE397.out | refine below_set ?_ GE401.out) | exact HB.out)⟩
                         ·rw [if_neg c71] at H
                          have c71b0 : decide ((l0_2.length : Int) ≤ ((rd_T42 (rd_L5 ((rd_T39 l0_0 x3_2).f4) x5_3) x6_4).f7)) = false := decide_eq_false c71
                          clear c71
                          by_cases c78 : ((rd_T42 (rd_L5 ((rd_T39 l0_0 x3_2).f4) x5_3) x6_4).f0) = 39
                          ·rw [if_pos c78] at H
                           have c78b0 : (((rd_T42 (rd_L5 ((rd_T39 l0_0 x3_2).f4) x5_3) x6_4).f0) == 39) = true := beq_iff_eq.mpr c78
                           have c78b1 : (((rd_T42 (rd_L5 ((rd_T39 l0_0 x3_2).f4) x5_3) x6_4).f0) != 39) = false := bne_eq_false_iff_eq.mpr c78
                           clear c78
                           by_cases c79 : ((rd_T42 (rd_L5 ((rd_T39 l0_0 x3_2).f4) x5_3) x6_4).f5) ≥ (l0_0.length : Int)
                           ·rw [if_pos c79] at H
                            have c79b0 : decide ((l0_0.length : Int) ≤ ((rd_T42 (rd_L5 ((rd_T39 l0_0 x3_2).f4) x5_3) x6_4).f5)) = true := decide_eq_true c79
                            clear c79
                            obtain rfl := Option.some.inj H
                            obtain ⟨Ao80, co80, eo80⟩ := Kd.R_slice HO_10.out
                            subst eo80
                            have hnb81 := NB401_388.out
                            have hnc81 := NB388_401.out
                            have hnb82 := NB401_397.out
                            have hnc82 := NB397_401.out
                            obtain ⟨hcz83_0, hcz83_1, hcz83_2, hcz83_3, hcz83_4, hcz83_5, hcz83_6, hcz83_7, hcz83_8⟩ := zc9 BK401.out
                            obtain ⟨hfz83_0, hfz83_1, hfz83_2, hfz83_3, hfz83_4, hfz83_5, hfz83_6, hfz83_7, hfz83_8⟩ := zf9 BK401.out
                            go_wp2_with (first | ((with_reducible refine gate_callee (f := 19) rfl ?_); refine goesL_ (some 105) rfl rfl Try.func19 (by kernel_rfl) rfl #[.int .i64 ((rd_T42 (rd_L5 ((rd_T39 l0_0 x3_2).f4) x5_3) x6_4).f0)] rfl zE ?_; (with_reducible refine (balustraderef15_Check.calls ((rd_T42 (rd_L5 ((rd_T39 l0_0 x3_2).f4) x5_3) x6_4).f0) true _ A69.out).mono ?_); rintro e w' ⟨rfl, ⟨nd, rfl⟩⟩; refine ⟨_, rfl, ?_⟩; have hnb84 := NB388_397.out; have hnc84 := NB397_388.out; have hcz85_0 : wr.cell? ⟨gb388, 0, none⟩ = some (.slice (some ad396) l0_0.length c0_0) := (blk_cell BK388.out 0).trans rfl; have hcz85_1 : wr.cell? ⟨gb388, 1, none⟩ = some (.int .i64 a0_1) := (blk_cell BK388.out 1).trans rfl; have hcz85_2 : wr.cell? ⟨gb388, 2, none⟩ = some (.slice A0_2 l0_2.length c0_2) := (blk_cell BK388.out 2).trans rfl; have hfz85_0 := blk_frozen BK388.out 0; have hfz85_1 := blk_frozen BK388.out 1; have hfz85_2 := blk_frozen BK388.out 2))
                            go_ret
                            exact ⟨zV, by repeat (first | (with_reducible first | exact HB.out | apply below_alloc | apply pw_below_drewN | apply below_drew1 | refine below_set ?_ GE388.out | refine below_set ?_ GE397.out | refine below_set ?_ GE401.out) | exact HB.out)⟩
                           ·rw [if_neg c79] at H
                            have c79b0 : decide ((l0_0.length : Int) ≤ ((rd_T42 (rd_L5 ((rd_T39 l0_0 x3_2).f4) x5_3) x6_4).f5)) = false := decide_eq_false c79
                            clear c79
                            have H' := Aside0.mk H
                            clear H
                            obtain ⟨Ao86, co86, eo86⟩ := Kd.R_slice HO_10.out
                            subst eo86
                            have hnb87 := NB401_388.out
                            have hnc87 := NB388_401.out
                            have hnb88 := NB401_397.out
                            have hnc88 := NB397_401.out
                            obtain ⟨hcz89_0, hcz89_1, hcz89_2, hcz89_3, hcz89_4, hcz89_5, hcz89_6, hcz89_7, hcz89_8⟩ := zc9 BK401.out
                            obtain ⟨hfz89_0, hfz89_1, hfz89_2, hfz89_3, hfz89_4, hfz89_5, hfz89_6, hfz89_7, hfz89_8⟩ := zf9 BK401.out
                            go_wp2_with (first | ((with_reducible refine gate_callee (f := 19) rfl ?_); refine goesL_ (some 105) rfl rfl Try.func19 (by kernel_rfl) rfl #[.int .i64 ((rd_T42 (rd_L5 ((rd_T39 l0_0 x3_2).f4) x5_3) x6_4).f0)] rfl zE ?_; (with_reducible refine (balustraderef15_Check.calls ((rd_T42 (rd_L5 ((rd_T39 l0_0 x3_2).f4) x5_3) x6_4).f0) true _ A69.out).mono ?_); rintro e w' ⟨rfl, ⟨nd, rfl⟩⟩; refine ⟨_, rfl, ?_⟩; have hnb90 := NB388_397.out; have hnc90 := NB397_388.out; have hcz91_0 : wr.cell? ⟨gb388, 0, none⟩ = some (.slice (some ad396) l0_0.length c0_0) := (blk_cell BK388.out 0).trans rfl; have hcz91_1 : wr.cell? ⟨gb388, 1, none⟩ = some (.int .i64 a0_1) := (blk_cell BK388.out 1).trans rfl; have hcz91_2 : wr.cell? ⟨gb388, 2, none⟩ = some (.slice A0_2 l0_2.length c0_2) := (blk_cell BK388.out 2).trans rfl; have hfz91_0 := blk_frozen BK388.out 0; have hfz91_1 := blk_frozen BK388.out 1; have hfz91_2 := blk_frozen BK388.out 2))
                            go_roundg k6
                            case measure => have := HJ1.out; have := HK2.out; have := HK3.out; have := HK4.out; have := HK5.out; have := HK6.out; omega
                            case rel => exact ⟨(wrap64 (x6_4 + 1)), zQ, H', ⟨by have := HJ1.out; have := HK2.out; have := HK3.out; have := HK4.out; have := HK5.out; have := HK6.out; omega⟩, ⟨zK BK388.out⟩, ⟨zK BK397.out⟩, ⟨by repeat (first | (with_reducible first | exact HB.out | apply below_alloc | apply pw_below_drewN | apply below_drew1 | refine below_set ?_ GE388.out | refine below_set ?_ GE397.out | refine below_set ?_ GE401.out) | exact HB.out)⟩⟩
                          ·rw [if_neg c78] at H
                           have c78b0 : (((rd_T42 (rd_L5 ((rd_T39 l0_0 x3_2).f4) x5_3) x6_4).f0) == 39) = false := beq_eq_false_iff_ne.mpr c78
                           have c78b1 : (((rd_T42 (rd_L5 ((rd_T39 l0_0 x3_2).f4) x5_3) x6_4).f0) != 39) = true := bne_iff_ne.mpr c78
                           have H' := Aside0.mk H
                           clear H
                           obtain ⟨Ao92, co92, eo92⟩ := Kd.R_slice HO_10.out
                           subst eo92
                           have hnb93 := NB401_388.out
                           have hnc93 := NB388_401.out
                           have hnb94 := NB401_397.out
                           have hnc94 := NB397_401.out
                           obtain ⟨hcz95_0, hcz95_1, hcz95_2, hcz95_3, hcz95_4, hcz95_5, hcz95_6, hcz95_7, hcz95_8⟩ := zc9 BK401.out
                           obtain ⟨hfz95_0, hfz95_1, hfz95_2, hfz95_3, hfz95_4, hfz95_5, hfz95_6, hfz95_7, hfz95_8⟩ := zf9 BK401.out
                           go_wp2_with (first | ((with_reducible refine gate_callee (f := 19) rfl ?_); refine goesL_ (some 105) rfl rfl Try.func19 (by kernel_rfl) rfl #[.int .i64 ((rd_T42 (rd_L5 ((rd_T39 l0_0 x3_2).f4) x5_3) x6_4).f0)] rfl zE ?_; (with_reducible refine (balustraderef15_Check.calls ((rd_T42 (rd_L5 ((rd_T39 l0_0 x3_2).f4) x5_3) x6_4).f0) true _ A69.out).mono ?_); rintro e w' ⟨rfl, ⟨nd, rfl⟩⟩; refine ⟨_, rfl, ?_⟩; have hnb96 := NB388_397.out; have hnc96 := NB397_388.out; have hcz97_0 : wr.cell? ⟨gb388, 0, none⟩ = some (.slice (some ad396) l0_0.length c0_0) := (blk_cell BK388.out 0).trans rfl; have hcz97_1 : wr.cell? ⟨gb388, 1, none⟩ = some (.int .i64 a0_1) := (blk_cell BK388.out 1).trans rfl; have hcz97_2 : wr.cell? ⟨gb388, 2, none⟩ = some (.slice A0_2 l0_2.length c0_2) := (blk_cell BK388.out 2).trans rfl; have hfz97_0 := blk_frozen BK388.out 0; have hfz97_1 := blk_frozen BK388.out 1; have hfz97_2 := blk_frozen BK388.out 2))
                           go_roundg k6
                           case measure => have := HJ1.out; have := HK2.out; have := HK3.out; have := HK4.out; have := HK5.out; have := HK6.out; omega
                           case rel => exact ⟨(wrap64 (x6_4 + 1)), zQ, H', ⟨by have := HJ1.out; have := HK2.out; have := HK3.out; have := HK4.out; have := HK5.out; have := HK6.out; omega⟩, ⟨zK BK388.out⟩, ⟨zK BK397.out⟩, ⟨by repeat (first | (with_reducible first | exact HB.out | apply below_alloc | apply pw_below_drewN | apply below_drew1 | refine below_set ?_ GE388.out | refine below_set ?_ GE397.out | refine below_set ?_ GE401.out) | exact HB.out)⟩⟩
                        ·replace c70 := Bool.eq_false_iff.mpr c70
                         subst c70
                         have H1 : (if ((rd_T42 (rd_L5 ((rd_T39 l0_0 x3_2).f4) x5_3) x6_4).f0) = 39 then (if ((rd_T42 (rd_L5 ((rd_T39 l0_0 x3_2).f4) x5_3) x6_4).f5) ≥ (l0_0.length : Int) then (some false) else (balustradelaw16_FunKinds.l2 k6 x3_2 x5_3 (wrap64 (x6_4 + 1)) l0_0 a0_1 l0_2 ((rd_T39 l0_0 x3_2).f0) ((rd_T39 l0_0 x3_2).f1) ((rd_T39 l0_0 x3_2).f2) ((rd_T39 l0_0 x3_2).f3) ((rd_T39 l0_0 x3_2).f4))) else (balustradelaw16_FunKinds.l2 k6 x3_2 x5_3 (wrap64 (x6_4 + 1)) l0_0 a0_1 l0_2 ((rd_T39 l0_0 x3_2).f0) ((rd_T39 l0_0 x3_2).f1) ((rd_T39 l0_0 x3_2).f2) ((rd_T39 l0_0 x3_2).f3) ((rd_T39 l0_0 x3_2).f4))) = some r := by rw [if_neg (show ¬ (false = true) by decide)] at H; exact H
                         clear H
                         have H := H1
                         clear H1
                         by_cases c98 : ((rd_T42 (rd_L5 ((rd_T39 l0_0 x3_2).f4) x5_3) x6_4).f0) = 39
                         ·rw [if_pos c98] at H
                          have c98b0 : (((rd_T42 (rd_L5 ((rd_T39 l0_0 x3_2).f4) x5_3) x6_4).f0) == 39) = true := beq_iff_eq.mpr c98
                          have c98b1 : (((rd_T42 (rd_L5 ((rd_T39 l0_0 x3_2).f4) x5_3) x6_4).f0) != 39) = false := bne_eq_false_iff_eq.mpr c98
                          clear c98
                          by_cases c99 : ((rd_T42 (rd_L5 ((rd_T39 l0_0 x3_2).f4) x5_3) x6_4).f5) ≥ (l0_0.length : Int)
                          ·rw [if_pos c99] at H
                           have c99b0 : decide ((l0_0.length : Int) ≤ ((rd_T42 (rd_L5 ((rd_T39 l0_0 x3_2).f4) x5_3) x6_4).f5)) = true := decide_eq_true c99
                           clear c99
                           obtain rfl := Option.some.inj H
                           obtain ⟨Ao100, co100, eo100⟩ := Kd.R_slice HO_10.out
                           subst eo100
                           have hnb101 := NB401_388.out
                           have hnc101 := NB388_401.out
                           have hnb102 := NB401_397.out
                           have hnc102 := NB397_401.out
                           obtain ⟨hcz103_0, hcz103_1, hcz103_2, hcz103_3, hcz103_4, hcz103_5, hcz103_6, hcz103_7, hcz103_8⟩ := zc9 BK401.out
                           obtain ⟨hfz103_0, hfz103_1, hfz103_2, hfz103_3, hfz103_4, hfz103_5, hfz103_6, hfz103_7, hfz103_8⟩ := zf9 BK401.out
                           go_wp2_with (first | ((with_reducible refine gate_callee (f := 19) rfl ?_); refine goesL_ (some 105) rfl rfl Try.func19 (by kernel_rfl) rfl #[.int .i64 ((rd_T42 (rd_L5 ((rd_T39 l0_0 x3_2).f4) x5_3) x6_4).f0)] rfl zE ?_; (with_reducible refine (balustraderef15_Check.calls ((rd_T42 (rd_L5 ((rd_T39 l0_0 x3_2).f4) x5_3) x6_4).f0) false _ A69.out).mono ?_); rintro e w' ⟨rfl, ⟨nd, rfl⟩⟩; refine ⟨_, rfl, ?_⟩; have hnb104 := NB388_397.out; have hnc104 := NB397_388.out; have hcz105_0 : wr.cell? ⟨gb388, 0, none⟩ = some (.slice (some ad396) l0_0.length c0_0) := (blk_cell BK388.out 0).trans rfl; have hcz105_1 : wr.cell? ⟨gb388, 1, none⟩ = some (.int .i64 a0_1) := (blk_cell BK388.out 1).trans rfl; have hcz105_2 : wr.cell? ⟨gb388, 2, none⟩ = some (.slice A0_2 l0_2.length c0_2) := (blk_cell BK388.out 2).trans rfl; have hfz105_0 := blk_frozen BK388.out 0; have hfz105_1 := blk_frozen BK388.out 1; have hfz105_2 := blk_frozen BK388.out 2))
                           go_ret
                           exact ⟨zV, by repeat (first | (with_reducible first | exact HB.out | apply below_alloc | apply pw_below_drewN | apply below_drew1 | refine below_set ?_ GE388.out | refine below_set ?_ GE397.out | refine below_set ?_ GE401.out) | exact HB.out)⟩
                          ·rw [if_neg c99] at H
                           have c99b0 : decide ((l0_0.length : Int) ≤ ((rd_T42 (rd_L5 ((rd_T39 l0_0 x3_2).f4) x5_3) x6_4).f5)) = false := decide_eq_false c99
                           clear c99
                           have H' := Aside0.mk H
                           clear H
                           obtain ⟨Ao106, co106, eo106⟩ := Kd.R_slice HO_10.out
                           subst eo106
                           have hnb107 := NB401_388.out
                           have hnc107 := NB388_401.out
                           have hnb108 := NB401_397.out
                           have hnc108 := NB397_401.out
                           obtain ⟨hcz109_0, hcz109_1, hcz109_2, hcz109_3, hcz109_4, hcz109_5, hcz109_6, hcz109_7, hcz109_8⟩ := zc9 BK401.out
                           obtain ⟨hfz109_0, hfz109_1, hfz109_2, hfz109_3, hfz109_4, hfz109_5, hfz109_6, hfz109_7, hfz109_8⟩ := zf9 BK401.out
                           go_wp2_with (first | ((with_reducible refine gate_callee (f := 19) rfl ?_); refine goesL_ (some 105) rfl rfl Try.func19 (by kernel_rfl) rfl #[.int .i64 ((rd_T42 (rd_L5 ((rd_T39 l0_0 x3_2).f4) x5_3) x6_4).f0)] rfl zE ?_; (with_reducible refine (balustraderef15_Check.calls ((rd_T42 (rd_L5 ((rd_T39 l0_0 x3_2).f4) x5_3) x6_4).f0) false _ A69.out).mono ?_); rintro e w' ⟨rfl, ⟨nd, rfl⟩⟩; refine ⟨_, rfl, ?_⟩; have hnb110 := NB388_397.out; have hnc110 := NB397_388.out; have hcz111_0 : wr.cell? ⟨gb388, 0, none⟩ = some (.slice (some ad396) l0_0.length c0_0) := (blk_cell BK388.out 0).trans rfl; have hcz111_1 : wr.cell? ⟨gb388, 1, none⟩ = some (.int .i64 a0_1) := (blk_cell BK388.out 1).trans rfl; have hcz111_2 : wr.cell? ⟨gb388, 2, none⟩ = some (.slice A0_2 l0_2.length c0_2) := (blk_cell BK388.out 2).trans rfl; have hfz111_0 := blk_frozen BK388.out 0; have hfz111_1 := blk_frozen BK388.out 1; have hfz111_2 := blk_frozen BK388.out 2))
                           go_roundg k6
                           case measure => have := HJ1.out; have := HK2.out; have := HK3.out; have := HK4.out; have := HK5.out; have := HK6.out; omega
                           case rel => exact ⟨(wrap64 (x6_4 + 1)), zQ, H', ⟨by have := HJ1.out; have := HK2.out; have := HK3.out; have := HK4.out; have := HK5.out; have := HK6.out; omega⟩, ⟨zK BK388.out⟩, ⟨zK BK397.out⟩, ⟨by repeat (first | (with_reducible first | exact HB.out | apply below_alloc | apply pw_below_drewN | apply below_drew1 | refine below_set ?_ GE388.out | refine below_set ?_ GE397.out | refine below_set ?_ GE401.out) | exact HB.out)⟩⟩
                         ·rw [if_neg c98] at H
                          have c98b0 : (((rd_T42 (rd_L5 ((rd_T39 l0_0 x3_2).f4) x5_3) x6_4).f0) == 39) = false := beq_eq_false_iff_ne.mpr c98
                          have c98b1 : (((rd_T42 (rd_L5 ((rd_T39 l0_0 x3_2).f4) x5_3) x6_4).f0) != 39) = true := bne_iff_ne.mpr c98
                          have H' := Aside0.mk H
                          clear H
                          obtain ⟨Ao112, co112, eo112⟩ := Kd.R_slice HO_10.out
                          subst eo112
                          have hnb113 := NB401_388.out
                          have hnc113 := NB388_401.out
                          have hnb114 := NB401_397.out
                          have hnc114 := NB397_401.out
                          obtain ⟨hcz115_0, hcz115_1, hcz115_2, hcz115_3, hcz115_4, hcz115_5, hcz115_6, hcz115_7, hcz115_8⟩ := zc9 BK401.out
                          obtain ⟨hfz115_0, hfz115_1, hfz115_2, hfz115_3, hfz115_4, hfz115_5, hfz115_6, hfz115_7, hfz115_8⟩ := zf9 BK401.out
                          go_wp2_with (first | ((with_reducible refine gate_callee (f := 19) rfl ?_); refine goesL_ (some 105) rfl rfl Try.func19 (by kernel_rfl) rfl #[.int .i64 ((rd_T42 (rd_L5 ((rd_T39 l0_0 x3_2).f4) x5_3) x6_4).f0)] rfl zE ?_; (with_reducible refine (balustraderef15_Check.calls ((rd_T42 (rd_L5 ((rd_T39 l0_0 x3_2).f4) x5_3) x6_4).f0) false _ A69.out).mono ?_); rintro e w' ⟨rfl, ⟨nd, rfl⟩⟩; refine ⟨_, rfl, ?_⟩))
                          go_roundg k6
                          case measure => have := HJ1.out; have := HK2.out; have := HK3.out; have := HK4.out; have := HK5.out; have := HK6.out; omega
                          case rel => exact ⟨(wrap64 (x6_4 + 1)), zQ, H', ⟨by have := HJ1.out; have := HK2.out; have := HK3.out; have := HK4.out; have := HK5.out; have := HK6.out; omega⟩, ⟨zK BK388.out⟩, ⟨zK BK397.out⟩, ⟨by repeat (first | (with_reducible first | exact HB.out | apply below_alloc | apply pw_below_drewN | apply below_drew1 | refine below_set ?_ GE388.out | refine below_set ?_ GE397.out | refine below_set ?_ GE401.out) | exact HB.out)⟩⟩
                 ·rw [if_neg c32] at H
                  exact absurd H (by simp)
                ·rw [if_neg c28] at H
                 exact absurd H (by simp)
               ·rw [if_neg c27] at H
                have c27b0 : decide (x6_4 < ((rd_L5 ((rd_T39 l0_0 x3_2).f4) x5_3).length : Int)) = false := decide_eq_false c27
                clear c27
                have H' := Aside0.mk H
                clear H
                have hnb116 := NB397_388.out
                have hnc116 := NB388_397.out
                obtain ⟨hcz117_0, hcz117_1, hcz117_2, hcz117_3, hcz117_4⟩ := zc5 BK397.out
                obtain ⟨hfz117_0, hfz117_1, hfz117_2, hfz117_3, hfz117_4⟩ := zf5 BK397.out
                have p398 : 0 ≤ (x5_3 : Int) := zO
                have q398 : x5_3 < (((rd_T39 l0_0 x3_2).f4).length : Int) := zO
                obtain ⟨ad398, A398_0, c398_0, e398, hx398_0, hl398_0, hi398_0⟩ := at_L5 HR396_4.out x5_3 p398 q398
                cases e398
                replace hx398_0 := (HB.out.cell (World.block_lt_of_cell? w _ hx398_0)).trans hx398_0
                have HR398_0 := Aside0.mk hi398_0
                have HC398_0 := Aside0.mk hl398_0
                clear hi398_0 hl398_0
                replace p398 := eq_true p398
                replace q398 := eq_true q398
                go_wp2
                go_roundg k4
                case measure => have := HJ1.out; have := HK2.out; have := HK3.out; have := HK4.out; omega
                case rel => exact ⟨(wrap64 (x5_3 + 1)), zQ, H', ⟨by have := HJ1.out; have := HK2.out; have := HK3.out; have := HK4.out; omega⟩, ⟨zK BK388.out⟩, ⟨zK BK397.out⟩, ⟨by repeat (first | (with_reducible first | exact HB.out | apply below_alloc | apply pw_below_drewN | apply below_drew1 | refine below_set ?_ GE388.out | refine below_set ?_ GE397.out) | exact HB.out)⟩⟩
              ·rw [if_neg c26] at H
               exact absurd H (by simp)
             ·rw [if_neg c25] at H
              exact absurd H (by simp)
          ·rw [if_neg c22] at H
           have c22b0 : decide (x5_3 < (((rd_T39 l0_0 x3_2).f4).length : Int)) = false := decide_eq_false c22
           clear c22
           have H' := Aside0.mk H
           clear H
           have hnb118 := NB397_388.out
           have hnc118 := NB388_397.out
           obtain ⟨hcz119_0, hcz119_1, hcz119_2, hcz119_3, hcz119_4⟩ := zc5 BK397.out
           obtain ⟨hfz119_0, hfz119_1, hfz119_2, hfz119_3, hfz119_4⟩ := zf5 BK397.out
           go_wp2
           go_roundg k3
           case measure => have := HJ1.out; have := HK2.out; have := HK3.out; omega
           case rel => exact ⟨(wrap64 (x3_2 + 1)), zQ, H', ⟨by have := HJ1.out; have := HK2.out; have := HK3.out; omega⟩, ⟨zK BK388.out⟩, ⟨by repeat (first | (with_reducible first | exact HB.out | apply below_alloc | apply pw_below_drewN | apply below_drew1 | refine below_set ?_ GE388.out | refine below_set ?_ GE397.out) | exact HB.out)⟩⟩
       ·rw [if_neg c17] at H
        exact absurd H (by simp)
      ·rw [if_neg c16] at H
       have c16b0 : decide (x3_2 < (l0_0.length : Int)) = false := decide_eq_false c16
       clear c16
       replace H := Option.bind_eq_some_iff.mp H
       obtain ⟨t395, A1200, H⟩ := H
       replace H : (some t395) = some r := H
       have A120 := Aside0.mk A1200
       clear A1200
       obtain rfl := Option.some.inj H
       have hcz121_0 : wr.cell? ⟨gb388, 0, none⟩ = some (.slice A0_0 l0_0.length c0_0) := (blk_cell BK388.out 0).trans rfl
       have hcz121_1 : wr.cell? ⟨gb388, 1, none⟩ = some (.int .i64 a0_1) := (blk_cell BK388.out 1).trans rfl
       have hcz121_2 : wr.cell? ⟨gb388, 2, none⟩ = some (.slice A0_2 l0_2.length c0_2) := (blk_cell BK388.out 2).trans rfl
       have hfz121_0 := blk_frozen BK388.out 0
       have hfz121_1 := blk_frozen BK388.out 1
       have hfz121_2 := blk_frozen BK388.out 2
       go_wp2_with (first | ((with_reducible refine gate_callee (f := 8) rfl ?_); refine goesL_ (some 127) rfl rfl Try.func8 (by kernel_rfl) rfl #[] rfl zE ?_; (with_reducible refine (balustradelaw16_works.calls k2  t395 _ A120.out).mono ?_); rintro e w122 ⟨rfl, hb⟩; refine ⟨_, rfl, ?_⟩; have n0_ := Aside0.mk (blk_below (g := gb388) (o := .cells #[.slice A0_0 l0_0.length c0_0, .int .i64 a0_1, .slice A0_2 l0_2.length c0_2] 25 (0, 0)) (zK BK388.out) hb); have n1_ := Aside0.mk (below_step (by repeat (first | (with_reducible first | exact HB.out | apply below_alloc | apply pw_below_drewN | apply below_drew1 | refine below_set ?_ GE388.out) | exact HB.out)) hb); clear BK388; clear HB; have BK388 := n0_; have HB := n1_; clear n0_ n1_; (try clear hb); (try clear hb2); (try clear hk); (try clear hi)))
       go_ret
       exact ⟨zV, by repeat (first | (with_reducible first | exact HB.out | apply below_alloc | apply pw_below_drewN | apply below_drew1 | refine below_set ?_ GE388.out) | exact HB.out)⟩
end Go.Proofs.Ytgbpkbfghonllaa.P

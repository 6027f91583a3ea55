/- A text of this claim, what is not used left out. -/
import Derived.Test.YtomopjomapkmjaaBaBBdN
import Derived.Test.YtomopjomapkmjaaBaB0
import Derived.Test.YtomopjomapkmjaaBaB5
import Derived.Outline
set_option linter.unusedVariables false
set_option linter.unusedSimpArgs false
namespace Go.Proofs.Ytomopjomapkmjaa.B
open Go Go.RowKit Go.Proofs.YtomopjomapkmjaaW.PrintWords Go.Proofs.YtomopjomapkmjaaW.PrintLast Go.Proofs.YtomopjomapkmjaaW.PrintMore Go.Proofs.Ytomopjomapkmjaa.Pure
theorem R_one {base B : Nat} {W : World} {x : Int} (hb : base ≤ B) (h : W.heap[B]? = some (.cells #[.int .i64 x] 3 (0, 0))) : (Kd.int .i64).R 3 W base (fun k => k = B) (.slice (some ⟨B, 0, none⟩) 1 1) [x] := by
  refine ⟨fun k hk => ?_, [.int .i64 x], own_one hb h, ⟨rfl, fun j p hj => ?_⟩⟩
  · have : B = k := by simpa [Value.ownBlock] using hk
    exact this.symm
  · obtain rfl : j = 0 := by
      have := (List.getElem?_eq_some_iff.1 hj).1
      simp at this
      omega
    obtain rfl : p = x := by simpa using hj.symm
    exact rfl
theorem C_one {B : Nat} {W : World} {x : Int} (h : W.heap[B]? = some (.cells #[.int .i64 x] 3 (0, 0))) : (Kd.int .i64).C W (some ⟨B, 0, none⟩) 1 [x] := (Kd.R_reads' (R_one (Nat.zero_le _) h)).2.2
def nmF : ByteArray := ⟨#[102]⟩
def x20 : S29 := ⟨20, 1, 0, 0, 0, 0, 0, 0, []⟩
def x43 : S29 := ⟨43, 0, 1, 0, 0, 0, 0, 0, []⟩
def V0 : BV := ⟨nmF, 1, 1, [3], [[]], [1], 0⟩
def V1 : BV := ⟨nmF, 1, 1, [3, 1], [[]], [1], 0⟩
def V2 : BV := ⟨nmF, 1, 1, [3, 1], [[x20]], [1], 0⟩
def V3 : BV := ⟨nmF, 1, 1, [3, 1], [[x20, x43]], [2], 0⟩
theorem p1 : putB V1 x20 = true := by kernel_rfl
theorem p2 : putB V2 x43 = true := by kernel_rfl
theorem e1 : instr_Ends.f x20.f0 = some false := by kernel_rfl
theorem e2 : instr_Ends.f x43.f0 = some true := by kernel_rfl
theorem q1 : putV V1 x20 false = V2 := rfl
theorem q2 : putV V2 x43 true = V3 := rfl
theorem d2 : doneB V2 = false := by kernel_rfl
theorem d3 : doneB V3 = true := by kernel_rfl
theorem o3 : openB V3 = false := by kernel_rfl
theorem n0 : newB [3] 1 = true := by kernel_rfl
theorem fit0 : Fit V0 := ⟨by decide, by decide, rfl⟩
theorem fit1 : Fit V1 := ⟨by decide, by decide, rfl⟩
theorem fit2 : Fit V2 := ⟨by decide, by decide, rfl⟩
theorem fit3 : Fit V3 := ⟨by decide, by decide, rfl⟩
theorem k1_ : kindB 1 = true := by kernel_rfl
set_option maxHeartbeats 8000000 in
set_option maxRecDepth 100000 in
theorem works_at (w : World) : Calls Try.prog 10 #[] w fun e w' => e = .returned (.bool true) ∧ Below w.heap.size w w' := by
  have HC := Aside0.mk (C_one (blk_new w (.cells #[.int .i64 3] 3)))
  have HB := Aside0.mk (below_alloc (Below.refl w.heap.size w) (.cells #[.int .i64 3] 3))
  have HS := Aside0.mk (show w.heap.size ≤ (w.alloc (.cells #[.int .i64 3] 3)).heap.size by simp)
  go_enter Try.func10, Try.ntmps10
  go_upto_region 2 with (go_at_call 11; ((refine (New_at (some ⟨w.heap.size, 0, none⟩) 1 nmF [3] 1 _ HC.out (Nat.le_refl _) n0).mono ?_); rintro e w1 ⟨g, ok, rfl, hBA, hb⟩; have HBA := Aside0.mk (BAt.lower (V := V0) hBA HS.out); have HB1 := Aside0.mk (below_step HB.out hb); clear hBA hb))
  go_upto_region 3 with (go_at_call 16; ((refine (Reg_at (V := V0) HBA.out fit0 HB1.out HB1.out.size (by decide) 1 k1_).mono ?_); rintro e w2 ⟨he, hb, hk, ok2, hok, hBA⟩; obtain rfl : e = .returned (.int .i64 1) := he; have HBA2 := Aside0.mk (show BAt w.heap.size ok2 w2 g V1 from hBA); have HB2 := Aside0.mk hb; clear hb hk hok hBA HBA HB1))
  go_upto_region 4 with (go_at_call 12; ((refine (Put_at (V := V1) HBA2.out fit1 (by decide) x20 none 0 (by decide) (Kd.C_nil _ _) (Nat.le_refl _) HB2.out HB2.out.size (by decide) p1 false e1).mono ?_); rintro e w3 ⟨rfl, hb, hk, ok3, hok, hBA⟩; have HBA3 := Aside0.mk (show BAt w.heap.size ok3 w3 g V2 from q1 ▸ hBA); have HB3 := Aside0.mk hb; clear hb hk hok hBA HBA2 HB2))
  go_upto_region 5 with (go_at_call 13; ((refine (Func_bad (V := V2) HBA3.out fit2 d2).mono ?_); rintro e w4 ⟨rfl, hb⟩; have HBA4 := Aside0.mk (HBA3.out.below hb); have HB4 := Aside0.mk (below_step HB3.out hb); clear hb HBA3 HB3))
  have HBA5 := Aside0.mk (HBA4.out.below (below_alloc (Below.refl _ _) (.cells #[.string ⟨#[]⟩, .int .i64 0, .int .i64 0, .slice none 0 0, .slice none 0 0] 32)))
  have HB5 := Aside0.mk (below_alloc HB4.out (.cells #[.string ⟨#[]⟩, .int .i64 0, .int .i64 0, .slice none 0 0, .slice none 0 0] 32))
  clear HBA4 HB4
  go_upto_region 6 with (go_at_call 12; ((refine (Put_at (V := V2) HBA5.out fit2 (by decide) x43 none 0 (by decide) (Kd.C_nil _ _) (Nat.le_refl _) HB5.out HB5.out.size (by decide) p2 true e2).mono ?_); rintro e w6 ⟨rfl, hb, hk, ok6, hok, hBA⟩; have HBA6 := Aside0.mk (show BAt w.heap.size ok6 w6 g V3 from q2 ▸ hBA); have HB6 := Aside0.mk hb; clear hb hk hok hBA HBA5 HB5))
  go_upto_region 7 with (go_at_call 13; ((refine (Func_at (V := V3) HBA6.out fit3 d3 (by decide)).mono ?_); rintro e w7 ⟨vr, vb, sR, he, hr, hS, hb⟩; obtain ⟨q, cb, rfl, hq1, hq2, cellsq, hq3⟩ := Kd.S_form hS (by decide); have HBA7 := Aside0.mk (HBA6.out.below hb); have HB7 := Aside0.mk (below_step HB6.out hb); have HSB := Aside0.mk hS; obtain ⟨Ar, cr, rfl⟩ := Kd.R_slice hr; obtain rfl : e = .returned (.tuple #[.agg #[.string ⟨#[102]⟩, .int .i64 1, .int .i64 1, .slice Ar 2 cr, .slice (some ⟨q, 0, none⟩) 1 cb], .bool true]) := he; clear hb hr hS HBA6 HB6))
  have HBA8 := Aside0.mk (HBA7.out.below (below_alloc (Below.refl _ _) (.cells #[.string ⟨#[102]⟩, .int .i64 1, .int .i64 1, .slice Ar 2 cr, .slice (some ⟨q, 0, none⟩) 1 cb] 32)))
  have HB8 := Aside0.mk (below_alloc HB7.out (.cells #[.string ⟨#[102]⟩, .int .i64 1, .int .i64 1, .slice Ar 2 cr, .slice (some ⟨q, 0, none⟩) 1 cb] 32))
  obtain ⟨ad, A0, c0, eA, hc0, _, _⟩ := at_L4 (Kd.S_reads' HSB.out).2.2 0 (by decide) (by decide)
  injection eA with eA
  subst eA
  have hc1 : w7.cell? ⟨q, 0, none⟩ = some (.slice A0 2 c0) := hc0
  clear hc0
  have hop := Open_b HBA8.out fit3 o3
  go_wp2_with (go_at_call 26; ((refine hop.mono ?_); rintro e w9 ⟨rfl, hb⟩; have HB9 := Aside0.mk (below_step HB8.out hb); clear hb))
  go_ret
  exact ⟨rfl, HB9.out⟩
end Go.Proofs.Ytomopjomapkmjaa.B

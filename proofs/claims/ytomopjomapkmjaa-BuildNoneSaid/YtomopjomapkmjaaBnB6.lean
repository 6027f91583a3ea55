/- A text of this claim, what is not used left out. -/
import Derived.Test.YtomopjomapkmjaaBnB0
import Derived.Test.YtomopjomapkmjaaBnB4
import Derived.Test.YtomopjomapkmjaaBnB5
namespace Go.Proofs.Ytomopjomapkmjaa.B
open Go.RowKit Go.Proofs.YtomopjomapkmjaaW.PrintWords Go.Proofs.YtomopjomapkmjaaW.PrintLast Go.Proofs.YtomopjomapkmjaaW.PrintMore
attribute [local go_sem] max2_int min2_int max_two min_two max_three min_three max_four min_four   
set_option linter.unusedVariables false
set_option linter.unusedSimpArgs false
def IsS64 (w0 W : World) (g : Nat) (f0 : ByteArray) (f1 : Int) (f2 : Int) (f3 : List Int) (f4 : List (List (S29))) (f5 : List Int) (f6 : Int) : Prop := ∃ A3 c3, ∃ A4 c4, ∃ A5 c5, W.heap[g]? = some (.cells #[.string f0, .int .i64 f1, .int .i64 f2, .slice A3 f3.length c3, .slice A4 f4.length c4, .slice A5 f5.length c5, .int .i64 f6] 64 (0, 0)) ∧ w0.heap.size ≤ g ∧ Kd.C (Kd.int .i64) w0 A3 f3.length f3 ∧ Kd.C (Kd.slice 29 k29) w0 A4 f4.length f4 ∧ Kd.C (Kd.int .i64) w0 A5 f5.length f5
theorem IsS64.grown {w0 W : World} {g : Nat} {f0 : ByteArray} {f1 : Int} {f2 : Int} {f3 : List Int} {f4 : List (List (S29))} {f5 : List Int} {f6 : Int} {W1 : World} {row : Option Nat} (h : IsS64 w0 W g f0 f1 f2 f3 f4 f5 f6) (hw : W.grownBy W1 row) (hne : some g ≠ row) : IsS64 w0 W1 g f0 f1 f2 f3 f4 f5 f6 := by
 obtain ⟨A3, c3, A4, c4, A5, c5, hb, hg, hr3, hr4, hr5⟩ := h
 exact ⟨A3, c3, A4, c4, A5, c5, blk_grown hb hw hne, hg, hr3, hr4, hr5⟩
theorem IsS64.below {w0 W : World} {g : Nat} {f0 : ByteArray} {f1 : Int} {f2 : Int} {f3 : List Int} {f4 : List (List (S29))} {f5 : List Int} {f6 : Int} {W1 : World} (h : IsS64 w0 W g f0 f1 f2 f3 f4 f5 f6) (hw : Below W.heap.size W W1) : IsS64 w0 W1 g f0 f1 f2 f3 f4 f5 f6 := h.grown (grown_of_below hw none) (by simp)
theorem IsS64.alloc {w0 W : World} {g : Nat} {f0 : ByteArray} {f1 : Int} {f2 : Int} {f3 : List Int} {f4 : List (List (S29))} {f5 : List Int} {f6 : Int} (h : IsS64 w0 W g f0 f1 f2 f3 f4 f5 f6) (o : Obj) : IsS64 w0 (W.alloc o) g f0 f1 f2 f3 f4 f5 f6 := h.below (below_alloc (Below.refl _ _) o)
theorem IsS64.drewN {w0 W : World} {g : Nat} {f0 : ByteArray} {f1 : Int} {f2 : Int} {f3 : List Int} {f4 : List (List (S29))} {f5 : List Int} {f6 : Int} (h : IsS64 w0 W g f0 f1 f2 f3 f4 f5 f6) (m : Nat) : IsS64 w0 (W.drewN m) g f0 f1 f2 f3 f4 f5 f6 := h
theorem IsS64.drew {w0 W : World} {g : Nat} {f0 : ByteArray} {f1 : Int} {f2 : Int} {f3 : List Int} {f4 : List (List (S29))} {f5 : List Int} {f6 : Int} (h : IsS64 w0 W g f0 f1 f2 f3 f4 f5 f6) : IsS64 w0 W.drew g f0 f1 f2 f3 f4 f5 f6 := h
theorem IsS64.at_ {w0 W : World} {g : Nat} {f0 : ByteArray} {f1 : Int} {f2 : Int} {f3 : List Int} {f4 : List (List (S29))} {f5 : List Int} {f6 : Int} {w' : World} {m : Nat} (hq : W.drewN m = w') (h : IsS64 w0 W g f0 f1 f2 f3 f4 f5 f6) : IsS64 w0 w' g f0 f1 f2 f3 f4 f5 f6 := by subst hq; exact IsS64.drewN h m
end Go.Proofs.Ytomopjomapkmjaa.B

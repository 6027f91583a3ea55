/- A text of this claim, what is not used left out. -/
import Derived.Test.YtomopjomapkmjaaBnBBdB
set_option linter.unusedVariables false
set_option linter.unusedSimpArgs false
namespace Go.Proofs.Ytomopjomapkmjaa.B
open Go Go.RowKit Go.Proofs.YtomopjomapkmjaaW.PrintWords Go.Proofs.YtomopjomapkmjaaW.PrintLast Go.Proofs.YtomopjomapkmjaaW.PrintMore
section
variable {base g : Nat} {ok : Nat → Prop} {w w0 w1 W : World} {V : BV} {nm : ByteArray} {pa rt at_ : Int} {vr vb vs : Value} {rg st : List Int} {bl : List (List S29)} {f : Nat → Nat}
set_option maxHeartbeats 1000000 in
theorem Begin_no {p : Value} (h : NoB p w) (b : Int) : Calls Try.prog 31 #[p, .int .i64 b] w fun e w' => e = .returned (.bool false) ∧ w = w' := by
  have HN := Aside0.mk h
  clear h
  go_enter Try.func31, Try.ntmps31
  go_wp2_with (go_at_call 47; ((with_reducible refine (made_no HN.out).mono ?_); rintro e w' ⟨rfl, rfl⟩))
  go_ret
  exact ⟨rfl, rfl⟩
end
end Go.Proofs.Ytomopjomapkmjaa.B

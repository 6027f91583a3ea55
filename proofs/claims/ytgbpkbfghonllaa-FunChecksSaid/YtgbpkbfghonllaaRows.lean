/-
  No cell of these rows narrows 'for every input' (looked for: loops, veiled, ifaces, maps, wideKeys, modest, calm, conditions, laid).
  DERIVED. THE GIVEN ROWS OF THIS SEAT. 4 by the template 'for every input the law returns true; each argument reads behind the call as it read before'; 0 by the template 'total and deterministic' (their statements: YtgbpkbfghonllaaTotals.lean).
  GIVEN WITH THE SEED: the statements are not yours to turn. If you find one false, say at which input.
  Laid BY PROGRAM, IN A SANDBOX (cutbox-rows.mjs): the forced cells as the released guide's own fill.sh prints them over the translation 355878cd549fccab… (all of the seat's roots in one cut). By AI agents, Wed Nov 11 2026. No macro, syntax, notation, axiom, sorry.
-/
import Derived.Test.YtgbpkbfghonllaaChecked
import GoSem.Claim
import GoSem.ClaimJoined
import GoSem.ClaimMapViews
import Derived.JoinedTies
import Derived.KernelRfl
namespace Go.Proofs.Ytgbpkbfghonllaa
/- THE CELL 'sum', in the pinned program and in every row, IS THE sha256 OF THE DUMP (.gsa) THAT YtgbpkbfghonllaaProg.lean LOADS. Nothing in Lean hashes anything: it is a label: what it is worth is what the hold of that sum in a sandbox is worth. -/
noncomputable def Try.pinned : Pinned := { name := "ytgbpkbfghonllaa", sum := "355878cd549fccabd6982dc2085bf813c56ce9b68f9a6b6e08a072dc38637b95", checked := Try.checked }
namespace Rows
def none {H : Type} : Left H := { results := [], args := [] }

/-- 'balustradelaw16.FunChecks': WHATEVER THE INPUT: true; the input reads as it did. -/
def funChecksSpec : ChangeSpec := { name := "funChecks", fn := fun _ => fun
  | [d] => { results := [.lit (.bool true)], args := [d] }
  | _ => none }
def funChecksRow : OpenClaim := { program := "ytgbpkbfghonllaa", sum := "355878cd549fccabd6982dc2085bf813c56ce9b68f9a6b6e08a072dc38637b95", func := "balustrade/balustradelaw16.FunChecks", spec := "funChecks", unfollowed := true, recurses := true, apart := false }
def FunChecksSaid : Prop := funChecksRow.holds Try.pinned (OpenSpec.ofChange funChecksSpec)

/-- ITS FALSE NEIGHBOUR: 'it returns false'. Refute it at one input. -/
def funChecksWrong : ChangeSpec := { name := "funChecks", fn := fun _ => fun
  | [d] => { results := [.lit (.bool false)], args := [d] }
  | _ => none }
def FunChecksWrongFalsely : Prop := funChecksRow.holds Try.pinned (OpenSpec.ofChange funChecksWrong)

/-- 'balustradelaw16.FunKinds': WHATEVER THE INPUT: true; the input reads as it did. -/
def funKindsSpec : ChangeSpec := { name := "funKinds", fn := fun _ => fun
  | [d] => { results := [.lit (.bool true)], args := [d] }
  | _ => none }
def funKindsRow : OpenClaim := { program := "ytgbpkbfghonllaa", sum := "355878cd549fccabd6982dc2085bf813c56ce9b68f9a6b6e08a072dc38637b95", func := "balustrade/balustradelaw16.FunKinds", spec := "funKinds", unfollowed := true, recurses := true, apart := false }
def FunKindsSaid : Prop := funKindsRow.holds Try.pinned (OpenSpec.ofChange funKindsSpec)

/-- ITS FALSE NEIGHBOUR: 'it returns false'. Refute it at one input. -/
def funKindsWrong : ChangeSpec := { name := "funKinds", fn := fun _ => fun
  | [d] => { results := [.lit (.bool false)], args := [d] }
  | _ => none }
def FunKindsWrongFalsely : Prop := funKindsRow.holds Try.pinned (OpenSpec.ofChange funKindsWrong)

/-- 'balustradelaw16.FunMore': WHATEVER THE INPUT: true; the input reads as it did. -/
def funMoreSpec : ChangeSpec := { name := "funMore", fn := fun _ => fun
  | [d1, d2] => { results := [.lit (.bool true)], args := [d1, d2] }
  | _ => none }
def funMoreRow : OpenClaim := { program := "ytgbpkbfghonllaa", sum := "355878cd549fccabd6982dc2085bf813c56ce9b68f9a6b6e08a072dc38637b95", func := "balustrade/balustradelaw16.FunMore", spec := "funMore", unfollowed := true, recurses := true, apart := false }
def FunMoreSaid : Prop := funMoreRow.holds Try.pinned (OpenSpec.ofChange funMoreSpec)

/-- ITS FALSE NEIGHBOUR: 'it returns false'. Refute it at one input. -/
def funMoreWrong : ChangeSpec := { name := "funMore", fn := fun _ => fun
  | [d1, d2] => { results := [.lit (.bool false)], args := [d1, d2] }
  | _ => none }
def FunMoreWrongFalsely : Prop := funMoreRow.holds Try.pinned (OpenSpec.ofChange funMoreWrong)

/-- 'balustradelaw16.FunSame': WHATEVER THE INPUT: true; the input reads as it did. -/
def funSameSpec : ChangeSpec := { name := "funSame", fn := fun _ => fun
  | [d1, d2] => { results := [.lit (.bool true)], args := [d1, d2] }
  | _ => none }
def funSameRow : OpenClaim := { program := "ytgbpkbfghonllaa", sum := "355878cd549fccabd6982dc2085bf813c56ce9b68f9a6b6e08a072dc38637b95", func := "balustrade/balustradelaw16.FunSame", spec := "funSame", unfollowed := true, recurses := true, apart := false }
def FunSameSaid : Prop := funSameRow.holds Try.pinned (OpenSpec.ofChange funSameSpec)

/-- ITS FALSE NEIGHBOUR: 'it returns false'. Refute it at one input. -/
def funSameWrong : ChangeSpec := { name := "funSame", fn := fun _ => fun
  | [d1, d2] => { results := [.lit (.bool false)], args := [d1, d2] }
  | _ => none }
def FunSameWrongFalsely : Prop := funSameRow.holds Try.pinned (OpenSpec.ofChange funSameWrong)

/- THE SECOND FORM. 'bulk': how many values and letters a reading holds, each counted each time it is reached (what is shared counts as often as it is met; a slice's spare places count too). A statement '..UptoSaid' is the law's where the arguments, and the package variables that the reading takes, are together of bulk at most 1048576: NARROWER than '..Said'. Prove '..Said' where nothing that the law and all that it calls make is longer than what came in: it says more and counts as full. Else prove '..UptoSaid'. A law counts once. -/
mutual
def uptoBulk {H : Type} : DataW H → Nat
  | .lit (.string bytes) => bytes.length + 1
  | .lit _ => 1
  | .nil => 1
  | .ptr d => uptoBulk d + 1
  | .slice elems spare => uptoBulkAll elems + uptoBulkAll spare + 1
  | .agg parts => uptoBulkAll parts + 1
  | .iface _ d => uptoBulk d + 1
  | .map entries => uptoBulkEntries entries + 1
  | .held _ => 1
def uptoBulkAll {H : Type} : List (DataW H) → Nat
  | [] => 0
  | d :: r => uptoBulk d + uptoBulkAll r
def uptoBulkEntries {H : Type} : List (Lit × DataW H) → Nat
  | [] => 0
  | x :: r => uptoBulkEntry x + uptoBulkEntries r
def uptoBulkEntry {H : Type} : Lit × DataW H → Nat
  | (.string bytes, d) => bytes.length + uptoBulk d + 1
  | (_, d) => uptoBulk d + 1
 end
def uptoSmall : (H : Type) → List (DataW H) → Bool := fun _ ds => decide (uptoBulkAll ds ≤ 1048576)
def OpenSpec.upto (s : _root_.Go.ChangeSpec) : _root_.Go.OpenSpec := { _root_.Go.OpenSpec.ofChange s with cond := some uptoSmall }

/-- 'balustradelaw16.FunChecks', WHERE WHAT IT READS IS OF BULK AT MOST 1048576: true; the input reads as it did. -/
def funChecksUptoRow : OpenClaim := { program := "ytgbpkbfghonllaa", sum := "355878cd549fccabd6982dc2085bf813c56ce9b68f9a6b6e08a072dc38637b95", func := "balustrade/balustradelaw16.FunChecks", spec := "funChecks", unfollowed := true, recurses := true, apart := false, narrowed := true }
def FunChecksUptoSaid : Prop := funChecksUptoRow.holds Try.pinned (OpenSpec.upto funChecksSpec)

/-- 'balustradelaw16.FunKinds', WHERE WHAT IT READS IS OF BULK AT MOST 1048576: true; the input reads as it did. -/
def funKindsUptoRow : OpenClaim := { program := "ytgbpkbfghonllaa", sum := "355878cd549fccabd6982dc2085bf813c56ce9b68f9a6b6e08a072dc38637b95", func := "balustrade/balustradelaw16.FunKinds", spec := "funKinds", unfollowed := true, recurses := true, apart := false, narrowed := true }
def FunKindsUptoSaid : Prop := funKindsUptoRow.holds Try.pinned (OpenSpec.upto funKindsSpec)

/-- 'balustradelaw16.FunMore', WHERE WHAT IT READS IS OF BULK AT MOST 1048576: true; the input reads as it did. -/
def funMoreUptoRow : OpenClaim := { program := "ytgbpkbfghonllaa", sum := "355878cd549fccabd6982dc2085bf813c56ce9b68f9a6b6e08a072dc38637b95", func := "balustrade/balustradelaw16.FunMore", spec := "funMore", unfollowed := true, recurses := true, apart := false, narrowed := true }
def FunMoreUptoSaid : Prop := funMoreUptoRow.holds Try.pinned (OpenSpec.upto funMoreSpec)

/-- 'balustradelaw16.FunSame', WHERE WHAT IT READS IS OF BULK AT MOST 1048576: true; the input reads as it did. -/
def funSameUptoRow : OpenClaim := { program := "ytgbpkbfghonllaa", sum := "355878cd549fccabd6982dc2085bf813c56ce9b68f9a6b6e08a072dc38637b95", func := "balustrade/balustradelaw16.FunSame", spec := "funSame", unfollowed := true, recurses := true, apart := false, narrowed := true }
def FunSameUptoSaid : Prop := funSameUptoRow.holds Try.pinned (OpenSpec.upto funSameSpec)

end Rows
end Go.Proofs.Ytgbpkbfghonllaa

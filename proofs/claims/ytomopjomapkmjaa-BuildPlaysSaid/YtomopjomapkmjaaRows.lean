/-
  No cell of these rows narrows 'for every input' (looked for: loops, veiled, ifaces, maps, wideKeys, modest, calm, conditions, laid).
  DERIVED. THE GIVEN ROWS OF THIS SEAT. 7 by the template 'for every input the law returns true; each argument reads behind the call as it read before'; 0 by the template 'total and deterministic' (their statements: YtomopjomapkmjaaTotals.lean).
  GIVEN WITH THE SEED: the statements are not yours to turn. If you find one false, say at which input.
  Laid BY PROGRAM, IN A SANDBOX (cutbox-rows.mjs): the forced cells as the released guide's own fill.sh prints them over the translation d169a4dc99cfa335… (all of the seat's roots in one cut). By AI agents, Wed Nov 11 2026. No macro, syntax, notation, axiom, sorry.
-/
import Derived.Test.YtomopjomapkmjaaChecked
import GoSem.Claim
import GoSem.ClaimJoined
import GoSem.ClaimMapViews
import Derived.JoinedTies
import Derived.KernelRfl
namespace Go.Proofs.Ytomopjomapkmjaa
/- THE CELL 'sum', in the pinned program and in every row, IS THE sha256 OF THE DUMP (.gsa) THAT YtomopjomapkmjaaProg.lean LOADS. Nothing in Lean hashes anything: it is a label: what it is worth is what the hold of that sum in a sandbox is worth. -/
noncomputable def Try.pinned : Pinned := { name := "ytomopjomapkmjaa", sum := "d169a4dc99cfa33524e1d4e4a60001749f3c2ff3b0af7cff34493fd04cfa5912", checked := Try.checked }
namespace Rows
def none {H : Type} : Left H := { results := [], args := [] }

/-- 'balustradelaw24.BuildApart': WHATEVER THE INPUT: true; the input reads as it did. -/
def buildApartSpec : ChangeSpec := { name := "buildApart", fn := fun _ => fun
  | [d] => { results := [.lit (.bool true)], args := [d] }
  | _ => none }
def buildApartRow : OpenClaim := { program := "ytomopjomapkmjaa", sum := "d169a4dc99cfa33524e1d4e4a60001749f3c2ff3b0af7cff34493fd04cfa5912", func := "balustrade/balustradelaw24.BuildApart", spec := "buildApart", unfollowed := true, recurses := true, apart := false }
def BuildApartSaid : Prop := buildApartRow.holds Try.pinned (OpenSpec.ofChange buildApartSpec)

/-- ITS FALSE NEIGHBOUR: 'it returns false'. Refute it at one input. -/
def buildApartWrong : ChangeSpec := { name := "buildApart", fn := fun _ => fun
  | [d] => { results := [.lit (.bool false)], args := [d] }
  | _ => none }
def BuildApartWrongFalsely : Prop := buildApartRow.holds Try.pinned (OpenSpec.ofChange buildApartWrong)

/-- 'balustradelaw28.DomRow': WHATEVER THE INPUT: true; the input reads as it did. -/
def domRowSpec : ChangeSpec := { name := "domRow", fn := fun _ => fun
  | [d1, d2, d3, d4] => { results := [.lit (.bool true)], args := [d1, d2, d3, d4] }
  | _ => none }
def domRowRow : OpenClaim := { program := "ytomopjomapkmjaa", sum := "d169a4dc99cfa33524e1d4e4a60001749f3c2ff3b0af7cff34493fd04cfa5912", func := "balustrade/balustradelaw28.DomRow", spec := "domRow", unfollowed := true, recurses := true, apart := false }
def DomRowSaid : Prop := domRowRow.holds Try.pinned (OpenSpec.ofChange domRowSpec)

/-- ITS FALSE NEIGHBOUR: 'it returns false'. Refute it at one input. -/
def domRowWrong : ChangeSpec := { name := "domRow", fn := fun _ => fun
  | [d1, d2, d3, d4] => { results := [.lit (.bool false)], args := [d1, d2, d3, d4] }
  | _ => none }
def DomRowWrongFalsely : Prop := domRowRow.holds Try.pinned (OpenSpec.ofChange domRowWrong)

/-- 'balustradelaw28.DomWithout': WHATEVER THE INPUT: true; the input reads as it did. -/
def domWithoutSpec : ChangeSpec := { name := "domWithout", fn := fun _ => fun
  | [d1, d2] => { results := [.lit (.bool true)], args := [d1, d2] }
  | _ => none }
def domWithoutRow : OpenClaim := { program := "ytomopjomapkmjaa", sum := "d169a4dc99cfa33524e1d4e4a60001749f3c2ff3b0af7cff34493fd04cfa5912", func := "balustrade/balustradelaw28.DomWithout", spec := "domWithout", unfollowed := true, recurses := true, apart := false }
def DomWithoutSaid : Prop := domWithoutRow.holds Try.pinned (OpenSpec.ofChange domWithoutSpec)

/-- ITS FALSE NEIGHBOUR: 'it returns false'. Refute it at one input. -/
def domWithoutWrong : ChangeSpec := { name := "domWithout", fn := fun _ => fun
  | [d1, d2] => { results := [.lit (.bool false)], args := [d1, d2] }
  | _ => none }
def DomWithoutWrongFalsely : Prop := domWithoutRow.holds Try.pinned (OpenSpec.ofChange domWithoutWrong)

/-- 'balustradelaw24.BuildPlays': WHATEVER THE INPUT: true; the input reads as it did. -/
def buildPlaysSpec : ChangeSpec := { name := "buildPlays", fn := fun _ => fun
  | [d1, d2, d3, d4] => { results := [.lit (.bool true)], args := [d1, d2, d3, d4] }
  | _ => none }
def buildPlaysRow : OpenClaim := { program := "ytomopjomapkmjaa", sum := "d169a4dc99cfa33524e1d4e4a60001749f3c2ff3b0af7cff34493fd04cfa5912", func := "balustrade/balustradelaw24.BuildPlays", spec := "buildPlays", unfollowed := true, recurses := true, apart := false }
def BuildPlaysSaid : Prop := buildPlaysRow.holds Try.pinned (OpenSpec.ofChange buildPlaysSpec)

/-- ITS FALSE NEIGHBOUR: 'it returns false'. Refute it at one input. -/
def buildPlaysWrong : ChangeSpec := { name := "buildPlays", fn := fun _ => fun
  | [d1, d2, d3, d4] => { results := [.lit (.bool false)], args := [d1, d2, d3, d4] }
  | _ => none }
def BuildPlaysWrongFalsely : Prop := buildPlaysRow.holds Try.pinned (OpenSpec.ofChange buildPlaysWrong)

/-- 'balustradelaw24.BuildNone': WHATEVER THE INPUT: true; the input reads as it did. -/
def buildNoneSpec : ChangeSpec := { name := "buildNone", fn := fun _ => fun
  | [d1, d2] => { results := [.lit (.bool true)], args := [d1, d2] }
  | _ => none }
def buildNoneRow : OpenClaim := { program := "ytomopjomapkmjaa", sum := "d169a4dc99cfa33524e1d4e4a60001749f3c2ff3b0af7cff34493fd04cfa5912", func := "balustrade/balustradelaw24.BuildNone", spec := "buildNone", unfollowed := true, recurses := true, apart := false }
def BuildNoneSaid : Prop := buildNoneRow.holds Try.pinned (OpenSpec.ofChange buildNoneSpec)

/-- ITS FALSE NEIGHBOUR: 'it returns false'. Refute it at one input. -/
def buildNoneWrong : ChangeSpec := { name := "buildNone", fn := fun _ => fun
  | [d1, d2] => { results := [.lit (.bool false)], args := [d1, d2] }
  | _ => none }
def BuildNoneWrongFalsely : Prop := buildNoneRow.holds Try.pinned (OpenSpec.ofChange buildNoneWrong)

/-- 'balustradelaw28.DomTells': WHATEVER THE INPUT: true; the input reads as it did. -/
def domTellsSpec : ChangeSpec := { name := "domTells", fn := fun _ => fun
  | [d] => { results := [.lit (.bool true)], args := [d] }
  | _ => none }
def domTellsRow : OpenClaim := { program := "ytomopjomapkmjaa", sum := "d169a4dc99cfa33524e1d4e4a60001749f3c2ff3b0af7cff34493fd04cfa5912", func := "balustrade/balustradelaw28.DomTells", spec := "domTells", unfollowed := true, recurses := true, apart := false }
def DomTellsSaid : Prop := domTellsRow.holds Try.pinned (OpenSpec.ofChange domTellsSpec)

/-- ITS FALSE NEIGHBOUR: 'it returns false'. Refute it at one input. -/
def domTellsWrong : ChangeSpec := { name := "domTells", fn := fun _ => fun
  | [d] => { results := [.lit (.bool false)], args := [d] }
  | _ => none }
def DomTellsWrongFalsely : Prop := domTellsRow.holds Try.pinned (OpenSpec.ofChange domTellsWrong)

/-- 'balustradelaw28.DomAny': WHATEVER THE INPUT: true; the input reads as it did. -/
def domAnySpec : ChangeSpec := { name := "domAny", fn := fun _ => fun
  | [d1, d2, d3] => { results := [.lit (.bool true)], args := [d1, d2, d3] }
  | _ => none }
def domAnyRow : OpenClaim := { program := "ytomopjomapkmjaa", sum := "d169a4dc99cfa33524e1d4e4a60001749f3c2ff3b0af7cff34493fd04cfa5912", func := "balustrade/balustradelaw28.DomAny", spec := "domAny", unfollowed := true, recurses := true, apart := false }
def DomAnySaid : Prop := domAnyRow.holds Try.pinned (OpenSpec.ofChange domAnySpec)

/-- ITS FALSE NEIGHBOUR: 'it returns false'. Refute it at one input. -/
def domAnyWrong : ChangeSpec := { name := "domAny", fn := fun _ => fun
  | [d1, d2, d3] => { results := [.lit (.bool false)], args := [d1, d2, d3] }
  | _ => none }
def DomAnyWrongFalsely : Prop := domAnyRow.holds Try.pinned (OpenSpec.ofChange domAnyWrong)

/- THE SECOND FORM. 'bulk': how many values and letters a reading holds, each counted each time it is reached (what is shared counts as often as it is met; a slice's spare places count too). A statement '..UptoSaid' is the law's where the arguments, and the package variables that the reading takes, are together of bulk at most 1048576: NARROWER than '..Said'. Prove '..Said' where nothing that the law and all that it calls make is longer than what came in: it says more and counts as full. Else prove '..UptoSaid'. A law counts once. -/
mutual
def uptoBulk {H : Type} : DataW H → Nat
  | .lit (.string bytes) => bytes.length + 1
  | .lit _ => 1
  | .nil => 1
  | .ptr d => uptoBulk d + 1
  | .slice elems spare => uptoBulkAll elems + uptoBulkAll spare + 1
  | .agg parts => uptoBulkAll parts + 1
  | .iface _ d => uptoBulk d + 1
  | .map entries => uptoBulkEntries entries + 1
  | .held _ => 1
def uptoBulkAll {H : Type} : List (DataW H) → Nat
  | [] => 0
  | d :: r => uptoBulk d + uptoBulkAll r
def uptoBulkEntries {H : Type} : List (Lit × DataW H) → Nat
  | [] => 0
  | x :: r => uptoBulkEntry x + uptoBulkEntries r
def uptoBulkEntry {H : Type} : Lit × DataW H → Nat
  | (.string bytes, d) => bytes.length + uptoBulk d + 1
  | (_, d) => uptoBulk d + 1
 end
def uptoSmall : (H : Type) → List (DataW H) → Bool := fun _ ds => decide (uptoBulkAll ds ≤ 1048576)
def OpenSpec.upto (s : _root_.Go.ChangeSpec) : _root_.Go.OpenSpec := { _root_.Go.OpenSpec.ofChange s with cond := some uptoSmall }

/-- 'balustradelaw24.BuildApart', WHERE WHAT IT READS IS OF BULK AT MOST 1048576: true; the input reads as it did. -/
def buildApartUptoRow : OpenClaim := { program := "ytomopjomapkmjaa", sum := "d169a4dc99cfa33524e1d4e4a60001749f3c2ff3b0af7cff34493fd04cfa5912", func := "balustrade/balustradelaw24.BuildApart", spec := "buildApart", unfollowed := true, recurses := true, apart := false, narrowed := true }
def BuildApartUptoSaid : Prop := buildApartUptoRow.holds Try.pinned (OpenSpec.upto buildApartSpec)

/-- 'balustradelaw28.DomRow', WHERE WHAT IT READS IS OF BULK AT MOST 1048576: true; the input reads as it did. -/
def domRowUptoRow : OpenClaim := { program := "ytomopjomapkmjaa", sum := "d169a4dc99cfa33524e1d4e4a60001749f3c2ff3b0af7cff34493fd04cfa5912", func := "balustrade/balustradelaw28.DomRow", spec := "domRow", unfollowed := true, recurses := true, apart := false, narrowed := true }
def DomRowUptoSaid : Prop := domRowUptoRow.holds Try.pinned (OpenSpec.upto domRowSpec)

/-- 'balustradelaw28.DomWithout', WHERE WHAT IT READS IS OF BULK AT MOST 1048576: true; the input reads as it did. -/
def domWithoutUptoRow : OpenClaim := { program := "ytomopjomapkmjaa", sum := "d169a4dc99cfa33524e1d4e4a60001749f3c2ff3b0af7cff34493fd04cfa5912", func := "balustrade/balustradelaw28.DomWithout", spec := "domWithout", unfollowed := true, recurses := true, apart := false, narrowed := true }
def DomWithoutUptoSaid : Prop := domWithoutUptoRow.holds Try.pinned (OpenSpec.upto domWithoutSpec)

/-- 'balustradelaw24.BuildPlays', WHERE WHAT IT READS IS OF BULK AT MOST 1048576: true; the input reads as it did. -/
def buildPlaysUptoRow : OpenClaim := { program := "ytomopjomapkmjaa", sum := "d169a4dc99cfa33524e1d4e4a60001749f3c2ff3b0af7cff34493fd04cfa5912", func := "balustrade/balustradelaw24.BuildPlays", spec := "buildPlays", unfollowed := true, recurses := true, apart := false, narrowed := true }
def BuildPlaysUptoSaid : Prop := buildPlaysUptoRow.holds Try.pinned (OpenSpec.upto buildPlaysSpec)

/-- 'balustradelaw24.BuildNone', WHERE WHAT IT READS IS OF BULK AT MOST 1048576: true; the input reads as it did. -/
def buildNoneUptoRow : OpenClaim := { program := "ytomopjomapkmjaa", sum := "d169a4dc99cfa33524e1d4e4a60001749f3c2ff3b0af7cff34493fd04cfa5912", func := "balustrade/balustradelaw24.BuildNone", spec := "buildNone", unfollowed := true, recurses := true, apart := false, narrowed := true }
def BuildNoneUptoSaid : Prop := buildNoneUptoRow.holds Try.pinned (OpenSpec.upto buildNoneSpec)

/-- 'balustradelaw28.DomTells', WHERE WHAT IT READS IS OF BULK AT MOST 1048576: true; the input reads as it did. -/
def domTellsUptoRow : OpenClaim := { program := "ytomopjomapkmjaa", sum := "d169a4dc99cfa33524e1d4e4a60001749f3c2ff3b0af7cff34493fd04cfa5912", func := "balustrade/balustradelaw28.DomTells", spec := "domTells", unfollowed := true, recurses := true, apart := false, narrowed := true }
def DomTellsUptoSaid : Prop := domTellsUptoRow.holds Try.pinned (OpenSpec.upto domTellsSpec)

/-- 'balustradelaw28.DomAny', WHERE WHAT IT READS IS OF BULK AT MOST 1048576: true; the input reads as it did. -/
def domAnyUptoRow : OpenClaim := { program := "ytomopjomapkmjaa", sum := "d169a4dc99cfa33524e1d4e4a60001749f3c2ff3b0af7cff34493fd04cfa5912", func := "balustrade/balustradelaw28.DomAny", spec := "domAny", unfollowed := true, recurses := true, apart := false, narrowed := true }
def DomAnyUptoSaid : Prop := domAnyUptoRow.holds Try.pinned (OpenSpec.upto domAnySpec)

end Rows
end Go.Proofs.Ytomopjomapkmjaa

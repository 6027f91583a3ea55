/-
  No cell of these rows narrows 'for every input' (looked for: loops, veiled, ifaces, maps, wideKeys, modest, calm, conditions, laid).
  DERIVED. THE GIVEN ROWS OF THIS SEAT. 6 by the template 'for every input the law returns true; each argument reads behind the call as it read before'; 0 by the template 'total and deterministic' (their statements: YtlhaopjdpkhogaaTotals.lean).
  GIVEN WITH THE SEED: the statements are not yours to turn. If you find one false, say at which input.
  Laid BY PROGRAM, IN A SANDBOX (cutbox-rows.mjs): the forced cells as the released guide's own fill.sh prints them over the translation 681264959d3807d4… (all of the seat's roots in one cut). By AI agents, Wed Nov 11 2026. No macro, syntax, notation, axiom, sorry.
-/
import Derived.Test.YtlhaopjdpkhogaaChecked
import GoSem.Claim
import GoSem.ClaimJoined
import GoSem.ClaimMapViews
import Derived.JoinedTies
import Derived.KernelRfl
namespace Go.Proofs.Ytlhaopjdpkhogaa
/- THE CELL 'sum', in the pinned program and in every row, IS THE sha256 OF THE DUMP (.gsa) THAT YtlhaopjdpkhogaaProg.lean LOADS. Nothing in Lean hashes anything: it is a label: what it is worth is what the hold of that sum in a sandbox is worth. -/
noncomputable def Try.pinned : Pinned := { name := "ytlhaopjdpkhogaa", sum := "681264959d3807d4df9f0af40af6984e13f15a5a5f3b6d33145644c88597aaf3", checked := Try.checked }
namespace Rows
def none {H : Type} : Left H := { results := [], args := [] }

/-- 'balustradelaw15.InstrTells': WHATEVER THE INPUT: true; the input reads as it did. -/
def instrTellsSpec : ChangeSpec := { name := "instrTells", fn := fun _ => fun
  | [d1, d2] => { results := [.lit (.bool true)], args := [d1, d2] }
  | _ => none }
def instrTellsRow : OpenClaim := { program := "ytlhaopjdpkhogaa", sum := "681264959d3807d4df9f0af40af6984e13f15a5a5f3b6d33145644c88597aaf3", func := "balustrade/balustradelaw15.InstrTells", spec := "instrTells", unfollowed := true, recurses := true, apart := false }
def InstrTellsSaid : Prop := instrTellsRow.holds Try.pinned (OpenSpec.ofChange instrTellsSpec)

/-- ITS FALSE NEIGHBOUR: 'it returns false'. Refute it at one input. -/
def instrTellsWrong : ChangeSpec := { name := "instrTells", fn := fun _ => fun
  | [d1, d2] => { results := [.lit (.bool false)], args := [d1, d2] }
  | _ => none }
def InstrTellsWrongFalsely : Prop := instrTellsRow.holds Try.pinned (OpenSpec.ofChange instrTellsWrong)

/-- 'balustradelaw17.GraphWithout': WHATEVER THE INPUT: true; the input reads as it did. -/
def graphWithoutSpec : ChangeSpec := { name := "graphWithout", fn := fun _ => fun
  | [d1, d2] => { results := [.lit (.bool true)], args := [d1, d2] }
  | _ => none }
def graphWithoutRow : OpenClaim := { program := "ytlhaopjdpkhogaa", sum := "681264959d3807d4df9f0af40af6984e13f15a5a5f3b6d33145644c88597aaf3", func := "balustrade/balustradelaw17.GraphWithout", spec := "graphWithout", unfollowed := true, recurses := true, apart := false }
def GraphWithoutSaid : Prop := graphWithoutRow.holds Try.pinned (OpenSpec.ofChange graphWithoutSpec)

/-- ITS FALSE NEIGHBOUR: 'it returns false'. Refute it at one input. -/
def graphWithoutWrong : ChangeSpec := { name := "graphWithout", fn := fun _ => fun
  | [d1, d2] => { results := [.lit (.bool false)], args := [d1, d2] }
  | _ => none }
def GraphWithoutWrongFalsely : Prop := graphWithoutRow.holds Try.pinned (OpenSpec.ofChange graphWithoutWrong)

/-- 'balustradelaw17.GraphTells': WHATEVER THE INPUT: true; the input reads as it did. -/
def graphTellsSpec : ChangeSpec := { name := "graphTells", fn := fun _ => fun
  | [d] => { results := [.lit (.bool true)], args := [d] }
  | _ => none }
def graphTellsRow : OpenClaim := { program := "ytlhaopjdpkhogaa", sum := "681264959d3807d4df9f0af40af6984e13f15a5a5f3b6d33145644c88597aaf3", func := "balustrade/balustradelaw17.GraphTells", spec := "graphTells", unfollowed := true, recurses := true, apart := false }
def GraphTellsSaid : Prop := graphTellsRow.holds Try.pinned (OpenSpec.ofChange graphTellsSpec)

/-- ITS FALSE NEIGHBOUR: 'it returns false'. Refute it at one input. -/
def graphTellsWrong : ChangeSpec := { name := "graphTells", fn := fun _ => fun
  | [d] => { results := [.lit (.bool false)], args := [d] }
  | _ => none }
def GraphTellsWrongFalsely : Prop := graphTellsRow.holds Try.pinned (OpenSpec.ofChange graphTellsWrong)

/-- 'balustradelaw17.GraphOrder': WHATEVER THE INPUT: true; the input reads as it did. -/
def graphOrderSpec : ChangeSpec := { name := "graphOrder", fn := fun _ => fun
  | [d] => { results := [.lit (.bool true)], args := [d] }
  | _ => none }
def graphOrderRow : OpenClaim := { program := "ytlhaopjdpkhogaa", sum := "681264959d3807d4df9f0af40af6984e13f15a5a5f3b6d33145644c88597aaf3", func := "balustrade/balustradelaw17.GraphOrder", spec := "graphOrder", unfollowed := true, recurses := true, apart := false }
def GraphOrderSaid : Prop := graphOrderRow.holds Try.pinned (OpenSpec.ofChange graphOrderSpec)

/-- ITS FALSE NEIGHBOUR: 'it returns false'. Refute it at one input. -/
def graphOrderWrong : ChangeSpec := { name := "graphOrder", fn := fun _ => fun
  | [d] => { results := [.lit (.bool false)], args := [d] }
  | _ => none }
def GraphOrderWrongFalsely : Prop := graphOrderRow.holds Try.pinned (OpenSpec.ofChange graphOrderWrong)

/-- 'balustradelaw15.InstrSame': WHATEVER THE INPUT: true; the input reads as it did. -/
def instrSameSpec : ChangeSpec := { name := "instrSame", fn := fun _ => fun
  | [d1, d2] => { results := [.lit (.bool true)], args := [d1, d2] }
  | _ => none }
def instrSameRow : OpenClaim := { program := "ytlhaopjdpkhogaa", sum := "681264959d3807d4df9f0af40af6984e13f15a5a5f3b6d33145644c88597aaf3", func := "balustrade/balustradelaw15.InstrSame", spec := "instrSame", unfollowed := true, recurses := true, apart := false }
def InstrSameSaid : Prop := instrSameRow.holds Try.pinned (OpenSpec.ofChange instrSameSpec)

/-- ITS FALSE NEIGHBOUR: 'it returns false'. Refute it at one input. -/
def instrSameWrong : ChangeSpec := { name := "instrSame", fn := fun _ => fun
  | [d1, d2] => { results := [.lit (.bool false)], args := [d1, d2] }
  | _ => none }
def InstrSameWrongFalsely : Prop := instrSameRow.holds Try.pinned (OpenSpec.ofChange instrSameWrong)

/-- 'balustradelaw15.InstrWith': WHATEVER THE INPUT: true; the input reads as it did. -/
def instrWithSpec : ChangeSpec := { name := "instrWith", fn := fun _ => fun
  | [d1, d2, d3] => { results := [.lit (.bool true)], args := [d1, d2, d3] }
  | _ => none }
def instrWithRow : OpenClaim := { program := "ytlhaopjdpkhogaa", sum := "681264959d3807d4df9f0af40af6984e13f15a5a5f3b6d33145644c88597aaf3", func := "balustrade/balustradelaw15.InstrWith", spec := "instrWith", unfollowed := true, recurses := true, apart := false }
def InstrWithSaid : Prop := instrWithRow.holds Try.pinned (OpenSpec.ofChange instrWithSpec)

/-- ITS FALSE NEIGHBOUR: 'it returns false'. Refute it at one input. -/
def instrWithWrong : ChangeSpec := { name := "instrWith", fn := fun _ => fun
  | [d1, d2, d3] => { results := [.lit (.bool false)], args := [d1, d2, d3] }
  | _ => none }
def InstrWithWrongFalsely : Prop := instrWithRow.holds Try.pinned (OpenSpec.ofChange instrWithWrong)

/- THE SECOND FORM. 'bulk': how many values and letters a reading holds, each counted each time it is reached (what is shared counts as often as it is met; a slice's spare places count too). A statement '..UptoSaid' is the law's where the arguments, and the package variables that the reading takes, are together of bulk at most 1048576: NARROWER than '..Said'. Prove '..Said' where nothing that the law and all that it calls make is longer than what came in: it says more and counts as full. Else prove '..UptoSaid'. A law counts once. -/
mutual
def uptoBulk {H : Type} : DataW H → Nat
  | .lit (.string bytes) => bytes.length + 1
  | .lit _ => 1
  | .nil => 1
  | .ptr d => uptoBulk d + 1
  | .slice elems spare => uptoBulkAll elems + uptoBulkAll spare + 1
  | .agg parts => uptoBulkAll parts + 1
  | .iface _ d => uptoBulk d + 1
  | .map entries => uptoBulkEntries entries + 1
  | .held _ => 1
def uptoBulkAll {H : Type} : List (DataW H) → Nat
  | [] => 0
  | d :: r => uptoBulk d + uptoBulkAll r
def uptoBulkEntries {H : Type} : List (Lit × DataW H) → Nat
  | [] => 0
  | x :: r => uptoBulkEntry x + uptoBulkEntries r
def uptoBulkEntry {H : Type} : Lit × DataW H → Nat
  | (.string bytes, d) => bytes.length + uptoBulk d + 1
  | (_, d) => uptoBulk d + 1
 end
def uptoSmall : (H : Type) → List (DataW H) → Bool := fun _ ds => decide (uptoBulkAll ds ≤ 1048576)
def OpenSpec.upto (s : _root_.Go.ChangeSpec) : _root_.Go.OpenSpec := { _root_.Go.OpenSpec.ofChange s with cond := some uptoSmall }

/-- 'balustradelaw15.InstrTells', WHERE WHAT IT READS IS OF BULK AT MOST 1048576: true; the input reads as it did. -/
def instrTellsUptoRow : OpenClaim := { program := "ytlhaopjdpkhogaa", sum := "681264959d3807d4df9f0af40af6984e13f15a5a5f3b6d33145644c88597aaf3", func := "balustrade/balustradelaw15.InstrTells", spec := "instrTells", unfollowed := true, recurses := true, apart := false, narrowed := true }
def InstrTellsUptoSaid : Prop := instrTellsUptoRow.holds Try.pinned (OpenSpec.upto instrTellsSpec)

/-- 'balustradelaw17.GraphWithout', WHERE WHAT IT READS IS OF BULK AT MOST 1048576: true; the input reads as it did. -/
def graphWithoutUptoRow : OpenClaim := { program := "ytlhaopjdpkhogaa", sum := "681264959d3807d4df9f0af40af6984e13f15a5a5f3b6d33145644c88597aaf3", func := "balustrade/balustradelaw17.GraphWithout", spec := "graphWithout", unfollowed := true, recurses := true, apart := false, narrowed := true }
def GraphWithoutUptoSaid : Prop := graphWithoutUptoRow.holds Try.pinned (OpenSpec.upto graphWithoutSpec)

/-- 'balustradelaw17.GraphTells', WHERE WHAT IT READS IS OF BULK AT MOST 1048576: true; the input reads as it did. -/
def graphTellsUptoRow : OpenClaim := { program := "ytlhaopjdpkhogaa", sum := "681264959d3807d4df9f0af40af6984e13f15a5a5f3b6d33145644c88597aaf3", func := "balustrade/balustradelaw17.GraphTells", spec := "graphTells", unfollowed := true, recurses := true, apart := false, narrowed := true }
def GraphTellsUptoSaid : Prop := graphTellsUptoRow.holds Try.pinned (OpenSpec.upto graphTellsSpec)

/-- 'balustradelaw17.GraphOrder', WHERE WHAT IT READS IS OF BULK AT MOST 1048576: true; the input reads as it did. -/
def graphOrderUptoRow : OpenClaim := { program := "ytlhaopjdpkhogaa", sum := "681264959d3807d4df9f0af40af6984e13f15a5a5f3b6d33145644c88597aaf3", func := "balustrade/balustradelaw17.GraphOrder", spec := "graphOrder", unfollowed := true, recurses := true, apart := false, narrowed := true }
def GraphOrderUptoSaid : Prop := graphOrderUptoRow.holds Try.pinned (OpenSpec.upto graphOrderSpec)

/-- 'balustradelaw15.InstrSame', WHERE WHAT IT READS IS OF BULK AT MOST 1048576: true; the input reads as it did. -/
def instrSameUptoRow : OpenClaim := { program := "ytlhaopjdpkhogaa", sum := "681264959d3807d4df9f0af40af6984e13f15a5a5f3b6d33145644c88597aaf3", func := "balustrade/balustradelaw15.InstrSame", spec := "instrSame", unfollowed := true, recurses := true, apart := false, narrowed := true }
def InstrSameUptoSaid : Prop := instrSameUptoRow.holds Try.pinned (OpenSpec.upto instrSameSpec)

/-- 'balustradelaw15.InstrWith', WHERE WHAT IT READS IS OF BULK AT MOST 1048576: true; the input reads as it did. -/
def instrWithUptoRow : OpenClaim := { program := "ytlhaopjdpkhogaa", sum := "681264959d3807d4df9f0af40af6984e13f15a5a5f3b6d33145644c88597aaf3", func := "balustrade/balustradelaw15.InstrWith", spec := "instrWith", unfollowed := true, recurses := true, apart := false, narrowed := true }
def InstrWithUptoSaid : Prop := instrWithUptoRow.holds Try.pinned (OpenSpec.upto instrWithSpec)

end Rows
end Go.Proofs.Ytlhaopjdpkhogaa

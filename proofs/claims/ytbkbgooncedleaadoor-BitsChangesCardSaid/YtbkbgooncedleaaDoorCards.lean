/-
  DERIVED. GIVEN WITH THE SEED: THE CARDS: each row of YtbkbgooncedleaaDoorRows.lean that lists a variable, with what it lists TIED to the program's text (the seventh form; the later family's looks); each row that meets fmt, with fmt's text TOLD by the authors' own Lean function (tested against real Go, not proved from fmt's source: count such statements apart). THE CARD IS WHAT COUNTS. Prove the row's statement (the work); the ties are given (YtbkbgooncedleaaDoorTie.lean); close each card by the builder's one call (the guide's Derived/Test/ToyasCard.lean, 'card_holds'). Laid BY PROGRAM, IN A SANDBOX (cutbox-door.mjs). By AI agents, Wed Nov 11 2026. No macro, syntax, notation, axiom, sorry.
-/
import Derived.Test.YtbkbgooncedleaaDoorRows
import GoSem.ClaimSeven
namespace Go.Proofs.YtbkbgooncedleaaDoor
namespace Rows

/-- THE TIED CARD OF 'balustradelaw02.BitsMakes'. -/
def bitsMakesCard : Claim7 := { stood := { row := bitsMakesRow, standIns := [], harness := (true, "6f0adb2cea54e810867d8a94947717507b576aecb5f3d0a2b0ef12ebced084ad"), looks := false }, kinds := [], alts := [], laidByText := true, laidKinds := [.data], laidTests := true, laidLooks := .later }
def BitsMakesCardSaid : Prop := Claim7.holds Tryd.pinned (.plain (OpenSpec.ofChange bitsMakesSpec)) bitsMakesCard

/-- THE TIED CARD OF 'balustradelaw02.BitsJoins'. -/
def bitsJoinsCard : Claim7 := { stood := { row := bitsJoinsRow, standIns := [], harness := (true, "6f0adb2cea54e810867d8a94947717507b576aecb5f3d0a2b0ef12ebced084ad"), looks := false }, kinds := [], alts := [], laidByText := true, laidKinds := [.data], laidTests := true, laidLooks := .later }
def BitsJoinsCardSaid : Prop := Claim7.holds Tryd.pinned (.plain (OpenSpec.ofChange bitsJoinsSpec)) bitsJoinsCard

/-- THE TIED CARD OF 'balustradelaw02.BitsChanges'. -/
def bitsChangesCard : Claim7 := { stood := { row := bitsChangesRow, standIns := [], harness := (true, "6f0adb2cea54e810867d8a94947717507b576aecb5f3d0a2b0ef12ebced084ad"), looks := false }, kinds := [], alts := [], laidByText := true, laidKinds := [.data], laidTests := true, laidLooks := .later }
def BitsChangesCardSaid : Prop := Claim7.holds Tryd.pinned (.plain (OpenSpec.ofChange bitsChangesSpec)) bitsChangesCard

/-- THE TIED CARD OF 'balustradelaw02.BitsParts'. -/
def bitsPartsCard : Claim7 := { stood := { row := bitsPartsRow, standIns := [], harness := (true, "6f0adb2cea54e810867d8a94947717507b576aecb5f3d0a2b0ef12ebced084ad"), looks := false }, kinds := [], alts := [], laidByText := true, laidKinds := [.data], laidTests := true, laidLooks := .later }
def BitsPartsCardSaid : Prop := Claim7.holds Tryd.pinned (.plain (OpenSpec.ofChange bitsPartsSpec)) bitsPartsCard

/-- THE SECOND FORM's CARD OF 'balustradelaw02.BitsMakes'. -/
def bitsMakesUptoCard : Claim7 := { stood := { row := bitsMakesUptoRow, standIns := [], harness := (true, "6f0adb2cea54e810867d8a94947717507b576aecb5f3d0a2b0ef12ebced084ad"), looks := false }, kinds := [], alts := [], laidByText := true, laidKinds := [.data], laidTests := true, laidLooks := .later }
def BitsMakesUptoCardSaid : Prop := Claim7.holds Tryd.pinned (.plain (OpenSpec.upto bitsMakesSpec)) bitsMakesUptoCard

/-- THE SECOND FORM's CARD OF 'balustradelaw02.BitsJoins'. -/
def bitsJoinsUptoCard : Claim7 := { stood := { row := bitsJoinsUptoRow, standIns := [], harness := (true, "6f0adb2cea54e810867d8a94947717507b576aecb5f3d0a2b0ef12ebced084ad"), looks := false }, kinds := [], alts := [], laidByText := true, laidKinds := [.data], laidTests := true, laidLooks := .later }
def BitsJoinsUptoCardSaid : Prop := Claim7.holds Tryd.pinned (.plain (OpenSpec.upto bitsJoinsSpec)) bitsJoinsUptoCard

/-- THE SECOND FORM's CARD OF 'balustradelaw02.BitsChanges'. -/
def bitsChangesUptoCard : Claim7 := { stood := { row := bitsChangesUptoRow, standIns := [], harness := (true, "6f0adb2cea54e810867d8a94947717507b576aecb5f3d0a2b0ef12ebced084ad"), looks := false }, kinds := [], alts := [], laidByText := true, laidKinds := [.data], laidTests := true, laidLooks := .later }
def BitsChangesUptoCardSaid : Prop := Claim7.holds Tryd.pinned (.plain (OpenSpec.upto bitsChangesSpec)) bitsChangesUptoCard

/-- THE SECOND FORM's CARD OF 'balustradelaw02.BitsParts'. -/
def bitsPartsUptoCard : Claim7 := { stood := { row := bitsPartsUptoRow, standIns := [], harness := (true, "6f0adb2cea54e810867d8a94947717507b576aecb5f3d0a2b0ef12ebced084ad"), looks := false }, kinds := [], alts := [], laidByText := true, laidKinds := [.data], laidTests := true, laidLooks := .later }
def BitsPartsUptoCardSaid : Prop := Claim7.holds Tryd.pinned (.plain (OpenSpec.upto bitsPartsSpec)) bitsPartsUptoCard
end Rows
end Go.Proofs.YtbkbgooncedleaaDoor

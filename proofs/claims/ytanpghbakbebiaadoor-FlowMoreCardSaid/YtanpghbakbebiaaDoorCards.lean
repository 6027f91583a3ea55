/-
  DERIVED. GIVEN WITH THE SEED: THE CARDS: each row of YtanpghbakbebiaaDoorRows.lean that lists a variable, with what it lists TIED to the program's text (the seventh form; the later family's looks); each row that meets fmt, with fmt's text TOLD by the authors' own Lean function (tested against real Go, not proved from fmt's source: count such statements apart). THE CARD IS WHAT COUNTS. Prove the row's statement (the work); the ties are given (YtanpghbakbebiaaDoorTie.lean); close each card by the builder's one call (the guide's Derived/Test/ToyasCard.lean, 'card_holds'). Laid BY PROGRAM, IN A SANDBOX (cutbox-door.mjs). By AI agents, Wed Nov 11 2026. No macro, syntax, notation, axiom, sorry.
-/
import Derived.Test.YtanpghbakbebiaaDoorRows
import GoSem.ClaimSeven
namespace Go.Proofs.YtanpghbakbebiaaDoor
namespace Rows

/-- THE TIED CARD OF 'balustradelaw18.FlowSolves'. -/
def flowSolvesCard : Claim7 := { stood := { row := flowSolvesRow, standIns := [], harness := (true, "7c7a1ba0842420c2a29bce6ebd71091e643fc14efd502a1b1beaf25ac9c6f060"), looks := false }, kinds := [], alts := [], laidByText := true, laidKinds := [.data], laidTests := true, laidLooks := .later }
def FlowSolvesCardSaid : Prop := Claim7.holds Tryd.pinned (.plain (OpenSpec.ofChange flowSolvesSpec)) flowSolvesCard

/-- THE TIED CARD OF 'balustradelaw18.FlowMore'. -/
def flowMoreCard : Claim7 := { stood := { row := flowMoreRow, standIns := [], harness := (true, "7c7a1ba0842420c2a29bce6ebd71091e643fc14efd502a1b1beaf25ac9c6f060"), looks := false }, kinds := [], alts := [], laidByText := true, laidKinds := [.data], laidTests := true, laidLooks := .later }
def FlowMoreCardSaid : Prop := Claim7.holds Tryd.pinned (.plain (OpenSpec.ofChange flowMoreSpec)) flowMoreCard

/-- THE TIED CARD OF 'balustradelaw18.FlowHolds'. -/
def flowHoldsCard : Claim7 := { stood := { row := flowHoldsRow, standIns := [], harness := (true, "7c7a1ba0842420c2a29bce6ebd71091e643fc14efd502a1b1beaf25ac9c6f060"), looks := false }, kinds := [], alts := [], laidByText := true, laidKinds := [.data], laidTests := true, laidLooks := .later }
def FlowHoldsCardSaid : Prop := Claim7.holds Tryd.pinned (.plain (OpenSpec.ofChange flowHoldsSpec)) flowHoldsCard

/-- THE SECOND FORM's CARD OF 'balustradelaw18.FlowSolves'. -/
def flowSolvesUptoCard : Claim7 := { stood := { row := flowSolvesUptoRow, standIns := [], harness := (true, "7c7a1ba0842420c2a29bce6ebd71091e643fc14efd502a1b1beaf25ac9c6f060"), looks := false }, kinds := [], alts := [], laidByText := true, laidKinds := [.data], laidTests := true, laidLooks := .later }
def FlowSolvesUptoCardSaid : Prop := Claim7.holds Tryd.pinned (.plain (OpenSpec.upto flowSolvesSpec)) flowSolvesUptoCard

/-- THE SECOND FORM's CARD OF 'balustradelaw18.FlowMore'. -/
def flowMoreUptoCard : Claim7 := { stood := { row := flowMoreUptoRow, standIns := [], harness := (true, "7c7a1ba0842420c2a29bce6ebd71091e643fc14efd502a1b1beaf25ac9c6f060"), looks := false }, kinds := [], alts := [], laidByText := true, laidKinds := [.data], laidTests := true, laidLooks := .later }
def FlowMoreUptoCardSaid : Prop := Claim7.holds Tryd.pinned (.plain (OpenSpec.upto flowMoreSpec)) flowMoreUptoCard

/-- THE SECOND FORM's CARD OF 'balustradelaw18.FlowHolds'. -/
def flowHoldsUptoCard : Claim7 := { stood := { row := flowHoldsUptoRow, standIns := [], harness := (true, "7c7a1ba0842420c2a29bce6ebd71091e643fc14efd502a1b1beaf25ac9c6f060"), looks := false }, kinds := [], alts := [], laidByText := true, laidKinds := [.data], laidTests := true, laidLooks := .later }
def FlowHoldsUptoCardSaid : Prop := Claim7.holds Tryd.pinned (.plain (OpenSpec.upto flowHoldsSpec)) flowHoldsUptoCard
end Rows
end Go.Proofs.YtanpghbakbebiaaDoor

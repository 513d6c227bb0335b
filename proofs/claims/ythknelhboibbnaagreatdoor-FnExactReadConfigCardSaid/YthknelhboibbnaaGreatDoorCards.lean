/-
  DERIVED. GIVEN WITH THE SEED: THE CARDS: each row of YthknelhboibbnaaGreatDoorRows.lean that lists a variable, with what it lists TIED to the program's text (the seventh form; the later family's looks); each row that meets fmt, with fmt's text TOLD by the authors' own Lean function (tested against real Go, not proved from fmt's source: count such statements apart). THE CARD IS WHAT COUNTS. Prove the row's statement (the work); the ties are given (YthknelhboibbnaaGreatDoorTie.lean); close each card by the builder's one call (the guide's Derived/Test/ToyasCard.lean, 'card_holds'). Laid BY PROGRAM, IN A SANDBOX (cutbox-door.mjs). By AI agents, Wed Nov 11 2026. No macro, syntax, notation, axiom, sorry.
-/
import Derived.Test.YthknelhboibbnaaGreatDoorRows
import GoSem.ClaimSeven
namespace Go.Proofs.YthknelhboibbnaaGreatDoor
namespace Rows

/-- THE TIED CARD OF 'laws.FnExactReadConfig'. -/
def fnExactReadConfigCard : Claim7 := { stood := { row := fnExactReadConfigRow, standIns := [], harness := (true, "a2a18d84f2833b7a0adf20a49e5dbae197bbdc5acc450ef66b72c953782c3fe3"), looks := true }, kinds := [], alts := [], laidByText := true, laidKinds := [.data, .data, .data, .sentinel, .sentinel], laidTests := true, laidLooks := .later }
def FnExactReadConfigCardSaid : Prop := Claim7.holds Tryz.pinned (.plain (OpenSpec.ofChange fnExactReadConfigSpec)) fnExactReadConfigCard

/-- THE TIED CARD OF 'laws.FnKnown'. -/
def fnKnownCard : Claim7 := { stood := { row := fnKnownRow, standIns := [], harness := (true, "a2a18d84f2833b7a0adf20a49e5dbae197bbdc5acc450ef66b72c953782c3fe3"), looks := true }, kinds := [], alts := [], laidByText := true, laidKinds := [.data, .data, .data, .data, .sentinel, .sentinel, .pinned], laidTests := true, laidLooks := .later }
def FnKnownCardSaid : Prop := Claim7.holds Tryz.pinned (.plain (OpenSpec.ofChange fnKnownSpec)) fnKnownCard

/-- THE SECOND FORM's CARD OF 'laws.FnExactReadConfig'. -/
def fnExactReadConfigUptoCard : Claim7 := { stood := { row := fnExactReadConfigUptoRow, standIns := [], harness := (true, "a2a18d84f2833b7a0adf20a49e5dbae197bbdc5acc450ef66b72c953782c3fe3"), looks := true }, kinds := [], alts := [], laidByText := true, laidKinds := [.data, .data, .data, .sentinel, .sentinel], laidTests := true, laidLooks := .later }
def FnExactReadConfigUptoCardSaid : Prop := Claim7.holds Tryz.pinned (.plain (OpenSpec.upto fnExactReadConfigSpec)) fnExactReadConfigUptoCard

/-- THE SECOND FORM's CARD OF 'laws.FnKnown'. -/
def fnKnownUptoCard : Claim7 := { stood := { row := fnKnownUptoRow, standIns := [], harness := (true, "a2a18d84f2833b7a0adf20a49e5dbae197bbdc5acc450ef66b72c953782c3fe3"), looks := true }, kinds := [], alts := [], laidByText := true, laidKinds := [.data, .data, .data, .data, .sentinel, .sentinel, .pinned], laidTests := true, laidLooks := .later }
def FnKnownUptoCardSaid : Prop := Claim7.holds Tryz.pinned (.plain (OpenSpec.upto fnKnownSpec)) fnKnownUptoCard
end Rows
end Go.Proofs.YthknelhboibbnaaGreatDoor

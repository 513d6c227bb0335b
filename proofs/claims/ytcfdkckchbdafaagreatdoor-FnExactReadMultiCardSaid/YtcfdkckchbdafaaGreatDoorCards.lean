/-
  DERIVED. GIVEN WITH THE SEED: THE CARDS: each row of YtcfdkckchbdafaaGreatDoorRows.lean that lists a variable, with what it lists TIED to the program's text (the seventh form; the later family's looks); each row that meets fmt, with fmt's text TOLD by the authors' own Lean function (tested against real Go, not proved from fmt's source: count such statements apart). THE CARD IS WHAT COUNTS. Prove the row's statement (the work); the ties are given (YtcfdkckchbdafaaGreatDoorTie.lean); close each card by the builder's one call (the guide's Derived/Test/ToyasCard.lean, 'card_holds'). Laid BY PROGRAM, IN A SANDBOX (cutbox-door.mjs). By AI agents, Wed Nov 11 2026. No macro, syntax, notation, axiom, sorry.
-/
import Derived.Test.YtcfdkckchbdafaaGreatDoorRows
import GoSem.ClaimSeven
namespace Go.Proofs.YtcfdkckchbdafaaGreatDoor
namespace Rows

/-- THE TIED CARD OF 'laws.FnKnown'. -/
def fnKnownCard : Claim7 := { stood := { row := fnKnownRow, standIns := [], harness := (true, "a8c178e16eccd0947eefbe0339c59fed1c0abb6c9ebe2cb88e4ab04dd34cd88a"), looks := true }, kinds := [], alts := [], laidByText := true, laidKinds := [.data, .data, .data, .data, .sentinel, .sentinel, .pinned], laidTests := true, laidLooks := .later }
def FnKnownCardSaid : Prop := Claim7.holds Tryz.pinned (.plain (OpenSpec.ofChange fnKnownSpec)) fnKnownCard

/-- THE TIED CARD OF 'laws.FnExactReadStore'. -/
def fnExactReadStoreCard : Claim7 := { stood := { row := fnExactReadStoreRow, standIns := [], harness := (true, "a8c178e16eccd0947eefbe0339c59fed1c0abb6c9ebe2cb88e4ab04dd34cd88a"), looks := true }, kinds := [], alts := [], laidByText := true, laidKinds := [.data, .data, .data, .data, .sentinel, .sentinel, .pinned], laidTests := true, laidLooks := .later }
def FnExactReadStoreCardSaid : Prop := Claim7.holds Tryz.pinned (.plain (OpenSpec.ofChange fnExactReadStoreSpec)) fnExactReadStoreCard

/-- THE TIED CARD OF 'laws.FnExactReadTag'. -/
def fnExactReadTagCard : Claim7 := { stood := { row := fnExactReadTagRow, standIns := [], harness := (true, "a8c178e16eccd0947eefbe0339c59fed1c0abb6c9ebe2cb88e4ab04dd34cd88a"), looks := true }, kinds := [], alts := [], laidByText := true, laidKinds := [.data, .data, .data, .data, .sentinel, .sentinel, .pinned], laidTests := true, laidLooks := .later }
def FnExactReadTagCardSaid : Prop := Claim7.holds Tryz.pinned (.plain (OpenSpec.ofChange fnExactReadTagSpec)) fnExactReadTagCard

/-- THE TIED CARD OF 'laws.FnExactReadMachine'. -/
def fnExactReadMachineCard : Claim7 := { stood := { row := fnExactReadMachineRow, standIns := [], harness := (true, "a8c178e16eccd0947eefbe0339c59fed1c0abb6c9ebe2cb88e4ab04dd34cd88a"), looks := true }, kinds := [], alts := [], laidByText := true, laidKinds := [.data, .data, .data, .data, .sentinel, .sentinel, .pinned], laidTests := true, laidLooks := .later }
def FnExactReadMachineCardSaid : Prop := Claim7.holds Tryz.pinned (.plain (OpenSpec.ofChange fnExactReadMachineSpec)) fnExactReadMachineCard

/-- THE TIED CARD OF 'laws.FnExactReadMulti'. -/
def fnExactReadMultiCard : Claim7 := { stood := { row := fnExactReadMultiRow, standIns := [], harness := (true, "a8c178e16eccd0947eefbe0339c59fed1c0abb6c9ebe2cb88e4ab04dd34cd88a"), looks := true }, kinds := [], alts := [], laidByText := true, laidKinds := [.data, .data, .data, .data, .sentinel, .sentinel, .pinned], laidTests := true, laidLooks := .later }
def FnExactReadMultiCardSaid : Prop := Claim7.holds Tryz.pinned (.plain (OpenSpec.ofChange fnExactReadMultiSpec)) fnExactReadMultiCard

/-- THE SECOND FORM's CARD OF 'laws.FnKnown'. -/
def fnKnownUptoCard : Claim7 := { stood := { row := fnKnownUptoRow, standIns := [], harness := (true, "a8c178e16eccd0947eefbe0339c59fed1c0abb6c9ebe2cb88e4ab04dd34cd88a"), looks := true }, kinds := [], alts := [], laidByText := true, laidKinds := [.data, .data, .data, .data, .sentinel, .sentinel, .pinned], laidTests := true, laidLooks := .later }
def FnKnownUptoCardSaid : Prop := Claim7.holds Tryz.pinned (.plain (OpenSpec.upto fnKnownSpec)) fnKnownUptoCard

/-- THE SECOND FORM's CARD OF 'laws.FnExactReadStore'. -/
def fnExactReadStoreUptoCard : Claim7 := { stood := { row := fnExactReadStoreUptoRow, standIns := [], harness := (true, "a8c178e16eccd0947eefbe0339c59fed1c0abb6c9ebe2cb88e4ab04dd34cd88a"), looks := true }, kinds := [], alts := [], laidByText := true, laidKinds := [.data, .data, .data, .data, .sentinel, .sentinel, .pinned], laidTests := true, laidLooks := .later }
def FnExactReadStoreUptoCardSaid : Prop := Claim7.holds Tryz.pinned (.plain (OpenSpec.upto fnExactReadStoreSpec)) fnExactReadStoreUptoCard

/-- THE SECOND FORM's CARD OF 'laws.FnExactReadTag'. -/
def fnExactReadTagUptoCard : Claim7 := { stood := { row := fnExactReadTagUptoRow, standIns := [], harness := (true, "a8c178e16eccd0947eefbe0339c59fed1c0abb6c9ebe2cb88e4ab04dd34cd88a"), looks := true }, kinds := [], alts := [], laidByText := true, laidKinds := [.data, .data, .data, .data, .sentinel, .sentinel, .pinned], laidTests := true, laidLooks := .later }
def FnExactReadTagUptoCardSaid : Prop := Claim7.holds Tryz.pinned (.plain (OpenSpec.upto fnExactReadTagSpec)) fnExactReadTagUptoCard

/-- THE SECOND FORM's CARD OF 'laws.FnExactReadMachine'. -/
def fnExactReadMachineUptoCard : Claim7 := { stood := { row := fnExactReadMachineUptoRow, standIns := [], harness := (true, "a8c178e16eccd0947eefbe0339c59fed1c0abb6c9ebe2cb88e4ab04dd34cd88a"), looks := true }, kinds := [], alts := [], laidByText := true, laidKinds := [.data, .data, .data, .data, .sentinel, .sentinel, .pinned], laidTests := true, laidLooks := .later }
def FnExactReadMachineUptoCardSaid : Prop := Claim7.holds Tryz.pinned (.plain (OpenSpec.upto fnExactReadMachineSpec)) fnExactReadMachineUptoCard

/-- THE SECOND FORM's CARD OF 'laws.FnExactReadMulti'. -/
def fnExactReadMultiUptoCard : Claim7 := { stood := { row := fnExactReadMultiUptoRow, standIns := [], harness := (true, "a8c178e16eccd0947eefbe0339c59fed1c0abb6c9ebe2cb88e4ab04dd34cd88a"), looks := true }, kinds := [], alts := [], laidByText := true, laidKinds := [.data, .data, .data, .data, .sentinel, .sentinel, .pinned], laidTests := true, laidLooks := .later }
def FnExactReadMultiUptoCardSaid : Prop := Claim7.holds Tryz.pinned (.plain (OpenSpec.upto fnExactReadMultiSpec)) fnExactReadMultiUptoCard
end Rows
end Go.Proofs.YtcfdkckchbdafaaGreatDoor

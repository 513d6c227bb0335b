/-
  DERIVED. GIVEN WITH THE SEED: THE CARDS: each row of YthfihlfjphiihaaGreatDoorRows.lean that lists a variable, with what it lists TIED to the program's text (the seventh form; the later family's looks); each row that meets fmt, with fmt's text TOLD by the authors' own Lean function (tested against real Go, not proved from fmt's source: count such statements apart). THE CARD IS WHAT COUNTS. Prove the row's statement (the work); the ties are given (YthfihlfjphiihaaGreatDoorTie.lean); close each card by the builder's one call (the guide's Derived/Test/ToyasCard.lean, 'card_holds'). Laid BY PROGRAM, IN A SANDBOX (cutbox-door.mjs). By AI agents, Wed Nov 11 2026. No macro, syntax, notation, axiom, sorry.
-/
import Derived.Test.YthfihlfjphiihaaGreatDoorRows
import GoSem.ClaimSeven
namespace Go.Proofs.YthfihlfjphiihaaGreatDoor
namespace Rows

/-- THE TIED CARD OF 'laws.FnExactReadMachine'. -/
def fnExactReadMachineCard : Claim7 := { stood := { row := fnExactReadMachineRow, standIns := [], harness := (true, "f712974fed7331de2adec232e9a30404eec51479ff2c9c66c054579d4cc0e3ef"), looks := true }, kinds := [], alts := [], laidByText := true, laidKinds := [.data, .data, .data, .data, .sentinel, .sentinel, .pinned], laidTests := true, laidLooks := .later }
def FnExactReadMachineCardSaid : Prop := Claim7.holds Tryz.pinned (.plain (OpenSpec.ofChange fnExactReadMachineSpec)) fnExactReadMachineCard

/-- THE SECOND FORM's CARD OF 'laws.FnExactReadMachine'. -/
def fnExactReadMachineUptoCard : Claim7 := { stood := { row := fnExactReadMachineUptoRow, standIns := [], harness := (true, "f712974fed7331de2adec232e9a30404eec51479ff2c9c66c054579d4cc0e3ef"), looks := true }, kinds := [], alts := [], laidByText := true, laidKinds := [.data, .data, .data, .data, .sentinel, .sentinel, .pinned], laidTests := true, laidLooks := .later }
def FnExactReadMachineUptoCardSaid : Prop := Claim7.holds Tryz.pinned (.plain (OpenSpec.upto fnExactReadMachineSpec)) fnExactReadMachineUptoCard
end Rows
end Go.Proofs.YthfihlfjphiihaaGreatDoor

/-
  DERIVED. GIVEN WITH THE SEED: THE CARDS: each row of YtcfdkckchbdafaaDoorRows.lean that lists a variable, with what it lists TIED to the program's text (the seventh form; the later family's looks); each row that meets fmt, with fmt's text TOLD by the authors' own Lean function (tested against real Go, not proved from fmt's source: count such statements apart). THE CARD IS WHAT COUNTS. Prove the row's statement (the work); the ties are given (YtcfdkckchbdafaaDoorTie.lean); close each card by the builder's one call (the guide's Derived/Test/ToyasCard.lean, 'card_holds'). Laid BY PROGRAM, IN A SANDBOX (cutbox-door.mjs). By AI agents, Wed Nov 11 2026. No macro, syntax, notation, axiom, sorry.
-/
import Derived.Test.YtcfdkckchbdafaaDoorRows
import GoSem.ClaimSeven
namespace Go.Proofs.YtcfdkckchbdafaaDoor
namespace Rows

/-- THE TIED CARD OF 'laws.FnExactReadCyclic'. -/
def fnExactReadCyclicCard : Claim7 := { stood := { row := fnExactReadCyclicRow, standIns := [], harness := (true, "b3cf805181f67d68972f8cf777df0112620eb6aae9f679d63c65b9bda980f88b"), looks := true }, kinds := [], alts := [], laidByText := true, laidKinds := [.data, .data, .data, .data, .sentinel, .sentinel, .pinned], laidTests := true, laidLooks := .later }
def FnExactReadCyclicCardSaid : Prop := Claim7.holds Tryd.pinned (.plain (OpenSpec.ofChange fnExactReadCyclicSpec)) fnExactReadCyclicCard

/-- THE SECOND FORM's CARD OF 'laws.FnExactReadCyclic'. -/
def fnExactReadCyclicUptoCard : Claim7 := { stood := { row := fnExactReadCyclicUptoRow, standIns := [], harness := (true, "b3cf805181f67d68972f8cf777df0112620eb6aae9f679d63c65b9bda980f88b"), looks := true }, kinds := [], alts := [], laidByText := true, laidKinds := [.data, .data, .data, .data, .sentinel, .sentinel, .pinned], laidTests := true, laidLooks := .later }
def FnExactReadCyclicUptoCardSaid : Prop := Claim7.holds Tryd.pinned (.plain (OpenSpec.upto fnExactReadCyclicSpec)) fnExactReadCyclicUptoCard
end Rows
end Go.Proofs.YtcfdkckchbdafaaDoor

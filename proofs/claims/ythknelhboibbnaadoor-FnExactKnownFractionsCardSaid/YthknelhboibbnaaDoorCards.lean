/-
  DERIVED. GIVEN WITH THE SEED: THE CARDS: each row of YthknelhboibbnaaDoorRows.lean that lists a variable, with what it lists TIED to the program's text (the seventh form; the later family's looks); each row that meets fmt, with fmt's text TOLD by the authors' own Lean function (tested against real Go, not proved from fmt's source: count such statements apart). THE CARD IS WHAT COUNTS. Prove the row's statement (the work); the ties are given (YthknelhboibbnaaDoorTie.lean); close each card by the builder's one call (the guide's Derived/Test/ToyasCard.lean, 'card_holds'). Laid BY PROGRAM, IN A SANDBOX (cutbox-door.mjs). By AI agents, Wed Nov 11 2026. No macro, syntax, notation, axiom, sorry.
-/
import Derived.Test.YthknelhboibbnaaDoorRows
import GoSem.ClaimSeven
namespace Go.Proofs.YthknelhboibbnaaDoor
namespace Rows

/-- THE TIED CARD OF 'laws.FnExactKnownFractions'. -/
def fnExactKnownFractionsCard : Claim7 := { stood := { row := fnExactKnownFractionsRow, standIns := [], harness := (true, "71682ff76552704abd69a82b0c71ed11ae0c804f6f4533da12e6b5647ef6bc6c"), looks := true }, kinds := [], alts := [], laidByText := true, laidKinds := [.data, .data, .data, .data, .sentinel, .sentinel, .pinned], laidTests := true, laidLooks := .later }
def FnExactKnownFractionsCardSaid : Prop := Claim7.holds Tryd.pinned (.plain (OpenSpec.ofChange fnExactKnownFractionsSpec)) fnExactKnownFractionsCard

/-- THE TIED CARD OF 'laws.FnExactReadCounters'. -/
def fnExactReadCountersCard : Claim7 := { stood := { row := fnExactReadCountersRow, standIns := [], harness := (true, "71682ff76552704abd69a82b0c71ed11ae0c804f6f4533da12e6b5647ef6bc6c"), looks := true }, kinds := [], alts := [], laidByText := true, laidKinds := [.data, .data, .data, .data, .sentinel, .sentinel, .pinned], laidTests := true, laidLooks := .later }
def FnExactReadCountersCardSaid : Prop := Claim7.holds Tryd.pinned (.plain (OpenSpec.ofChange fnExactReadCountersSpec)) fnExactReadCountersCard

/-- THE TIED CARD OF 'laws.FnExactReadFractions'. -/
def fnExactReadFractionsCard : Claim7 := { stood := { row := fnExactReadFractionsRow, standIns := [], harness := (true, "71682ff76552704abd69a82b0c71ed11ae0c804f6f4533da12e6b5647ef6bc6c"), looks := true }, kinds := [], alts := [], laidByText := true, laidKinds := [.data, .data, .data, .data, .sentinel, .sentinel, .pinned], laidTests := true, laidLooks := .later }
def FnExactReadFractionsCardSaid : Prop := Claim7.holds Tryd.pinned (.plain (OpenSpec.ofChange fnExactReadFractionsSpec)) fnExactReadFractionsCard

/-- THE TIED CARD OF 'laws.FnExactReadProgram'. -/
def fnExactReadProgramCard : Claim7 := { stood := { row := fnExactReadProgramRow, standIns := [], harness := (true, "71682ff76552704abd69a82b0c71ed11ae0c804f6f4533da12e6b5647ef6bc6c"), looks := true }, kinds := [], alts := [], laidByText := true, laidKinds := [.data, .data, .data, .data, .sentinel, .sentinel, .pinned], laidTests := true, laidLooks := .later }
def FnExactReadProgramCardSaid : Prop := Claim7.holds Tryd.pinned (.plain (OpenSpec.ofChange fnExactReadProgramSpec)) fnExactReadProgramCard

/-- THE SECOND FORM's CARD OF 'laws.FnExactKnownFractions'. -/
def fnExactKnownFractionsUptoCard : Claim7 := { stood := { row := fnExactKnownFractionsUptoRow, standIns := [], harness := (true, "71682ff76552704abd69a82b0c71ed11ae0c804f6f4533da12e6b5647ef6bc6c"), looks := true }, kinds := [], alts := [], laidByText := true, laidKinds := [.data, .data, .data, .data, .sentinel, .sentinel, .pinned], laidTests := true, laidLooks := .later }
def FnExactKnownFractionsUptoCardSaid : Prop := Claim7.holds Tryd.pinned (.plain (OpenSpec.upto fnExactKnownFractionsSpec)) fnExactKnownFractionsUptoCard

/-- THE SECOND FORM's CARD OF 'laws.FnExactReadCounters'. -/
def fnExactReadCountersUptoCard : Claim7 := { stood := { row := fnExactReadCountersUptoRow, standIns := [], harness := (true, "71682ff76552704abd69a82b0c71ed11ae0c804f6f4533da12e6b5647ef6bc6c"), looks := true }, kinds := [], alts := [], laidByText := true, laidKinds := [.data, .data, .data, .data, .sentinel, .sentinel, .pinned], laidTests := true, laidLooks := .later }
def FnExactReadCountersUptoCardSaid : Prop := Claim7.holds Tryd.pinned (.plain (OpenSpec.upto fnExactReadCountersSpec)) fnExactReadCountersUptoCard

/-- THE SECOND FORM's CARD OF 'laws.FnExactReadFractions'. -/
def fnExactReadFractionsUptoCard : Claim7 := { stood := { row := fnExactReadFractionsUptoRow, standIns := [], harness := (true, "71682ff76552704abd69a82b0c71ed11ae0c804f6f4533da12e6b5647ef6bc6c"), looks := true }, kinds := [], alts := [], laidByText := true, laidKinds := [.data, .data, .data, .data, .sentinel, .sentinel, .pinned], laidTests := true, laidLooks := .later }
def FnExactReadFractionsUptoCardSaid : Prop := Claim7.holds Tryd.pinned (.plain (OpenSpec.upto fnExactReadFractionsSpec)) fnExactReadFractionsUptoCard

/-- THE SECOND FORM's CARD OF 'laws.FnExactReadProgram'. -/
def fnExactReadProgramUptoCard : Claim7 := { stood := { row := fnExactReadProgramUptoRow, standIns := [], harness := (true, "71682ff76552704abd69a82b0c71ed11ae0c804f6f4533da12e6b5647ef6bc6c"), looks := true }, kinds := [], alts := [], laidByText := true, laidKinds := [.data, .data, .data, .data, .sentinel, .sentinel, .pinned], laidTests := true, laidLooks := .later }
def FnExactReadProgramUptoCardSaid : Prop := Claim7.holds Tryd.pinned (.plain (OpenSpec.upto fnExactReadProgramSpec)) fnExactReadProgramUptoCard
end Rows
end Go.Proofs.YthknelhboibbnaaDoor

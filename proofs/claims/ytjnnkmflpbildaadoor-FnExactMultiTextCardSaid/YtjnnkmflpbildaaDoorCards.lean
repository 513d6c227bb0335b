/-
  DERIVED. GIVEN WITH THE SEED: THE CARDS: each row of YtjnnkmflpbildaaDoorRows.lean that lists a variable, with what it lists TIED to the program's text (the seventh form; the later family's looks); each row that meets fmt, with fmt's text TOLD by the authors' own Lean function (tested against real Go, not proved from fmt's source: count such statements apart). THE CARD IS WHAT COUNTS. Prove the row's statement (the work); the ties are given (YtjnnkmflpbildaaDoorTie.lean); close each card by the builder's one call (the guide's Derived/Test/ToyasCard.lean, 'card_holds'). Laid BY PROGRAM, IN A SANDBOX (cutbox-door.mjs). By AI agents, Wed Nov 11 2026. No macro, syntax, notation, axiom, sorry.
-/
import Derived.Test.YtjnnkmflpbildaaDoorRows
import GoSem.ClaimSeven
namespace Go.Proofs.YtjnnkmflpbildaaDoor
namespace Rows

/-- THE TIED CARD OF 'laws.FnExactCountersText'. -/
def fnExactCountersTextCard : Claim7 := { stood := { row := fnExactCountersTextRow, standIns := [], harness := (true, "84affe22846799d18740cbc44cc540d53498c88baea09d688bea66a6a706cd4a"), looks := false }, kinds := [], alts := [], laidByText := true, laidKinds := [.data, .data, .data], laidTests := true, laidLooks := .later }
def FnExactCountersTextCardSaid : Prop := Claim7.holds Tryd.pinned (.plain (OpenSpec.ofChange fnExactCountersTextSpec)) fnExactCountersTextCard

/-- THE TIED CARD OF 'laws.FnExactFractionsText'. -/
def fnExactFractionsTextCard : Claim7 := { stood := { row := fnExactFractionsTextRow, standIns := [], harness := (true, "84affe22846799d18740cbc44cc540d53498c88baea09d688bea66a6a706cd4a"), looks := false }, kinds := [], alts := [], laidByText := true, laidKinds := [.data, .data, .data], laidTests := true, laidLooks := .later }
def FnExactFractionsTextCardSaid : Prop := Claim7.holds Tryd.pinned (.plain (OpenSpec.ofChange fnExactFractionsTextSpec)) fnExactFractionsTextCard

/-- THE TIED CARD OF 'laws.FnExactProgramText'. -/
def fnExactProgramTextCard : Claim7 := { stood := { row := fnExactProgramTextRow, standIns := [], harness := (true, "84affe22846799d18740cbc44cc540d53498c88baea09d688bea66a6a706cd4a"), looks := false }, kinds := [], alts := [], laidByText := true, laidKinds := [.data, .data, .data], laidTests := true, laidLooks := .later }
def FnExactProgramTextCardSaid : Prop := Claim7.holds Tryd.pinned (.plain (OpenSpec.ofChange fnExactProgramTextSpec)) fnExactProgramTextCard

/-- THE TIED CARD OF 'laws.FnExactCyclicText'. -/
def fnExactCyclicTextCard : Claim7 := { stood := { row := fnExactCyclicTextRow, standIns := [], harness := (true, "84affe22846799d18740cbc44cc540d53498c88baea09d688bea66a6a706cd4a"), looks := false }, kinds := [], alts := [], laidByText := true, laidKinds := [.data, .data, .data], laidTests := true, laidLooks := .later }
def FnExactCyclicTextCardSaid : Prop := Claim7.holds Tryd.pinned (.plain (OpenSpec.ofChange fnExactCyclicTextSpec)) fnExactCyclicTextCard

/-- THE TIED CARD OF 'laws.FnExactStoreText'. -/
def fnExactStoreTextCard : Claim7 := { stood := { row := fnExactStoreTextRow, standIns := [], harness := (true, "84affe22846799d18740cbc44cc540d53498c88baea09d688bea66a6a706cd4a"), looks := false }, kinds := [], alts := [], laidByText := true, laidKinds := [.data, .data, .data], laidTests := true, laidLooks := .later }
def FnExactStoreTextCardSaid : Prop := Claim7.holds Tryd.pinned (.plain (OpenSpec.ofChange fnExactStoreTextSpec)) fnExactStoreTextCard

/-- THE TIED CARD OF 'laws.FnExactTagText'. -/
def fnExactTagTextCard : Claim7 := { stood := { row := fnExactTagTextRow, standIns := [], harness := (true, "84affe22846799d18740cbc44cc540d53498c88baea09d688bea66a6a706cd4a"), looks := false }, kinds := [], alts := [], laidByText := true, laidKinds := [.data, .data, .data], laidTests := true, laidLooks := .later }
def FnExactTagTextCardSaid : Prop := Claim7.holds Tryd.pinned (.plain (OpenSpec.ofChange fnExactTagTextSpec)) fnExactTagTextCard

/-- THE TIED CARD OF 'laws.FnExactConfigText'. -/
def fnExactConfigTextCard : Claim7 := { stood := { row := fnExactConfigTextRow, standIns := [], harness := (true, "84affe22846799d18740cbc44cc540d53498c88baea09d688bea66a6a706cd4a"), looks := false }, kinds := [], alts := [], laidByText := true, laidKinds := [.data, .data, .data], laidTests := true, laidLooks := .later }
def FnExactConfigTextCardSaid : Prop := Claim7.holds Tryd.pinned (.plain (OpenSpec.ofChange fnExactConfigTextSpec)) fnExactConfigTextCard

/-- THE TIED CARD OF 'laws.FnExactMultiText'. -/
def fnExactMultiTextCard : Claim7 := { stood := { row := fnExactMultiTextRow, standIns := [], harness := (true, "84affe22846799d18740cbc44cc540d53498c88baea09d688bea66a6a706cd4a"), looks := false }, kinds := [], alts := [], laidByText := true, laidKinds := [.data, .data, .data], laidTests := true, laidLooks := .later }
def FnExactMultiTextCardSaid : Prop := Claim7.holds Tryd.pinned (.plain (OpenSpec.ofChange fnExactMultiTextSpec)) fnExactMultiTextCard

/-- THE SECOND FORM's CARD OF 'laws.FnExactCountersText'. -/
def fnExactCountersTextUptoCard : Claim7 := { stood := { row := fnExactCountersTextUptoRow, standIns := [], harness := (true, "84affe22846799d18740cbc44cc540d53498c88baea09d688bea66a6a706cd4a"), looks := false }, kinds := [], alts := [], laidByText := true, laidKinds := [.data, .data, .data], laidTests := true, laidLooks := .later }
def FnExactCountersTextUptoCardSaid : Prop := Claim7.holds Tryd.pinned (.plain (OpenSpec.upto fnExactCountersTextSpec)) fnExactCountersTextUptoCard

/-- THE SECOND FORM's CARD OF 'laws.FnExactFractionsText'. -/
def fnExactFractionsTextUptoCard : Claim7 := { stood := { row := fnExactFractionsTextUptoRow, standIns := [], harness := (true, "84affe22846799d18740cbc44cc540d53498c88baea09d688bea66a6a706cd4a"), looks := false }, kinds := [], alts := [], laidByText := true, laidKinds := [.data, .data, .data], laidTests := true, laidLooks := .later }
def FnExactFractionsTextUptoCardSaid : Prop := Claim7.holds Tryd.pinned (.plain (OpenSpec.upto fnExactFractionsTextSpec)) fnExactFractionsTextUptoCard

/-- THE SECOND FORM's CARD OF 'laws.FnExactProgramText'. -/
def fnExactProgramTextUptoCard : Claim7 := { stood := { row := fnExactProgramTextUptoRow, standIns := [], harness := (true, "84affe22846799d18740cbc44cc540d53498c88baea09d688bea66a6a706cd4a"), looks := false }, kinds := [], alts := [], laidByText := true, laidKinds := [.data, .data, .data], laidTests := true, laidLooks := .later }
def FnExactProgramTextUptoCardSaid : Prop := Claim7.holds Tryd.pinned (.plain (OpenSpec.upto fnExactProgramTextSpec)) fnExactProgramTextUptoCard

/-- THE SECOND FORM's CARD OF 'laws.FnExactCyclicText'. -/
def fnExactCyclicTextUptoCard : Claim7 := { stood := { row := fnExactCyclicTextUptoRow, standIns := [], harness := (true, "84affe22846799d18740cbc44cc540d53498c88baea09d688bea66a6a706cd4a"), looks := false }, kinds := [], alts := [], laidByText := true, laidKinds := [.data, .data, .data], laidTests := true, laidLooks := .later }
def FnExactCyclicTextUptoCardSaid : Prop := Claim7.holds Tryd.pinned (.plain (OpenSpec.upto fnExactCyclicTextSpec)) fnExactCyclicTextUptoCard

/-- THE SECOND FORM's CARD OF 'laws.FnExactStoreText'. -/
def fnExactStoreTextUptoCard : Claim7 := { stood := { row := fnExactStoreTextUptoRow, standIns := [], harness := (true, "84affe22846799d18740cbc44cc540d53498c88baea09d688bea66a6a706cd4a"), looks := false }, kinds := [], alts := [], laidByText := true, laidKinds := [.data, .data, .data], laidTests := true, laidLooks := .later }
def FnExactStoreTextUptoCardSaid : Prop := Claim7.holds Tryd.pinned (.plain (OpenSpec.upto fnExactStoreTextSpec)) fnExactStoreTextUptoCard

/-- THE SECOND FORM's CARD OF 'laws.FnExactTagText'. -/
def fnExactTagTextUptoCard : Claim7 := { stood := { row := fnExactTagTextUptoRow, standIns := [], harness := (true, "84affe22846799d18740cbc44cc540d53498c88baea09d688bea66a6a706cd4a"), looks := false }, kinds := [], alts := [], laidByText := true, laidKinds := [.data, .data, .data], laidTests := true, laidLooks := .later }
def FnExactTagTextUptoCardSaid : Prop := Claim7.holds Tryd.pinned (.plain (OpenSpec.upto fnExactTagTextSpec)) fnExactTagTextUptoCard

/-- THE SECOND FORM's CARD OF 'laws.FnExactConfigText'. -/
def fnExactConfigTextUptoCard : Claim7 := { stood := { row := fnExactConfigTextUptoRow, standIns := [], harness := (true, "84affe22846799d18740cbc44cc540d53498c88baea09d688bea66a6a706cd4a"), looks := false }, kinds := [], alts := [], laidByText := true, laidKinds := [.data, .data, .data], laidTests := true, laidLooks := .later }
def FnExactConfigTextUptoCardSaid : Prop := Claim7.holds Tryd.pinned (.plain (OpenSpec.upto fnExactConfigTextSpec)) fnExactConfigTextUptoCard

/-- THE SECOND FORM's CARD OF 'laws.FnExactMultiText'. -/
def fnExactMultiTextUptoCard : Claim7 := { stood := { row := fnExactMultiTextUptoRow, standIns := [], harness := (true, "84affe22846799d18740cbc44cc540d53498c88baea09d688bea66a6a706cd4a"), looks := false }, kinds := [], alts := [], laidByText := true, laidKinds := [.data, .data, .data], laidTests := true, laidLooks := .later }
def FnExactMultiTextUptoCardSaid : Prop := Claim7.holds Tryd.pinned (.plain (OpenSpec.upto fnExactMultiTextSpec)) fnExactMultiTextUptoCard
end Rows
end Go.Proofs.YtjnnkmflpbildaaDoor

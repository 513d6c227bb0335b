/-
  No cell of these rows narrows 'for every input' (looked for: loops, veiled, ifaces, maps, wideKeys, modest, calm, conditions, laid).
  DERIVED. THE GIVEN ROWS OF THIS SEAT. 12 by the template 'for every input the law returns true; each argument reads behind the call as it read before'; 0 by the template 'total and deterministic' (their statements: YtfbgiipmbmdliaaTotals.lean).
  GIVEN WITH THE SEED: the statements are not yours to turn. If you find one false, say at which input.
  Laid BY PROGRAM, IN A SANDBOX (cutbox-rows.mjs): the forced cells as the released guide's own fill.sh prints them over the translation 743d6f717cead694… (all of the seat's roots in one cut). By AI agents, Wed Nov 11 2026. No macro, syntax, notation, axiom, sorry.
-/
import Derived.Test.YtfbgiipmbmdliaaChecked
import GoSem.Claim
import GoSem.ClaimJoined
import GoSem.ClaimMapViews
import Derived.JoinedTies
import Derived.KernelRfl
namespace Go.Proofs.Ytfbgiipmbmdliaa
/- THE CELL 'sum', in the pinned program and in every row, IS THE sha256 OF THE DUMP (.gsa) THAT YtfbgiipmbmdliaaProg.lean LOADS. Nothing in Lean hashes anything: it is a label: what it is worth is what the hold of that sum in a sandbox is worth. -/
noncomputable def Try.pinned : Pinned := { name := "ytfbgiipmbmdliaa", sum := "743d6f717cead694d729310e0b01680bf9a1fdce6e2eef03d9ed86a859d3f1c7", checked := Try.checked }
namespace Rows
def none {H : Type} : Left H := { results := [], args := [] }

/-- 'laws.FnExactCollatzTag': WHATEVER THE INPUT: true; the input reads as it did. -/
def fnExactCollatzTagSpec : ChangeSpec := { name := "fnExactCollatzTag", fn := fun _ => fun
  | [] => { results := [.lit (.bool true)], args := [] }
  | _ => none }
def fnExactCollatzTagRow : OpenClaim := { program := "ytfbgiipmbmdliaa", sum := "743d6f717cead694d729310e0b01680bf9a1fdce6e2eef03d9ed86a859d3f1c7", func := "loop.example/g01079/laws.FnExactCollatzTag", spec := "fnExactCollatzTag", apart := false }
def FnExactCollatzTagSaid : Prop := fnExactCollatzTagRow.holds Try.pinned (OpenSpec.ofChange fnExactCollatzTagSpec)

/-- ITS FALSE NEIGHBOUR: 'it returns false'. Refute it at one input. -/
def fnExactCollatzTagWrong : ChangeSpec := { name := "fnExactCollatzTag", fn := fun _ => fun
  | [] => { results := [.lit (.bool false)], args := [] }
  | _ => none }
def FnExactCollatzTagWrongFalsely : Prop := fnExactCollatzTagRow.holds Try.pinned (OpenSpec.ofChange fnExactCollatzTagWrong)

/-- 'laws.FnExactCopyMulti': WHATEVER THE INPUT: true; the input reads as it did. -/
def fnExactCopyMultiSpec : ChangeSpec := { name := "fnExactCopyMulti", fn := fun _ => fun
  | [d] => { results := [.lit (.bool true)], args := [d] }
  | _ => none }
def fnExactCopyMultiRow : OpenClaim := { program := "ytfbgiipmbmdliaa", sum := "743d6f717cead694d729310e0b01680bf9a1fdce6e2eef03d9ed86a859d3f1c7", func := "loop.example/g01079/laws.FnExactCopyMulti", spec := "fnExactCopyMulti", apart := false }
def FnExactCopyMultiSaid : Prop := fnExactCopyMultiRow.holds Try.pinned (OpenSpec.ofChange fnExactCopyMultiSpec)

/-- ITS FALSE NEIGHBOUR: 'it returns false'. Refute it at one input. -/
def fnExactCopyMultiWrong : ChangeSpec := { name := "fnExactCopyMulti", fn := fun _ => fun
  | [d] => { results := [.lit (.bool false)], args := [d] }
  | _ => none }
def FnExactCopyMultiWrongFalsely : Prop := fnExactCopyMultiRow.holds Try.pinned (OpenSpec.ofChange fnExactCopyMultiWrong)

/-- 'laws.FnExactSameMultiConfig': WHATEVER THE INPUT: true; the input reads as it did. -/
def fnExactSameMultiConfigSpec : ChangeSpec := { name := "fnExactSameMultiConfig", fn := fun _ => fun
  | [d1, d2] => { results := [.lit (.bool true)], args := [d1, d2] }
  | _ => none }
def fnExactSameMultiConfigRow : OpenClaim := { program := "ytfbgiipmbmdliaa", sum := "743d6f717cead694d729310e0b01680bf9a1fdce6e2eef03d9ed86a859d3f1c7", func := "loop.example/g01079/laws.FnExactSameMultiConfig", spec := "fnExactSameMultiConfig", unfollowed := true, recurses := true, apart := false }
def FnExactSameMultiConfigSaid : Prop := fnExactSameMultiConfigRow.holds Try.pinned (OpenSpec.ofChange fnExactSameMultiConfigSpec)

/-- ITS FALSE NEIGHBOUR: 'it returns false'. Refute it at one input. -/
def fnExactSameMultiConfigWrong : ChangeSpec := { name := "fnExactSameMultiConfig", fn := fun _ => fun
  | [d1, d2] => { results := [.lit (.bool false)], args := [d1, d2] }
  | _ => none }
def FnExactSameMultiConfigWrongFalsely : Prop := fnExactSameMultiConfigRow.holds Try.pinned (OpenSpec.ofChange fnExactSameMultiConfigWrong)

/-- 'laws.FnExactMultiSpace': WHATEVER THE INPUT: true; the input reads as it did. -/
def fnExactMultiSpaceSpec : ChangeSpec := { name := "fnExactMultiSpace", fn := fun _ => fun
  | [d] => { results := [.lit (.bool true)], args := [d] }
  | _ => none }
def fnExactMultiSpaceRow : OpenClaim := { program := "ytfbgiipmbmdliaa", sum := "743d6f717cead694d729310e0b01680bf9a1fdce6e2eef03d9ed86a859d3f1c7", func := "loop.example/g01079/laws.FnExactMultiSpace", spec := "fnExactMultiSpace", apart := false }
def FnExactMultiSpaceSaid : Prop := fnExactMultiSpaceRow.holds Try.pinned (OpenSpec.ofChange fnExactMultiSpaceSpec)

/-- ITS FALSE NEIGHBOUR: 'it returns false'. Refute it at one input. -/
def fnExactMultiSpaceWrong : ChangeSpec := { name := "fnExactMultiSpace", fn := fun _ => fun
  | [d] => { results := [.lit (.bool false)], args := [d] }
  | _ => none }
def FnExactMultiSpaceWrongFalsely : Prop := fnExactMultiSpaceRow.holds Try.pinned (OpenSpec.ofChange fnExactMultiSpaceWrong)

/-- 'laws.FnExactValidStore': WHATEVER THE INPUT: true; the input reads as it did. -/
def fnExactValidStoreSpec : ChangeSpec := { name := "fnExactValidStore", fn := fun _ => fun
  | [d1, d2] => { results := [.lit (.bool true)], args := [d1, d2] }
  | _ => none }
def fnExactValidStoreRow : OpenClaim := { program := "ytfbgiipmbmdliaa", sum := "743d6f717cead694d729310e0b01680bf9a1fdce6e2eef03d9ed86a859d3f1c7", func := "loop.example/g01079/laws.FnExactValidStore", spec := "fnExactValidStore", unfollowed := true, recurses := true, apart := false }
def FnExactValidStoreSaid : Prop := fnExactValidStoreRow.holds Try.pinned (OpenSpec.ofChange fnExactValidStoreSpec)

/-- ITS FALSE NEIGHBOUR: 'it returns false'. Refute it at one input. -/
def fnExactValidStoreWrong : ChangeSpec := { name := "fnExactValidStore", fn := fun _ => fun
  | [d1, d2] => { results := [.lit (.bool false)], args := [d1, d2] }
  | _ => none }
def FnExactValidStoreWrongFalsely : Prop := fnExactValidStoreRow.holds Try.pinned (OpenSpec.ofChange fnExactValidStoreWrong)

/-- 'laws.FnExactTapeWord': WHATEVER THE INPUT: true; the input reads as it did. -/
def fnExactTapeWordSpec : ChangeSpec := { name := "fnExactTapeWord", fn := fun _ => fun
  | [d] => { results := [.lit (.bool true)], args := [d] }
  | _ => none }
def fnExactTapeWordRow : OpenClaim := { program := "ytfbgiipmbmdliaa", sum := "743d6f717cead694d729310e0b01680bf9a1fdce6e2eef03d9ed86a859d3f1c7", func := "loop.example/g01079/laws.FnExactTapeWord", spec := "fnExactTapeWord", apart := false }
def FnExactTapeWordSaid : Prop := fnExactTapeWordRow.holds Try.pinned (OpenSpec.ofChange fnExactTapeWordSpec)

/-- ITS FALSE NEIGHBOUR: 'it returns false'. Refute it at one input. -/
def fnExactTapeWordWrong : ChangeSpec := { name := "fnExactTapeWord", fn := fun _ => fun
  | [d] => { results := [.lit (.bool false)], args := [d] }
  | _ => none }
def FnExactTapeWordWrongFalsely : Prop := fnExactTapeWordRow.holds Try.pinned (OpenSpec.ofChange fnExactTapeWordWrong)

/-- 'laws.FnExactIsNormalWord': WHATEVER THE INPUT: true; the input reads as it did. -/
def fnExactIsNormalWordSpec : ChangeSpec := { name := "fnExactIsNormalWord", fn := fun _ => fun
  | [d1, d2] => { results := [.lit (.bool true)], args := [d1, d2] }
  | _ => none }
def fnExactIsNormalWordRow : OpenClaim := { program := "ytfbgiipmbmdliaa", sum := "743d6f717cead694d729310e0b01680bf9a1fdce6e2eef03d9ed86a859d3f1c7", func := "loop.example/g01079/laws.FnExactIsNormalWord", spec := "fnExactIsNormalWord", unfollowed := true, recurses := true, apart := false }
def FnExactIsNormalWordSaid : Prop := fnExactIsNormalWordRow.holds Try.pinned (OpenSpec.ofChange fnExactIsNormalWordSpec)

/-- ITS FALSE NEIGHBOUR: 'it returns false'. Refute it at one input. -/
def fnExactIsNormalWordWrong : ChangeSpec := { name := "fnExactIsNormalWord", fn := fun _ => fun
  | [d1, d2] => { results := [.lit (.bool false)], args := [d1, d2] }
  | _ => none }
def FnExactIsNormalWordWrongFalsely : Prop := fnExactIsNormalWordRow.holds Try.pinned (OpenSpec.ofChange fnExactIsNormalWordWrong)

/-- 'laws.FnExactStartStore': WHATEVER THE INPUT: true; the input reads as it did. -/
def fnExactStartStoreSpec : ChangeSpec := { name := "fnExactStartStore", fn := fun _ => fun
  | [d1, d2] => { results := [.lit (.bool true)], args := [d1, d2] }
  | _ => none }
def fnExactStartStoreRow : OpenClaim := { program := "ytfbgiipmbmdliaa", sum := "743d6f717cead694d729310e0b01680bf9a1fdce6e2eef03d9ed86a859d3f1c7", func := "loop.example/g01079/laws.FnExactStartStore", spec := "fnExactStartStore", unfollowed := true, recurses := true, apart := false }
def FnExactStartStoreSaid : Prop := fnExactStartStoreRow.holds Try.pinned (OpenSpec.ofChange fnExactStartStoreSpec)

/-- ITS FALSE NEIGHBOUR: 'it returns false'. Refute it at one input. -/
def fnExactStartStoreWrong : ChangeSpec := { name := "fnExactStartStore", fn := fun _ => fun
  | [d1, d2] => { results := [.lit (.bool false)], args := [d1, d2] }
  | _ => none }
def FnExactStartStoreWrongFalsely : Prop := fnExactStartStoreRow.holds Try.pinned (OpenSpec.ofChange fnExactStartStoreWrong)

/-- 'laws.FnExactReverseRewrites': WHATEVER THE INPUT: true; the input reads as it did. -/
def fnExactReverseRewritesSpec : ChangeSpec := { name := "fnExactReverseRewrites", fn := fun _ => fun
  | [d] => { results := [.lit (.bool true)], args := [d] }
  | _ => none }
def fnExactReverseRewritesRow : OpenClaim := { program := "ytfbgiipmbmdliaa", sum := "743d6f717cead694d729310e0b01680bf9a1fdce6e2eef03d9ed86a859d3f1c7", func := "loop.example/g01079/laws.FnExactReverseRewrites", spec := "fnExactReverseRewrites", unfollowed := true, recurses := true, apart := false }
def FnExactReverseRewritesSaid : Prop := fnExactReverseRewritesRow.holds Try.pinned (OpenSpec.ofChange fnExactReverseRewritesSpec)

/-- ITS FALSE NEIGHBOUR: 'it returns false'. Refute it at one input. -/
def fnExactReverseRewritesWrong : ChangeSpec := { name := "fnExactReverseRewrites", fn := fun _ => fun
  | [d] => { results := [.lit (.bool false)], args := [d] }
  | _ => none }
def FnExactReverseRewritesWrongFalsely : Prop := fnExactReverseRewritesRow.holds Try.pinned (OpenSpec.ofChange fnExactReverseRewritesWrong)

/-- 'laws.FnExactJoinPrograms': WHATEVER THE INPUT: true; the input reads as it did. -/
def fnExactJoinProgramsSpec : ChangeSpec := { name := "fnExactJoinPrograms", fn := fun _ => fun
  | [d1, d2] => { results := [.lit (.bool true)], args := [d1, d2] }
  | _ => none }
def fnExactJoinProgramsRow : OpenClaim := { program := "ytfbgiipmbmdliaa", sum := "743d6f717cead694d729310e0b01680bf9a1fdce6e2eef03d9ed86a859d3f1c7", func := "loop.example/g01079/laws.FnExactJoinPrograms", spec := "fnExactJoinPrograms", unfollowed := true, recurses := true, apart := false }
def FnExactJoinProgramsSaid : Prop := fnExactJoinProgramsRow.holds Try.pinned (OpenSpec.ofChange fnExactJoinProgramsSpec)

/-- ITS FALSE NEIGHBOUR: 'it returns false'. Refute it at one input. -/
def fnExactJoinProgramsWrong : ChangeSpec := { name := "fnExactJoinPrograms", fn := fun _ => fun
  | [d1, d2] => { results := [.lit (.bool false)], args := [d1, d2] }
  | _ => none }
def FnExactJoinProgramsWrongFalsely : Prop := fnExactJoinProgramsRow.holds Try.pinned (OpenSpec.ofChange fnExactJoinProgramsWrong)

/-- 'laws.FnExactExponentsAt': WHATEVER THE INPUT: true; the input reads as it did. -/
def fnExactExponentsAtSpec : ChangeSpec := { name := "fnExactExponentsAt", fn := fun _ => fun
  | [d1, d2] => { results := [.lit (.bool true)], args := [d1, d2] }
  | _ => none }
def fnExactExponentsAtRow : OpenClaim := { program := "ytfbgiipmbmdliaa", sum := "743d6f717cead694d729310e0b01680bf9a1fdce6e2eef03d9ed86a859d3f1c7", func := "loop.example/g01079/laws.FnExactExponentsAt", spec := "fnExactExponentsAt", unfollowed := true, recurses := true, apart := false }
def FnExactExponentsAtSaid : Prop := fnExactExponentsAtRow.holds Try.pinned (OpenSpec.ofChange fnExactExponentsAtSpec)

/-- ITS FALSE NEIGHBOUR: 'it returns false'. Refute it at one input. -/
def fnExactExponentsAtWrong : ChangeSpec := { name := "fnExactExponentsAt", fn := fun _ => fun
  | [d1, d2] => { results := [.lit (.bool false)], args := [d1, d2] }
  | _ => none }
def FnExactExponentsAtWrongFalsely : Prop := fnExactExponentsAtRow.holds Try.pinned (OpenSpec.ofChange fnExactExponentsAtWrong)

/-- 'laws.FnExactStepFractions': WHATEVER THE INPUT: true; the input reads as it did. -/
def fnExactStepFractionsSpec : ChangeSpec := { name := "fnExactStepFractions", fn := fun _ => fun
  | [d1, d2] => { results := [.lit (.bool true)], args := [d1, d2] }
  | _ => none }
def fnExactStepFractionsRow : OpenClaim := { program := "ytfbgiipmbmdliaa", sum := "743d6f717cead694d729310e0b01680bf9a1fdce6e2eef03d9ed86a859d3f1c7", func := "loop.example/g01079/laws.FnExactStepFractions", spec := "fnExactStepFractions", unfollowed := true, recurses := true, apart := false }
def FnExactStepFractionsSaid : Prop := fnExactStepFractionsRow.holds Try.pinned (OpenSpec.ofChange fnExactStepFractionsSpec)

/-- ITS FALSE NEIGHBOUR: 'it returns false'. Refute it at one input. -/
def fnExactStepFractionsWrong : ChangeSpec := { name := "fnExactStepFractions", fn := fun _ => fun
  | [d1, d2] => { results := [.lit (.bool false)], args := [d1, d2] }
  | _ => none }
def FnExactStepFractionsWrongFalsely : Prop := fnExactStepFractionsRow.holds Try.pinned (OpenSpec.ofChange fnExactStepFractionsWrong)

/- THE SECOND FORM. 'bulk': how many values and letters a reading holds, each counted each time it is reached (what is shared counts as often as it is met; a slice's spare places count too). A statement '..UptoSaid' is the law's where the arguments, and the package variables that the reading takes, are together of bulk at most 1048576: NARROWER than '..Said'. Prove '..Said' where nothing that the law and all that it calls make is longer than what came in: it says more and counts as full. Else prove '..UptoSaid'. A law counts once. -/
mutual
def uptoBulk {H : Type} : DataW H → Nat
  | .lit (.string bytes) => bytes.length + 1
  | .lit _ => 1
  | .nil => 1
  | .ptr d => uptoBulk d + 1
  | .slice elems spare => uptoBulkAll elems + uptoBulkAll spare + 1
  | .agg parts => uptoBulkAll parts + 1
  | .iface _ d => uptoBulk d + 1
  | .map entries => uptoBulkEntries entries + 1
  | .held _ => 1
def uptoBulkAll {H : Type} : List (DataW H) → Nat
  | [] => 0
  | d :: r => uptoBulk d + uptoBulkAll r
def uptoBulkEntries {H : Type} : List (Lit × DataW H) → Nat
  | [] => 0
  | x :: r => uptoBulkEntry x + uptoBulkEntries r
def uptoBulkEntry {H : Type} : Lit × DataW H → Nat
  | (.string bytes, d) => bytes.length + uptoBulk d + 1
  | (_, d) => uptoBulk d + 1
 end
def uptoSmall : (H : Type) → List (DataW H) → Bool := fun _ ds => decide (uptoBulkAll ds ≤ 1048576)
def OpenSpec.upto (s : _root_.Go.ChangeSpec) : _root_.Go.OpenSpec := { _root_.Go.OpenSpec.ofChange s with cond := some uptoSmall }

/-- 'laws.FnExactCollatzTag', WHERE WHAT IT READS IS OF BULK AT MOST 1048576: true; the input reads as it did. -/
def fnExactCollatzTagUptoRow : OpenClaim := { program := "ytfbgiipmbmdliaa", sum := "743d6f717cead694d729310e0b01680bf9a1fdce6e2eef03d9ed86a859d3f1c7", func := "loop.example/g01079/laws.FnExactCollatzTag", spec := "fnExactCollatzTag", apart := false, narrowed := true }
def FnExactCollatzTagUptoSaid : Prop := fnExactCollatzTagUptoRow.holds Try.pinned (OpenSpec.upto fnExactCollatzTagSpec)

/-- 'laws.FnExactCopyMulti', WHERE WHAT IT READS IS OF BULK AT MOST 1048576: true; the input reads as it did. -/
def fnExactCopyMultiUptoRow : OpenClaim := { program := "ytfbgiipmbmdliaa", sum := "743d6f717cead694d729310e0b01680bf9a1fdce6e2eef03d9ed86a859d3f1c7", func := "loop.example/g01079/laws.FnExactCopyMulti", spec := "fnExactCopyMulti", apart := false, narrowed := true }
def FnExactCopyMultiUptoSaid : Prop := fnExactCopyMultiUptoRow.holds Try.pinned (OpenSpec.upto fnExactCopyMultiSpec)

/-- 'laws.FnExactSameMultiConfig', WHERE WHAT IT READS IS OF BULK AT MOST 1048576: true; the input reads as it did. -/
def fnExactSameMultiConfigUptoRow : OpenClaim := { program := "ytfbgiipmbmdliaa", sum := "743d6f717cead694d729310e0b01680bf9a1fdce6e2eef03d9ed86a859d3f1c7", func := "loop.example/g01079/laws.FnExactSameMultiConfig", spec := "fnExactSameMultiConfig", unfollowed := true, recurses := true, apart := false, narrowed := true }
def FnExactSameMultiConfigUptoSaid : Prop := fnExactSameMultiConfigUptoRow.holds Try.pinned (OpenSpec.upto fnExactSameMultiConfigSpec)

/-- 'laws.FnExactMultiSpace', WHERE WHAT IT READS IS OF BULK AT MOST 1048576: true; the input reads as it did. -/
def fnExactMultiSpaceUptoRow : OpenClaim := { program := "ytfbgiipmbmdliaa", sum := "743d6f717cead694d729310e0b01680bf9a1fdce6e2eef03d9ed86a859d3f1c7", func := "loop.example/g01079/laws.FnExactMultiSpace", spec := "fnExactMultiSpace", apart := false, narrowed := true }
def FnExactMultiSpaceUptoSaid : Prop := fnExactMultiSpaceUptoRow.holds Try.pinned (OpenSpec.upto fnExactMultiSpaceSpec)

/-- 'laws.FnExactValidStore', WHERE WHAT IT READS IS OF BULK AT MOST 1048576: true; the input reads as it did. -/
def fnExactValidStoreUptoRow : OpenClaim := { program := "ytfbgiipmbmdliaa", sum := "743d6f717cead694d729310e0b01680bf9a1fdce6e2eef03d9ed86a859d3f1c7", func := "loop.example/g01079/laws.FnExactValidStore", spec := "fnExactValidStore", unfollowed := true, recurses := true, apart := false, narrowed := true }
def FnExactValidStoreUptoSaid : Prop := fnExactValidStoreUptoRow.holds Try.pinned (OpenSpec.upto fnExactValidStoreSpec)

/-- 'laws.FnExactTapeWord', WHERE WHAT IT READS IS OF BULK AT MOST 1048576: true; the input reads as it did. -/
def fnExactTapeWordUptoRow : OpenClaim := { program := "ytfbgiipmbmdliaa", sum := "743d6f717cead694d729310e0b01680bf9a1fdce6e2eef03d9ed86a859d3f1c7", func := "loop.example/g01079/laws.FnExactTapeWord", spec := "fnExactTapeWord", apart := false, narrowed := true }
def FnExactTapeWordUptoSaid : Prop := fnExactTapeWordUptoRow.holds Try.pinned (OpenSpec.upto fnExactTapeWordSpec)

/-- 'laws.FnExactIsNormalWord', WHERE WHAT IT READS IS OF BULK AT MOST 1048576: true; the input reads as it did. -/
def fnExactIsNormalWordUptoRow : OpenClaim := { program := "ytfbgiipmbmdliaa", sum := "743d6f717cead694d729310e0b01680bf9a1fdce6e2eef03d9ed86a859d3f1c7", func := "loop.example/g01079/laws.FnExactIsNormalWord", spec := "fnExactIsNormalWord", unfollowed := true, recurses := true, apart := false, narrowed := true }
def FnExactIsNormalWordUptoSaid : Prop := fnExactIsNormalWordUptoRow.holds Try.pinned (OpenSpec.upto fnExactIsNormalWordSpec)

/-- 'laws.FnExactStartStore', WHERE WHAT IT READS IS OF BULK AT MOST 1048576: true; the input reads as it did. -/
def fnExactStartStoreUptoRow : OpenClaim := { program := "ytfbgiipmbmdliaa", sum := "743d6f717cead694d729310e0b01680bf9a1fdce6e2eef03d9ed86a859d3f1c7", func := "loop.example/g01079/laws.FnExactStartStore", spec := "fnExactStartStore", unfollowed := true, recurses := true, apart := false, narrowed := true }
def FnExactStartStoreUptoSaid : Prop := fnExactStartStoreUptoRow.holds Try.pinned (OpenSpec.upto fnExactStartStoreSpec)

/-- 'laws.FnExactReverseRewrites', WHERE WHAT IT READS IS OF BULK AT MOST 1048576: true; the input reads as it did. -/
def fnExactReverseRewritesUptoRow : OpenClaim := { program := "ytfbgiipmbmdliaa", sum := "743d6f717cead694d729310e0b01680bf9a1fdce6e2eef03d9ed86a859d3f1c7", func := "loop.example/g01079/laws.FnExactReverseRewrites", spec := "fnExactReverseRewrites", unfollowed := true, recurses := true, apart := false, narrowed := true }
def FnExactReverseRewritesUptoSaid : Prop := fnExactReverseRewritesUptoRow.holds Try.pinned (OpenSpec.upto fnExactReverseRewritesSpec)

/-- 'laws.FnExactJoinPrograms', WHERE WHAT IT READS IS OF BULK AT MOST 1048576: true; the input reads as it did. -/
def fnExactJoinProgramsUptoRow : OpenClaim := { program := "ytfbgiipmbmdliaa", sum := "743d6f717cead694d729310e0b01680bf9a1fdce6e2eef03d9ed86a859d3f1c7", func := "loop.example/g01079/laws.FnExactJoinPrograms", spec := "fnExactJoinPrograms", unfollowed := true, recurses := true, apart := false, narrowed := true }
def FnExactJoinProgramsUptoSaid : Prop := fnExactJoinProgramsUptoRow.holds Try.pinned (OpenSpec.upto fnExactJoinProgramsSpec)

/-- 'laws.FnExactExponentsAt', WHERE WHAT IT READS IS OF BULK AT MOST 1048576: true; the input reads as it did. -/
def fnExactExponentsAtUptoRow : OpenClaim := { program := "ytfbgiipmbmdliaa", sum := "743d6f717cead694d729310e0b01680bf9a1fdce6e2eef03d9ed86a859d3f1c7", func := "loop.example/g01079/laws.FnExactExponentsAt", spec := "fnExactExponentsAt", unfollowed := true, recurses := true, apart := false, narrowed := true }
def FnExactExponentsAtUptoSaid : Prop := fnExactExponentsAtUptoRow.holds Try.pinned (OpenSpec.upto fnExactExponentsAtSpec)

/-- 'laws.FnExactStepFractions', WHERE WHAT IT READS IS OF BULK AT MOST 1048576: true; the input reads as it did. -/
def fnExactStepFractionsUptoRow : OpenClaim := { program := "ytfbgiipmbmdliaa", sum := "743d6f717cead694d729310e0b01680bf9a1fdce6e2eef03d9ed86a859d3f1c7", func := "loop.example/g01079/laws.FnExactStepFractions", spec := "fnExactStepFractions", unfollowed := true, recurses := true, apart := false, narrowed := true }
def FnExactStepFractionsUptoSaid : Prop := fnExactStepFractionsUptoRow.holds Try.pinned (OpenSpec.upto fnExactStepFractionsSpec)

end Rows
end Go.Proofs.Ytfbgiipmbmdliaa

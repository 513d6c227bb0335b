/-
  No cell of these rows narrows 'for every input' (looked for: loops, veiled, ifaces, maps, wideKeys, modest, calm, conditions, laid).
  DERIVED. THE GIVEN ROWS OF THIS SEAT. 12 by the template 'for every input the law returns true; each argument reads behind the call as it read before'; 0 by the template 'total and deterministic' (their statements: YtfcajgbehecfbaaTotals.lean).
  GIVEN WITH THE SEED: the statements are not yours to turn. If you find one false, say at which input.
  Laid BY PROGRAM, IN A SANDBOX (cutbox-rows.mjs): the forced cells as the released guide's own fill.sh prints them over the translation 945bf27cdaf48174… (all of the seat's roots in one cut). By AI agents, Wed Nov 11 2026. No macro, syntax, notation, axiom, sorry.
-/
import Derived.Test.YtfcajgbehecfbaaChecked
import GoSem.Claim
import GoSem.ClaimJoined
import GoSem.ClaimMapViews
import Derived.JoinedTies
import Derived.KernelRfl
namespace Go.Proofs.Ytfcajgbehecfbaa
/- THE CELL 'sum', in the pinned program and in every row, IS THE sha256 OF THE DUMP (.gsa) THAT YtfcajgbehecfbaaProg.lean LOADS. Nothing in Lean hashes anything: it is a label: what it is worth is what the hold of that sum in a sandbox is worth. -/
noncomputable def Try.pinned : Pinned := { name := "ytfcajgbehecfbaa", sum := "945bf27cdaf48174164e1cd3e2325fdf9c95dfab38cf6eccb02c22b4975feadf", checked := Try.checked }
namespace Rows
def none {H : Type} : Left H := { results := [], args := [] }

/-- 'laws.FnExactCopyMulti': WHATEVER THE INPUT: true; the input reads as it did. -/
def fnExactCopyMultiSpec : ChangeSpec := { name := "fnExactCopyMulti", fn := fun _ => fun
  | [d] => { results := [.lit (.bool true)], args := [d] }
  | _ => none }
def fnExactCopyMultiRow : OpenClaim := { program := "ytfcajgbehecfbaa", sum := "945bf27cdaf48174164e1cd3e2325fdf9c95dfab38cf6eccb02c22b4975feadf", func := "loop.example/g01079/laws.FnExactCopyMulti", spec := "fnExactCopyMulti", apart := false }
def FnExactCopyMultiSaid : Prop := fnExactCopyMultiRow.holds Try.pinned (OpenSpec.ofChange fnExactCopyMultiSpec)

/-- ITS FALSE NEIGHBOUR: 'it returns false'. Refute it at one input. -/
def fnExactCopyMultiWrong : ChangeSpec := { name := "fnExactCopyMulti", fn := fun _ => fun
  | [d] => { results := [.lit (.bool false)], args := [d] }
  | _ => none }
def FnExactCopyMultiWrongFalsely : Prop := fnExactCopyMultiRow.holds Try.pinned (OpenSpec.ofChange fnExactCopyMultiWrong)

/-- 'laws.FnExactIsNormalWord': WHATEVER THE INPUT: true; the input reads as it did. -/
def fnExactIsNormalWordSpec : ChangeSpec := { name := "fnExactIsNormalWord", fn := fun _ => fun
  | [d1, d2] => { results := [.lit (.bool true)], args := [d1, d2] }
  | _ => none }
def fnExactIsNormalWordRow : OpenClaim := { program := "ytfcajgbehecfbaa", sum := "945bf27cdaf48174164e1cd3e2325fdf9c95dfab38cf6eccb02c22b4975feadf", func := "loop.example/g01079/laws.FnExactIsNormalWord", spec := "fnExactIsNormalWord", unfollowed := true, recurses := true, apart := false }
def FnExactIsNormalWordSaid : Prop := fnExactIsNormalWordRow.holds Try.pinned (OpenSpec.ofChange fnExactIsNormalWordSpec)

/-- ITS FALSE NEIGHBOUR: 'it returns false'. Refute it at one input. -/
def fnExactIsNormalWordWrong : ChangeSpec := { name := "fnExactIsNormalWord", fn := fun _ => fun
  | [d1, d2] => { results := [.lit (.bool false)], args := [d1, d2] }
  | _ => none }
def FnExactIsNormalWordWrongFalsely : Prop := fnExactIsNormalWordRow.holds Try.pinned (OpenSpec.ofChange fnExactIsNormalWordWrong)

/-- 'laws.FnExactStartStore': WHATEVER THE INPUT: true; the input reads as it did. -/
def fnExactStartStoreSpec : ChangeSpec := { name := "fnExactStartStore", fn := fun _ => fun
  | [d1, d2] => { results := [.lit (.bool true)], args := [d1, d2] }
  | _ => none }
def fnExactStartStoreRow : OpenClaim := { program := "ytfcajgbehecfbaa", sum := "945bf27cdaf48174164e1cd3e2325fdf9c95dfab38cf6eccb02c22b4975feadf", func := "loop.example/g01079/laws.FnExactStartStore", spec := "fnExactStartStore", unfollowed := true, recurses := true, apart := false }
def FnExactStartStoreSaid : Prop := fnExactStartStoreRow.holds Try.pinned (OpenSpec.ofChange fnExactStartStoreSpec)

/-- ITS FALSE NEIGHBOUR: 'it returns false'. Refute it at one input. -/
def fnExactStartStoreWrong : ChangeSpec := { name := "fnExactStartStore", fn := fun _ => fun
  | [d1, d2] => { results := [.lit (.bool false)], args := [d1, d2] }
  | _ => none }
def FnExactStartStoreWrongFalsely : Prop := fnExactStartStoreRow.holds Try.pinned (OpenSpec.ofChange fnExactStartStoreWrong)

/-- 'laws.FnExactReverseRewrites': WHATEVER THE INPUT: true; the input reads as it did. -/
def fnExactReverseRewritesSpec : ChangeSpec := { name := "fnExactReverseRewrites", fn := fun _ => fun
  | [d] => { results := [.lit (.bool true)], args := [d] }
  | _ => none }
def fnExactReverseRewritesRow : OpenClaim := { program := "ytfcajgbehecfbaa", sum := "945bf27cdaf48174164e1cd3e2325fdf9c95dfab38cf6eccb02c22b4975feadf", func := "loop.example/g01079/laws.FnExactReverseRewrites", spec := "fnExactReverseRewrites", unfollowed := true, recurses := true, apart := false }
def FnExactReverseRewritesSaid : Prop := fnExactReverseRewritesRow.holds Try.pinned (OpenSpec.ofChange fnExactReverseRewritesSpec)

/-- ITS FALSE NEIGHBOUR: 'it returns false'. Refute it at one input. -/
def fnExactReverseRewritesWrong : ChangeSpec := { name := "fnExactReverseRewrites", fn := fun _ => fun
  | [d] => { results := [.lit (.bool false)], args := [d] }
  | _ => none }
def FnExactReverseRewritesWrongFalsely : Prop := fnExactReverseRewritesRow.holds Try.pinned (OpenSpec.ofChange fnExactReverseRewritesWrong)

/-- 'laws.FnExactJoinPrograms': WHATEVER THE INPUT: true; the input reads as it did. -/
def fnExactJoinProgramsSpec : ChangeSpec := { name := "fnExactJoinPrograms", fn := fun _ => fun
  | [d1, d2] => { results := [.lit (.bool true)], args := [d1, d2] }
  | _ => none }
def fnExactJoinProgramsRow : OpenClaim := { program := "ytfcajgbehecfbaa", sum := "945bf27cdaf48174164e1cd3e2325fdf9c95dfab38cf6eccb02c22b4975feadf", func := "loop.example/g01079/laws.FnExactJoinPrograms", spec := "fnExactJoinPrograms", unfollowed := true, recurses := true, apart := false }
def FnExactJoinProgramsSaid : Prop := fnExactJoinProgramsRow.holds Try.pinned (OpenSpec.ofChange fnExactJoinProgramsSpec)

/-- ITS FALSE NEIGHBOUR: 'it returns false'. Refute it at one input. -/
def fnExactJoinProgramsWrong : ChangeSpec := { name := "fnExactJoinPrograms", fn := fun _ => fun
  | [d1, d2] => { results := [.lit (.bool false)], args := [d1, d2] }
  | _ => none }
def FnExactJoinProgramsWrongFalsely : Prop := fnExactJoinProgramsRow.holds Try.pinned (OpenSpec.ofChange fnExactJoinProgramsWrong)

/-- 'laws.FnExactExponentsAt': WHATEVER THE INPUT: true; the input reads as it did. -/
def fnExactExponentsAtSpec : ChangeSpec := { name := "fnExactExponentsAt", fn := fun _ => fun
  | [d1, d2] => { results := [.lit (.bool true)], args := [d1, d2] }
  | _ => none }
def fnExactExponentsAtRow : OpenClaim := { program := "ytfcajgbehecfbaa", sum := "945bf27cdaf48174164e1cd3e2325fdf9c95dfab38cf6eccb02c22b4975feadf", func := "loop.example/g01079/laws.FnExactExponentsAt", spec := "fnExactExponentsAt", unfollowed := true, recurses := true, apart := false }
def FnExactExponentsAtSaid : Prop := fnExactExponentsAtRow.holds Try.pinned (OpenSpec.ofChange fnExactExponentsAtSpec)

/-- ITS FALSE NEIGHBOUR: 'it returns false'. Refute it at one input. -/
def fnExactExponentsAtWrong : ChangeSpec := { name := "fnExactExponentsAt", fn := fun _ => fun
  | [d1, d2] => { results := [.lit (.bool false)], args := [d1, d2] }
  | _ => none }
def FnExactExponentsAtWrongFalsely : Prop := fnExactExponentsAtRow.holds Try.pinned (OpenSpec.ofChange fnExactExponentsAtWrong)

/-- 'laws.FnExactStepFractions': WHATEVER THE INPUT: true; the input reads as it did. -/
def fnExactStepFractionsSpec : ChangeSpec := { name := "fnExactStepFractions", fn := fun _ => fun
  | [d1, d2] => { results := [.lit (.bool true)], args := [d1, d2] }
  | _ => none }
def fnExactStepFractionsRow : OpenClaim := { program := "ytfcajgbehecfbaa", sum := "945bf27cdaf48174164e1cd3e2325fdf9c95dfab38cf6eccb02c22b4975feadf", func := "loop.example/g01079/laws.FnExactStepFractions", spec := "fnExactStepFractions", unfollowed := true, recurses := true, apart := false }
def FnExactStepFractionsSaid : Prop := fnExactStepFractionsRow.holds Try.pinned (OpenSpec.ofChange fnExactStepFractionsSpec)

/-- ITS FALSE NEIGHBOUR: 'it returns false'. Refute it at one input. -/
def fnExactStepFractionsWrong : ChangeSpec := { name := "fnExactStepFractions", fn := fun _ => fun
  | [d1, d2] => { results := [.lit (.bool false)], args := [d1, d2] }
  | _ => none }
def FnExactStepFractionsWrongFalsely : Prop := fnExactStepFractionsRow.holds Try.pinned (OpenSpec.ofChange fnExactStepFractionsWrong)

/-- 'laws.FnExactValidMulti': WHATEVER THE INPUT: true; the input reads as it did. -/
def fnExactValidMultiSpec : ChangeSpec := { name := "fnExactValidMulti", fn := fun _ => fun
  | [d] => { results := [.lit (.bool true)], args := [d] }
  | _ => none }
def fnExactValidMultiRow : OpenClaim := { program := "ytfcajgbehecfbaa", sum := "945bf27cdaf48174164e1cd3e2325fdf9c95dfab38cf6eccb02c22b4975feadf", func := "loop.example/g01079/laws.FnExactValidMulti", spec := "fnExactValidMulti", apart := false }
def FnExactValidMultiSaid : Prop := fnExactValidMultiRow.holds Try.pinned (OpenSpec.ofChange fnExactValidMultiSpec)

/-- ITS FALSE NEIGHBOUR: 'it returns false'. Refute it at one input. -/
def fnExactValidMultiWrong : ChangeSpec := { name := "fnExactValidMulti", fn := fun _ => fun
  | [d] => { results := [.lit (.bool false)], args := [d] }
  | _ => none }
def FnExactValidMultiWrongFalsely : Prop := fnExactValidMultiRow.holds Try.pinned (OpenSpec.ofChange fnExactValidMultiWrong)

/-- 'laws.FnExactStepProgram': WHATEVER THE INPUT: true; the input reads as it did. -/
def fnExactStepProgramSpec : ChangeSpec := { name := "fnExactStepProgram", fn := fun _ => fun
  | [d1, d2] => { results := [.lit (.bool true)], args := [d1, d2] }
  | _ => none }
def fnExactStepProgramRow : OpenClaim := { program := "ytfcajgbehecfbaa", sum := "945bf27cdaf48174164e1cd3e2325fdf9c95dfab38cf6eccb02c22b4975feadf", func := "loop.example/g01079/laws.FnExactStepProgram", spec := "fnExactStepProgram", unfollowed := true, recurses := true, apart := false }
def FnExactStepProgramSaid : Prop := fnExactStepProgramRow.holds Try.pinned (OpenSpec.ofChange fnExactStepProgramSpec)

/-- ITS FALSE NEIGHBOUR: 'it returns false'. Refute it at one input. -/
def fnExactStepProgramWrong : ChangeSpec := { name := "fnExactStepProgram", fn := fun _ => fun
  | [d1, d2] => { results := [.lit (.bool false)], args := [d1, d2] }
  | _ => none }
def FnExactStepProgramWrongFalsely : Prop := fnExactStepProgramRow.holds Try.pinned (OpenSpec.ofChange fnExactStepProgramWrong)

/-- 'laws.FnExactRunFractions': WHATEVER THE INPUT: true; the input reads as it did. -/
def fnExactRunFractionsSpec : ChangeSpec := { name := "fnExactRunFractions", fn := fun _ => fun
  | [d1, d2, d3] => { results := [.lit (.bool true)], args := [d1, d2, d3] }
  | _ => none }
def fnExactRunFractionsRow : OpenClaim := { program := "ytfcajgbehecfbaa", sum := "945bf27cdaf48174164e1cd3e2325fdf9c95dfab38cf6eccb02c22b4975feadf", func := "loop.example/g01079/laws.FnExactRunFractions", spec := "fnExactRunFractions", unfollowed := true, recurses := true, apart := false }
def FnExactRunFractionsSaid : Prop := fnExactRunFractionsRow.holds Try.pinned (OpenSpec.ofChange fnExactRunFractionsSpec)

/-- ITS FALSE NEIGHBOUR: 'it returns false'. Refute it at one input. -/
def fnExactRunFractionsWrong : ChangeSpec := { name := "fnExactRunFractions", fn := fun _ => fun
  | [d1, d2, d3] => { results := [.lit (.bool false)], args := [d1, d2, d3] }
  | _ => none }
def FnExactRunFractionsWrongFalsely : Prop := fnExactRunFractionsRow.holds Try.pinned (OpenSpec.ofChange fnExactRunFractionsWrong)

/-- 'laws.FnExactPruneProgram': WHATEVER THE INPUT: true; the input reads as it did. -/
def fnExactPruneProgramSpec : ChangeSpec := { name := "fnExactPruneProgram", fn := fun _ => fun
  | [d] => { results := [.lit (.bool true)], args := [d] }
  | _ => none }
def fnExactPruneProgramRow : OpenClaim := { program := "ytfcajgbehecfbaa", sum := "945bf27cdaf48174164e1cd3e2325fdf9c95dfab38cf6eccb02c22b4975feadf", func := "loop.example/g01079/laws.FnExactPruneProgram", spec := "fnExactPruneProgram", unfollowed := true, recurses := true, apart := false }
def FnExactPruneProgramSaid : Prop := fnExactPruneProgramRow.holds Try.pinned (OpenSpec.ofChange fnExactPruneProgramSpec)

/-- ITS FALSE NEIGHBOUR: 'it returns false'. Refute it at one input. -/
def fnExactPruneProgramWrong : ChangeSpec := { name := "fnExactPruneProgram", fn := fun _ => fun
  | [d] => { results := [.lit (.bool false)], args := [d] }
  | _ => none }
def FnExactPruneProgramWrongFalsely : Prop := fnExactPruneProgramRow.holds Try.pinned (OpenSpec.ofChange fnExactPruneProgramWrong)

/-- 'laws.FnExactRunProgram': WHATEVER THE INPUT: true; the input reads as it did. -/
def fnExactRunProgramSpec : ChangeSpec := { name := "fnExactRunProgram", fn := fun _ => fun
  | [d1, d2, d3] => { results := [.lit (.bool true)], args := [d1, d2, d3] }
  | _ => none }
def fnExactRunProgramRow : OpenClaim := { program := "ytfcajgbehecfbaa", sum := "945bf27cdaf48174164e1cd3e2325fdf9c95dfab38cf6eccb02c22b4975feadf", func := "loop.example/g01079/laws.FnExactRunProgram", spec := "fnExactRunProgram", unfollowed := true, recurses := true, apart := false }
def FnExactRunProgramSaid : Prop := fnExactRunProgramRow.holds Try.pinned (OpenSpec.ofChange fnExactRunProgramSpec)

/-- ITS FALSE NEIGHBOUR: 'it returns false'. Refute it at one input. -/
def fnExactRunProgramWrong : ChangeSpec := { name := "fnExactRunProgram", fn := fun _ => fun
  | [d1, d2, d3] => { results := [.lit (.bool false)], args := [d1, d2, d3] }
  | _ => none }
def FnExactRunProgramWrongFalsely : Prop := fnExactRunProgramRow.holds Try.pinned (OpenSpec.ofChange fnExactRunProgramWrong)

/- THE SECOND FORM. 'bulk': how many values and letters a reading holds, each counted each time it is reached (what is shared counts as often as it is met; a slice's spare places count too). A statement '..UptoSaid' is the law's where the arguments, and the package variables that the reading takes, are together of bulk at most 1048576: NARROWER than '..Said'. Prove '..Said' where nothing that the law and all that it calls make is longer than what came in: it says more and counts as full. Else prove '..UptoSaid'. A law counts once. -/
mutual
def uptoBulk {H : Type} : DataW H → Nat
  | .lit (.string bytes) => bytes.length + 1
  | .lit _ => 1
  | .nil => 1
  | .ptr d => uptoBulk d + 1
  | .slice elems spare => uptoBulkAll elems + uptoBulkAll spare + 1
  | .agg parts => uptoBulkAll parts + 1
  | .iface _ d => uptoBulk d + 1
  | .map entries => uptoBulkEntries entries + 1
  | .held _ => 1
def uptoBulkAll {H : Type} : List (DataW H) → Nat
  | [] => 0
  | d :: r => uptoBulk d + uptoBulkAll r
def uptoBulkEntries {H : Type} : List (Lit × DataW H) → Nat
  | [] => 0
  | x :: r => uptoBulkEntry x + uptoBulkEntries r
def uptoBulkEntry {H : Type} : Lit × DataW H → Nat
  | (.string bytes, d) => bytes.length + uptoBulk d + 1
  | (_, d) => uptoBulk d + 1
 end
def uptoSmall : (H : Type) → List (DataW H) → Bool := fun _ ds => decide (uptoBulkAll ds ≤ 1048576)
def OpenSpec.upto (s : _root_.Go.ChangeSpec) : _root_.Go.OpenSpec := { _root_.Go.OpenSpec.ofChange s with cond := some uptoSmall }

/-- 'laws.FnExactCopyMulti', WHERE WHAT IT READS IS OF BULK AT MOST 1048576: true; the input reads as it did. -/
def fnExactCopyMultiUptoRow : OpenClaim := { program := "ytfcajgbehecfbaa", sum := "945bf27cdaf48174164e1cd3e2325fdf9c95dfab38cf6eccb02c22b4975feadf", func := "loop.example/g01079/laws.FnExactCopyMulti", spec := "fnExactCopyMulti", apart := false, narrowed := true }
def FnExactCopyMultiUptoSaid : Prop := fnExactCopyMultiUptoRow.holds Try.pinned (OpenSpec.upto fnExactCopyMultiSpec)

/-- 'laws.FnExactIsNormalWord', WHERE WHAT IT READS IS OF BULK AT MOST 1048576: true; the input reads as it did. -/
def fnExactIsNormalWordUptoRow : OpenClaim := { program := "ytfcajgbehecfbaa", sum := "945bf27cdaf48174164e1cd3e2325fdf9c95dfab38cf6eccb02c22b4975feadf", func := "loop.example/g01079/laws.FnExactIsNormalWord", spec := "fnExactIsNormalWord", unfollowed := true, recurses := true, apart := false, narrowed := true }
def FnExactIsNormalWordUptoSaid : Prop := fnExactIsNormalWordUptoRow.holds Try.pinned (OpenSpec.upto fnExactIsNormalWordSpec)

/-- 'laws.FnExactStartStore', WHERE WHAT IT READS IS OF BULK AT MOST 1048576: true; the input reads as it did. -/
def fnExactStartStoreUptoRow : OpenClaim := { program := "ytfcajgbehecfbaa", sum := "945bf27cdaf48174164e1cd3e2325fdf9c95dfab38cf6eccb02c22b4975feadf", func := "loop.example/g01079/laws.FnExactStartStore", spec := "fnExactStartStore", unfollowed := true, recurses := true, apart := false, narrowed := true }
def FnExactStartStoreUptoSaid : Prop := fnExactStartStoreUptoRow.holds Try.pinned (OpenSpec.upto fnExactStartStoreSpec)

/-- 'laws.FnExactReverseRewrites', WHERE WHAT IT READS IS OF BULK AT MOST 1048576: true; the input reads as it did. -/
def fnExactReverseRewritesUptoRow : OpenClaim := { program := "ytfcajgbehecfbaa", sum := "945bf27cdaf48174164e1cd3e2325fdf9c95dfab38cf6eccb02c22b4975feadf", func := "loop.example/g01079/laws.FnExactReverseRewrites", spec := "fnExactReverseRewrites", unfollowed := true, recurses := true, apart := false, narrowed := true }
def FnExactReverseRewritesUptoSaid : Prop := fnExactReverseRewritesUptoRow.holds Try.pinned (OpenSpec.upto fnExactReverseRewritesSpec)

/-- 'laws.FnExactJoinPrograms', WHERE WHAT IT READS IS OF BULK AT MOST 1048576: true; the input reads as it did. -/
def fnExactJoinProgramsUptoRow : OpenClaim := { program := "ytfcajgbehecfbaa", sum := "945bf27cdaf48174164e1cd3e2325fdf9c95dfab38cf6eccb02c22b4975feadf", func := "loop.example/g01079/laws.FnExactJoinPrograms", spec := "fnExactJoinPrograms", unfollowed := true, recurses := true, apart := false, narrowed := true }
def FnExactJoinProgramsUptoSaid : Prop := fnExactJoinProgramsUptoRow.holds Try.pinned (OpenSpec.upto fnExactJoinProgramsSpec)

/-- 'laws.FnExactExponentsAt', WHERE WHAT IT READS IS OF BULK AT MOST 1048576: true; the input reads as it did. -/
def fnExactExponentsAtUptoRow : OpenClaim := { program := "ytfcajgbehecfbaa", sum := "945bf27cdaf48174164e1cd3e2325fdf9c95dfab38cf6eccb02c22b4975feadf", func := "loop.example/g01079/laws.FnExactExponentsAt", spec := "fnExactExponentsAt", unfollowed := true, recurses := true, apart := false, narrowed := true }
def FnExactExponentsAtUptoSaid : Prop := fnExactExponentsAtUptoRow.holds Try.pinned (OpenSpec.upto fnExactExponentsAtSpec)

/-- 'laws.FnExactStepFractions', WHERE WHAT IT READS IS OF BULK AT MOST 1048576: true; the input reads as it did. -/
def fnExactStepFractionsUptoRow : OpenClaim := { program := "ytfcajgbehecfbaa", sum := "945bf27cdaf48174164e1cd3e2325fdf9c95dfab38cf6eccb02c22b4975feadf", func := "loop.example/g01079/laws.FnExactStepFractions", spec := "fnExactStepFractions", unfollowed := true, recurses := true, apart := false, narrowed := true }
def FnExactStepFractionsUptoSaid : Prop := fnExactStepFractionsUptoRow.holds Try.pinned (OpenSpec.upto fnExactStepFractionsSpec)

/-- 'laws.FnExactValidMulti', WHERE WHAT IT READS IS OF BULK AT MOST 1048576: true; the input reads as it did. -/
def fnExactValidMultiUptoRow : OpenClaim := { program := "ytfcajgbehecfbaa", sum := "945bf27cdaf48174164e1cd3e2325fdf9c95dfab38cf6eccb02c22b4975feadf", func := "loop.example/g01079/laws.FnExactValidMulti", spec := "fnExactValidMulti", apart := false, narrowed := true }
def FnExactValidMultiUptoSaid : Prop := fnExactValidMultiUptoRow.holds Try.pinned (OpenSpec.upto fnExactValidMultiSpec)

/-- 'laws.FnExactStepProgram', WHERE WHAT IT READS IS OF BULK AT MOST 1048576: true; the input reads as it did. -/
def fnExactStepProgramUptoRow : OpenClaim := { program := "ytfcajgbehecfbaa", sum := "945bf27cdaf48174164e1cd3e2325fdf9c95dfab38cf6eccb02c22b4975feadf", func := "loop.example/g01079/laws.FnExactStepProgram", spec := "fnExactStepProgram", unfollowed := true, recurses := true, apart := false, narrowed := true }
def FnExactStepProgramUptoSaid : Prop := fnExactStepProgramUptoRow.holds Try.pinned (OpenSpec.upto fnExactStepProgramSpec)

/-- 'laws.FnExactRunFractions', WHERE WHAT IT READS IS OF BULK AT MOST 1048576: true; the input reads as it did. -/
def fnExactRunFractionsUptoRow : OpenClaim := { program := "ytfcajgbehecfbaa", sum := "945bf27cdaf48174164e1cd3e2325fdf9c95dfab38cf6eccb02c22b4975feadf", func := "loop.example/g01079/laws.FnExactRunFractions", spec := "fnExactRunFractions", unfollowed := true, recurses := true, apart := false, narrowed := true }
def FnExactRunFractionsUptoSaid : Prop := fnExactRunFractionsUptoRow.holds Try.pinned (OpenSpec.upto fnExactRunFractionsSpec)

/-- 'laws.FnExactPruneProgram', WHERE WHAT IT READS IS OF BULK AT MOST 1048576: true; the input reads as it did. -/
def fnExactPruneProgramUptoRow : OpenClaim := { program := "ytfcajgbehecfbaa", sum := "945bf27cdaf48174164e1cd3e2325fdf9c95dfab38cf6eccb02c22b4975feadf", func := "loop.example/g01079/laws.FnExactPruneProgram", spec := "fnExactPruneProgram", unfollowed := true, recurses := true, apart := false, narrowed := true }
def FnExactPruneProgramUptoSaid : Prop := fnExactPruneProgramUptoRow.holds Try.pinned (OpenSpec.upto fnExactPruneProgramSpec)

/-- 'laws.FnExactRunProgram', WHERE WHAT IT READS IS OF BULK AT MOST 1048576: true; the input reads as it did. -/
def fnExactRunProgramUptoRow : OpenClaim := { program := "ytfcajgbehecfbaa", sum := "945bf27cdaf48174164e1cd3e2325fdf9c95dfab38cf6eccb02c22b4975feadf", func := "loop.example/g01079/laws.FnExactRunProgram", spec := "fnExactRunProgram", unfollowed := true, recurses := true, apart := false, narrowed := true }
def FnExactRunProgramUptoSaid : Prop := fnExactRunProgramUptoRow.holds Try.pinned (OpenSpec.upto fnExactRunProgramSpec)

end Rows
end Go.Proofs.Ytfcajgbehecfbaa

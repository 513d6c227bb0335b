/-
  No cell of these rows narrows 'for every input' (looked for: loops, veiled, ifaces, maps, wideKeys, modest, calm, conditions, laid).
  DERIVED. THE GIVEN ROWS OF THIS SEAT. 12 by the template 'for every input the law returns true; each argument reads behind the call as it read before'; 0 by the template 'total and deterministic' (their statements: YtlnakbbngidogaaTotals.lean).
  GIVEN WITH THE SEED: the statements are not yours to turn. If you find one false, say at which input.
  Laid BY PROGRAM, IN A SANDBOX (cutbox-rows.mjs): the forced cells as the released guide's own fill.sh prints them over the translation 3ee5f09e7cf2fa72… (all of the seat's roots in one cut). By AI agents, Wed Nov 11 2026. No macro, syntax, notation, axiom, sorry.
-/
import Derived.Test.YtlnakbbngidogaaChecked
import GoSem.Claim
import GoSem.ClaimJoined
import GoSem.ClaimMapViews
import Derived.JoinedTies
import Derived.KernelRfl
namespace Go.Proofs.Ytlnakbbngidogaa
/- THE CELL 'sum', in the pinned program and in every row, IS THE sha256 OF THE DUMP (.gsa) THAT YtlnakbbngidogaaProg.lean LOADS. Nothing in Lean hashes anything: it is a label: what it is worth is what the hold of that sum in a sandbox is worth. -/
noncomputable def Try.pinned : Pinned := { name := "ytlnakbbngidogaa", sum := "3ee5f09e7cf2fa725dc2f7b753ecbca875b869e3dd83ff78bc1e0ec14727f21a", checked := Try.checked }
namespace Rows
def none {H : Type} : Left H := { results := [], args := [] }

/-- 'laws.FnExactValidFractions': WHATEVER THE INPUT: true; the input reads as it did. -/
def fnExactValidFractionsSpec : ChangeSpec := { name := "fnExactValidFractions", fn := fun _ => fun
  | [d] => { results := [.lit (.bool true)], args := [d] }
  | _ => none }
def fnExactValidFractionsRow : OpenClaim := { program := "ytlnakbbngidogaa", sum := "3ee5f09e7cf2fa725dc2f7b753ecbca875b869e3dd83ff78bc1e0ec14727f21a", func := "loop.example/g01079/laws.FnExactValidFractions", spec := "fnExactValidFractions", unfollowed := true, recurses := true, apart := false }
def FnExactValidFractionsSaid : Prop := fnExactValidFractionsRow.holds Try.pinned (OpenSpec.ofChange fnExactValidFractionsSpec)

/-- ITS FALSE NEIGHBOUR: 'it returns false'. Refute it at one input. -/
def fnExactValidFractionsWrong : ChangeSpec := { name := "fnExactValidFractions", fn := fun _ => fun
  | [d] => { results := [.lit (.bool false)], args := [d] }
  | _ => none }
def FnExactValidFractionsWrongFalsely : Prop := fnExactValidFractionsRow.holds Try.pinned (OpenSpec.ofChange fnExactValidFractionsWrong)

/-- 'laws.FnExactCollatzTag': WHATEVER THE INPUT: true; the input reads as it did. -/
def fnExactCollatzTagSpec : ChangeSpec := { name := "fnExactCollatzTag", fn := fun _ => fun
  | [] => { results := [.lit (.bool true)], args := [] }
  | _ => none }
def fnExactCollatzTagRow : OpenClaim := { program := "ytlnakbbngidogaa", sum := "3ee5f09e7cf2fa725dc2f7b753ecbca875b869e3dd83ff78bc1e0ec14727f21a", func := "loop.example/g01079/laws.FnExactCollatzTag", spec := "fnExactCollatzTag", apart := false }
def FnExactCollatzTagSaid : Prop := fnExactCollatzTagRow.holds Try.pinned (OpenSpec.ofChange fnExactCollatzTagSpec)

/-- ITS FALSE NEIGHBOUR: 'it returns false'. Refute it at one input. -/
def fnExactCollatzTagWrong : ChangeSpec := { name := "fnExactCollatzTag", fn := fun _ => fun
  | [] => { results := [.lit (.bool false)], args := [] }
  | _ => none }
def FnExactCollatzTagWrongFalsely : Prop := fnExactCollatzTagRow.holds Try.pinned (OpenSpec.ofChange fnExactCollatzTagWrong)

/-- 'laws.FnExactValidProgram': WHATEVER THE INPUT: true; the input reads as it did. -/
def fnExactValidProgramSpec : ChangeSpec := { name := "fnExactValidProgram", fn := fun _ => fun
  | [d] => { results := [.lit (.bool true)], args := [d] }
  | _ => none }
def fnExactValidProgramRow : OpenClaim := { program := "ytlnakbbngidogaa", sum := "3ee5f09e7cf2fa725dc2f7b753ecbca875b869e3dd83ff78bc1e0ec14727f21a", func := "loop.example/g01079/laws.FnExactValidProgram", spec := "fnExactValidProgram", unfollowed := true, recurses := true, apart := false }
def FnExactValidProgramSaid : Prop := fnExactValidProgramRow.holds Try.pinned (OpenSpec.ofChange fnExactValidProgramSpec)

/-- ITS FALSE NEIGHBOUR: 'it returns false'. Refute it at one input. -/
def fnExactValidProgramWrong : ChangeSpec := { name := "fnExactValidProgram", fn := fun _ => fun
  | [d] => { results := [.lit (.bool false)], args := [d] }
  | _ => none }
def FnExactValidProgramWrongFalsely : Prop := fnExactValidProgramRow.holds Try.pinned (OpenSpec.ofChange fnExactValidProgramWrong)

/-- 'laws.FnExactIsTwoCounter': WHATEVER THE INPUT: true; the input reads as it did. -/
def fnExactIsTwoCounterSpec : ChangeSpec := { name := "fnExactIsTwoCounter", fn := fun _ => fun
  | [d] => { results := [.lit (.bool true)], args := [d] }
  | _ => none }
def fnExactIsTwoCounterRow : OpenClaim := { program := "ytlnakbbngidogaa", sum := "3ee5f09e7cf2fa725dc2f7b753ecbca875b869e3dd83ff78bc1e0ec14727f21a", func := "loop.example/g01079/laws.FnExactIsTwoCounter", spec := "fnExactIsTwoCounter", unfollowed := true, recurses := true, apart := false }
def FnExactIsTwoCounterSaid : Prop := fnExactIsTwoCounterRow.holds Try.pinned (OpenSpec.ofChange fnExactIsTwoCounterSpec)

/-- ITS FALSE NEIGHBOUR: 'it returns false'. Refute it at one input. -/
def fnExactIsTwoCounterWrong : ChangeSpec := { name := "fnExactIsTwoCounter", fn := fun _ => fun
  | [d] => { results := [.lit (.bool false)], args := [d] }
  | _ => none }
def FnExactIsTwoCounterWrongFalsely : Prop := fnExactIsTwoCounterRow.holds Try.pinned (OpenSpec.ofChange fnExactIsTwoCounterWrong)

/-- 'laws.FnExactValidCyclic': WHATEVER THE INPUT: true; the input reads as it did. -/
def fnExactValidCyclicSpec : ChangeSpec := { name := "fnExactValidCyclic", fn := fun _ => fun
  | [d] => { results := [.lit (.bool true)], args := [d] }
  | _ => none }
def fnExactValidCyclicRow : OpenClaim := { program := "ytlnakbbngidogaa", sum := "3ee5f09e7cf2fa725dc2f7b753ecbca875b869e3dd83ff78bc1e0ec14727f21a", func := "loop.example/g01079/laws.FnExactValidCyclic", spec := "fnExactValidCyclic", unfollowed := true, recurses := true, apart := false }
def FnExactValidCyclicSaid : Prop := fnExactValidCyclicRow.holds Try.pinned (OpenSpec.ofChange fnExactValidCyclicSpec)

/-- ITS FALSE NEIGHBOUR: 'it returns false'. Refute it at one input. -/
def fnExactValidCyclicWrong : ChangeSpec := { name := "fnExactValidCyclic", fn := fun _ => fun
  | [d] => { results := [.lit (.bool false)], args := [d] }
  | _ => none }
def FnExactValidCyclicWrongFalsely : Prop := fnExactValidCyclicRow.holds Try.pinned (OpenSpec.ofChange fnExactValidCyclicWrong)

/-- 'laws.FnExactReduceFractions': WHATEVER THE INPUT: true; the input reads as it did. -/
def fnExactReduceFractionsSpec : ChangeSpec := { name := "fnExactReduceFractions", fn := fun _ => fun
  | [d] => { results := [.lit (.bool true)], args := [d] }
  | _ => none }
def fnExactReduceFractionsRow : OpenClaim := { program := "ytlnakbbngidogaa", sum := "3ee5f09e7cf2fa725dc2f7b753ecbca875b869e3dd83ff78bc1e0ec14727f21a", func := "loop.example/g01079/laws.FnExactReduceFractions", spec := "fnExactReduceFractions", unfollowed := true, recurses := true, apart := false }
def FnExactReduceFractionsSaid : Prop := fnExactReduceFractionsRow.holds Try.pinned (OpenSpec.ofChange fnExactReduceFractionsSpec)

/-- ITS FALSE NEIGHBOUR: 'it returns false'. Refute it at one input. -/
def fnExactReduceFractionsWrong : ChangeSpec := { name := "fnExactReduceFractions", fn := fun _ => fun
  | [d] => { results := [.lit (.bool false)], args := [d] }
  | _ => none }
def FnExactReduceFractionsWrongFalsely : Prop := fnExactReduceFractionsRow.holds Try.pinned (OpenSpec.ofChange fnExactReduceFractionsWrong)

/-- 'laws.FnExactValidRewrites': WHATEVER THE INPUT: true; the input reads as it did. -/
def fnExactValidRewritesSpec : ChangeSpec := { name := "fnExactValidRewrites", fn := fun _ => fun
  | [d] => { results := [.lit (.bool true)], args := [d] }
  | _ => none }
def fnExactValidRewritesRow : OpenClaim := { program := "ytlnakbbngidogaa", sum := "3ee5f09e7cf2fa725dc2f7b753ecbca875b869e3dd83ff78bc1e0ec14727f21a", func := "loop.example/g01079/laws.FnExactValidRewrites", spec := "fnExactValidRewrites", unfollowed := true, recurses := true, apart := false }
def FnExactValidRewritesSaid : Prop := fnExactValidRewritesRow.holds Try.pinned (OpenSpec.ofChange fnExactValidRewritesSpec)

/-- ITS FALSE NEIGHBOUR: 'it returns false'. Refute it at one input. -/
def fnExactValidRewritesWrong : ChangeSpec := { name := "fnExactValidRewrites", fn := fun _ => fun
  | [d] => { results := [.lit (.bool false)], args := [d] }
  | _ => none }
def FnExactValidRewritesWrongFalsely : Prop := fnExactValidRewritesRow.holds Try.pinned (OpenSpec.ofChange fnExactValidRewritesWrong)

/-- 'laws.FnExactValidMarkov': WHATEVER THE INPUT: true; the input reads as it did. -/
def fnExactValidMarkovSpec : ChangeSpec := { name := "fnExactValidMarkov", fn := fun _ => fun
  | [d] => { results := [.lit (.bool true)], args := [d] }
  | _ => none }
def fnExactValidMarkovRow : OpenClaim := { program := "ytlnakbbngidogaa", sum := "3ee5f09e7cf2fa725dc2f7b753ecbca875b869e3dd83ff78bc1e0ec14727f21a", func := "loop.example/g01079/laws.FnExactValidMarkov", spec := "fnExactValidMarkov", unfollowed := true, recurses := true, apart := false }
def FnExactValidMarkovSaid : Prop := fnExactValidMarkovRow.holds Try.pinned (OpenSpec.ofChange fnExactValidMarkovSpec)

/-- ITS FALSE NEIGHBOUR: 'it returns false'. Refute it at one input. -/
def fnExactValidMarkovWrong : ChangeSpec := { name := "fnExactValidMarkov", fn := fun _ => fun
  | [d] => { results := [.lit (.bool false)], args := [d] }
  | _ => none }
def FnExactValidMarkovWrongFalsely : Prop := fnExactValidMarkovRow.holds Try.pinned (OpenSpec.ofChange fnExactValidMarkovWrong)

/-- 'laws.FnExactValidTurn': WHATEVER THE INPUT: true; the input reads as it did. -/
def fnExactValidTurnSpec : ChangeSpec := { name := "fnExactValidTurn", fn := fun _ => fun
  | [d1, d2] => { results := [.lit (.bool true)], args := [d1, d2] }
  | _ => none }
def fnExactValidTurnRow : OpenClaim := { program := "ytlnakbbngidogaa", sum := "3ee5f09e7cf2fa725dc2f7b753ecbca875b869e3dd83ff78bc1e0ec14727f21a", func := "loop.example/g01079/laws.FnExactValidTurn", spec := "fnExactValidTurn", unfollowed := true, recurses := true, apart := false }
def FnExactValidTurnSaid : Prop := fnExactValidTurnRow.holds Try.pinned (OpenSpec.ofChange fnExactValidTurnSpec)

/-- ITS FALSE NEIGHBOUR: 'it returns false'. Refute it at one input. -/
def fnExactValidTurnWrong : ChangeSpec := { name := "fnExactValidTurn", fn := fun _ => fun
  | [d1, d2] => { results := [.lit (.bool false)], args := [d1, d2] }
  | _ => none }
def FnExactValidTurnWrongFalsely : Prop := fnExactValidTurnRow.holds Try.pinned (OpenSpec.ofChange fnExactValidTurnWrong)

/-- 'laws.FnExactCopyMulti': WHATEVER THE INPUT: true; the input reads as it did. -/
def fnExactCopyMultiSpec : ChangeSpec := { name := "fnExactCopyMulti", fn := fun _ => fun
  | [d] => { results := [.lit (.bool true)], args := [d] }
  | _ => none }
def fnExactCopyMultiRow : OpenClaim := { program := "ytlnakbbngidogaa", sum := "3ee5f09e7cf2fa725dc2f7b753ecbca875b869e3dd83ff78bc1e0ec14727f21a", func := "loop.example/g01079/laws.FnExactCopyMulti", spec := "fnExactCopyMulti", apart := false }
def FnExactCopyMultiSaid : Prop := fnExactCopyMultiRow.holds Try.pinned (OpenSpec.ofChange fnExactCopyMultiSpec)

/-- ITS FALSE NEIGHBOUR: 'it returns false'. Refute it at one input. -/
def fnExactCopyMultiWrong : ChangeSpec := { name := "fnExactCopyMulti", fn := fun _ => fun
  | [d] => { results := [.lit (.bool false)], args := [d] }
  | _ => none }
def FnExactCopyMultiWrongFalsely : Prop := fnExactCopyMultiRow.holds Try.pinned (OpenSpec.ofChange fnExactCopyMultiWrong)

/-- 'laws.FnExactSameMultiConfig': WHATEVER THE INPUT: true; the input reads as it did. -/
def fnExactSameMultiConfigSpec : ChangeSpec := { name := "fnExactSameMultiConfig", fn := fun _ => fun
  | [d1, d2] => { results := [.lit (.bool true)], args := [d1, d2] }
  | _ => none }
def fnExactSameMultiConfigRow : OpenClaim := { program := "ytlnakbbngidogaa", sum := "3ee5f09e7cf2fa725dc2f7b753ecbca875b869e3dd83ff78bc1e0ec14727f21a", func := "loop.example/g01079/laws.FnExactSameMultiConfig", spec := "fnExactSameMultiConfig", unfollowed := true, recurses := true, apart := false }
def FnExactSameMultiConfigSaid : Prop := fnExactSameMultiConfigRow.holds Try.pinned (OpenSpec.ofChange fnExactSameMultiConfigSpec)

/-- ITS FALSE NEIGHBOUR: 'it returns false'. Refute it at one input. -/
def fnExactSameMultiConfigWrong : ChangeSpec := { name := "fnExactSameMultiConfig", fn := fun _ => fun
  | [d1, d2] => { results := [.lit (.bool false)], args := [d1, d2] }
  | _ => none }
def FnExactSameMultiConfigWrongFalsely : Prop := fnExactSameMultiConfigRow.holds Try.pinned (OpenSpec.ofChange fnExactSameMultiConfigWrong)

/-- 'laws.FnExactValidTag': WHATEVER THE INPUT: true; the input reads as it did. -/
def fnExactValidTagSpec : ChangeSpec := { name := "fnExactValidTag", fn := fun _ => fun
  | [d] => { results := [.lit (.bool true)], args := [d] }
  | _ => none }
def fnExactValidTagRow : OpenClaim := { program := "ytlnakbbngidogaa", sum := "3ee5f09e7cf2fa725dc2f7b753ecbca875b869e3dd83ff78bc1e0ec14727f21a", func := "loop.example/g01079/laws.FnExactValidTag", spec := "fnExactValidTag", unfollowed := true, recurses := true, apart := false }
def FnExactValidTagSaid : Prop := fnExactValidTagRow.holds Try.pinned (OpenSpec.ofChange fnExactValidTagSpec)

/-- ITS FALSE NEIGHBOUR: 'it returns false'. Refute it at one input. -/
def fnExactValidTagWrong : ChangeSpec := { name := "fnExactValidTag", fn := fun _ => fun
  | [d] => { results := [.lit (.bool false)], args := [d] }
  | _ => none }
def FnExactValidTagWrongFalsely : Prop := fnExactValidTagRow.holds Try.pinned (OpenSpec.ofChange fnExactValidTagWrong)

/- THE SECOND FORM. 'bulk': how many values and letters a reading holds, each counted each time it is reached (what is shared counts as often as it is met; a slice's spare places count too). A statement '..UptoSaid' is the law's where the arguments, and the package variables that the reading takes, are together of bulk at most 1048576: NARROWER than '..Said'. Prove '..Said' where nothing that the law and all that it calls make is longer than what came in: it says more and counts as full. Else prove '..UptoSaid'. A law counts once. -/
mutual
def uptoBulk {H : Type} : DataW H → Nat
  | .lit (.string bytes) => bytes.length + 1
  | .lit _ => 1
  | .nil => 1
  | .ptr d => uptoBulk d + 1
  | .slice elems spare => uptoBulkAll elems + uptoBulkAll spare + 1
  | .agg parts => uptoBulkAll parts + 1
  | .iface _ d => uptoBulk d + 1
  | .map entries => uptoBulkEntries entries + 1
  | .held _ => 1
def uptoBulkAll {H : Type} : List (DataW H) → Nat
  | [] => 0
  | d :: r => uptoBulk d + uptoBulkAll r
def uptoBulkEntries {H : Type} : List (Lit × DataW H) → Nat
  | [] => 0
  | x :: r => uptoBulkEntry x + uptoBulkEntries r
def uptoBulkEntry {H : Type} : Lit × DataW H → Nat
  | (.string bytes, d) => bytes.length + uptoBulk d + 1
  | (_, d) => uptoBulk d + 1
 end
def uptoSmall : (H : Type) → List (DataW H) → Bool := fun _ ds => decide (uptoBulkAll ds ≤ 1048576)
def OpenSpec.upto (s : _root_.Go.ChangeSpec) : _root_.Go.OpenSpec := { _root_.Go.OpenSpec.ofChange s with cond := some uptoSmall }

/-- 'laws.FnExactValidFractions', WHERE WHAT IT READS IS OF BULK AT MOST 1048576: true; the input reads as it did. -/
def fnExactValidFractionsUptoRow : OpenClaim := { program := "ytlnakbbngidogaa", sum := "3ee5f09e7cf2fa725dc2f7b753ecbca875b869e3dd83ff78bc1e0ec14727f21a", func := "loop.example/g01079/laws.FnExactValidFractions", spec := "fnExactValidFractions", unfollowed := true, recurses := true, apart := false, narrowed := true }
def FnExactValidFractionsUptoSaid : Prop := fnExactValidFractionsUptoRow.holds Try.pinned (OpenSpec.upto fnExactValidFractionsSpec)

/-- 'laws.FnExactCollatzTag', WHERE WHAT IT READS IS OF BULK AT MOST 1048576: true; the input reads as it did. -/
def fnExactCollatzTagUptoRow : OpenClaim := { program := "ytlnakbbngidogaa", sum := "3ee5f09e7cf2fa725dc2f7b753ecbca875b869e3dd83ff78bc1e0ec14727f21a", func := "loop.example/g01079/laws.FnExactCollatzTag", spec := "fnExactCollatzTag", apart := false, narrowed := true }
def FnExactCollatzTagUptoSaid : Prop := fnExactCollatzTagUptoRow.holds Try.pinned (OpenSpec.upto fnExactCollatzTagSpec)

/-- 'laws.FnExactValidProgram', WHERE WHAT IT READS IS OF BULK AT MOST 1048576: true; the input reads as it did. -/
def fnExactValidProgramUptoRow : OpenClaim := { program := "ytlnakbbngidogaa", sum := "3ee5f09e7cf2fa725dc2f7b753ecbca875b869e3dd83ff78bc1e0ec14727f21a", func := "loop.example/g01079/laws.FnExactValidProgram", spec := "fnExactValidProgram", unfollowed := true, recurses := true, apart := false, narrowed := true }
def FnExactValidProgramUptoSaid : Prop := fnExactValidProgramUptoRow.holds Try.pinned (OpenSpec.upto fnExactValidProgramSpec)

/-- 'laws.FnExactIsTwoCounter', WHERE WHAT IT READS IS OF BULK AT MOST 1048576: true; the input reads as it did. -/
def fnExactIsTwoCounterUptoRow : OpenClaim := { program := "ytlnakbbngidogaa", sum := "3ee5f09e7cf2fa725dc2f7b753ecbca875b869e3dd83ff78bc1e0ec14727f21a", func := "loop.example/g01079/laws.FnExactIsTwoCounter", spec := "fnExactIsTwoCounter", unfollowed := true, recurses := true, apart := false, narrowed := true }
def FnExactIsTwoCounterUptoSaid : Prop := fnExactIsTwoCounterUptoRow.holds Try.pinned (OpenSpec.upto fnExactIsTwoCounterSpec)

/-- 'laws.FnExactValidCyclic', WHERE WHAT IT READS IS OF BULK AT MOST 1048576: true; the input reads as it did. -/
def fnExactValidCyclicUptoRow : OpenClaim := { program := "ytlnakbbngidogaa", sum := "3ee5f09e7cf2fa725dc2f7b753ecbca875b869e3dd83ff78bc1e0ec14727f21a", func := "loop.example/g01079/laws.FnExactValidCyclic", spec := "fnExactValidCyclic", unfollowed := true, recurses := true, apart := false, narrowed := true }
def FnExactValidCyclicUptoSaid : Prop := fnExactValidCyclicUptoRow.holds Try.pinned (OpenSpec.upto fnExactValidCyclicSpec)

/-- 'laws.FnExactReduceFractions', WHERE WHAT IT READS IS OF BULK AT MOST 1048576: true; the input reads as it did. -/
def fnExactReduceFractionsUptoRow : OpenClaim := { program := "ytlnakbbngidogaa", sum := "3ee5f09e7cf2fa725dc2f7b753ecbca875b869e3dd83ff78bc1e0ec14727f21a", func := "loop.example/g01079/laws.FnExactReduceFractions", spec := "fnExactReduceFractions", unfollowed := true, recurses := true, apart := false, narrowed := true }
def FnExactReduceFractionsUptoSaid : Prop := fnExactReduceFractionsUptoRow.holds Try.pinned (OpenSpec.upto fnExactReduceFractionsSpec)

/-- 'laws.FnExactValidRewrites', WHERE WHAT IT READS IS OF BULK AT MOST 1048576: true; the input reads as it did. -/
def fnExactValidRewritesUptoRow : OpenClaim := { program := "ytlnakbbngidogaa", sum := "3ee5f09e7cf2fa725dc2f7b753ecbca875b869e3dd83ff78bc1e0ec14727f21a", func := "loop.example/g01079/laws.FnExactValidRewrites", spec := "fnExactValidRewrites", unfollowed := true, recurses := true, apart := false, narrowed := true }
def FnExactValidRewritesUptoSaid : Prop := fnExactValidRewritesUptoRow.holds Try.pinned (OpenSpec.upto fnExactValidRewritesSpec)

/-- 'laws.FnExactValidMarkov', WHERE WHAT IT READS IS OF BULK AT MOST 1048576: true; the input reads as it did. -/
def fnExactValidMarkovUptoRow : OpenClaim := { program := "ytlnakbbngidogaa", sum := "3ee5f09e7cf2fa725dc2f7b753ecbca875b869e3dd83ff78bc1e0ec14727f21a", func := "loop.example/g01079/laws.FnExactValidMarkov", spec := "fnExactValidMarkov", unfollowed := true, recurses := true, apart := false, narrowed := true }
def FnExactValidMarkovUptoSaid : Prop := fnExactValidMarkovUptoRow.holds Try.pinned (OpenSpec.upto fnExactValidMarkovSpec)

/-- 'laws.FnExactValidTurn', WHERE WHAT IT READS IS OF BULK AT MOST 1048576: true; the input reads as it did. -/
def fnExactValidTurnUptoRow : OpenClaim := { program := "ytlnakbbngidogaa", sum := "3ee5f09e7cf2fa725dc2f7b753ecbca875b869e3dd83ff78bc1e0ec14727f21a", func := "loop.example/g01079/laws.FnExactValidTurn", spec := "fnExactValidTurn", unfollowed := true, recurses := true, apart := false, narrowed := true }
def FnExactValidTurnUptoSaid : Prop := fnExactValidTurnUptoRow.holds Try.pinned (OpenSpec.upto fnExactValidTurnSpec)

/-- 'laws.FnExactCopyMulti', WHERE WHAT IT READS IS OF BULK AT MOST 1048576: true; the input reads as it did. -/
def fnExactCopyMultiUptoRow : OpenClaim := { program := "ytlnakbbngidogaa", sum := "3ee5f09e7cf2fa725dc2f7b753ecbca875b869e3dd83ff78bc1e0ec14727f21a", func := "loop.example/g01079/laws.FnExactCopyMulti", spec := "fnExactCopyMulti", apart := false, narrowed := true }
def FnExactCopyMultiUptoSaid : Prop := fnExactCopyMultiUptoRow.holds Try.pinned (OpenSpec.upto fnExactCopyMultiSpec)

/-- 'laws.FnExactSameMultiConfig', WHERE WHAT IT READS IS OF BULK AT MOST 1048576: true; the input reads as it did. -/
def fnExactSameMultiConfigUptoRow : OpenClaim := { program := "ytlnakbbngidogaa", sum := "3ee5f09e7cf2fa725dc2f7b753ecbca875b869e3dd83ff78bc1e0ec14727f21a", func := "loop.example/g01079/laws.FnExactSameMultiConfig", spec := "fnExactSameMultiConfig", unfollowed := true, recurses := true, apart := false, narrowed := true }
def FnExactSameMultiConfigUptoSaid : Prop := fnExactSameMultiConfigUptoRow.holds Try.pinned (OpenSpec.upto fnExactSameMultiConfigSpec)

/-- 'laws.FnExactValidTag', WHERE WHAT IT READS IS OF BULK AT MOST 1048576: true; the input reads as it did. -/
def fnExactValidTagUptoRow : OpenClaim := { program := "ytlnakbbngidogaa", sum := "3ee5f09e7cf2fa725dc2f7b753ecbca875b869e3dd83ff78bc1e0ec14727f21a", func := "loop.example/g01079/laws.FnExactValidTag", spec := "fnExactValidTag", unfollowed := true, recurses := true, apart := false, narrowed := true }
def FnExactValidTagUptoSaid : Prop := fnExactValidTagUptoRow.holds Try.pinned (OpenSpec.upto fnExactValidTagSpec)

end Rows
end Go.Proofs.Ytlnakbbngidogaa

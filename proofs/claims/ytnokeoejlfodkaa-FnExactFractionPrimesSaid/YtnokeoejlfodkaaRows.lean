/-
  No cell of these rows narrows 'for every input' (looked for: loops, veiled, ifaces, maps, wideKeys, modest, calm, conditions, laid).
  DERIVED. THE GIVEN ROWS OF THIS SEAT. 12 by the template 'for every input the law returns true; each argument reads behind the call as it read before'; 0 by the template 'total and deterministic' (their statements: YtnokeoejlfodkaaTotals.lean).
  GIVEN WITH THE SEED: the statements are not yours to turn. If you find one false, say at which input.
  Laid BY PROGRAM, IN A SANDBOX (cutbox-rows.mjs): the forced cells as the released guide's own fill.sh prints them over the translation 53bcd0f88feaa14c… (all of the seat's roots in one cut). By AI agents, Wed Nov 11 2026. No macro, syntax, notation, axiom, sorry.
-/
import Derived.Test.YtnokeoejlfodkaaChecked
import GoSem.Claim
import GoSem.ClaimJoined
import GoSem.ClaimMapViews
import Derived.JoinedTies
import Derived.KernelRfl
namespace Go.Proofs.Ytnokeoejlfodkaa
/- THE CELL 'sum', in the pinned program and in every row, IS THE sha256 OF THE DUMP (.gsa) THAT YtnokeoejlfodkaaProg.lean LOADS. Nothing in Lean hashes anything: it is a label: what it is worth is what the hold of that sum in a sandbox is worth. -/
noncomputable def Try.pinned : Pinned := { name := "ytnokeoejlfodkaa", sum := "53bcd0f88feaa14c3c4150fd10d40b2702f1af78545aec58c512c8e67168eb8c", checked := Try.checked }
namespace Rows
def none {H : Type} : Left H := { results := [], args := [] }

/-- 'laws.FnExactJoinPrograms': WHATEVER THE INPUT: true; the input reads as it did. -/
def fnExactJoinProgramsSpec : ChangeSpec := { name := "fnExactJoinPrograms", fn := fun _ => fun
  | [d1, d2] => { results := [.lit (.bool true)], args := [d1, d2] }
  | _ => none }
def fnExactJoinProgramsRow : OpenClaim := { program := "ytnokeoejlfodkaa", sum := "53bcd0f88feaa14c3c4150fd10d40b2702f1af78545aec58c512c8e67168eb8c", func := "loop.example/g01079/laws.FnExactJoinPrograms", spec := "fnExactJoinPrograms", unfollowed := true, recurses := true, plainKeys := false, apart := false }
def FnExactJoinProgramsSaid : Prop := fnExactJoinProgramsRow.holds Try.pinned (OpenSpec.ofChange fnExactJoinProgramsSpec)

/-- ITS FALSE NEIGHBOUR: 'it returns false'. Refute it at one input. -/
def fnExactJoinProgramsWrong : ChangeSpec := { name := "fnExactJoinPrograms", fn := fun _ => fun
  | [d1, d2] => { results := [.lit (.bool false)], args := [d1, d2] }
  | _ => none }
def FnExactJoinProgramsWrongFalsely : Prop := fnExactJoinProgramsRow.holds Try.pinned (OpenSpec.ofChange fnExactJoinProgramsWrong)

/-- 'laws.FnExactPruneProgram': WHATEVER THE INPUT: true; the input reads as it did. -/
def fnExactPruneProgramSpec : ChangeSpec := { name := "fnExactPruneProgram", fn := fun _ => fun
  | [d] => { results := [.lit (.bool true)], args := [d] }
  | _ => none }
def fnExactPruneProgramRow : OpenClaim := { program := "ytnokeoejlfodkaa", sum := "53bcd0f88feaa14c3c4150fd10d40b2702f1af78545aec58c512c8e67168eb8c", func := "loop.example/g01079/laws.FnExactPruneProgram", spec := "fnExactPruneProgram", unfollowed := true, recurses := true, plainKeys := false, apart := false }
def FnExactPruneProgramSaid : Prop := fnExactPruneProgramRow.holds Try.pinned (OpenSpec.ofChange fnExactPruneProgramSpec)

/-- ITS FALSE NEIGHBOUR: 'it returns false'. Refute it at one input. -/
def fnExactPruneProgramWrong : ChangeSpec := { name := "fnExactPruneProgram", fn := fun _ => fun
  | [d] => { results := [.lit (.bool false)], args := [d] }
  | _ => none }
def FnExactPruneProgramWrongFalsely : Prop := fnExactPruneProgramRow.holds Try.pinned (OpenSpec.ofChange fnExactPruneProgramWrong)

/-- 'laws.FnExactOverlapsOf': WHATEVER THE INPUT: true; the input reads as it did. -/
def fnExactOverlapsOfSpec : ChangeSpec := { name := "fnExactOverlapsOf", fn := fun _ => fun
  | [d] => { results := [.lit (.bool true)], args := [d] }
  | _ => none }
def fnExactOverlapsOfRow : OpenClaim := { program := "ytnokeoejlfodkaa", sum := "53bcd0f88feaa14c3c4150fd10d40b2702f1af78545aec58c512c8e67168eb8c", func := "loop.example/g01079/laws.FnExactOverlapsOf", spec := "fnExactOverlapsOf", unfollowed := true, recurses := true, plainKeys := false, apart := false }
def FnExactOverlapsOfSaid : Prop := fnExactOverlapsOfRow.holds Try.pinned (OpenSpec.ofChange fnExactOverlapsOfSpec)

/-- ITS FALSE NEIGHBOUR: 'it returns false'. Refute it at one input. -/
def fnExactOverlapsOfWrong : ChangeSpec := { name := "fnExactOverlapsOf", fn := fun _ => fun
  | [d] => { results := [.lit (.bool false)], args := [d] }
  | _ => none }
def FnExactOverlapsOfWrongFalsely : Prop := fnExactOverlapsOfRow.holds Try.pinned (OpenSpec.ofChange fnExactOverlapsOfWrong)

/-- 'laws.FnExactTraceProgram': WHATEVER THE INPUT: true; the input reads as it did. -/
def fnExactTraceProgramSpec : ChangeSpec := { name := "fnExactTraceProgram", fn := fun _ => fun
  | [d1, d2, d3] => { results := [.lit (.bool true)], args := [d1, d2, d3] }
  | _ => none }
def fnExactTraceProgramRow : OpenClaim := { program := "ytnokeoejlfodkaa", sum := "53bcd0f88feaa14c3c4150fd10d40b2702f1af78545aec58c512c8e67168eb8c", func := "loop.example/g01079/laws.FnExactTraceProgram", spec := "fnExactTraceProgram", unfollowed := true, recurses := true, plainKeys := false, apart := false }
def FnExactTraceProgramSaid : Prop := fnExactTraceProgramRow.holds Try.pinned (OpenSpec.ofChange fnExactTraceProgramSpec)

/-- ITS FALSE NEIGHBOUR: 'it returns false'. Refute it at one input. -/
def fnExactTraceProgramWrong : ChangeSpec := { name := "fnExactTraceProgram", fn := fun _ => fun
  | [d1, d2, d3] => { results := [.lit (.bool false)], args := [d1, d2, d3] }
  | _ => none }
def FnExactTraceProgramWrongFalsely : Prop := fnExactTraceProgramRow.holds Try.pinned (OpenSpec.ofChange fnExactTraceProgramWrong)

/-- 'laws.FnExactPowersSeen': WHATEVER THE INPUT: true; the input reads as it did. -/
def fnExactPowersSeenSpec : ChangeSpec := { name := "fnExactPowersSeen", fn := fun _ => fun
  | [d1, d2, d3, d4] => { results := [.lit (.bool true)], args := [d1, d2, d3, d4] }
  | _ => none }
def fnExactPowersSeenRow : OpenClaim := { program := "ytnokeoejlfodkaa", sum := "53bcd0f88feaa14c3c4150fd10d40b2702f1af78545aec58c512c8e67168eb8c", func := "loop.example/g01079/laws.FnExactPowersSeen", spec := "fnExactPowersSeen", unfollowed := true, recurses := true, plainKeys := false, apart := false }
def FnExactPowersSeenSaid : Prop := fnExactPowersSeenRow.holds Try.pinned (OpenSpec.ofChange fnExactPowersSeenSpec)

/-- ITS FALSE NEIGHBOUR: 'it returns false'. Refute it at one input. -/
def fnExactPowersSeenWrong : ChangeSpec := { name := "fnExactPowersSeen", fn := fun _ => fun
  | [d1, d2, d3, d4] => { results := [.lit (.bool false)], args := [d1, d2, d3, d4] }
  | _ => none }
def FnExactPowersSeenWrongFalsely : Prop := fnExactPowersSeenRow.holds Try.pinned (OpenSpec.ofChange fnExactPowersSeenWrong)

/-- 'laws.FnExactValidMultiConfig': WHATEVER THE INPUT: true; the input reads as it did. -/
def fnExactValidMultiConfigSpec : ChangeSpec := { name := "fnExactValidMultiConfig", fn := fun _ => fun
  | [d1, d2] => { results := [.lit (.bool true)], args := [d1, d2] }
  | _ => none }
def fnExactValidMultiConfigRow : OpenClaim := { program := "ytnokeoejlfodkaa", sum := "53bcd0f88feaa14c3c4150fd10d40b2702f1af78545aec58c512c8e67168eb8c", func := "loop.example/g01079/laws.FnExactValidMultiConfig", spec := "fnExactValidMultiConfig", unfollowed := true, recurses := true, plainKeys := false, apart := false }
def FnExactValidMultiConfigSaid : Prop := fnExactValidMultiConfigRow.holds Try.pinned (OpenSpec.ofChange fnExactValidMultiConfigSpec)

/-- ITS FALSE NEIGHBOUR: 'it returns false'. Refute it at one input. -/
def fnExactValidMultiConfigWrong : ChangeSpec := { name := "fnExactValidMultiConfig", fn := fun _ => fun
  | [d1, d2] => { results := [.lit (.bool false)], args := [d1, d2] }
  | _ => none }
def FnExactValidMultiConfigWrongFalsely : Prop := fnExactValidMultiConfigRow.holds Try.pinned (OpenSpec.ofChange fnExactValidMultiConfigWrong)

/-- 'laws.FnExactHaltingReads': WHATEVER THE INPUT: true; the input reads as it did. -/
def fnExactHaltingReadsSpec : ChangeSpec := { name := "fnExactHaltingReads", fn := fun _ => fun
  | [d1, d2] => { results := [.lit (.bool true)], args := [d1, d2] }
  | _ => none }
def fnExactHaltingReadsRow : OpenClaim := { program := "ytnokeoejlfodkaa", sum := "53bcd0f88feaa14c3c4150fd10d40b2702f1af78545aec58c512c8e67168eb8c", func := "loop.example/g01079/laws.FnExactHaltingReads", spec := "fnExactHaltingReads", unfollowed := true, recurses := true, plainKeys := false, apart := false }
def FnExactHaltingReadsSaid : Prop := fnExactHaltingReadsRow.holds Try.pinned (OpenSpec.ofChange fnExactHaltingReadsSpec)

/-- ITS FALSE NEIGHBOUR: 'it returns false'. Refute it at one input. -/
def fnExactHaltingReadsWrong : ChangeSpec := { name := "fnExactHaltingReads", fn := fun _ => fun
  | [d1, d2] => { results := [.lit (.bool false)], args := [d1, d2] }
  | _ => none }
def FnExactHaltingReadsWrongFalsely : Prop := fnExactHaltingReadsRow.holds Try.pinned (OpenSpec.ofChange fnExactHaltingReadsWrong)

/-- 'laws.FnExactStartMulti': WHATEVER THE INPUT: true; the input reads as it did. -/
def fnExactStartMultiSpec : ChangeSpec := { name := "fnExactStartMulti", fn := fun _ => fun
  | [d1, d2] => { results := [.lit (.bool true)], args := [d1, d2] }
  | _ => none }
def fnExactStartMultiRow : OpenClaim := { program := "ytnokeoejlfodkaa", sum := "53bcd0f88feaa14c3c4150fd10d40b2702f1af78545aec58c512c8e67168eb8c", func := "loop.example/g01079/laws.FnExactStartMulti", spec := "fnExactStartMulti", plainKeys := false, apart := false }
def FnExactStartMultiSaid : Prop := fnExactStartMultiRow.holds Try.pinned (OpenSpec.ofChange fnExactStartMultiSpec)

/-- ITS FALSE NEIGHBOUR: 'it returns false'. Refute it at one input. -/
def fnExactStartMultiWrong : ChangeSpec := { name := "fnExactStartMulti", fn := fun _ => fun
  | [d1, d2] => { results := [.lit (.bool false)], args := [d1, d2] }
  | _ => none }
def FnExactStartMultiWrongFalsely : Prop := fnExactStartMultiRow.holds Try.pinned (OpenSpec.ofChange fnExactStartMultiWrong)

/-- 'laws.FnExactRegistersOf': WHATEVER THE INPUT: true; the input reads as it did. -/
def fnExactRegistersOfSpec : ChangeSpec := { name := "fnExactRegistersOf", fn := fun _ => fun
  | [d] => { results := [.lit (.bool true)], args := [d] }
  | _ => none }
def fnExactRegistersOfRow : OpenClaim := { program := "ytnokeoejlfodkaa", sum := "53bcd0f88feaa14c3c4150fd10d40b2702f1af78545aec58c512c8e67168eb8c", func := "loop.example/g01079/laws.FnExactRegistersOf", spec := "fnExactRegistersOf", unfollowed := true, recurses := true, plainKeys := false, apart := false }
def FnExactRegistersOfSaid : Prop := fnExactRegistersOfRow.holds Try.pinned (OpenSpec.ofChange fnExactRegistersOfSpec)

/-- ITS FALSE NEIGHBOUR: 'it returns false'. Refute it at one input. -/
def fnExactRegistersOfWrong : ChangeSpec := { name := "fnExactRegistersOf", fn := fun _ => fun
  | [d] => { results := [.lit (.bool false)], args := [d] }
  | _ => none }
def FnExactRegistersOfWrongFalsely : Prop := fnExactRegistersOfRow.holds Try.pinned (OpenSpec.ofChange fnExactRegistersOfWrong)

/-- 'laws.FnExactMapRegisters': WHATEVER THE INPUT: true; the input reads as it did. -/
def fnExactMapRegistersSpec : ChangeSpec := { name := "fnExactMapRegisters", fn := fun _ => fun
  | [d1, d2] => { results := [.lit (.bool true)], args := [d1, d2] }
  | _ => none }
def fnExactMapRegistersRow : OpenClaim := { program := "ytnokeoejlfodkaa", sum := "53bcd0f88feaa14c3c4150fd10d40b2702f1af78545aec58c512c8e67168eb8c", func := "loop.example/g01079/laws.FnExactMapRegisters", spec := "fnExactMapRegisters", unfollowed := true, recurses := true, plainKeys := false, apart := false }
def FnExactMapRegistersSaid : Prop := fnExactMapRegistersRow.holds Try.pinned (OpenSpec.ofChange fnExactMapRegistersSpec)

/-- ITS FALSE NEIGHBOUR: 'it returns false'. Refute it at one input. -/
def fnExactMapRegistersWrong : ChangeSpec := { name := "fnExactMapRegisters", fn := fun _ => fun
  | [d1, d2] => { results := [.lit (.bool false)], args := [d1, d2] }
  | _ => none }
def FnExactMapRegistersWrongFalsely : Prop := fnExactMapRegistersRow.holds Try.pinned (OpenSpec.ofChange fnExactMapRegistersWrong)

/-- 'laws.FnExactFractionPrimes': WHATEVER THE INPUT: true; the input reads as it did. -/
def fnExactFractionPrimesSpec : ChangeSpec := { name := "fnExactFractionPrimes", fn := fun _ => fun
  | [d] => { results := [.lit (.bool true)], args := [d] }
  | _ => none }
def fnExactFractionPrimesRow : OpenClaim := { program := "ytnokeoejlfodkaa", sum := "53bcd0f88feaa14c3c4150fd10d40b2702f1af78545aec58c512c8e67168eb8c", func := "loop.example/g01079/laws.FnExactFractionPrimes", spec := "fnExactFractionPrimes", unfollowed := true, recurses := true, plainKeys := false, apart := false }
def FnExactFractionPrimesSaid : Prop := fnExactFractionPrimesRow.holds Try.pinned (OpenSpec.ofChange fnExactFractionPrimesSpec)

/-- ITS FALSE NEIGHBOUR: 'it returns false'. Refute it at one input. -/
def fnExactFractionPrimesWrong : ChangeSpec := { name := "fnExactFractionPrimes", fn := fun _ => fun
  | [d] => { results := [.lit (.bool false)], args := [d] }
  | _ => none }
def FnExactFractionPrimesWrongFalsely : Prop := fnExactFractionPrimesRow.holds Try.pinned (OpenSpec.ofChange fnExactFractionPrimesWrong)

/-- 'laws.FnExactPalindromeMulti': WHATEVER THE INPUT: true; the input reads as it did. -/
def fnExactPalindromeMultiSpec : ChangeSpec := { name := "fnExactPalindromeMulti", fn := fun _ => fun
  | [d] => { results := [.lit (.bool true)], args := [d] }
  | _ => none }
def fnExactPalindromeMultiRow : OpenClaim := { program := "ytnokeoejlfodkaa", sum := "53bcd0f88feaa14c3c4150fd10d40b2702f1af78545aec58c512c8e67168eb8c", func := "loop.example/g01079/laws.FnExactPalindromeMulti", spec := "fnExactPalindromeMulti", unfollowed := true, recurses := true, plainKeys := false, apart := false }
def FnExactPalindromeMultiSaid : Prop := fnExactPalindromeMultiRow.holds Try.pinned (OpenSpec.ofChange fnExactPalindromeMultiSpec)

/-- ITS FALSE NEIGHBOUR: 'it returns false'. Refute it at one input. -/
def fnExactPalindromeMultiWrong : ChangeSpec := { name := "fnExactPalindromeMulti", fn := fun _ => fun
  | [d] => { results := [.lit (.bool false)], args := [d] }
  | _ => none }
def FnExactPalindromeMultiWrongFalsely : Prop := fnExactPalindromeMultiRow.holds Try.pinned (OpenSpec.ofChange fnExactPalindromeMultiWrong)

/- THE SECOND FORM. 'bulk': how many values and letters a reading holds, each counted each time it is reached (what is shared counts as often as it is met; a slice's spare places count too). A statement '..UptoSaid' is the law's where the arguments, and the package variables that the reading takes, are together of bulk at most 1048576: NARROWER than '..Said'. Prove '..Said' where nothing that the law and all that it calls make is longer than what came in: it says more and counts as full. Else prove '..UptoSaid'. A law counts once. -/
mutual
def uptoBulk {H : Type} : DataW H → Nat
  | .lit (.string bytes) => bytes.length + 1
  | .lit _ => 1
  | .nil => 1
  | .ptr d => uptoBulk d + 1
  | .slice elems spare => uptoBulkAll elems + uptoBulkAll spare + 1
  | .agg parts => uptoBulkAll parts + 1
  | .iface _ d => uptoBulk d + 1
  | .map entries => uptoBulkEntries entries + 1
  | .held _ => 1
def uptoBulkAll {H : Type} : List (DataW H) → Nat
  | [] => 0
  | d :: r => uptoBulk d + uptoBulkAll r
def uptoBulkEntries {H : Type} : List (Lit × DataW H) → Nat
  | [] => 0
  | x :: r => uptoBulkEntry x + uptoBulkEntries r
def uptoBulkEntry {H : Type} : Lit × DataW H → Nat
  | (.string bytes, d) => bytes.length + uptoBulk d + 1
  | (_, d) => uptoBulk d + 1
 end
def uptoSmall : (H : Type) → List (DataW H) → Bool := fun _ ds => decide (uptoBulkAll ds ≤ 1048576)
def OpenSpec.upto (s : _root_.Go.ChangeSpec) : _root_.Go.OpenSpec := { _root_.Go.OpenSpec.ofChange s with cond := some uptoSmall }

/-- 'laws.FnExactJoinPrograms', WHERE WHAT IT READS IS OF BULK AT MOST 1048576: true; the input reads as it did. -/
def fnExactJoinProgramsUptoRow : OpenClaim := { program := "ytnokeoejlfodkaa", sum := "53bcd0f88feaa14c3c4150fd10d40b2702f1af78545aec58c512c8e67168eb8c", func := "loop.example/g01079/laws.FnExactJoinPrograms", spec := "fnExactJoinPrograms", unfollowed := true, recurses := true, plainKeys := false, apart := false, narrowed := true }
def FnExactJoinProgramsUptoSaid : Prop := fnExactJoinProgramsUptoRow.holds Try.pinned (OpenSpec.upto fnExactJoinProgramsSpec)

/-- 'laws.FnExactPruneProgram', WHERE WHAT IT READS IS OF BULK AT MOST 1048576: true; the input reads as it did. -/
def fnExactPruneProgramUptoRow : OpenClaim := { program := "ytnokeoejlfodkaa", sum := "53bcd0f88feaa14c3c4150fd10d40b2702f1af78545aec58c512c8e67168eb8c", func := "loop.example/g01079/laws.FnExactPruneProgram", spec := "fnExactPruneProgram", unfollowed := true, recurses := true, plainKeys := false, apart := false, narrowed := true }
def FnExactPruneProgramUptoSaid : Prop := fnExactPruneProgramUptoRow.holds Try.pinned (OpenSpec.upto fnExactPruneProgramSpec)

/-- 'laws.FnExactOverlapsOf', WHERE WHAT IT READS IS OF BULK AT MOST 1048576: true; the input reads as it did. -/
def fnExactOverlapsOfUptoRow : OpenClaim := { program := "ytnokeoejlfodkaa", sum := "53bcd0f88feaa14c3c4150fd10d40b2702f1af78545aec58c512c8e67168eb8c", func := "loop.example/g01079/laws.FnExactOverlapsOf", spec := "fnExactOverlapsOf", unfollowed := true, recurses := true, plainKeys := false, apart := false, narrowed := true }
def FnExactOverlapsOfUptoSaid : Prop := fnExactOverlapsOfUptoRow.holds Try.pinned (OpenSpec.upto fnExactOverlapsOfSpec)

/-- 'laws.FnExactTraceProgram', WHERE WHAT IT READS IS OF BULK AT MOST 1048576: true; the input reads as it did. -/
def fnExactTraceProgramUptoRow : OpenClaim := { program := "ytnokeoejlfodkaa", sum := "53bcd0f88feaa14c3c4150fd10d40b2702f1af78545aec58c512c8e67168eb8c", func := "loop.example/g01079/laws.FnExactTraceProgram", spec := "fnExactTraceProgram", unfollowed := true, recurses := true, plainKeys := false, apart := false, narrowed := true }
def FnExactTraceProgramUptoSaid : Prop := fnExactTraceProgramUptoRow.holds Try.pinned (OpenSpec.upto fnExactTraceProgramSpec)

/-- 'laws.FnExactPowersSeen', WHERE WHAT IT READS IS OF BULK AT MOST 1048576: true; the input reads as it did. -/
def fnExactPowersSeenUptoRow : OpenClaim := { program := "ytnokeoejlfodkaa", sum := "53bcd0f88feaa14c3c4150fd10d40b2702f1af78545aec58c512c8e67168eb8c", func := "loop.example/g01079/laws.FnExactPowersSeen", spec := "fnExactPowersSeen", unfollowed := true, recurses := true, plainKeys := false, apart := false, narrowed := true }
def FnExactPowersSeenUptoSaid : Prop := fnExactPowersSeenUptoRow.holds Try.pinned (OpenSpec.upto fnExactPowersSeenSpec)

/-- 'laws.FnExactValidMultiConfig', WHERE WHAT IT READS IS OF BULK AT MOST 1048576: true; the input reads as it did. -/
def fnExactValidMultiConfigUptoRow : OpenClaim := { program := "ytnokeoejlfodkaa", sum := "53bcd0f88feaa14c3c4150fd10d40b2702f1af78545aec58c512c8e67168eb8c", func := "loop.example/g01079/laws.FnExactValidMultiConfig", spec := "fnExactValidMultiConfig", unfollowed := true, recurses := true, plainKeys := false, apart := false, narrowed := true }
def FnExactValidMultiConfigUptoSaid : Prop := fnExactValidMultiConfigUptoRow.holds Try.pinned (OpenSpec.upto fnExactValidMultiConfigSpec)

/-- 'laws.FnExactHaltingReads', WHERE WHAT IT READS IS OF BULK AT MOST 1048576: true; the input reads as it did. -/
def fnExactHaltingReadsUptoRow : OpenClaim := { program := "ytnokeoejlfodkaa", sum := "53bcd0f88feaa14c3c4150fd10d40b2702f1af78545aec58c512c8e67168eb8c", func := "loop.example/g01079/laws.FnExactHaltingReads", spec := "fnExactHaltingReads", unfollowed := true, recurses := true, plainKeys := false, apart := false, narrowed := true }
def FnExactHaltingReadsUptoSaid : Prop := fnExactHaltingReadsUptoRow.holds Try.pinned (OpenSpec.upto fnExactHaltingReadsSpec)

/-- 'laws.FnExactStartMulti', WHERE WHAT IT READS IS OF BULK AT MOST 1048576: true; the input reads as it did. -/
def fnExactStartMultiUptoRow : OpenClaim := { program := "ytnokeoejlfodkaa", sum := "53bcd0f88feaa14c3c4150fd10d40b2702f1af78545aec58c512c8e67168eb8c", func := "loop.example/g01079/laws.FnExactStartMulti", spec := "fnExactStartMulti", plainKeys := false, apart := false, narrowed := true }
def FnExactStartMultiUptoSaid : Prop := fnExactStartMultiUptoRow.holds Try.pinned (OpenSpec.upto fnExactStartMultiSpec)

/-- 'laws.FnExactRegistersOf', WHERE WHAT IT READS IS OF BULK AT MOST 1048576: true; the input reads as it did. -/
def fnExactRegistersOfUptoRow : OpenClaim := { program := "ytnokeoejlfodkaa", sum := "53bcd0f88feaa14c3c4150fd10d40b2702f1af78545aec58c512c8e67168eb8c", func := "loop.example/g01079/laws.FnExactRegistersOf", spec := "fnExactRegistersOf", unfollowed := true, recurses := true, plainKeys := false, apart := false, narrowed := true }
def FnExactRegistersOfUptoSaid : Prop := fnExactRegistersOfUptoRow.holds Try.pinned (OpenSpec.upto fnExactRegistersOfSpec)

/-- 'laws.FnExactMapRegisters', WHERE WHAT IT READS IS OF BULK AT MOST 1048576: true; the input reads as it did. -/
def fnExactMapRegistersUptoRow : OpenClaim := { program := "ytnokeoejlfodkaa", sum := "53bcd0f88feaa14c3c4150fd10d40b2702f1af78545aec58c512c8e67168eb8c", func := "loop.example/g01079/laws.FnExactMapRegisters", spec := "fnExactMapRegisters", unfollowed := true, recurses := true, plainKeys := false, apart := false, narrowed := true }
def FnExactMapRegistersUptoSaid : Prop := fnExactMapRegistersUptoRow.holds Try.pinned (OpenSpec.upto fnExactMapRegistersSpec)

/-- 'laws.FnExactFractionPrimes', WHERE WHAT IT READS IS OF BULK AT MOST 1048576: true; the input reads as it did. -/
def fnExactFractionPrimesUptoRow : OpenClaim := { program := "ytnokeoejlfodkaa", sum := "53bcd0f88feaa14c3c4150fd10d40b2702f1af78545aec58c512c8e67168eb8c", func := "loop.example/g01079/laws.FnExactFractionPrimes", spec := "fnExactFractionPrimes", unfollowed := true, recurses := true, plainKeys := false, apart := false, narrowed := true }
def FnExactFractionPrimesUptoSaid : Prop := fnExactFractionPrimesUptoRow.holds Try.pinned (OpenSpec.upto fnExactFractionPrimesSpec)

/-- 'laws.FnExactPalindromeMulti', WHERE WHAT IT READS IS OF BULK AT MOST 1048576: true; the input reads as it did. -/
def fnExactPalindromeMultiUptoRow : OpenClaim := { program := "ytnokeoejlfodkaa", sum := "53bcd0f88feaa14c3c4150fd10d40b2702f1af78545aec58c512c8e67168eb8c", func := "loop.example/g01079/laws.FnExactPalindromeMulti", spec := "fnExactPalindromeMulti", unfollowed := true, recurses := true, plainKeys := false, apart := false, narrowed := true }
def FnExactPalindromeMultiUptoSaid : Prop := fnExactPalindromeMultiUptoRow.holds Try.pinned (OpenSpec.upto fnExactPalindromeMultiSpec)

end Rows
end Go.Proofs.Ytnokeoejlfodkaa

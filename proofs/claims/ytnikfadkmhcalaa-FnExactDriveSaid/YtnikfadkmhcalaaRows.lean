/-
  No cell of these rows narrows 'for every input' (looked for: loops, veiled, ifaces, maps, wideKeys, modest, calm, conditions, laid).
  DERIVED. THE GIVEN ROWS OF THIS SEAT. 12 by the template 'for every input the law returns true; each argument reads behind the call as it read before'; 0 by the template 'total and deterministic' (their statements: YtnikfadkmhcalaaTotals.lean).
  GIVEN WITH THE SEED: the statements are not yours to turn. If you find one false, say at which input.
  Laid BY PROGRAM, IN A SANDBOX (cutbox-rows.mjs): the forced cells as the released guide's own fill.sh prints them over the translation cbad66f7a4c851b5… (all of the seat's roots in one cut). By AI agents, Wed Nov 11 2026. No macro, syntax, notation, axiom, sorry.
-/
import Derived.Test.YtnikfadkmhcalaaChecked
import GoSem.Claim
import GoSem.ClaimJoined
import GoSem.ClaimMapViews
import Derived.JoinedTies
import Derived.KernelRfl
namespace Go.Proofs.Ytnikfadkmhcalaa
/- THE CELL 'sum', in the pinned program and in every row, IS THE sha256 OF THE DUMP (.gsa) THAT YtnikfadkmhcalaaProg.lean LOADS. Nothing in Lean hashes anything: it is a label: what it is worth is what the hold of that sum in a sandbox is worth. -/
noncomputable def Try.pinned : Pinned := { name := "ytnikfadkmhcalaa", sum := "cbad66f7a4c851b5bbb8aaff1989ea02ea4d6521bb6261666f6963beec376659", checked := Try.checked }
namespace Rows
def none {H : Type} : Left H := { results := [], args := [] }

/-- 'laws.FnExactConstants': WHATEVER THE INPUT: true; the input reads as it did. -/
def fnExactConstantsSpec : ChangeSpec := { name := "fnExactConstants", fn := fun _ => fun
  | [] => { results := [.lit (.bool true)], args := [] }
  | _ => none }
def fnExactConstantsRow : OpenClaim := { program := "ytnikfadkmhcalaa", sum := "cbad66f7a4c851b5bbb8aaff1989ea02ea4d6521bb6261666f6963beec376659", func := "loop.example/deadman/laws.FnExactConstants", spec := "fnExactConstants", apart := false }
def FnExactConstantsSaid : Prop := fnExactConstantsRow.holds Try.pinned (OpenSpec.ofChange fnExactConstantsSpec)

/-- ITS FALSE NEIGHBOUR: 'it returns false'. Refute it at one input. -/
def fnExactConstantsWrong : ChangeSpec := { name := "fnExactConstants", fn := fun _ => fun
  | [] => { results := [.lit (.bool false)], args := [] }
  | _ => none }
def FnExactConstantsWrongFalsely : Prop := fnExactConstantsRow.holds Try.pinned (OpenSpec.ofChange fnExactConstantsWrong)

/-- 'laws.FnExactGuardOk': WHATEVER THE INPUT: true; the input reads as it did. -/
def fnExactGuardOkSpec : ChangeSpec := { name := "fnExactGuardOk", fn := fun _ => fun
  | [d] => { results := [.lit (.bool true)], args := [d] }
  | _ => none }
def fnExactGuardOkRow : OpenClaim := { program := "ytnikfadkmhcalaa", sum := "cbad66f7a4c851b5bbb8aaff1989ea02ea4d6521bb6261666f6963beec376659", func := "loop.example/deadman/laws.FnExactGuardOk", spec := "fnExactGuardOk", apart := false }
def FnExactGuardOkSaid : Prop := fnExactGuardOkRow.holds Try.pinned (OpenSpec.ofChange fnExactGuardOkSpec)

/-- ITS FALSE NEIGHBOUR: 'it returns false'. Refute it at one input. -/
def fnExactGuardOkWrong : ChangeSpec := { name := "fnExactGuardOk", fn := fun _ => fun
  | [d] => { results := [.lit (.bool false)], args := [d] }
  | _ => none }
def FnExactGuardOkWrongFalsely : Prop := fnExactGuardOkRow.holds Try.pinned (OpenSpec.ofChange fnExactGuardOkWrong)

/-- 'laws.FnExactBrakesOk': WHATEVER THE INPUT: true; the input reads as it did. -/
def fnExactBrakesOkSpec : ChangeSpec := { name := "fnExactBrakesOk", fn := fun _ => fun
  | [d] => { results := [.lit (.bool true)], args := [d] }
  | _ => none }
def fnExactBrakesOkRow : OpenClaim := { program := "ytnikfadkmhcalaa", sum := "cbad66f7a4c851b5bbb8aaff1989ea02ea4d6521bb6261666f6963beec376659", func := "loop.example/deadman/laws.FnExactBrakesOk", spec := "fnExactBrakesOk", apart := false }
def FnExactBrakesOkSaid : Prop := fnExactBrakesOkRow.holds Try.pinned (OpenSpec.ofChange fnExactBrakesOkSpec)

/-- ITS FALSE NEIGHBOUR: 'it returns false'. Refute it at one input. -/
def fnExactBrakesOkWrong : ChangeSpec := { name := "fnExactBrakesOk", fn := fun _ => fun
  | [d] => { results := [.lit (.bool false)], args := [d] }
  | _ => none }
def FnExactBrakesOkWrongFalsely : Prop := fnExactBrakesOkRow.holds Try.pinned (OpenSpec.ofChange fnExactBrakesOkWrong)

/-- 'laws.FnExactFeltOk': WHATEVER THE INPUT: true; the input reads as it did. -/
def fnExactFeltOkSpec : ChangeSpec := { name := "fnExactFeltOk", fn := fun _ => fun
  | [d] => { results := [.lit (.bool true)], args := [d] }
  | _ => none }
def fnExactFeltOkRow : OpenClaim := { program := "ytnikfadkmhcalaa", sum := "cbad66f7a4c851b5bbb8aaff1989ea02ea4d6521bb6261666f6963beec376659", func := "loop.example/deadman/laws.FnExactFeltOk", spec := "fnExactFeltOk", apart := false }
def FnExactFeltOkSaid : Prop := fnExactFeltOkRow.holds Try.pinned (OpenSpec.ofChange fnExactFeltOkSpec)

/-- ITS FALSE NEIGHBOUR: 'it returns false'. Refute it at one input. -/
def fnExactFeltOkWrong : ChangeSpec := { name := "fnExactFeltOk", fn := fun _ => fun
  | [d] => { results := [.lit (.bool false)], args := [d] }
  | _ => none }
def FnExactFeltOkWrongFalsely : Prop := fnExactFeltOkRow.holds Try.pinned (OpenSpec.ofChange fnExactFeltOkWrong)

/-- 'laws.FnExactActOk': WHATEVER THE INPUT: true; the input reads as it did. -/
def fnExactActOkSpec : ChangeSpec := { name := "fnExactActOk", fn := fun _ => fun
  | [d1, d2] => { results := [.lit (.bool true)], args := [d1, d2] }
  | _ => none }
def fnExactActOkRow : OpenClaim := { program := "ytnikfadkmhcalaa", sum := "cbad66f7a4c851b5bbb8aaff1989ea02ea4d6521bb6261666f6963beec376659", func := "loop.example/deadman/laws.FnExactActOk", spec := "fnExactActOk", apart := false }
def FnExactActOkSaid : Prop := fnExactActOkRow.holds Try.pinned (OpenSpec.ofChange fnExactActOkSpec)

/-- ITS FALSE NEIGHBOUR: 'it returns false'. Refute it at one input. -/
def fnExactActOkWrong : ChangeSpec := { name := "fnExactActOk", fn := fun _ => fun
  | [d1, d2] => { results := [.lit (.bool false)], args := [d1, d2] }
  | _ => none }
def FnExactActOkWrongFalsely : Prop := fnExactActOkRow.holds Try.pinned (OpenSpec.ofChange fnExactActOkWrong)

/-- 'laws.FnExactGentle': WHATEVER THE INPUT: true; the input reads as it did. -/
def fnExactGentleSpec : ChangeSpec := { name := "fnExactGentle", fn := fun _ => fun
  | [d1, d2] => { results := [.lit (.bool true)], args := [d1, d2] }
  | _ => none }
def fnExactGentleRow : OpenClaim := { program := "ytnikfadkmhcalaa", sum := "cbad66f7a4c851b5bbb8aaff1989ea02ea4d6521bb6261666f6963beec376659", func := "loop.example/deadman/laws.FnExactGentle", spec := "fnExactGentle", apart := false }
def FnExactGentleSaid : Prop := fnExactGentleRow.holds Try.pinned (OpenSpec.ofChange fnExactGentleSpec)

/-- ITS FALSE NEIGHBOUR: 'it returns false'. Refute it at one input. -/
def fnExactGentleWrong : ChangeSpec := { name := "fnExactGentle", fn := fun _ => fun
  | [d1, d2] => { results := [.lit (.bool false)], args := [d1, d2] }
  | _ => none }
def FnExactGentleWrongFalsely : Prop := fnExactGentleRow.holds Try.pinned (OpenSpec.ofChange fnExactGentleWrong)

/-- 'laws.FnExactWorst': WHATEVER THE INPUT: true; the input reads as it did. -/
def fnExactWorstSpec : ChangeSpec := { name := "fnExactWorst", fn := fun _ => fun
  | [d1, d2] => { results := [.lit (.bool true)], args := [d1, d2] }
  | _ => none }
def fnExactWorstRow : OpenClaim := { program := "ytnikfadkmhcalaa", sum := "cbad66f7a4c851b5bbb8aaff1989ea02ea4d6521bb6261666f6963beec376659", func := "loop.example/deadman/laws.FnExactWorst", spec := "fnExactWorst", apart := false }
def FnExactWorstSaid : Prop := fnExactWorstRow.holds Try.pinned (OpenSpec.ofChange fnExactWorstSpec)

/-- ITS FALSE NEIGHBOUR: 'it returns false'. Refute it at one input. -/
def fnExactWorstWrong : ChangeSpec := { name := "fnExactWorst", fn := fun _ => fun
  | [d1, d2] => { results := [.lit (.bool false)], args := [d1, d2] }
  | _ => none }
def FnExactWorstWrongFalsely : Prop := fnExactWorstRow.holds Try.pinned (OpenSpec.ofChange fnExactWorstWrong)

/-- 'laws.FnExactMostHard': WHATEVER THE INPUT: true; the input reads as it did. -/
def fnExactMostHardSpec : ChangeSpec := { name := "fnExactMostHard", fn := fun _ => fun
  | [d1, d2] => { results := [.lit (.bool true)], args := [d1, d2] }
  | _ => none }
def fnExactMostHardRow : OpenClaim := { program := "ytnikfadkmhcalaa", sum := "cbad66f7a4c851b5bbb8aaff1989ea02ea4d6521bb6261666f6963beec376659", func := "loop.example/deadman/laws.FnExactMostHard", spec := "fnExactMostHard", unfollowed := true, recurses := true, apart := false }
def FnExactMostHardSaid : Prop := fnExactMostHardRow.holds Try.pinned (OpenSpec.ofChange fnExactMostHardSpec)

/-- ITS FALSE NEIGHBOUR: 'it returns false'. Refute it at one input. -/
def fnExactMostHardWrong : ChangeSpec := { name := "fnExactMostHard", fn := fun _ => fun
  | [d1, d2] => { results := [.lit (.bool false)], args := [d1, d2] }
  | _ => none }
def FnExactMostHardWrongFalsely : Prop := fnExactMostHardRow.holds Try.pinned (OpenSpec.ofChange fnExactMostHardWrong)

/-- 'laws.FnExactPermitted': WHATEVER THE INPUT: true; the input reads as it did. -/
def fnExactPermittedSpec : ChangeSpec := { name := "fnExactPermitted", fn := fun _ => fun
  | [d1, d2, d3] => { results := [.lit (.bool true)], args := [d1, d2, d3] }
  | _ => none }
def fnExactPermittedRow : OpenClaim := { program := "ytnikfadkmhcalaa", sum := "cbad66f7a4c851b5bbb8aaff1989ea02ea4d6521bb6261666f6963beec376659", func := "loop.example/deadman/laws.FnExactPermitted", spec := "fnExactPermitted", unfollowed := true, recurses := true, apart := false }
def FnExactPermittedSaid : Prop := fnExactPermittedRow.holds Try.pinned (OpenSpec.ofChange fnExactPermittedSpec)

/-- ITS FALSE NEIGHBOUR: 'it returns false'. Refute it at one input. -/
def fnExactPermittedWrong : ChangeSpec := { name := "fnExactPermitted", fn := fun _ => fun
  | [d1, d2, d3] => { results := [.lit (.bool false)], args := [d1, d2, d3] }
  | _ => none }
def FnExactPermittedWrongFalsely : Prop := fnExactPermittedRow.holds Try.pinned (OpenSpec.ofChange fnExactPermittedWrong)

/-- 'laws.FnExactTick': WHATEVER THE INPUT: true; the input reads as it did. -/
def fnExactTickSpec : ChangeSpec := { name := "fnExactTick", fn := fun _ => fun
  | [d1, d2, d3] => { results := [.lit (.bool true)], args := [d1, d2, d3] }
  | _ => none }
def fnExactTickRow : OpenClaim := { program := "ytnikfadkmhcalaa", sum := "cbad66f7a4c851b5bbb8aaff1989ea02ea4d6521bb6261666f6963beec376659", func := "loop.example/deadman/laws.FnExactTick", spec := "fnExactTick", unfollowed := true, recurses := true, apart := false }
def FnExactTickSaid : Prop := fnExactTickRow.holds Try.pinned (OpenSpec.ofChange fnExactTickSpec)

/-- ITS FALSE NEIGHBOUR: 'it returns false'. Refute it at one input. -/
def fnExactTickWrong : ChangeSpec := { name := "fnExactTick", fn := fun _ => fun
  | [d1, d2, d3] => { results := [.lit (.bool false)], args := [d1, d2, d3] }
  | _ => none }
def FnExactTickWrongFalsely : Prop := fnExactTickRow.holds Try.pinned (OpenSpec.ofChange fnExactTickWrong)

/-- 'laws.FnExactRun': WHATEVER THE INPUT: true; the input reads as it did. -/
def fnExactRunSpec : ChangeSpec := { name := "fnExactRun", fn := fun _ => fun
  | [d1, d2] => { results := [.lit (.bool true)], args := [d1, d2] }
  | _ => none }
def fnExactRunRow : OpenClaim := { program := "ytnikfadkmhcalaa", sum := "cbad66f7a4c851b5bbb8aaff1989ea02ea4d6521bb6261666f6963beec376659", func := "loop.example/deadman/laws.FnExactRun", spec := "fnExactRun", unfollowed := true, recurses := true, apart := false }
def FnExactRunSaid : Prop := fnExactRunRow.holds Try.pinned (OpenSpec.ofChange fnExactRunSpec)

/-- ITS FALSE NEIGHBOUR: 'it returns false'. Refute it at one input. -/
def fnExactRunWrong : ChangeSpec := { name := "fnExactRun", fn := fun _ => fun
  | [d1, d2] => { results := [.lit (.bool false)], args := [d1, d2] }
  | _ => none }
def FnExactRunWrongFalsely : Prop := fnExactRunRow.holds Try.pinned (OpenSpec.ofChange fnExactRunWrong)

/-- 'laws.FnExactDrive': WHATEVER THE INPUT: true; the input reads as it did. -/
def fnExactDriveSpec : ChangeSpec := { name := "fnExactDrive", fn := fun _ => fun
  | [d1, d2, d3, d4] => { results := [.lit (.bool true)], args := [d1, d2, d3, d4] }
  | _ => none }
def fnExactDriveRow : OpenClaim := { program := "ytnikfadkmhcalaa", sum := "cbad66f7a4c851b5bbb8aaff1989ea02ea4d6521bb6261666f6963beec376659", func := "loop.example/deadman/laws.FnExactDrive", spec := "fnExactDrive", unfollowed := true, recurses := true, apart := false }
def FnExactDriveSaid : Prop := fnExactDriveRow.holds Try.pinned (OpenSpec.ofChange fnExactDriveSpec)

/-- ITS FALSE NEIGHBOUR: 'it returns false'. Refute it at one input. -/
def fnExactDriveWrong : ChangeSpec := { name := "fnExactDrive", fn := fun _ => fun
  | [d1, d2, d3, d4] => { results := [.lit (.bool false)], args := [d1, d2, d3, d4] }
  | _ => none }
def FnExactDriveWrongFalsely : Prop := fnExactDriveRow.holds Try.pinned (OpenSpec.ofChange fnExactDriveWrong)

/- THE SECOND FORM. 'bulk': how many values and letters a reading holds, each counted each time it is reached (what is shared counts as often as it is met; a slice's spare places count too). A statement '..UptoSaid' is the law's where the arguments, and the package variables that the reading takes, are together of bulk at most 1048576: NARROWER than '..Said'. Prove '..Said' where nothing that the law and all that it calls make is longer than what came in: it says more and counts as full. Else prove '..UptoSaid'. A law counts once. -/
mutual
def uptoBulk {H : Type} : DataW H → Nat
  | .lit (.string bytes) => bytes.length + 1
  | .lit _ => 1
  | .nil => 1
  | .ptr d => uptoBulk d + 1
  | .slice elems spare => uptoBulkAll elems + uptoBulkAll spare + 1
  | .agg parts => uptoBulkAll parts + 1
  | .iface _ d => uptoBulk d + 1
  | .map entries => uptoBulkEntries entries + 1
  | .held _ => 1
def uptoBulkAll {H : Type} : List (DataW H) → Nat
  | [] => 0
  | d :: r => uptoBulk d + uptoBulkAll r
def uptoBulkEntries {H : Type} : List (Lit × DataW H) → Nat
  | [] => 0
  | x :: r => uptoBulkEntry x + uptoBulkEntries r
def uptoBulkEntry {H : Type} : Lit × DataW H → Nat
  | (.string bytes, d) => bytes.length + uptoBulk d + 1
  | (_, d) => uptoBulk d + 1
 end
def uptoSmall : (H : Type) → List (DataW H) → Bool := fun _ ds => decide (uptoBulkAll ds ≤ 1048576)
def OpenSpec.upto (s : _root_.Go.ChangeSpec) : _root_.Go.OpenSpec := { _root_.Go.OpenSpec.ofChange s with cond := some uptoSmall }

/-- 'laws.FnExactConstants', WHERE WHAT IT READS IS OF BULK AT MOST 1048576: true; the input reads as it did. -/
def fnExactConstantsUptoRow : OpenClaim := { program := "ytnikfadkmhcalaa", sum := "cbad66f7a4c851b5bbb8aaff1989ea02ea4d6521bb6261666f6963beec376659", func := "loop.example/deadman/laws.FnExactConstants", spec := "fnExactConstants", apart := false, narrowed := true }
def FnExactConstantsUptoSaid : Prop := fnExactConstantsUptoRow.holds Try.pinned (OpenSpec.upto fnExactConstantsSpec)

/-- 'laws.FnExactGuardOk', WHERE WHAT IT READS IS OF BULK AT MOST 1048576: true; the input reads as it did. -/
def fnExactGuardOkUptoRow : OpenClaim := { program := "ytnikfadkmhcalaa", sum := "cbad66f7a4c851b5bbb8aaff1989ea02ea4d6521bb6261666f6963beec376659", func := "loop.example/deadman/laws.FnExactGuardOk", spec := "fnExactGuardOk", apart := false, narrowed := true }
def FnExactGuardOkUptoSaid : Prop := fnExactGuardOkUptoRow.holds Try.pinned (OpenSpec.upto fnExactGuardOkSpec)

/-- 'laws.FnExactBrakesOk', WHERE WHAT IT READS IS OF BULK AT MOST 1048576: true; the input reads as it did. -/
def fnExactBrakesOkUptoRow : OpenClaim := { program := "ytnikfadkmhcalaa", sum := "cbad66f7a4c851b5bbb8aaff1989ea02ea4d6521bb6261666f6963beec376659", func := "loop.example/deadman/laws.FnExactBrakesOk", spec := "fnExactBrakesOk", apart := false, narrowed := true }
def FnExactBrakesOkUptoSaid : Prop := fnExactBrakesOkUptoRow.holds Try.pinned (OpenSpec.upto fnExactBrakesOkSpec)

/-- 'laws.FnExactFeltOk', WHERE WHAT IT READS IS OF BULK AT MOST 1048576: true; the input reads as it did. -/
def fnExactFeltOkUptoRow : OpenClaim := { program := "ytnikfadkmhcalaa", sum := "cbad66f7a4c851b5bbb8aaff1989ea02ea4d6521bb6261666f6963beec376659", func := "loop.example/deadman/laws.FnExactFeltOk", spec := "fnExactFeltOk", apart := false, narrowed := true }
def FnExactFeltOkUptoSaid : Prop := fnExactFeltOkUptoRow.holds Try.pinned (OpenSpec.upto fnExactFeltOkSpec)

/-- 'laws.FnExactActOk', WHERE WHAT IT READS IS OF BULK AT MOST 1048576: true; the input reads as it did. -/
def fnExactActOkUptoRow : OpenClaim := { program := "ytnikfadkmhcalaa", sum := "cbad66f7a4c851b5bbb8aaff1989ea02ea4d6521bb6261666f6963beec376659", func := "loop.example/deadman/laws.FnExactActOk", spec := "fnExactActOk", apart := false, narrowed := true }
def FnExactActOkUptoSaid : Prop := fnExactActOkUptoRow.holds Try.pinned (OpenSpec.upto fnExactActOkSpec)

/-- 'laws.FnExactGentle', WHERE WHAT IT READS IS OF BULK AT MOST 1048576: true; the input reads as it did. -/
def fnExactGentleUptoRow : OpenClaim := { program := "ytnikfadkmhcalaa", sum := "cbad66f7a4c851b5bbb8aaff1989ea02ea4d6521bb6261666f6963beec376659", func := "loop.example/deadman/laws.FnExactGentle", spec := "fnExactGentle", apart := false, narrowed := true }
def FnExactGentleUptoSaid : Prop := fnExactGentleUptoRow.holds Try.pinned (OpenSpec.upto fnExactGentleSpec)

/-- 'laws.FnExactWorst', WHERE WHAT IT READS IS OF BULK AT MOST 1048576: true; the input reads as it did. -/
def fnExactWorstUptoRow : OpenClaim := { program := "ytnikfadkmhcalaa", sum := "cbad66f7a4c851b5bbb8aaff1989ea02ea4d6521bb6261666f6963beec376659", func := "loop.example/deadman/laws.FnExactWorst", spec := "fnExactWorst", apart := false, narrowed := true }
def FnExactWorstUptoSaid : Prop := fnExactWorstUptoRow.holds Try.pinned (OpenSpec.upto fnExactWorstSpec)

/-- 'laws.FnExactMostHard', WHERE WHAT IT READS IS OF BULK AT MOST 1048576: true; the input reads as it did. -/
def fnExactMostHardUptoRow : OpenClaim := { program := "ytnikfadkmhcalaa", sum := "cbad66f7a4c851b5bbb8aaff1989ea02ea4d6521bb6261666f6963beec376659", func := "loop.example/deadman/laws.FnExactMostHard", spec := "fnExactMostHard", unfollowed := true, recurses := true, apart := false, narrowed := true }
def FnExactMostHardUptoSaid : Prop := fnExactMostHardUptoRow.holds Try.pinned (OpenSpec.upto fnExactMostHardSpec)

/-- 'laws.FnExactPermitted', WHERE WHAT IT READS IS OF BULK AT MOST 1048576: true; the input reads as it did. -/
def fnExactPermittedUptoRow : OpenClaim := { program := "ytnikfadkmhcalaa", sum := "cbad66f7a4c851b5bbb8aaff1989ea02ea4d6521bb6261666f6963beec376659", func := "loop.example/deadman/laws.FnExactPermitted", spec := "fnExactPermitted", unfollowed := true, recurses := true, apart := false, narrowed := true }
def FnExactPermittedUptoSaid : Prop := fnExactPermittedUptoRow.holds Try.pinned (OpenSpec.upto fnExactPermittedSpec)

/-- 'laws.FnExactTick', WHERE WHAT IT READS IS OF BULK AT MOST 1048576: true; the input reads as it did. -/
def fnExactTickUptoRow : OpenClaim := { program := "ytnikfadkmhcalaa", sum := "cbad66f7a4c851b5bbb8aaff1989ea02ea4d6521bb6261666f6963beec376659", func := "loop.example/deadman/laws.FnExactTick", spec := "fnExactTick", unfollowed := true, recurses := true, apart := false, narrowed := true }
def FnExactTickUptoSaid : Prop := fnExactTickUptoRow.holds Try.pinned (OpenSpec.upto fnExactTickSpec)

/-- 'laws.FnExactRun', WHERE WHAT IT READS IS OF BULK AT MOST 1048576: true; the input reads as it did. -/
def fnExactRunUptoRow : OpenClaim := { program := "ytnikfadkmhcalaa", sum := "cbad66f7a4c851b5bbb8aaff1989ea02ea4d6521bb6261666f6963beec376659", func := "loop.example/deadman/laws.FnExactRun", spec := "fnExactRun", unfollowed := true, recurses := true, apart := false, narrowed := true }
def FnExactRunUptoSaid : Prop := fnExactRunUptoRow.holds Try.pinned (OpenSpec.upto fnExactRunSpec)

/-- 'laws.FnExactDrive', WHERE WHAT IT READS IS OF BULK AT MOST 1048576: true; the input reads as it did. -/
def fnExactDriveUptoRow : OpenClaim := { program := "ytnikfadkmhcalaa", sum := "cbad66f7a4c851b5bbb8aaff1989ea02ea4d6521bb6261666f6963beec376659", func := "loop.example/deadman/laws.FnExactDrive", spec := "fnExactDrive", unfollowed := true, recurses := true, apart := false, narrowed := true }
def FnExactDriveUptoSaid : Prop := fnExactDriveUptoRow.holds Try.pinned (OpenSpec.upto fnExactDriveSpec)

end Rows
end Go.Proofs.Ytnikfadkmhcalaa

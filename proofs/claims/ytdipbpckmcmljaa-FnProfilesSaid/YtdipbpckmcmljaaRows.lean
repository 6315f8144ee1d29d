/-
  No cell of these rows narrows 'for every input' (looked for: loops, veiled, ifaces, maps, wideKeys, modest, calm, conditions, laid).
  DERIVED. THE GIVEN ROWS OF THIS SEAT. 12 by the template 'for every input the law returns true; each argument reads behind the call as it read before'; 0 by the template 'total and deterministic' (their statements: YtdipbpckmcmljaaTotals.lean).
  GIVEN WITH THE SEED: the statements are not yours to turn. If you find one false, say at which input.
  Laid BY PROGRAM, IN A SANDBOX (cutbox-rows.mjs): the forced cells as the released guide's own fill.sh prints them over the translation 4866d66c7b8d50f8… (all of the seat's roots in one cut). By AI agents, Wed Nov 11 2026. No macro, syntax, notation, axiom, sorry.
-/
import Derived.Test.YtdipbpckmcmljaaChecked
import GoSem.Claim
import GoSem.ClaimJoined
import GoSem.ClaimMapViews
import Derived.JoinedTies
import Derived.KernelRfl
namespace Go.Proofs.Ytdipbpckmcmljaa
/- THE CELL 'sum', in the pinned program and in every row, IS THE sha256 OF THE DUMP (.gsa) THAT YtdipbpckmcmljaaProg.lean LOADS. Nothing in Lean hashes anything: it is a label: what it is worth is what the hold of that sum in a sandbox is worth. -/
noncomputable def Try.pinned : Pinned := { name := "ytdipbpckmcmljaa", sum := "4866d66c7b8d50f8798923a1f2d2cede180192497aa947a49e4bfba2e5f270ed", checked := Try.checked }
namespace Rows
def none {H : Type} : Left H := { results := [], args := [] }

/-- 'laws.FnExactBestProfile': WHATEVER THE INPUT: true; the input reads as it did. -/
def fnExactBestProfileSpec : ChangeSpec := { name := "fnExactBestProfile", fn := fun _ => fun
  | [d] => { results := [.lit (.bool true)], args := [d] }
  | _ => none }
def fnExactBestProfileRow : OpenClaim := { program := "ytdipbpckmcmljaa", sum := "4866d66c7b8d50f8798923a1f2d2cede180192497aa947a49e4bfba2e5f270ed", func := "loop.example/g00914/laws.FnExactBestProfile", spec := "fnExactBestProfile", apart := false }
def FnExactBestProfileSaid : Prop := fnExactBestProfileRow.holds Try.pinned (OpenSpec.ofChange fnExactBestProfileSpec)

/-- ITS FALSE NEIGHBOUR: 'it returns false'. Refute it at one input. -/
def fnExactBestProfileWrong : ChangeSpec := { name := "fnExactBestProfile", fn := fun _ => fun
  | [d] => { results := [.lit (.bool false)], args := [d] }
  | _ => none }
def FnExactBestProfileWrongFalsely : Prop := fnExactBestProfileRow.holds Try.pinned (OpenSpec.ofChange fnExactBestProfileWrong)

/-- 'laws.FnExactBestBelow': WHATEVER THE INPUT: true; the input reads as it did. -/
def fnExactBestBelowSpec : ChangeSpec := { name := "fnExactBestBelow", fn := fun _ => fun
  | [d1, d2] => { results := [.lit (.bool true)], args := [d1, d2] }
  | _ => none }
def fnExactBestBelowRow : OpenClaim := { program := "ytdipbpckmcmljaa", sum := "4866d66c7b8d50f8798923a1f2d2cede180192497aa947a49e4bfba2e5f270ed", func := "loop.example/g00914/laws.FnExactBestBelow", spec := "fnExactBestBelow", apart := false }
def FnExactBestBelowSaid : Prop := fnExactBestBelowRow.holds Try.pinned (OpenSpec.ofChange fnExactBestBelowSpec)

/-- ITS FALSE NEIGHBOUR: 'it returns false'. Refute it at one input. -/
def fnExactBestBelowWrong : ChangeSpec := { name := "fnExactBestBelow", fn := fun _ => fun
  | [d1, d2] => { results := [.lit (.bool false)], args := [d1, d2] }
  | _ => none }
def FnExactBestBelowWrongFalsely : Prop := fnExactBestBelowRow.holds Try.pinned (OpenSpec.ofChange fnExactBestBelowWrong)

/-- 'laws.FnSections': WHATEVER THE INPUT: true; the input reads as it did. -/
def fnSectionsSpec : ChangeSpec := { name := "fnSections", fn := fun _ => fun
  | [d1, d2] => { results := [.lit (.bool true)], args := [d1, d2] }
  | _ => none }
def fnSectionsRow : OpenClaim := { program := "ytdipbpckmcmljaa", sum := "4866d66c7b8d50f8798923a1f2d2cede180192497aa947a49e4bfba2e5f270ed", func := "loop.example/g00914/laws.FnSections", spec := "fnSections", apart := false }
def FnSectionsSaid : Prop := fnSectionsRow.holds Try.pinned (OpenSpec.ofChange fnSectionsSpec)

/-- ITS FALSE NEIGHBOUR: 'it returns false'. Refute it at one input. -/
def fnSectionsWrong : ChangeSpec := { name := "fnSections", fn := fun _ => fun
  | [d1, d2] => { results := [.lit (.bool false)], args := [d1, d2] }
  | _ => none }
def FnSectionsWrongFalsely : Prop := fnSectionsRow.holds Try.pinned (OpenSpec.ofChange fnSectionsWrong)

/-- 'laws.FnProfiles': WHATEVER THE INPUT: true; the input reads as it did. -/
def fnProfilesSpec : ChangeSpec := { name := "fnProfiles", fn := fun _ => fun
  | [d1, d2] => { results := [.lit (.bool true)], args := [d1, d2] }
  | _ => none }
def fnProfilesRow : OpenClaim := { program := "ytdipbpckmcmljaa", sum := "4866d66c7b8d50f8798923a1f2d2cede180192497aa947a49e4bfba2e5f270ed", func := "loop.example/g00914/laws.FnProfiles", spec := "fnProfiles", apart := false }
def FnProfilesSaid : Prop := fnProfilesRow.holds Try.pinned (OpenSpec.ofChange fnProfilesSpec)

/-- ITS FALSE NEIGHBOUR: 'it returns false'. Refute it at one input. -/
def fnProfilesWrong : ChangeSpec := { name := "fnProfiles", fn := fun _ => fun
  | [d1, d2] => { results := [.lit (.bool false)], args := [d1, d2] }
  | _ => none }
def FnProfilesWrongFalsely : Prop := fnProfilesRow.holds Try.pinned (OpenSpec.ofChange fnProfilesWrong)

/-- 'laws.FnExactIsWide': WHATEVER THE INPUT: true; the input reads as it did. -/
def fnExactIsWideSpec : ChangeSpec := { name := "fnExactIsWide", fn := fun _ => fun
  | [d1, d2, d3] => { results := [.lit (.bool true)], args := [d1, d2, d3] }
  | _ => none }
def fnExactIsWideRow : OpenClaim := { program := "ytdipbpckmcmljaa", sum := "4866d66c7b8d50f8798923a1f2d2cede180192497aa947a49e4bfba2e5f270ed", func := "loop.example/g00914/laws.FnExactIsWide", spec := "fnExactIsWide", apart := false }
def FnExactIsWideSaid : Prop := fnExactIsWideRow.holds Try.pinned (OpenSpec.ofChange fnExactIsWideSpec)

/-- ITS FALSE NEIGHBOUR: 'it returns false'. Refute it at one input. -/
def fnExactIsWideWrong : ChangeSpec := { name := "fnExactIsWide", fn := fun _ => fun
  | [d1, d2, d3] => { results := [.lit (.bool false)], args := [d1, d2, d3] }
  | _ => none }
def FnExactIsWideWrongFalsely : Prop := fnExactIsWideRow.holds Try.pinned (OpenSpec.ofChange fnExactIsWideWrong)

/-- 'laws.FnExactWideBlocks': WHATEVER THE INPUT: true; the input reads as it did. -/
def fnExactWideBlocksSpec : ChangeSpec := { name := "fnExactWideBlocks", fn := fun _ => fun
  | [d1, d2, d3] => { results := [.lit (.bool true)], args := [d1, d2, d3] }
  | _ => none }
def fnExactWideBlocksRow : OpenClaim := { program := "ytdipbpckmcmljaa", sum := "4866d66c7b8d50f8798923a1f2d2cede180192497aa947a49e4bfba2e5f270ed", func := "loop.example/g00914/laws.FnExactWideBlocks", spec := "fnExactWideBlocks", apart := false }
def FnExactWideBlocksSaid : Prop := fnExactWideBlocksRow.holds Try.pinned (OpenSpec.ofChange fnExactWideBlocksSpec)

/-- ITS FALSE NEIGHBOUR: 'it returns false'. Refute it at one input. -/
def fnExactWideBlocksWrong : ChangeSpec := { name := "fnExactWideBlocks", fn := fun _ => fun
  | [d1, d2, d3] => { results := [.lit (.bool false)], args := [d1, d2, d3] }
  | _ => none }
def FnExactWideBlocksWrongFalsely : Prop := fnExactWideBlocksRow.holds Try.pinned (OpenSpec.ofChange fnExactWideBlocksWrong)

/-- 'laws.FnExactAreNested': WHATEVER THE INPUT: true; the input reads as it did. -/
def fnExactAreNestedSpec : ChangeSpec := { name := "fnExactAreNested", fn := fun _ => fun
  | [d1, d2] => { results := [.lit (.bool true)], args := [d1, d2] }
  | _ => none }
def fnExactAreNestedRow : OpenClaim := { program := "ytdipbpckmcmljaa", sum := "4866d66c7b8d50f8798923a1f2d2cede180192497aa947a49e4bfba2e5f270ed", func := "loop.example/g00914/laws.FnExactAreNested", spec := "fnExactAreNested", apart := false }
def FnExactAreNestedSaid : Prop := fnExactAreNestedRow.holds Try.pinned (OpenSpec.ofChange fnExactAreNestedSpec)

/-- ITS FALSE NEIGHBOUR: 'it returns false'. Refute it at one input. -/
def fnExactAreNestedWrong : ChangeSpec := { name := "fnExactAreNested", fn := fun _ => fun
  | [d1, d2] => { results := [.lit (.bool false)], args := [d1, d2] }
  | _ => none }
def FnExactAreNestedWrongFalsely : Prop := fnExactAreNestedRow.holds Try.pinned (OpenSpec.ofChange fnExactAreNestedWrong)

/-- 'laws.FnExactPhaseOfBlock': WHATEVER THE INPUT: true; the input reads as it did. -/
def fnExactPhaseOfBlockSpec : ChangeSpec := { name := "fnExactPhaseOfBlock", fn := fun _ => fun
  | [d1, d2, d3] => { results := [.lit (.bool true)], args := [d1, d2, d3] }
  | _ => none }
def fnExactPhaseOfBlockRow : OpenClaim := { program := "ytdipbpckmcmljaa", sum := "4866d66c7b8d50f8798923a1f2d2cede180192497aa947a49e4bfba2e5f270ed", func := "loop.example/g00914/laws.FnExactPhaseOfBlock", spec := "fnExactPhaseOfBlock", apart := false }
def FnExactPhaseOfBlockSaid : Prop := fnExactPhaseOfBlockRow.holds Try.pinned (OpenSpec.ofChange fnExactPhaseOfBlockSpec)

/-- ITS FALSE NEIGHBOUR: 'it returns false'. Refute it at one input. -/
def fnExactPhaseOfBlockWrong : ChangeSpec := { name := "fnExactPhaseOfBlock", fn := fun _ => fun
  | [d1, d2, d3] => { results := [.lit (.bool false)], args := [d1, d2, d3] }
  | _ => none }
def FnExactPhaseOfBlockWrongFalsely : Prop := fnExactPhaseOfBlockRow.holds Try.pinned (OpenSpec.ofChange fnExactPhaseOfBlockWrong)

/-- 'laws.FnExactFillPits': WHATEVER THE INPUT: true; the input reads as it did. -/
def fnExactFillPitsSpec : ChangeSpec := { name := "fnExactFillPits", fn := fun _ => fun
  | [d1, d2] => { results := [.lit (.bool true)], args := [d1, d2] }
  | _ => none }
def fnExactFillPitsRow : OpenClaim := { program := "ytdipbpckmcmljaa", sum := "4866d66c7b8d50f8798923a1f2d2cede180192497aa947a49e4bfba2e5f270ed", func := "loop.example/g00914/laws.FnExactFillPits", spec := "fnExactFillPits", apart := false }
def FnExactFillPitsSaid : Prop := fnExactFillPitsRow.holds Try.pinned (OpenSpec.ofChange fnExactFillPitsSpec)

/-- ITS FALSE NEIGHBOUR: 'it returns false'. Refute it at one input. -/
def fnExactFillPitsWrong : ChangeSpec := { name := "fnExactFillPits", fn := fun _ => fun
  | [d1, d2] => { results := [.lit (.bool false)], args := [d1, d2] }
  | _ => none }
def FnExactFillPitsWrongFalsely : Prop := fnExactFillPitsRow.holds Try.pinned (OpenSpec.ofChange fnExactFillPitsWrong)

/-- 'laws.FnExactPhasesOf': WHATEVER THE INPUT: true; the input reads as it did. -/
def fnExactPhasesOfSpec : ChangeSpec := { name := "fnExactPhasesOf", fn := fun _ => fun
  | [d1, d2] => { results := [.lit (.bool true)], args := [d1, d2] }
  | _ => none }
def fnExactPhasesOfRow : OpenClaim := { program := "ytdipbpckmcmljaa", sum := "4866d66c7b8d50f8798923a1f2d2cede180192497aa947a49e4bfba2e5f270ed", func := "loop.example/g00914/laws.FnExactPhasesOf", spec := "fnExactPhasesOf", apart := false }
def FnExactPhasesOfSaid : Prop := fnExactPhasesOfRow.holds Try.pinned (OpenSpec.ofChange fnExactPhasesOfSpec)

/-- ITS FALSE NEIGHBOUR: 'it returns false'. Refute it at one input. -/
def fnExactPhasesOfWrong : ChangeSpec := { name := "fnExactPhasesOf", fn := fun _ => fun
  | [d1, d2] => { results := [.lit (.bool false)], args := [d1, d2] }
  | _ => none }
def FnExactPhasesOfWrongFalsely : Prop := fnExactPhasesOfRow.holds Try.pinned (OpenSpec.ofChange fnExactPhasesOfWrong)

/-- 'laws.FnExactJoinPhases': WHATEVER THE INPUT: true; the input reads as it did. -/
def fnExactJoinPhasesSpec : ChangeSpec := { name := "fnExactJoinPhases", fn := fun _ => fun
  | [d1, d2, d3, d4] => { results := [.lit (.bool true)], args := [d1, d2, d3, d4] }
  | _ => none }
def fnExactJoinPhasesRow : OpenClaim := { program := "ytdipbpckmcmljaa", sum := "4866d66c7b8d50f8798923a1f2d2cede180192497aa947a49e4bfba2e5f270ed", func := "loop.example/g00914/laws.FnExactJoinPhases", spec := "fnExactJoinPhases", apart := false }
def FnExactJoinPhasesSaid : Prop := fnExactJoinPhasesRow.holds Try.pinned (OpenSpec.ofChange fnExactJoinPhasesSpec)

/-- ITS FALSE NEIGHBOUR: 'it returns false'. Refute it at one input. -/
def fnExactJoinPhasesWrong : ChangeSpec := { name := "fnExactJoinPhases", fn := fun _ => fun
  | [d1, d2, d3, d4] => { results := [.lit (.bool false)], args := [d1, d2, d3, d4] }
  | _ => none }
def FnExactJoinPhasesWrongFalsely : Prop := fnExactJoinPhasesRow.holds Try.pinned (OpenSpec.ofChange fnExactJoinPhasesWrong)

/-- 'laws.FnExactPhaseSums': WHATEVER THE INPUT: true; the input reads as it did. -/
def fnExactPhaseSumsSpec : ChangeSpec := { name := "fnExactPhaseSums", fn := fun _ => fun
  | [d1, d2, d3] => { results := [.lit (.bool true)], args := [d1, d2, d3] }
  | _ => none }
def fnExactPhaseSumsRow : OpenClaim := { program := "ytdipbpckmcmljaa", sum := "4866d66c7b8d50f8798923a1f2d2cede180192497aa947a49e4bfba2e5f270ed", func := "loop.example/g00914/laws.FnExactPhaseSums", spec := "fnExactPhaseSums", apart := false }
def FnExactPhaseSumsSaid : Prop := fnExactPhaseSumsRow.holds Try.pinned (OpenSpec.ofChange fnExactPhaseSumsSpec)

/-- ITS FALSE NEIGHBOUR: 'it returns false'. Refute it at one input. -/
def fnExactPhaseSumsWrong : ChangeSpec := { name := "fnExactPhaseSums", fn := fun _ => fun
  | [d1, d2, d3] => { results := [.lit (.bool false)], args := [d1, d2, d3] }
  | _ => none }
def FnExactPhaseSumsWrongFalsely : Prop := fnExactPhaseSumsRow.holds Try.pinned (OpenSpec.ofChange fnExactPhaseSumsWrong)

/- THE SECOND FORM. 'bulk': how many values and letters a reading holds, each counted each time it is reached (what is shared counts as often as it is met; a slice's spare places count too). A statement '..UptoSaid' is the law's where the arguments, and the package variables that the reading takes, are together of bulk at most 1048576: NARROWER than '..Said'. Prove '..Said' where nothing that the law and all that it calls make is longer than what came in: it says more and counts as full. Else prove '..UptoSaid'. A law counts once. -/
mutual
def uptoBulk {H : Type} : DataW H → Nat
  | .lit (.string bytes) => bytes.length + 1
  | .lit _ => 1
  | .nil => 1
  | .ptr d => uptoBulk d + 1
  | .slice elems spare => uptoBulkAll elems + uptoBulkAll spare + 1
  | .agg parts => uptoBulkAll parts + 1
  | .iface _ d => uptoBulk d + 1
  | .map entries => uptoBulkEntries entries + 1
  | .held _ => 1
def uptoBulkAll {H : Type} : List (DataW H) → Nat
  | [] => 0
  | d :: r => uptoBulk d + uptoBulkAll r
def uptoBulkEntries {H : Type} : List (Lit × DataW H) → Nat
  | [] => 0
  | x :: r => uptoBulkEntry x + uptoBulkEntries r
def uptoBulkEntry {H : Type} : Lit × DataW H → Nat
  | (.string bytes, d) => bytes.length + uptoBulk d + 1
  | (_, d) => uptoBulk d + 1
 end
def uptoSmall : (H : Type) → List (DataW H) → Bool := fun _ ds => decide (uptoBulkAll ds ≤ 1048576)
def OpenSpec.upto (s : _root_.Go.ChangeSpec) : _root_.Go.OpenSpec := { _root_.Go.OpenSpec.ofChange s with cond := some uptoSmall }

/-- 'laws.FnExactBestProfile', WHERE WHAT IT READS IS OF BULK AT MOST 1048576: true; the input reads as it did. -/
def fnExactBestProfileUptoRow : OpenClaim := { program := "ytdipbpckmcmljaa", sum := "4866d66c7b8d50f8798923a1f2d2cede180192497aa947a49e4bfba2e5f270ed", func := "loop.example/g00914/laws.FnExactBestProfile", spec := "fnExactBestProfile", apart := false, narrowed := true }
def FnExactBestProfileUptoSaid : Prop := fnExactBestProfileUptoRow.holds Try.pinned (OpenSpec.upto fnExactBestProfileSpec)

/-- 'laws.FnExactBestBelow', WHERE WHAT IT READS IS OF BULK AT MOST 1048576: true; the input reads as it did. -/
def fnExactBestBelowUptoRow : OpenClaim := { program := "ytdipbpckmcmljaa", sum := "4866d66c7b8d50f8798923a1f2d2cede180192497aa947a49e4bfba2e5f270ed", func := "loop.example/g00914/laws.FnExactBestBelow", spec := "fnExactBestBelow", apart := false, narrowed := true }
def FnExactBestBelowUptoSaid : Prop := fnExactBestBelowUptoRow.holds Try.pinned (OpenSpec.upto fnExactBestBelowSpec)

/-- 'laws.FnSections', WHERE WHAT IT READS IS OF BULK AT MOST 1048576: true; the input reads as it did. -/
def fnSectionsUptoRow : OpenClaim := { program := "ytdipbpckmcmljaa", sum := "4866d66c7b8d50f8798923a1f2d2cede180192497aa947a49e4bfba2e5f270ed", func := "loop.example/g00914/laws.FnSections", spec := "fnSections", apart := false, narrowed := true }
def FnSectionsUptoSaid : Prop := fnSectionsUptoRow.holds Try.pinned (OpenSpec.upto fnSectionsSpec)

/-- 'laws.FnProfiles', WHERE WHAT IT READS IS OF BULK AT MOST 1048576: true; the input reads as it did. -/
def fnProfilesUptoRow : OpenClaim := { program := "ytdipbpckmcmljaa", sum := "4866d66c7b8d50f8798923a1f2d2cede180192497aa947a49e4bfba2e5f270ed", func := "loop.example/g00914/laws.FnProfiles", spec := "fnProfiles", apart := false, narrowed := true }
def FnProfilesUptoSaid : Prop := fnProfilesUptoRow.holds Try.pinned (OpenSpec.upto fnProfilesSpec)

/-- 'laws.FnExactIsWide', WHERE WHAT IT READS IS OF BULK AT MOST 1048576: true; the input reads as it did. -/
def fnExactIsWideUptoRow : OpenClaim := { program := "ytdipbpckmcmljaa", sum := "4866d66c7b8d50f8798923a1f2d2cede180192497aa947a49e4bfba2e5f270ed", func := "loop.example/g00914/laws.FnExactIsWide", spec := "fnExactIsWide", apart := false, narrowed := true }
def FnExactIsWideUptoSaid : Prop := fnExactIsWideUptoRow.holds Try.pinned (OpenSpec.upto fnExactIsWideSpec)

/-- 'laws.FnExactWideBlocks', WHERE WHAT IT READS IS OF BULK AT MOST 1048576: true; the input reads as it did. -/
def fnExactWideBlocksUptoRow : OpenClaim := { program := "ytdipbpckmcmljaa", sum := "4866d66c7b8d50f8798923a1f2d2cede180192497aa947a49e4bfba2e5f270ed", func := "loop.example/g00914/laws.FnExactWideBlocks", spec := "fnExactWideBlocks", apart := false, narrowed := true }
def FnExactWideBlocksUptoSaid : Prop := fnExactWideBlocksUptoRow.holds Try.pinned (OpenSpec.upto fnExactWideBlocksSpec)

/-- 'laws.FnExactAreNested', WHERE WHAT IT READS IS OF BULK AT MOST 1048576: true; the input reads as it did. -/
def fnExactAreNestedUptoRow : OpenClaim := { program := "ytdipbpckmcmljaa", sum := "4866d66c7b8d50f8798923a1f2d2cede180192497aa947a49e4bfba2e5f270ed", func := "loop.example/g00914/laws.FnExactAreNested", spec := "fnExactAreNested", apart := false, narrowed := true }
def FnExactAreNestedUptoSaid : Prop := fnExactAreNestedUptoRow.holds Try.pinned (OpenSpec.upto fnExactAreNestedSpec)

/-- 'laws.FnExactPhaseOfBlock', WHERE WHAT IT READS IS OF BULK AT MOST 1048576: true; the input reads as it did. -/
def fnExactPhaseOfBlockUptoRow : OpenClaim := { program := "ytdipbpckmcmljaa", sum := "4866d66c7b8d50f8798923a1f2d2cede180192497aa947a49e4bfba2e5f270ed", func := "loop.example/g00914/laws.FnExactPhaseOfBlock", spec := "fnExactPhaseOfBlock", apart := false, narrowed := true }
def FnExactPhaseOfBlockUptoSaid : Prop := fnExactPhaseOfBlockUptoRow.holds Try.pinned (OpenSpec.upto fnExactPhaseOfBlockSpec)

/-- 'laws.FnExactFillPits', WHERE WHAT IT READS IS OF BULK AT MOST 1048576: true; the input reads as it did. -/
def fnExactFillPitsUptoRow : OpenClaim := { program := "ytdipbpckmcmljaa", sum := "4866d66c7b8d50f8798923a1f2d2cede180192497aa947a49e4bfba2e5f270ed", func := "loop.example/g00914/laws.FnExactFillPits", spec := "fnExactFillPits", apart := false, narrowed := true }
def FnExactFillPitsUptoSaid : Prop := fnExactFillPitsUptoRow.holds Try.pinned (OpenSpec.upto fnExactFillPitsSpec)

/-- 'laws.FnExactPhasesOf', WHERE WHAT IT READS IS OF BULK AT MOST 1048576: true; the input reads as it did. -/
def fnExactPhasesOfUptoRow : OpenClaim := { program := "ytdipbpckmcmljaa", sum := "4866d66c7b8d50f8798923a1f2d2cede180192497aa947a49e4bfba2e5f270ed", func := "loop.example/g00914/laws.FnExactPhasesOf", spec := "fnExactPhasesOf", apart := false, narrowed := true }
def FnExactPhasesOfUptoSaid : Prop := fnExactPhasesOfUptoRow.holds Try.pinned (OpenSpec.upto fnExactPhasesOfSpec)

/-- 'laws.FnExactJoinPhases', WHERE WHAT IT READS IS OF BULK AT MOST 1048576: true; the input reads as it did. -/
def fnExactJoinPhasesUptoRow : OpenClaim := { program := "ytdipbpckmcmljaa", sum := "4866d66c7b8d50f8798923a1f2d2cede180192497aa947a49e4bfba2e5f270ed", func := "loop.example/g00914/laws.FnExactJoinPhases", spec := "fnExactJoinPhases", apart := false, narrowed := true }
def FnExactJoinPhasesUptoSaid : Prop := fnExactJoinPhasesUptoRow.holds Try.pinned (OpenSpec.upto fnExactJoinPhasesSpec)

/-- 'laws.FnExactPhaseSums', WHERE WHAT IT READS IS OF BULK AT MOST 1048576: true; the input reads as it did. -/
def fnExactPhaseSumsUptoRow : OpenClaim := { program := "ytdipbpckmcmljaa", sum := "4866d66c7b8d50f8798923a1f2d2cede180192497aa947a49e4bfba2e5f270ed", func := "loop.example/g00914/laws.FnExactPhaseSums", spec := "fnExactPhaseSums", apart := false, narrowed := true }
def FnExactPhaseSumsUptoSaid : Prop := fnExactPhaseSumsUptoRow.holds Try.pinned (OpenSpec.upto fnExactPhaseSumsSpec)

end Rows
end Go.Proofs.Ytdipbpckmcmljaa

/-
  No cell of these rows narrows 'for every input' (looked for: loops, veiled, ifaces, maps, wideKeys, modest, calm, conditions, laid).
  DERIVED. THE GIVEN ROWS OF THIS SEAT. 5 by the template 'for every input the law returns true; each argument reads behind the call as it read before'; 0 by the template 'total and deterministic' (their statements: YtlkppimbbbdmbaaTotals.lean).
  GIVEN WITH THE SEED: the statements are not yours to turn. If you find one false, say at which input.
  Laid BY PROGRAM, IN A SANDBOX (cutbox-rows.mjs): the forced cells as the released guide's own fill.sh prints them over the translation 52d732e408070df5… (all of the seat's roots in one cut). By AI agents, Wed Nov 11 2026. No macro, syntax, notation, axiom, sorry.
-/
import Derived.Test.YtlkppimbbbdmbaaChecked
import GoSem.Claim
import GoSem.ClaimJoined
import GoSem.ClaimMapViews
import Derived.JoinedTies
import Derived.KernelRfl
namespace Go.Proofs.Ytlkppimbbbdmbaa
/- THE CELL 'sum', in the pinned program and in every row, IS THE sha256 OF THE DUMP (.gsa) THAT YtlkppimbbbdmbaaProg.lean LOADS. Nothing in Lean hashes anything: it is a label: what it is worth is what the hold of that sum in a sandbox is worth. -/
noncomputable def Try.pinned : Pinned := { name := "ytlkppimbbbdmbaa", sum := "52d732e408070df5bea17906cdd23782281bbae2ee630e4369fab1382f28bd20", checked := Try.checked }
namespace Rows
def none {H : Type} : Left H := { results := [], args := [] }

/-- 'laws.FnCertificates': WHATEVER THE INPUT: true; the input reads as it did. -/
def fnCertificatesSpec : ChangeSpec := { name := "fnCertificates", fn := fun _ => fun
  | [d1, d2] => { results := [.lit (.bool true)], args := [d1, d2] }
  | _ => none }
def fnCertificatesRow : OpenClaim := { program := "ytlkppimbbbdmbaa", sum := "52d732e408070df5bea17906cdd23782281bbae2ee630e4369fab1382f28bd20", func := "loop.example/g00914/laws.FnCertificates", spec := "fnCertificates", recurses := true, apart := false }
def FnCertificatesSaid : Prop := fnCertificatesRow.holds Try.pinned (OpenSpec.ofChange fnCertificatesSpec)

/-- ITS FALSE NEIGHBOUR: 'it returns false'. Refute it at one input. -/
def fnCertificatesWrong : ChangeSpec := { name := "fnCertificates", fn := fun _ => fun
  | [d1, d2] => { results := [.lit (.bool false)], args := [d1, d2] }
  | _ => none }
def FnCertificatesWrongFalsely : Prop := fnCertificatesRow.holds Try.pinned (OpenSpec.ofChange fnCertificatesWrong)

/-- 'laws.FnShells': WHATEVER THE INPUT: true; the input reads as it did. -/
def fnShellsSpec : ChangeSpec := { name := "fnShells", fn := fun _ => fun
  | [d1, d2] => { results := [.lit (.bool true)], args := [d1, d2] }
  | _ => none }
def fnShellsRow : OpenClaim := { program := "ytlkppimbbbdmbaa", sum := "52d732e408070df5bea17906cdd23782281bbae2ee630e4369fab1382f28bd20", func := "loop.example/g00914/laws.FnShells", spec := "fnShells", recurses := true, apart := false }
def FnShellsSaid : Prop := fnShellsRow.holds Try.pinned (OpenSpec.ofChange fnShellsSpec)

/-- ITS FALSE NEIGHBOUR: 'it returns false'. Refute it at one input. -/
def fnShellsWrong : ChangeSpec := { name := "fnShells", fn := fun _ => fun
  | [d1, d2] => { results := [.lit (.bool false)], args := [d1, d2] }
  | _ => none }
def FnShellsWrongFalsely : Prop := fnShellsRow.holds Try.pinned (OpenSpec.ofChange fnShellsWrong)

/-- 'laws.FnPits': WHATEVER THE INPUT: true; the input reads as it did. -/
def fnPitsSpec : ChangeSpec := { name := "fnPits", fn := fun _ => fun
  | [d1, d2] => { results := [.lit (.bool true)], args := [d1, d2] }
  | _ => none }
def fnPitsRow : OpenClaim := { program := "ytlkppimbbbdmbaa", sum := "52d732e408070df5bea17906cdd23782281bbae2ee630e4369fab1382f28bd20", func := "loop.example/g00914/laws.FnPits", spec := "fnPits", recurses := true, apart := false }
def FnPitsSaid : Prop := fnPitsRow.holds Try.pinned (OpenSpec.ofChange fnPitsSpec)

/-- ITS FALSE NEIGHBOUR: 'it returns false'. Refute it at one input. -/
def fnPitsWrong : ChangeSpec := { name := "fnPits", fn := fun _ => fun
  | [d1, d2] => { results := [.lit (.bool false)], args := [d1, d2] }
  | _ => none }
def FnPitsWrongFalsely : Prop := fnPitsRow.holds Try.pinned (OpenSpec.ofChange fnPitsWrong)

/-- 'laws.FnFactors': WHATEVER THE INPUT: true; the input reads as it did. -/
def fnFactorsSpec : ChangeSpec := { name := "fnFactors", fn := fun _ => fun
  | [d1, d2] => { results := [.lit (.bool true)], args := [d1, d2] }
  | _ => none }
def fnFactorsRow : OpenClaim := { program := "ytlkppimbbbdmbaa", sum := "52d732e408070df5bea17906cdd23782281bbae2ee630e4369fab1382f28bd20", func := "loop.example/g00914/laws.FnFactors", spec := "fnFactors", recurses := true, apart := false }
def FnFactorsSaid : Prop := fnFactorsRow.holds Try.pinned (OpenSpec.ofChange fnFactorsSpec)

/-- ITS FALSE NEIGHBOUR: 'it returns false'. Refute it at one input. -/
def fnFactorsWrong : ChangeSpec := { name := "fnFactors", fn := fun _ => fun
  | [d1, d2] => { results := [.lit (.bool false)], args := [d1, d2] }
  | _ => none }
def FnFactorsWrongFalsely : Prop := fnFactorsRow.holds Try.pinned (OpenSpec.ofChange fnFactorsWrong)

/-- 'laws.FnForced': WHATEVER THE INPUT: true; the input reads as it did. -/
def fnForcedSpec : ChangeSpec := { name := "fnForced", fn := fun _ => fun
  | [d1, d2] => { results := [.lit (.bool true)], args := [d1, d2] }
  | _ => none }
def fnForcedRow : OpenClaim := { program := "ytlkppimbbbdmbaa", sum := "52d732e408070df5bea17906cdd23782281bbae2ee630e4369fab1382f28bd20", func := "loop.example/g00914/laws.FnForced", spec := "fnForced", recurses := true, apart := false }
def FnForcedSaid : Prop := fnForcedRow.holds Try.pinned (OpenSpec.ofChange fnForcedSpec)

/-- ITS FALSE NEIGHBOUR: 'it returns false'. Refute it at one input. -/
def fnForcedWrong : ChangeSpec := { name := "fnForced", fn := fun _ => fun
  | [d1, d2] => { results := [.lit (.bool false)], args := [d1, d2] }
  | _ => none }
def FnForcedWrongFalsely : Prop := fnForcedRow.holds Try.pinned (OpenSpec.ofChange fnForcedWrong)

/- THE SECOND FORM. 'bulk': how many values and letters a reading holds, each counted each time it is reached (what is shared counts as often as it is met; a slice's spare places count too). A statement '..UptoSaid' is the law's where the arguments, and the package variables that the reading takes, are together of bulk at most 1048576: NARROWER than '..Said'. Prove '..Said' where nothing that the law and all that it calls make is longer than what came in: it says more and counts as full. Else prove '..UptoSaid'. A law counts once. -/
mutual
def uptoBulk {H : Type} : DataW H → Nat
  | .lit (.string bytes) => bytes.length + 1
  | .lit _ => 1
  | .nil => 1
  | .ptr d => uptoBulk d + 1
  | .slice elems spare => uptoBulkAll elems + uptoBulkAll spare + 1
  | .agg parts => uptoBulkAll parts + 1
  | .iface _ d => uptoBulk d + 1
  | .map entries => uptoBulkEntries entries + 1
  | .held _ => 1
def uptoBulkAll {H : Type} : List (DataW H) → Nat
  | [] => 0
  | d :: r => uptoBulk d + uptoBulkAll r
def uptoBulkEntries {H : Type} : List (Lit × DataW H) → Nat
  | [] => 0
  | x :: r => uptoBulkEntry x + uptoBulkEntries r
def uptoBulkEntry {H : Type} : Lit × DataW H → Nat
  | (.string bytes, d) => bytes.length + uptoBulk d + 1
  | (_, d) => uptoBulk d + 1
 end
def uptoSmall : (H : Type) → List (DataW H) → Bool := fun _ ds => decide (uptoBulkAll ds ≤ 1048576)
def OpenSpec.upto (s : _root_.Go.ChangeSpec) : _root_.Go.OpenSpec := { _root_.Go.OpenSpec.ofChange s with cond := some uptoSmall }

/-- 'laws.FnCertificates', WHERE WHAT IT READS IS OF BULK AT MOST 1048576: true; the input reads as it did. -/
def fnCertificatesUptoRow : OpenClaim := { program := "ytlkppimbbbdmbaa", sum := "52d732e408070df5bea17906cdd23782281bbae2ee630e4369fab1382f28bd20", func := "loop.example/g00914/laws.FnCertificates", spec := "fnCertificates", recurses := true, apart := false, narrowed := true }
def FnCertificatesUptoSaid : Prop := fnCertificatesUptoRow.holds Try.pinned (OpenSpec.upto fnCertificatesSpec)

/-- 'laws.FnShells', WHERE WHAT IT READS IS OF BULK AT MOST 1048576: true; the input reads as it did. -/
def fnShellsUptoRow : OpenClaim := { program := "ytlkppimbbbdmbaa", sum := "52d732e408070df5bea17906cdd23782281bbae2ee630e4369fab1382f28bd20", func := "loop.example/g00914/laws.FnShells", spec := "fnShells", recurses := true, apart := false, narrowed := true }
def FnShellsUptoSaid : Prop := fnShellsUptoRow.holds Try.pinned (OpenSpec.upto fnShellsSpec)

/-- 'laws.FnPits', WHERE WHAT IT READS IS OF BULK AT MOST 1048576: true; the input reads as it did. -/
def fnPitsUptoRow : OpenClaim := { program := "ytlkppimbbbdmbaa", sum := "52d732e408070df5bea17906cdd23782281bbae2ee630e4369fab1382f28bd20", func := "loop.example/g00914/laws.FnPits", spec := "fnPits", recurses := true, apart := false, narrowed := true }
def FnPitsUptoSaid : Prop := fnPitsUptoRow.holds Try.pinned (OpenSpec.upto fnPitsSpec)

/-- 'laws.FnFactors', WHERE WHAT IT READS IS OF BULK AT MOST 1048576: true; the input reads as it did. -/
def fnFactorsUptoRow : OpenClaim := { program := "ytlkppimbbbdmbaa", sum := "52d732e408070df5bea17906cdd23782281bbae2ee630e4369fab1382f28bd20", func := "loop.example/g00914/laws.FnFactors", spec := "fnFactors", recurses := true, apart := false, narrowed := true }
def FnFactorsUptoSaid : Prop := fnFactorsUptoRow.holds Try.pinned (OpenSpec.upto fnFactorsSpec)

/-- 'laws.FnForced', WHERE WHAT IT READS IS OF BULK AT MOST 1048576: true; the input reads as it did. -/
def fnForcedUptoRow : OpenClaim := { program := "ytlkppimbbbdmbaa", sum := "52d732e408070df5bea17906cdd23782281bbae2ee630e4369fab1382f28bd20", func := "loop.example/g00914/laws.FnForced", spec := "fnForced", recurses := true, apart := false, narrowed := true }
def FnForcedUptoSaid : Prop := fnForcedUptoRow.holds Try.pinned (OpenSpec.upto fnForcedSpec)

end Rows
end Go.Proofs.Ytlkppimbbbdmbaa

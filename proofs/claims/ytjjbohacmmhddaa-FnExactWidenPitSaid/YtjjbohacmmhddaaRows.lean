/-
  No cell of these rows narrows 'for every input' (looked for: loops, veiled, ifaces, maps, wideKeys, modest, calm, conditions, laid).
  DERIVED. THE GIVEN ROWS OF THIS SEAT. 4 by the template 'for every input the law returns true; each argument reads behind the call as it read before'; 0 by the template 'total and deterministic' (their statements: YtjjbohacmmhddaaTotals.lean).
  GIVEN WITH THE SEED: the statements are not yours to turn. If you find one false, say at which input.
  Laid BY PROGRAM, IN A SANDBOX (cutbox-rows.mjs): the forced cells as the released guide's own fill.sh prints them over the translation 53c9b4edea661b1e… (all of the seat's roots in one cut). By AI agents, Wed Nov 11 2026. No macro, syntax, notation, axiom, sorry.
-/
import Derived.Test.YtjjbohacmmhddaaChecked
import GoSem.Claim
import GoSem.ClaimJoined
import GoSem.ClaimMapViews
import Derived.JoinedTies
import Derived.KernelRfl
namespace Go.Proofs.Ytjjbohacmmhddaa
/- THE CELL 'sum', in the pinned program and in every row, IS THE sha256 OF THE DUMP (.gsa) THAT YtjjbohacmmhddaaProg.lean LOADS. Nothing in Lean hashes anything: it is a label: what it is worth is what the hold of that sum in a sandbox is worth. -/
noncomputable def Try.pinned : Pinned := { name := "ytjjbohacmmhddaa", sum := "53c9b4edea661b1e683f8442fc7c18860e4e0f773dc242c71edee9755aef3d72", checked := Try.checked }
namespace Rows
def none {H : Type} : Left H := { results := [], args := [] }

/-- 'laws.FnExactTrimPit': WHATEVER THE INPUT: true; the input reads as it did. -/
def fnExactTrimPitSpec : ChangeSpec := { name := "fnExactTrimPit", fn := fun _ => fun
  | [d1, d2, d3, d4] => { results := [.lit (.bool true)], args := [d1, d2, d3, d4] }
  | _ => none }
def fnExactTrimPitRow : OpenClaim := { program := "ytjjbohacmmhddaa", sum := "53c9b4edea661b1e683f8442fc7c18860e4e0f773dc242c71edee9755aef3d72", func := "loop.example/g00914/laws.FnExactTrimPit", spec := "fnExactTrimPit", apart := false }
def FnExactTrimPitSaid : Prop := fnExactTrimPitRow.holds Try.pinned (OpenSpec.ofChange fnExactTrimPitSpec)

/-- ITS FALSE NEIGHBOUR: 'it returns false'. Refute it at one input. -/
def fnExactTrimPitWrong : ChangeSpec := { name := "fnExactTrimPit", fn := fun _ => fun
  | [d1, d2, d3, d4] => { results := [.lit (.bool false)], args := [d1, d2, d3, d4] }
  | _ => none }
def FnExactTrimPitWrongFalsely : Prop := fnExactTrimPitRow.holds Try.pinned (OpenSpec.ofChange fnExactTrimPitWrong)

/-- 'laws.FnExactWidenPit': WHATEVER THE INPUT: true; the input reads as it did. -/
def fnExactWidenPitSpec : ChangeSpec := { name := "fnExactWidenPit", fn := fun _ => fun
  | [d1, d2, d3, d4] => { results := [.lit (.bool true)], args := [d1, d2, d3, d4] }
  | _ => none }
def fnExactWidenPitRow : OpenClaim := { program := "ytjjbohacmmhddaa", sum := "53c9b4edea661b1e683f8442fc7c18860e4e0f773dc242c71edee9755aef3d72", func := "loop.example/g00914/laws.FnExactWidenPit", spec := "fnExactWidenPit", apart := false }
def FnExactWidenPitSaid : Prop := fnExactWidenPitRow.holds Try.pinned (OpenSpec.ofChange fnExactWidenPitSpec)

/-- ITS FALSE NEIGHBOUR: 'it returns false'. Refute it at one input. -/
def fnExactWidenPitWrong : ChangeSpec := { name := "fnExactWidenPit", fn := fun _ => fun
  | [d1, d2, d3, d4] => { results := [.lit (.bool false)], args := [d1, d2, d3, d4] }
  | _ => none }
def FnExactWidenPitWrongFalsely : Prop := fnExactWidenPitRow.holds Try.pinned (OpenSpec.ofChange fnExactWidenPitWrong)

/-- 'laws.FnWidths': WHATEVER THE INPUT: true; the input reads as it did. -/
def fnWidthsSpec : ChangeSpec := { name := "fnWidths", fn := fun _ => fun
  | [d1, d2] => { results := [.lit (.bool true)], args := [d1, d2] }
  | _ => none }
def fnWidthsRow : OpenClaim := { program := "ytjjbohacmmhddaa", sum := "53c9b4edea661b1e683f8442fc7c18860e4e0f773dc242c71edee9755aef3d72", func := "loop.example/g00914/laws.FnWidths", spec := "fnWidths", apart := false }
def FnWidthsSaid : Prop := fnWidthsRow.holds Try.pinned (OpenSpec.ofChange fnWidthsSpec)

/-- ITS FALSE NEIGHBOUR: 'it returns false'. Refute it at one input. -/
def fnWidthsWrong : ChangeSpec := { name := "fnWidths", fn := fun _ => fun
  | [d1, d2] => { results := [.lit (.bool false)], args := [d1, d2] }
  | _ => none }
def FnWidthsWrongFalsely : Prop := fnWidthsRow.holds Try.pinned (OpenSpec.ofChange fnWidthsWrong)

/-- 'laws.FnPhases': WHATEVER THE INPUT: true; the input reads as it did. -/
def fnPhasesSpec : ChangeSpec := { name := "fnPhases", fn := fun _ => fun
  | [d1, d2] => { results := [.lit (.bool true)], args := [d1, d2] }
  | _ => none }
def fnPhasesRow : OpenClaim := { program := "ytjjbohacmmhddaa", sum := "53c9b4edea661b1e683f8442fc7c18860e4e0f773dc242c71edee9755aef3d72", func := "loop.example/g00914/laws.FnPhases", spec := "fnPhases", apart := false }
def FnPhasesSaid : Prop := fnPhasesRow.holds Try.pinned (OpenSpec.ofChange fnPhasesSpec)

/-- ITS FALSE NEIGHBOUR: 'it returns false'. Refute it at one input. -/
def fnPhasesWrong : ChangeSpec := { name := "fnPhases", fn := fun _ => fun
  | [d1, d2] => { results := [.lit (.bool false)], args := [d1, d2] }
  | _ => none }
def FnPhasesWrongFalsely : Prop := fnPhasesRow.holds Try.pinned (OpenSpec.ofChange fnPhasesWrong)

/- THE SECOND FORM. 'bulk': how many values and letters a reading holds, each counted each time it is reached (what is shared counts as often as it is met; a slice's spare places count too). A statement '..UptoSaid' is the law's where the arguments, and the package variables that the reading takes, are together of bulk at most 1048576: NARROWER than '..Said'. Prove '..Said' where nothing that the law and all that it calls make is longer than what came in: it says more and counts as full. Else prove '..UptoSaid'. A law counts once. -/
mutual
def uptoBulk {H : Type} : DataW H → Nat
  | .lit (.string bytes) => bytes.length + 1
  | .lit _ => 1
  | .nil => 1
  | .ptr d => uptoBulk d + 1
  | .slice elems spare => uptoBulkAll elems + uptoBulkAll spare + 1
  | .agg parts => uptoBulkAll parts + 1
  | .iface _ d => uptoBulk d + 1
  | .map entries => uptoBulkEntries entries + 1
  | .held _ => 1
def uptoBulkAll {H : Type} : List (DataW H) → Nat
  | [] => 0
  | d :: r => uptoBulk d + uptoBulkAll r
def uptoBulkEntries {H : Type} : List (Lit × DataW H) → Nat
  | [] => 0
  | x :: r => uptoBulkEntry x + uptoBulkEntries r
def uptoBulkEntry {H : Type} : Lit × DataW H → Nat
  | (.string bytes, d) => bytes.length + uptoBulk d + 1
  | (_, d) => uptoBulk d + 1
 end
def uptoSmall : (H : Type) → List (DataW H) → Bool := fun _ ds => decide (uptoBulkAll ds ≤ 1048576)
def OpenSpec.upto (s : _root_.Go.ChangeSpec) : _root_.Go.OpenSpec := { _root_.Go.OpenSpec.ofChange s with cond := some uptoSmall }

/-- 'laws.FnExactTrimPit', WHERE WHAT IT READS IS OF BULK AT MOST 1048576: true; the input reads as it did. -/
def fnExactTrimPitUptoRow : OpenClaim := { program := "ytjjbohacmmhddaa", sum := "53c9b4edea661b1e683f8442fc7c18860e4e0f773dc242c71edee9755aef3d72", func := "loop.example/g00914/laws.FnExactTrimPit", spec := "fnExactTrimPit", apart := false, narrowed := true }
def FnExactTrimPitUptoSaid : Prop := fnExactTrimPitUptoRow.holds Try.pinned (OpenSpec.upto fnExactTrimPitSpec)

/-- 'laws.FnExactWidenPit', WHERE WHAT IT READS IS OF BULK AT MOST 1048576: true; the input reads as it did. -/
def fnExactWidenPitUptoRow : OpenClaim := { program := "ytjjbohacmmhddaa", sum := "53c9b4edea661b1e683f8442fc7c18860e4e0f773dc242c71edee9755aef3d72", func := "loop.example/g00914/laws.FnExactWidenPit", spec := "fnExactWidenPit", apart := false, narrowed := true }
def FnExactWidenPitUptoSaid : Prop := fnExactWidenPitUptoRow.holds Try.pinned (OpenSpec.upto fnExactWidenPitSpec)

/-- 'laws.FnWidths', WHERE WHAT IT READS IS OF BULK AT MOST 1048576: true; the input reads as it did. -/
def fnWidthsUptoRow : OpenClaim := { program := "ytjjbohacmmhddaa", sum := "53c9b4edea661b1e683f8442fc7c18860e4e0f773dc242c71edee9755aef3d72", func := "loop.example/g00914/laws.FnWidths", spec := "fnWidths", apart := false, narrowed := true }
def FnWidthsUptoSaid : Prop := fnWidthsUptoRow.holds Try.pinned (OpenSpec.upto fnWidthsSpec)

/-- 'laws.FnPhases', WHERE WHAT IT READS IS OF BULK AT MOST 1048576: true; the input reads as it did. -/
def fnPhasesUptoRow : OpenClaim := { program := "ytjjbohacmmhddaa", sum := "53c9b4edea661b1e683f8442fc7c18860e4e0f773dc242c71edee9755aef3d72", func := "loop.example/g00914/laws.FnPhases", spec := "fnPhases", apart := false, narrowed := true }
def FnPhasesUptoSaid : Prop := fnPhasesUptoRow.holds Try.pinned (OpenSpec.upto fnPhasesSpec)

end Rows
end Go.Proofs.Ytjjbohacmmhddaa

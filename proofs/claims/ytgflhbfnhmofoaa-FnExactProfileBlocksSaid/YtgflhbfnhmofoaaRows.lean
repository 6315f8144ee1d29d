/-
  No cell of these rows narrows 'for every input' (looked for: loops, veiled, ifaces, maps, wideKeys, modest, calm, conditions, laid).
  DERIVED. THE GIVEN ROWS OF THIS SEAT. 12 by the template 'for every input the law returns true; each argument reads behind the call as it read before'; 0 by the template 'total and deterministic' (their statements: YtgflhbfnhmofoaaTotals.lean).
  GIVEN WITH THE SEED: the statements are not yours to turn. If you find one false, say at which input.
  Laid BY PROGRAM, IN A SANDBOX (cutbox-rows.mjs): the forced cells as the released guide's own fill.sh prints them over the translation 141347237936bd27… (all of the seat's roots in one cut). By AI agents, Wed Nov 11 2026. No macro, syntax, notation, axiom, sorry.
-/
import Derived.Test.YtgflhbfnhmofoaaChecked
import GoSem.Claim
import GoSem.ClaimJoined
import GoSem.ClaimMapViews
import Derived.JoinedTies
import Derived.KernelRfl
namespace Go.Proofs.Ytgflhbfnhmofoaa
/- THE CELL 'sum', in the pinned program and in every row, IS THE sha256 OF THE DUMP (.gsa) THAT YtgflhbfnhmofoaaProg.lean LOADS. Nothing in Lean hashes anything: it is a label: what it is worth is what the hold of that sum in a sandbox is worth. -/
noncomputable def Try.pinned : Pinned := { name := "ytgflhbfnhmofoaa", sum := "141347237936bd2734fcdb38b897a94c130eea354cb0f19c8424fd83a9f87363", checked := Try.checked }
namespace Rows
def none {H : Type} : Left H := { results := [], args := [] }

/-- 'laws.FnExactAreGains': WHATEVER THE INPUT: true; the input reads as it did. -/
def fnExactAreGainsSpec : ChangeSpec := { name := "fnExactAreGains", fn := fun _ => fun
  | [d1, d2, d3] => { results := [.lit (.bool true)], args := [d1, d2, d3] }
  | _ => none }
def fnExactAreGainsRow : OpenClaim := { program := "ytgflhbfnhmofoaa", sum := "141347237936bd2734fcdb38b897a94c130eea354cb0f19c8424fd83a9f87363", func := "loop.example/g00914/laws.FnExactAreGains", spec := "fnExactAreGains", apart := false }
def FnExactAreGainsSaid : Prop := fnExactAreGainsRow.holds Try.pinned (OpenSpec.ofChange fnExactAreGainsSpec)

/-- ITS FALSE NEIGHBOUR: 'it returns false'. Refute it at one input. -/
def fnExactAreGainsWrong : ChangeSpec := { name := "fnExactAreGains", fn := fun _ => fun
  | [d1, d2, d3] => { results := [.lit (.bool false)], args := [d1, d2, d3] }
  | _ => none }
def FnExactAreGainsWrongFalsely : Prop := fnExactAreGainsRow.holds Try.pinned (OpenSpec.ofChange fnExactAreGainsWrong)

/-- 'laws.FnExactCountProfiles': WHATEVER THE INPUT: true; the input reads as it did. -/
def fnExactCountProfilesSpec : ChangeSpec := { name := "fnExactCountProfiles", fn := fun _ => fun
  | [d1, d2] => { results := [.lit (.bool true)], args := [d1, d2] }
  | _ => none }
def fnExactCountProfilesRow : OpenClaim := { program := "ytgflhbfnhmofoaa", sum := "141347237936bd2734fcdb38b897a94c130eea354cb0f19c8424fd83a9f87363", func := "loop.example/g00914/laws.FnExactCountProfiles", spec := "fnExactCountProfiles", apart := false }
def FnExactCountProfilesSaid : Prop := fnExactCountProfilesRow.holds Try.pinned (OpenSpec.ofChange fnExactCountProfilesSpec)

/-- ITS FALSE NEIGHBOUR: 'it returns false'. Refute it at one input. -/
def fnExactCountProfilesWrong : ChangeSpec := { name := "fnExactCountProfiles", fn := fun _ => fun
  | [d1, d2] => { results := [.lit (.bool false)], args := [d1, d2] }
  | _ => none }
def FnExactCountProfilesWrongFalsely : Prop := fnExactCountProfilesRow.holds Try.pinned (OpenSpec.ofChange fnExactCountProfilesWrong)

/-- 'laws.FnExactFactorValues': WHATEVER THE INPUT: true; the input reads as it did. -/
def fnExactFactorValuesSpec : ChangeSpec := { name := "fnExactFactorValues", fn := fun _ => fun
  | [d1, d2, d3] => { results := [.lit (.bool true)], args := [d1, d2, d3] }
  | _ => none }
def fnExactFactorValuesRow : OpenClaim := { program := "ytgflhbfnhmofoaa", sum := "141347237936bd2734fcdb38b897a94c130eea354cb0f19c8424fd83a9f87363", func := "loop.example/g00914/laws.FnExactFactorValues", spec := "fnExactFactorValues", apart := false }
def FnExactFactorValuesSaid : Prop := fnExactFactorValuesRow.holds Try.pinned (OpenSpec.ofChange fnExactFactorValuesSpec)

/-- ITS FALSE NEIGHBOUR: 'it returns false'. Refute it at one input. -/
def fnExactFactorValuesWrong : ChangeSpec := { name := "fnExactFactorValues", fn := fun _ => fun
  | [d1, d2, d3] => { results := [.lit (.bool false)], args := [d1, d2, d3] }
  | _ => none }
def FnExactFactorValuesWrongFalsely : Prop := fnExactFactorValuesRow.holds Try.pinned (OpenSpec.ofChange fnExactFactorValuesWrong)

/-- 'laws.FnExactIsSection': WHATEVER THE INPUT: true; the input reads as it did. -/
def fnExactIsSectionSpec : ChangeSpec := { name := "fnExactIsSection", fn := fun _ => fun
  | [d] => { results := [.lit (.bool true)], args := [d] }
  | _ => none }
def fnExactIsSectionRow : OpenClaim := { program := "ytgflhbfnhmofoaa", sum := "141347237936bd2734fcdb38b897a94c130eea354cb0f19c8424fd83a9f87363", func := "loop.example/g00914/laws.FnExactIsSection", spec := "fnExactIsSection", apart := false }
def FnExactIsSectionSaid : Prop := fnExactIsSectionRow.holds Try.pinned (OpenSpec.ofChange fnExactIsSectionSpec)

/-- ITS FALSE NEIGHBOUR: 'it returns false'. Refute it at one input. -/
def fnExactIsSectionWrong : ChangeSpec := { name := "fnExactIsSection", fn := fun _ => fun
  | [d] => { results := [.lit (.bool false)], args := [d] }
  | _ => none }
def FnExactIsSectionWrongFalsely : Prop := fnExactIsSectionRow.holds Try.pinned (OpenSpec.ofChange fnExactIsSectionWrong)

/-- 'laws.FnExactIsChain': WHATEVER THE INPUT: true; the input reads as it did. -/
def fnExactIsChainSpec : ChangeSpec := { name := "fnExactIsChain", fn := fun _ => fun
  | [d] => { results := [.lit (.bool true)], args := [d] }
  | _ => none }
def fnExactIsChainRow : OpenClaim := { program := "ytgflhbfnhmofoaa", sum := "141347237936bd2734fcdb38b897a94c130eea354cb0f19c8424fd83a9f87363", func := "loop.example/g00914/laws.FnExactIsChain", spec := "fnExactIsChain", apart := false }
def FnExactIsChainSaid : Prop := fnExactIsChainRow.holds Try.pinned (OpenSpec.ofChange fnExactIsChainSpec)

/-- ITS FALSE NEIGHBOUR: 'it returns false'. Refute it at one input. -/
def fnExactIsChainWrong : ChangeSpec := { name := "fnExactIsChain", fn := fun _ => fun
  | [d] => { results := [.lit (.bool false)], args := [d] }
  | _ => none }
def FnExactIsChainWrongFalsely : Prop := fnExactIsChainRow.holds Try.pinned (OpenSpec.ofChange fnExactIsChainWrong)

/-- 'laws.FnExactSectionValues': WHATEVER THE INPUT: true; the input reads as it did. -/
def fnExactSectionValuesSpec : ChangeSpec := { name := "fnExactSectionValues", fn := fun _ => fun
  | [d] => { results := [.lit (.bool true)], args := [d] }
  | _ => none }
def fnExactSectionValuesRow : OpenClaim := { program := "ytgflhbfnhmofoaa", sum := "141347237936bd2734fcdb38b897a94c130eea354cb0f19c8424fd83a9f87363", func := "loop.example/g00914/laws.FnExactSectionValues", spec := "fnExactSectionValues", apart := false }
def FnExactSectionValuesSaid : Prop := fnExactSectionValuesRow.holds Try.pinned (OpenSpec.ofChange fnExactSectionValuesSpec)

/-- ITS FALSE NEIGHBOUR: 'it returns false'. Refute it at one input. -/
def fnExactSectionValuesWrong : ChangeSpec := { name := "fnExactSectionValues", fn := fun _ => fun
  | [d] => { results := [.lit (.bool false)], args := [d] }
  | _ => none }
def FnExactSectionValuesWrongFalsely : Prop := fnExactSectionValuesRow.holds Try.pinned (OpenSpec.ofChange fnExactSectionValuesWrong)

/-- 'laws.FnExactIsProfile': WHATEVER THE INPUT: true; the input reads as it did. -/
def fnExactIsProfileSpec : ChangeSpec := { name := "fnExactIsProfile", fn := fun _ => fun
  | [d1, d2] => { results := [.lit (.bool true)], args := [d1, d2] }
  | _ => none }
def fnExactIsProfileRow : OpenClaim := { program := "ytgflhbfnhmofoaa", sum := "141347237936bd2734fcdb38b897a94c130eea354cb0f19c8424fd83a9f87363", func := "loop.example/g00914/laws.FnExactIsProfile", spec := "fnExactIsProfile", apart := false }
def FnExactIsProfileSaid : Prop := fnExactIsProfileRow.holds Try.pinned (OpenSpec.ofChange fnExactIsProfileSpec)

/-- ITS FALSE NEIGHBOUR: 'it returns false'. Refute it at one input. -/
def fnExactIsProfileWrong : ChangeSpec := { name := "fnExactIsProfile", fn := fun _ => fun
  | [d1, d2] => { results := [.lit (.bool false)], args := [d1, d2] }
  | _ => none }
def FnExactIsProfileWrongFalsely : Prop := fnExactIsProfileRow.holds Try.pinned (OpenSpec.ofChange fnExactIsProfileWrong)

/-- 'laws.FnExactLeastProfile': WHATEVER THE INPUT: true; the input reads as it did. -/
def fnExactLeastProfileSpec : ChangeSpec := { name := "fnExactLeastProfile", fn := fun _ => fun
  | [d1, d2] => { results := [.lit (.bool true)], args := [d1, d2] }
  | _ => none }
def fnExactLeastProfileRow : OpenClaim := { program := "ytgflhbfnhmofoaa", sum := "141347237936bd2734fcdb38b897a94c130eea354cb0f19c8424fd83a9f87363", func := "loop.example/g00914/laws.FnExactLeastProfile", spec := "fnExactLeastProfile", apart := false }
def FnExactLeastProfileSaid : Prop := fnExactLeastProfileRow.holds Try.pinned (OpenSpec.ofChange fnExactLeastProfileSpec)

/-- ITS FALSE NEIGHBOUR: 'it returns false'. Refute it at one input. -/
def fnExactLeastProfileWrong : ChangeSpec := { name := "fnExactLeastProfile", fn := fun _ => fun
  | [d1, d2] => { results := [.lit (.bool false)], args := [d1, d2] }
  | _ => none }
def FnExactLeastProfileWrongFalsely : Prop := fnExactLeastProfileRow.holds Try.pinned (OpenSpec.ofChange fnExactLeastProfileWrong)

/-- 'laws.FnExactGreatestProfile': WHATEVER THE INPUT: true; the input reads as it did. -/
def fnExactGreatestProfileSpec : ChangeSpec := { name := "fnExactGreatestProfile", fn := fun _ => fun
  | [d1, d2] => { results := [.lit (.bool true)], args := [d1, d2] }
  | _ => none }
def fnExactGreatestProfileRow : OpenClaim := { program := "ytgflhbfnhmofoaa", sum := "141347237936bd2734fcdb38b897a94c130eea354cb0f19c8424fd83a9f87363", func := "loop.example/g00914/laws.FnExactGreatestProfile", spec := "fnExactGreatestProfile", apart := false }
def FnExactGreatestProfileSaid : Prop := fnExactGreatestProfileRow.holds Try.pinned (OpenSpec.ofChange fnExactGreatestProfileSpec)

/-- ITS FALSE NEIGHBOUR: 'it returns false'. Refute it at one input. -/
def fnExactGreatestProfileWrong : ChangeSpec := { name := "fnExactGreatestProfile", fn := fun _ => fun
  | [d1, d2] => { results := [.lit (.bool false)], args := [d1, d2] }
  | _ => none }
def FnExactGreatestProfileWrongFalsely : Prop := fnExactGreatestProfileRow.holds Try.pinned (OpenSpec.ofChange fnExactGreatestProfileWrong)

/-- 'laws.FnExactProfileValue': WHATEVER THE INPUT: true; the input reads as it did. -/
def fnExactProfileValueSpec : ChangeSpec := { name := "fnExactProfileValue", fn := fun _ => fun
  | [d1, d2] => { results := [.lit (.bool true)], args := [d1, d2] }
  | _ => none }
def fnExactProfileValueRow : OpenClaim := { program := "ytgflhbfnhmofoaa", sum := "141347237936bd2734fcdb38b897a94c130eea354cb0f19c8424fd83a9f87363", func := "loop.example/g00914/laws.FnExactProfileValue", spec := "fnExactProfileValue", apart := false }
def FnExactProfileValueSaid : Prop := fnExactProfileValueRow.holds Try.pinned (OpenSpec.ofChange fnExactProfileValueSpec)

/-- ITS FALSE NEIGHBOUR: 'it returns false'. Refute it at one input. -/
def fnExactProfileValueWrong : ChangeSpec := { name := "fnExactProfileValue", fn := fun _ => fun
  | [d1, d2] => { results := [.lit (.bool false)], args := [d1, d2] }
  | _ => none }
def FnExactProfileValueWrongFalsely : Prop := fnExactProfileValueRow.holds Try.pinned (OpenSpec.ofChange fnExactProfileValueWrong)

/-- 'laws.FnExactProfileText': WHATEVER THE INPUT: true; the input reads as it did. -/
def fnExactProfileTextSpec : ChangeSpec := { name := "fnExactProfileText", fn := fun _ => fun
  | [d1, d2] => { results := [.lit (.bool true)], args := [d1, d2] }
  | _ => none }
def fnExactProfileTextRow : OpenClaim := { program := "ytgflhbfnhmofoaa", sum := "141347237936bd2734fcdb38b897a94c130eea354cb0f19c8424fd83a9f87363", func := "loop.example/g00914/laws.FnExactProfileText", spec := "fnExactProfileText", apart := false }
def FnExactProfileTextSaid : Prop := fnExactProfileTextRow.holds Try.pinned (OpenSpec.ofChange fnExactProfileTextSpec)

/-- ITS FALSE NEIGHBOUR: 'it returns false'. Refute it at one input. -/
def fnExactProfileTextWrong : ChangeSpec := { name := "fnExactProfileText", fn := fun _ => fun
  | [d1, d2] => { results := [.lit (.bool false)], args := [d1, d2] }
  | _ => none }
def FnExactProfileTextWrongFalsely : Prop := fnExactProfileTextRow.holds Try.pinned (OpenSpec.ofChange fnExactProfileTextWrong)

/-- 'laws.FnExactProfileBlocks': WHATEVER THE INPUT: true; the input reads as it did. -/
def fnExactProfileBlocksSpec : ChangeSpec := { name := "fnExactProfileBlocks", fn := fun _ => fun
  | [d1, d2] => { results := [.lit (.bool true)], args := [d1, d2] }
  | _ => none }
def fnExactProfileBlocksRow : OpenClaim := { program := "ytgflhbfnhmofoaa", sum := "141347237936bd2734fcdb38b897a94c130eea354cb0f19c8424fd83a9f87363", func := "loop.example/g00914/laws.FnExactProfileBlocks", spec := "fnExactProfileBlocks", apart := false }
def FnExactProfileBlocksSaid : Prop := fnExactProfileBlocksRow.holds Try.pinned (OpenSpec.ofChange fnExactProfileBlocksSpec)

/-- ITS FALSE NEIGHBOUR: 'it returns false'. Refute it at one input. -/
def fnExactProfileBlocksWrong : ChangeSpec := { name := "fnExactProfileBlocks", fn := fun _ => fun
  | [d1, d2] => { results := [.lit (.bool false)], args := [d1, d2] }
  | _ => none }
def FnExactProfileBlocksWrongFalsely : Prop := fnExactProfileBlocksRow.holds Try.pinned (OpenSpec.ofChange fnExactProfileBlocksWrong)

/- THE SECOND FORM. 'bulk': how many values and letters a reading holds, each counted each time it is reached (what is shared counts as often as it is met; a slice's spare places count too). A statement '..UptoSaid' is the law's where the arguments, and the package variables that the reading takes, are together of bulk at most 1048576: NARROWER than '..Said'. Prove '..Said' where nothing that the law and all that it calls make is longer than what came in: it says more and counts as full. Else prove '..UptoSaid'. A law counts once. -/
mutual
def uptoBulk {H : Type} : DataW H → Nat
  | .lit (.string bytes) => bytes.length + 1
  | .lit _ => 1
  | .nil => 1
  | .ptr d => uptoBulk d + 1
  | .slice elems spare => uptoBulkAll elems + uptoBulkAll spare + 1
  | .agg parts => uptoBulkAll parts + 1
  | .iface _ d => uptoBulk d + 1
  | .map entries => uptoBulkEntries entries + 1
  | .held _ => 1
def uptoBulkAll {H : Type} : List (DataW H) → Nat
  | [] => 0
  | d :: r => uptoBulk d + uptoBulkAll r
def uptoBulkEntries {H : Type} : List (Lit × DataW H) → Nat
  | [] => 0
  | x :: r => uptoBulkEntry x + uptoBulkEntries r
def uptoBulkEntry {H : Type} : Lit × DataW H → Nat
  | (.string bytes, d) => bytes.length + uptoBulk d + 1
  | (_, d) => uptoBulk d + 1
 end
def uptoSmall : (H : Type) → List (DataW H) → Bool := fun _ ds => decide (uptoBulkAll ds ≤ 1048576)
def OpenSpec.upto (s : _root_.Go.ChangeSpec) : _root_.Go.OpenSpec := { _root_.Go.OpenSpec.ofChange s with cond := some uptoSmall }

/-- 'laws.FnExactAreGains', WHERE WHAT IT READS IS OF BULK AT MOST 1048576: true; the input reads as it did. -/
def fnExactAreGainsUptoRow : OpenClaim := { program := "ytgflhbfnhmofoaa", sum := "141347237936bd2734fcdb38b897a94c130eea354cb0f19c8424fd83a9f87363", func := "loop.example/g00914/laws.FnExactAreGains", spec := "fnExactAreGains", apart := false, narrowed := true }
def FnExactAreGainsUptoSaid : Prop := fnExactAreGainsUptoRow.holds Try.pinned (OpenSpec.upto fnExactAreGainsSpec)

/-- 'laws.FnExactCountProfiles', WHERE WHAT IT READS IS OF BULK AT MOST 1048576: true; the input reads as it did. -/
def fnExactCountProfilesUptoRow : OpenClaim := { program := "ytgflhbfnhmofoaa", sum := "141347237936bd2734fcdb38b897a94c130eea354cb0f19c8424fd83a9f87363", func := "loop.example/g00914/laws.FnExactCountProfiles", spec := "fnExactCountProfiles", apart := false, narrowed := true }
def FnExactCountProfilesUptoSaid : Prop := fnExactCountProfilesUptoRow.holds Try.pinned (OpenSpec.upto fnExactCountProfilesSpec)

/-- 'laws.FnExactFactorValues', WHERE WHAT IT READS IS OF BULK AT MOST 1048576: true; the input reads as it did. -/
def fnExactFactorValuesUptoRow : OpenClaim := { program := "ytgflhbfnhmofoaa", sum := "141347237936bd2734fcdb38b897a94c130eea354cb0f19c8424fd83a9f87363", func := "loop.example/g00914/laws.FnExactFactorValues", spec := "fnExactFactorValues", apart := false, narrowed := true }
def FnExactFactorValuesUptoSaid : Prop := fnExactFactorValuesUptoRow.holds Try.pinned (OpenSpec.upto fnExactFactorValuesSpec)

/-- 'laws.FnExactIsSection', WHERE WHAT IT READS IS OF BULK AT MOST 1048576: true; the input reads as it did. -/
def fnExactIsSectionUptoRow : OpenClaim := { program := "ytgflhbfnhmofoaa", sum := "141347237936bd2734fcdb38b897a94c130eea354cb0f19c8424fd83a9f87363", func := "loop.example/g00914/laws.FnExactIsSection", spec := "fnExactIsSection", apart := false, narrowed := true }
def FnExactIsSectionUptoSaid : Prop := fnExactIsSectionUptoRow.holds Try.pinned (OpenSpec.upto fnExactIsSectionSpec)

/-- 'laws.FnExactIsChain', WHERE WHAT IT READS IS OF BULK AT MOST 1048576: true; the input reads as it did. -/
def fnExactIsChainUptoRow : OpenClaim := { program := "ytgflhbfnhmofoaa", sum := "141347237936bd2734fcdb38b897a94c130eea354cb0f19c8424fd83a9f87363", func := "loop.example/g00914/laws.FnExactIsChain", spec := "fnExactIsChain", apart := false, narrowed := true }
def FnExactIsChainUptoSaid : Prop := fnExactIsChainUptoRow.holds Try.pinned (OpenSpec.upto fnExactIsChainSpec)

/-- 'laws.FnExactSectionValues', WHERE WHAT IT READS IS OF BULK AT MOST 1048576: true; the input reads as it did. -/
def fnExactSectionValuesUptoRow : OpenClaim := { program := "ytgflhbfnhmofoaa", sum := "141347237936bd2734fcdb38b897a94c130eea354cb0f19c8424fd83a9f87363", func := "loop.example/g00914/laws.FnExactSectionValues", spec := "fnExactSectionValues", apart := false, narrowed := true }
def FnExactSectionValuesUptoSaid : Prop := fnExactSectionValuesUptoRow.holds Try.pinned (OpenSpec.upto fnExactSectionValuesSpec)

/-- 'laws.FnExactIsProfile', WHERE WHAT IT READS IS OF BULK AT MOST 1048576: true; the input reads as it did. -/
def fnExactIsProfileUptoRow : OpenClaim := { program := "ytgflhbfnhmofoaa", sum := "141347237936bd2734fcdb38b897a94c130eea354cb0f19c8424fd83a9f87363", func := "loop.example/g00914/laws.FnExactIsProfile", spec := "fnExactIsProfile", apart := false, narrowed := true }
def FnExactIsProfileUptoSaid : Prop := fnExactIsProfileUptoRow.holds Try.pinned (OpenSpec.upto fnExactIsProfileSpec)

/-- 'laws.FnExactLeastProfile', WHERE WHAT IT READS IS OF BULK AT MOST 1048576: true; the input reads as it did. -/
def fnExactLeastProfileUptoRow : OpenClaim := { program := "ytgflhbfnhmofoaa", sum := "141347237936bd2734fcdb38b897a94c130eea354cb0f19c8424fd83a9f87363", func := "loop.example/g00914/laws.FnExactLeastProfile", spec := "fnExactLeastProfile", apart := false, narrowed := true }
def FnExactLeastProfileUptoSaid : Prop := fnExactLeastProfileUptoRow.holds Try.pinned (OpenSpec.upto fnExactLeastProfileSpec)

/-- 'laws.FnExactGreatestProfile', WHERE WHAT IT READS IS OF BULK AT MOST 1048576: true; the input reads as it did. -/
def fnExactGreatestProfileUptoRow : OpenClaim := { program := "ytgflhbfnhmofoaa", sum := "141347237936bd2734fcdb38b897a94c130eea354cb0f19c8424fd83a9f87363", func := "loop.example/g00914/laws.FnExactGreatestProfile", spec := "fnExactGreatestProfile", apart := false, narrowed := true }
def FnExactGreatestProfileUptoSaid : Prop := fnExactGreatestProfileUptoRow.holds Try.pinned (OpenSpec.upto fnExactGreatestProfileSpec)

/-- 'laws.FnExactProfileValue', WHERE WHAT IT READS IS OF BULK AT MOST 1048576: true; the input reads as it did. -/
def fnExactProfileValueUptoRow : OpenClaim := { program := "ytgflhbfnhmofoaa", sum := "141347237936bd2734fcdb38b897a94c130eea354cb0f19c8424fd83a9f87363", func := "loop.example/g00914/laws.FnExactProfileValue", spec := "fnExactProfileValue", apart := false, narrowed := true }
def FnExactProfileValueUptoSaid : Prop := fnExactProfileValueUptoRow.holds Try.pinned (OpenSpec.upto fnExactProfileValueSpec)

/-- 'laws.FnExactProfileText', WHERE WHAT IT READS IS OF BULK AT MOST 1048576: true; the input reads as it did. -/
def fnExactProfileTextUptoRow : OpenClaim := { program := "ytgflhbfnhmofoaa", sum := "141347237936bd2734fcdb38b897a94c130eea354cb0f19c8424fd83a9f87363", func := "loop.example/g00914/laws.FnExactProfileText", spec := "fnExactProfileText", apart := false, narrowed := true }
def FnExactProfileTextUptoSaid : Prop := fnExactProfileTextUptoRow.holds Try.pinned (OpenSpec.upto fnExactProfileTextSpec)

/-- 'laws.FnExactProfileBlocks', WHERE WHAT IT READS IS OF BULK AT MOST 1048576: true; the input reads as it did. -/
def fnExactProfileBlocksUptoRow : OpenClaim := { program := "ytgflhbfnhmofoaa", sum := "141347237936bd2734fcdb38b897a94c130eea354cb0f19c8424fd83a9f87363", func := "loop.example/g00914/laws.FnExactProfileBlocks", spec := "fnExactProfileBlocks", apart := false, narrowed := true }
def FnExactProfileBlocksUptoSaid : Prop := fnExactProfileBlocksUptoRow.holds Try.pinned (OpenSpec.upto fnExactProfileBlocksSpec)

end Rows
end Go.Proofs.Ytgflhbfnhmofoaa

/-
  No cell of these rows narrows 'for every input' (looked for: loops, veiled, ifaces, maps, wideKeys, modest, calm, conditions, laid).
  DERIVED. THE GIVEN ROWS OF THIS SEAT. 12 by the template 'for every input the law returns true; each argument reads behind the call as it read before'; 0 by the template 'total and deterministic' (their statements: YtmlmghkkalljbaaTotals.lean).
  GIVEN WITH THE SEED: the statements are not yours to turn. If you find one false, say at which input.
  Laid BY PROGRAM, IN A SANDBOX (cutbox-rows.mjs): the forced cells as the released guide's own fill.sh prints them over the translation 507794b558dc6b38… (all of the seat's roots in one cut). By AI agents, Wed Nov 11 2026. No macro, syntax, notation, axiom, sorry.
-/
import Derived.Test.YtmlmghkkalljbaaChecked
import GoSem.Claim
import GoSem.ClaimJoined
import GoSem.ClaimMapViews
import Derived.JoinedTies
import Derived.KernelRfl
namespace Go.Proofs.Ytmlmghkkalljbaa
/- THE CELL 'sum', in the pinned program and in every row, IS THE sha256 OF THE DUMP (.gsa) THAT YtmlmghkkalljbaaProg.lean LOADS. Nothing in Lean hashes anything: it is a label: what it is worth is what the hold of that sum in a sandbox is worth. -/
noncomputable def Try.pinned : Pinned := { name := "ytmlmghkkalljbaa", sum := "507794b558dc6b384d2639e58982ff830c62801cc4639cb167396fe5df71e0fc", checked := Try.checked }
namespace Rows
def none {H : Type} : Left H := { results := [], args := [] }

/-- 'laws.FnExactIsJob': WHATEVER THE INPUT: true; the input reads as it did. -/
def fnExactIsJobSpec : ChangeSpec := { name := "fnExactIsJob", fn := fun _ => fun
  | [d] => { results := [.lit (.bool true)], args := [d] }
  | _ => none }
def fnExactIsJobRow : OpenClaim := { program := "ytmlmghkkalljbaa", sum := "507794b558dc6b384d2639e58982ff830c62801cc4639cb167396fe5df71e0fc", func := "loop.example/g00914/laws.FnExactIsJob", spec := "fnExactIsJob", apart := false }
def FnExactIsJobSaid : Prop := fnExactIsJobRow.holds Try.pinned (OpenSpec.ofChange fnExactIsJobSpec)

/-- ITS FALSE NEIGHBOUR: 'it returns false'. Refute it at one input. -/
def fnExactIsJobWrong : ChangeSpec := { name := "fnExactIsJob", fn := fun _ => fun
  | [d] => { results := [.lit (.bool false)], args := [d] }
  | _ => none }
def FnExactIsJobWrongFalsely : Prop := fnExactIsJobRow.holds Try.pinned (OpenSpec.ofChange fnExactIsJobWrong)

/-- 'laws.FnExactIsPlan': WHATEVER THE INPUT: true; the input reads as it did. -/
def fnExactIsPlanSpec : ChangeSpec := { name := "fnExactIsPlan", fn := fun _ => fun
  | [d1, d2] => { results := [.lit (.bool true)], args := [d1, d2] }
  | _ => none }
def fnExactIsPlanRow : OpenClaim := { program := "ytmlmghkkalljbaa", sum := "507794b558dc6b384d2639e58982ff830c62801cc4639cb167396fe5df71e0fc", func := "loop.example/g00914/laws.FnExactIsPlan", spec := "fnExactIsPlan", apart := false }
def FnExactIsPlanSaid : Prop := fnExactIsPlanRow.holds Try.pinned (OpenSpec.ofChange fnExactIsPlanSpec)

/-- ITS FALSE NEIGHBOUR: 'it returns false'. Refute it at one input. -/
def fnExactIsPlanWrong : ChangeSpec := { name := "fnExactIsPlan", fn := fun _ => fun
  | [d1, d2] => { results := [.lit (.bool false)], args := [d1, d2] }
  | _ => none }
def FnExactIsPlanWrongFalsely : Prop := fnExactIsPlanRow.holds Try.pinned (OpenSpec.ofChange fnExactIsPlanWrong)

/-- 'laws.FnExactFactorIn': WHATEVER THE INPUT: true; the input reads as it did. -/
def fnExactFactorInSpec : ChangeSpec := { name := "fnExactFactorIn", fn := fun _ => fun
  | [d1, d2] => { results := [.lit (.bool true)], args := [d1, d2] }
  | _ => none }
def fnExactFactorInRow : OpenClaim := { program := "ytmlmghkkalljbaa", sum := "507794b558dc6b384d2639e58982ff830c62801cc4639cb167396fe5df71e0fc", func := "loop.example/g00914/laws.FnExactFactorIn", spec := "fnExactFactorIn", apart := false }
def FnExactFactorInSaid : Prop := fnExactFactorInRow.holds Try.pinned (OpenSpec.ofChange fnExactFactorInSpec)

/-- ITS FALSE NEIGHBOUR: 'it returns false'. Refute it at one input. -/
def fnExactFactorInWrong : ChangeSpec := { name := "fnExactFactorIn", fn := fun _ => fun
  | [d1, d2] => { results := [.lit (.bool false)], args := [d1, d2] }
  | _ => none }
def FnExactFactorInWrongFalsely : Prop := fnExactFactorInRow.holds Try.pinned (OpenSpec.ofChange fnExactFactorInWrong)

/-- 'laws.FnExactPlainWorth': WHATEVER THE INPUT: true; the input reads as it did. -/
def fnExactPlainWorthSpec : ChangeSpec := { name := "fnExactPlainWorth", fn := fun _ => fun
  | [d1, d2] => { results := [.lit (.bool true)], args := [d1, d2] }
  | _ => none }
def fnExactPlainWorthRow : OpenClaim := { program := "ytmlmghkkalljbaa", sum := "507794b558dc6b384d2639e58982ff830c62801cc4639cb167396fe5df71e0fc", func := "loop.example/g00914/laws.FnExactPlainWorth", spec := "fnExactPlainWorth", apart := false }
def FnExactPlainWorthSaid : Prop := fnExactPlainWorthRow.holds Try.pinned (OpenSpec.ofChange fnExactPlainWorthSpec)

/-- ITS FALSE NEIGHBOUR: 'it returns false'. Refute it at one input. -/
def fnExactPlainWorthWrong : ChangeSpec := { name := "fnExactPlainWorth", fn := fun _ => fun
  | [d1, d2] => { results := [.lit (.bool false)], args := [d1, d2] }
  | _ => none }
def FnExactPlainWorthWrongFalsely : Prop := fnExactPlainWorthRow.holds Try.pinned (OpenSpec.ofChange fnExactPlainWorthWrong)

/-- 'laws.FnExactMoveBlock': WHATEVER THE INPUT: true; the input reads as it did. -/
def fnExactMoveBlockSpec : ChangeSpec := { name := "fnExactMoveBlock", fn := fun _ => fun
  | [d1, d2, d3, d4] => { results := [.lit (.bool true)], args := [d1, d2, d3, d4] }
  | _ => none }
def fnExactMoveBlockRow : OpenClaim := { program := "ytmlmghkkalljbaa", sum := "507794b558dc6b384d2639e58982ff830c62801cc4639cb167396fe5df71e0fc", func := "loop.example/g00914/laws.FnExactMoveBlock", spec := "fnExactMoveBlock", apart := false }
def FnExactMoveBlockSaid : Prop := fnExactMoveBlockRow.holds Try.pinned (OpenSpec.ofChange fnExactMoveBlockSpec)

/-- ITS FALSE NEIGHBOUR: 'it returns false'. Refute it at one input. -/
def fnExactMoveBlockWrong : ChangeSpec := { name := "fnExactMoveBlock", fn := fun _ => fun
  | [d1, d2, d3, d4] => { results := [.lit (.bool false)], args := [d1, d2, d3, d4] }
  | _ => none }
def FnExactMoveBlockWrongFalsely : Prop := fnExactMoveBlockRow.holds Try.pinned (OpenSpec.ofChange fnExactMoveBlockWrong)

/-- 'laws.FnExactPitsOfPlan': WHATEVER THE INPUT: true; the input reads as it did. -/
def fnExactPitsOfPlanSpec : ChangeSpec := { name := "fnExactPitsOfPlan", fn := fun _ => fun
  | [d1, d2] => { results := [.lit (.bool true)], args := [d1, d2] }
  | _ => none }
def fnExactPitsOfPlanRow : OpenClaim := { program := "ytmlmghkkalljbaa", sum := "507794b558dc6b384d2639e58982ff830c62801cc4639cb167396fe5df71e0fc", func := "loop.example/g00914/laws.FnExactPitsOfPlan", spec := "fnExactPitsOfPlan", apart := false }
def FnExactPitsOfPlanSaid : Prop := fnExactPitsOfPlanRow.holds Try.pinned (OpenSpec.ofChange fnExactPitsOfPlanSpec)

/-- ITS FALSE NEIGHBOUR: 'it returns false'. Refute it at one input. -/
def fnExactPitsOfPlanWrong : ChangeSpec := { name := "fnExactPitsOfPlan", fn := fun _ => fun
  | [d1, d2] => { results := [.lit (.bool false)], args := [d1, d2] }
  | _ => none }
def FnExactPitsOfPlanWrongFalsely : Prop := fnExactPitsOfPlanRow.holds Try.pinned (OpenSpec.ofChange fnExactPitsOfPlanWrong)

/-- 'laws.FnExactOrderFaults': WHATEVER THE INPUT: true; the input reads as it did. -/
def fnExactOrderFaultsSpec : ChangeSpec := { name := "fnExactOrderFaults", fn := fun _ => fun
  | [d1, d2] => { results := [.lit (.bool true)], args := [d1, d2] }
  | _ => none }
def fnExactOrderFaultsRow : OpenClaim := { program := "ytmlmghkkalljbaa", sum := "507794b558dc6b384d2639e58982ff830c62801cc4639cb167396fe5df71e0fc", func := "loop.example/g00914/laws.FnExactOrderFaults", spec := "fnExactOrderFaults", apart := false }
def FnExactOrderFaultsSaid : Prop := fnExactOrderFaultsRow.holds Try.pinned (OpenSpec.ofChange fnExactOrderFaultsSpec)

/-- ITS FALSE NEIGHBOUR: 'it returns false'. Refute it at one input. -/
def fnExactOrderFaultsWrong : ChangeSpec := { name := "fnExactOrderFaults", fn := fun _ => fun
  | [d1, d2] => { results := [.lit (.bool false)], args := [d1, d2] }
  | _ => none }
def FnExactOrderFaultsWrongFalsely : Prop := fnExactOrderFaultsRow.holds Try.pinned (OpenSpec.ofChange fnExactOrderFaultsWrong)

/-- 'laws.FnExactDelayBlocks': WHATEVER THE INPUT: true; the input reads as it did. -/
def fnExactDelayBlocksSpec : ChangeSpec := { name := "fnExactDelayBlocks", fn := fun _ => fun
  | [d1, d2] => { results := [.lit (.bool true)], args := [d1, d2] }
  | _ => none }
def fnExactDelayBlocksRow : OpenClaim := { program := "ytmlmghkkalljbaa", sum := "507794b558dc6b384d2639e58982ff830c62801cc4639cb167396fe5df71e0fc", func := "loop.example/g00914/laws.FnExactDelayBlocks", spec := "fnExactDelayBlocks", apart := false }
def FnExactDelayBlocksSaid : Prop := fnExactDelayBlocksRow.holds Try.pinned (OpenSpec.ofChange fnExactDelayBlocksSpec)

/-- ITS FALSE NEIGHBOUR: 'it returns false'. Refute it at one input. -/
def fnExactDelayBlocksWrong : ChangeSpec := { name := "fnExactDelayBlocks", fn := fun _ => fun
  | [d1, d2] => { results := [.lit (.bool false)], args := [d1, d2] }
  | _ => none }
def FnExactDelayBlocksWrongFalsely : Prop := fnExactDelayBlocksRow.holds Try.pinned (OpenSpec.ofChange fnExactDelayBlocksWrong)

/-- 'laws.FnExactTonnesIn': WHATEVER THE INPUT: true; the input reads as it did. -/
def fnExactTonnesInSpec : ChangeSpec := { name := "fnExactTonnesIn", fn := fun _ => fun
  | [d1, d2] => { results := [.lit (.bool true)], args := [d1, d2] }
  | _ => none }
def fnExactTonnesInRow : OpenClaim := { program := "ytmlmghkkalljbaa", sum := "507794b558dc6b384d2639e58982ff830c62801cc4639cb167396fe5df71e0fc", func := "loop.example/g00914/laws.FnExactTonnesIn", spec := "fnExactTonnesIn", apart := false }
def FnExactTonnesInSaid : Prop := fnExactTonnesInRow.holds Try.pinned (OpenSpec.ofChange fnExactTonnesInSpec)

/-- ITS FALSE NEIGHBOUR: 'it returns false'. Refute it at one input. -/
def fnExactTonnesInWrong : ChangeSpec := { name := "fnExactTonnesIn", fn := fun _ => fun
  | [d1, d2] => { results := [.lit (.bool false)], args := [d1, d2] }
  | _ => none }
def FnExactTonnesInWrongFalsely : Prop := fnExactTonnesInRow.holds Try.pinned (OpenSpec.ofChange fnExactTonnesInWrong)

/-- 'laws.FnExactIsFeasible': WHATEVER THE INPUT: true; the input reads as it did. -/
def fnExactIsFeasibleSpec : ChangeSpec := { name := "fnExactIsFeasible", fn := fun _ => fun
  | [d1, d2] => { results := [.lit (.bool true)], args := [d1, d2] }
  | _ => none }
def fnExactIsFeasibleRow : OpenClaim := { program := "ytmlmghkkalljbaa", sum := "507794b558dc6b384d2639e58982ff830c62801cc4639cb167396fe5df71e0fc", func := "loop.example/g00914/laws.FnExactIsFeasible", spec := "fnExactIsFeasible", apart := false }
def FnExactIsFeasibleSaid : Prop := fnExactIsFeasibleRow.holds Try.pinned (OpenSpec.ofChange fnExactIsFeasibleSpec)

/-- ITS FALSE NEIGHBOUR: 'it returns false'. Refute it at one input. -/
def fnExactIsFeasibleWrong : ChangeSpec := { name := "fnExactIsFeasible", fn := fun _ => fun
  | [d1, d2] => { results := [.lit (.bool false)], args := [d1, d2] }
  | _ => none }
def FnExactIsFeasibleWrongFalsely : Prop := fnExactIsFeasibleRow.holds Try.pinned (OpenSpec.ofChange fnExactIsFeasibleWrong)

/-- 'laws.FnExactOverLimits': WHATEVER THE INPUT: true; the input reads as it did. -/
def fnExactOverLimitsSpec : ChangeSpec := { name := "fnExactOverLimits", fn := fun _ => fun
  | [d1, d2] => { results := [.lit (.bool true)], args := [d1, d2] }
  | _ => none }
def fnExactOverLimitsRow : OpenClaim := { program := "ytmlmghkkalljbaa", sum := "507794b558dc6b384d2639e58982ff830c62801cc4639cb167396fe5df71e0fc", func := "loop.example/g00914/laws.FnExactOverLimits", spec := "fnExactOverLimits", apart := false }
def FnExactOverLimitsSaid : Prop := fnExactOverLimitsRow.holds Try.pinned (OpenSpec.ofChange fnExactOverLimitsSpec)

/-- ITS FALSE NEIGHBOUR: 'it returns false'. Refute it at one input. -/
def fnExactOverLimitsWrong : ChangeSpec := { name := "fnExactOverLimits", fn := fun _ => fun
  | [d1, d2] => { results := [.lit (.bool false)], args := [d1, d2] }
  | _ => none }
def FnExactOverLimitsWrongFalsely : Prop := fnExactOverLimitsRow.holds Try.pinned (OpenSpec.ofChange fnExactOverLimitsWrong)

/-- 'laws.FnExactEarliestPeriods': WHATEVER THE INPUT: true; the input reads as it did. -/
def fnExactEarliestPeriodsSpec : ChangeSpec := { name := "fnExactEarliestPeriods", fn := fun _ => fun
  | [d] => { results := [.lit (.bool true)], args := [d] }
  | _ => none }
def fnExactEarliestPeriodsRow : OpenClaim := { program := "ytmlmghkkalljbaa", sum := "507794b558dc6b384d2639e58982ff830c62801cc4639cb167396fe5df71e0fc", func := "loop.example/g00914/laws.FnExactEarliestPeriods", spec := "fnExactEarliestPeriods", apart := false }
def FnExactEarliestPeriodsSaid : Prop := fnExactEarliestPeriodsRow.holds Try.pinned (OpenSpec.ofChange fnExactEarliestPeriodsSpec)

/-- ITS FALSE NEIGHBOUR: 'it returns false'. Refute it at one input. -/
def fnExactEarliestPeriodsWrong : ChangeSpec := { name := "fnExactEarliestPeriods", fn := fun _ => fun
  | [d] => { results := [.lit (.bool false)], args := [d] }
  | _ => none }
def FnExactEarliestPeriodsWrongFalsely : Prop := fnExactEarliestPeriodsRow.holds Try.pinned (OpenSpec.ofChange fnExactEarliestPeriodsWrong)

/- THE SECOND FORM. 'bulk': how many values and letters a reading holds, each counted each time it is reached (what is shared counts as often as it is met; a slice's spare places count too). A statement '..UptoSaid' is the law's where the arguments, and the package variables that the reading takes, are together of bulk at most 1048576: NARROWER than '..Said'. Prove '..Said' where nothing that the law and all that it calls make is longer than what came in: it says more and counts as full. Else prove '..UptoSaid'. A law counts once. -/
mutual
def uptoBulk {H : Type} : DataW H → Nat
  | .lit (.string bytes) => bytes.length + 1
  | .lit _ => 1
  | .nil => 1
  | .ptr d => uptoBulk d + 1
  | .slice elems spare => uptoBulkAll elems + uptoBulkAll spare + 1
  | .agg parts => uptoBulkAll parts + 1
  | .iface _ d => uptoBulk d + 1
  | .map entries => uptoBulkEntries entries + 1
  | .held _ => 1
def uptoBulkAll {H : Type} : List (DataW H) → Nat
  | [] => 0
  | d :: r => uptoBulk d + uptoBulkAll r
def uptoBulkEntries {H : Type} : List (Lit × DataW H) → Nat
  | [] => 0
  | x :: r => uptoBulkEntry x + uptoBulkEntries r
def uptoBulkEntry {H : Type} : Lit × DataW H → Nat
  | (.string bytes, d) => bytes.length + uptoBulk d + 1
  | (_, d) => uptoBulk d + 1
 end
def uptoSmall : (H : Type) → List (DataW H) → Bool := fun _ ds => decide (uptoBulkAll ds ≤ 1048576)
def OpenSpec.upto (s : _root_.Go.ChangeSpec) : _root_.Go.OpenSpec := { _root_.Go.OpenSpec.ofChange s with cond := some uptoSmall }

/-- 'laws.FnExactIsJob', WHERE WHAT IT READS IS OF BULK AT MOST 1048576: true; the input reads as it did. -/
def fnExactIsJobUptoRow : OpenClaim := { program := "ytmlmghkkalljbaa", sum := "507794b558dc6b384d2639e58982ff830c62801cc4639cb167396fe5df71e0fc", func := "loop.example/g00914/laws.FnExactIsJob", spec := "fnExactIsJob", apart := false, narrowed := true }
def FnExactIsJobUptoSaid : Prop := fnExactIsJobUptoRow.holds Try.pinned (OpenSpec.upto fnExactIsJobSpec)

/-- 'laws.FnExactIsPlan', WHERE WHAT IT READS IS OF BULK AT MOST 1048576: true; the input reads as it did. -/
def fnExactIsPlanUptoRow : OpenClaim := { program := "ytmlmghkkalljbaa", sum := "507794b558dc6b384d2639e58982ff830c62801cc4639cb167396fe5df71e0fc", func := "loop.example/g00914/laws.FnExactIsPlan", spec := "fnExactIsPlan", apart := false, narrowed := true }
def FnExactIsPlanUptoSaid : Prop := fnExactIsPlanUptoRow.holds Try.pinned (OpenSpec.upto fnExactIsPlanSpec)

/-- 'laws.FnExactFactorIn', WHERE WHAT IT READS IS OF BULK AT MOST 1048576: true; the input reads as it did. -/
def fnExactFactorInUptoRow : OpenClaim := { program := "ytmlmghkkalljbaa", sum := "507794b558dc6b384d2639e58982ff830c62801cc4639cb167396fe5df71e0fc", func := "loop.example/g00914/laws.FnExactFactorIn", spec := "fnExactFactorIn", apart := false, narrowed := true }
def FnExactFactorInUptoSaid : Prop := fnExactFactorInUptoRow.holds Try.pinned (OpenSpec.upto fnExactFactorInSpec)

/-- 'laws.FnExactPlainWorth', WHERE WHAT IT READS IS OF BULK AT MOST 1048576: true; the input reads as it did. -/
def fnExactPlainWorthUptoRow : OpenClaim := { program := "ytmlmghkkalljbaa", sum := "507794b558dc6b384d2639e58982ff830c62801cc4639cb167396fe5df71e0fc", func := "loop.example/g00914/laws.FnExactPlainWorth", spec := "fnExactPlainWorth", apart := false, narrowed := true }
def FnExactPlainWorthUptoSaid : Prop := fnExactPlainWorthUptoRow.holds Try.pinned (OpenSpec.upto fnExactPlainWorthSpec)

/-- 'laws.FnExactMoveBlock', WHERE WHAT IT READS IS OF BULK AT MOST 1048576: true; the input reads as it did. -/
def fnExactMoveBlockUptoRow : OpenClaim := { program := "ytmlmghkkalljbaa", sum := "507794b558dc6b384d2639e58982ff830c62801cc4639cb167396fe5df71e0fc", func := "loop.example/g00914/laws.FnExactMoveBlock", spec := "fnExactMoveBlock", apart := false, narrowed := true }
def FnExactMoveBlockUptoSaid : Prop := fnExactMoveBlockUptoRow.holds Try.pinned (OpenSpec.upto fnExactMoveBlockSpec)

/-- 'laws.FnExactPitsOfPlan', WHERE WHAT IT READS IS OF BULK AT MOST 1048576: true; the input reads as it did. -/
def fnExactPitsOfPlanUptoRow : OpenClaim := { program := "ytmlmghkkalljbaa", sum := "507794b558dc6b384d2639e58982ff830c62801cc4639cb167396fe5df71e0fc", func := "loop.example/g00914/laws.FnExactPitsOfPlan", spec := "fnExactPitsOfPlan", apart := false, narrowed := true }
def FnExactPitsOfPlanUptoSaid : Prop := fnExactPitsOfPlanUptoRow.holds Try.pinned (OpenSpec.upto fnExactPitsOfPlanSpec)

/-- 'laws.FnExactOrderFaults', WHERE WHAT IT READS IS OF BULK AT MOST 1048576: true; the input reads as it did. -/
def fnExactOrderFaultsUptoRow : OpenClaim := { program := "ytmlmghkkalljbaa", sum := "507794b558dc6b384d2639e58982ff830c62801cc4639cb167396fe5df71e0fc", func := "loop.example/g00914/laws.FnExactOrderFaults", spec := "fnExactOrderFaults", apart := false, narrowed := true }
def FnExactOrderFaultsUptoSaid : Prop := fnExactOrderFaultsUptoRow.holds Try.pinned (OpenSpec.upto fnExactOrderFaultsSpec)

/-- 'laws.FnExactDelayBlocks', WHERE WHAT IT READS IS OF BULK AT MOST 1048576: true; the input reads as it did. -/
def fnExactDelayBlocksUptoRow : OpenClaim := { program := "ytmlmghkkalljbaa", sum := "507794b558dc6b384d2639e58982ff830c62801cc4639cb167396fe5df71e0fc", func := "loop.example/g00914/laws.FnExactDelayBlocks", spec := "fnExactDelayBlocks", apart := false, narrowed := true }
def FnExactDelayBlocksUptoSaid : Prop := fnExactDelayBlocksUptoRow.holds Try.pinned (OpenSpec.upto fnExactDelayBlocksSpec)

/-- 'laws.FnExactTonnesIn', WHERE WHAT IT READS IS OF BULK AT MOST 1048576: true; the input reads as it did. -/
def fnExactTonnesInUptoRow : OpenClaim := { program := "ytmlmghkkalljbaa", sum := "507794b558dc6b384d2639e58982ff830c62801cc4639cb167396fe5df71e0fc", func := "loop.example/g00914/laws.FnExactTonnesIn", spec := "fnExactTonnesIn", apart := false, narrowed := true }
def FnExactTonnesInUptoSaid : Prop := fnExactTonnesInUptoRow.holds Try.pinned (OpenSpec.upto fnExactTonnesInSpec)

/-- 'laws.FnExactIsFeasible', WHERE WHAT IT READS IS OF BULK AT MOST 1048576: true; the input reads as it did. -/
def fnExactIsFeasibleUptoRow : OpenClaim := { program := "ytmlmghkkalljbaa", sum := "507794b558dc6b384d2639e58982ff830c62801cc4639cb167396fe5df71e0fc", func := "loop.example/g00914/laws.FnExactIsFeasible", spec := "fnExactIsFeasible", apart := false, narrowed := true }
def FnExactIsFeasibleUptoSaid : Prop := fnExactIsFeasibleUptoRow.holds Try.pinned (OpenSpec.upto fnExactIsFeasibleSpec)

/-- 'laws.FnExactOverLimits', WHERE WHAT IT READS IS OF BULK AT MOST 1048576: true; the input reads as it did. -/
def fnExactOverLimitsUptoRow : OpenClaim := { program := "ytmlmghkkalljbaa", sum := "507794b558dc6b384d2639e58982ff830c62801cc4639cb167396fe5df71e0fc", func := "loop.example/g00914/laws.FnExactOverLimits", spec := "fnExactOverLimits", apart := false, narrowed := true }
def FnExactOverLimitsUptoSaid : Prop := fnExactOverLimitsUptoRow.holds Try.pinned (OpenSpec.upto fnExactOverLimitsSpec)

/-- 'laws.FnExactEarliestPeriods', WHERE WHAT IT READS IS OF BULK AT MOST 1048576: true; the input reads as it did. -/
def fnExactEarliestPeriodsUptoRow : OpenClaim := { program := "ytmlmghkkalljbaa", sum := "507794b558dc6b384d2639e58982ff830c62801cc4639cb167396fe5df71e0fc", func := "loop.example/g00914/laws.FnExactEarliestPeriods", spec := "fnExactEarliestPeriods", apart := false, narrowed := true }
def FnExactEarliestPeriodsUptoSaid : Prop := fnExactEarliestPeriodsUptoRow.holds Try.pinned (OpenSpec.upto fnExactEarliestPeriodsSpec)

end Rows
end Go.Proofs.Ytmlmghkkalljbaa

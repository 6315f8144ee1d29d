-- Printed by a changed copy of the printer; impl.bestPit and spec.paFind by contracts walked by hand
import Derived.Test.YtcbdglefkmpaeaaPFnExactLossWithoutx0
namespace Go.Proofs.Ytcbdglefkmpaeaa.PFnExactLossWithout
open Go.RowKit Go.Proofs.YtcbdglefkmpaeaaW.PrintWords Go.Proofs.YtcbdglefkmpaeaaW.PrintLast Go.Proofs.YtcbdglefkmpaeaaW.PrintMore
attribute [local go_sem] max2_int min2_int max_two min_two max_three min_three max_four min_four   -- for this text's walks alone
set_option linter.unusedVariables false
set_option linter.unusedSimpArgs false

/-! ### spec_paFind: function 61 -/
/-- The best pit, where arcs and values are such as the flow speaks of (walked by hand: FlG). -/
def spec_paFind.f (l0 : List (List Int)) (l1 : List Int) : Option (List Int) := if Go.Proofs.Ytcbdglefkmpaeaa.Flow.fitB l0 l1 = true then some (Go.Proofs.Ytcbdglefkmpaeaa.NetQ.idxB (Go.Proofs.Ytcbdglefkmpaeaa.Flow.bestB l0 l1) l0.length) else none
theorem spec_paFind.calls (A0 : Option Addr) (c0 : Nat) (l0 : List (List Int)) (A1 : Option Addr) (c1 : Nat) (l1 : List Int) (r : List Int) (w : World) (hr0 : Kd.C (Kd.slice 3 (Kd.int .i64)) w A0 l0.length l0) (hc0 : l0.length ≤ c0) (hr1 : Kd.C (Kd.int .i64) w A1 l1.length l1) (hc1 : l1.length ≤ c1) (h : spec_paFind.f l0 l1 = some r) :
    Calls Try.prog 61 #[.slice A0 l0.length c0, .slice A1 l1.length c1] w fun e w' => ∃ v0_ : Value, e = .returned (v0_) ∧ Kd.R (Kd.int .i64) 3 w' w.heap.size (fun _ => True) v0_ r ∧ Below w.heap.size w w' := by
  unfold spec_paFind.f at h
  split at h
  · rename_i hf
    injection h with h
    subst h
    exact Go.Proofs.Ytcbdglefkmpaeaa.SRes.find_calls A0 c0 l0 A1 c1 l1 w hr0 hc0 hr1 hc1 (Go.Proofs.Ytcbdglefkmpaeaa.Flow.fitB_iff.1 hf)
  · cases h

end Go.Proofs.Ytcbdglefkmpaeaa.PFnExactLossWithout

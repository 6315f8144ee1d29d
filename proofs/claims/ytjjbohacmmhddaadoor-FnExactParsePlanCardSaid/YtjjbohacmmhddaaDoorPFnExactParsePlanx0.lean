-- Printed by a changed copy of the printer; strconv.Itoa by the shelf's contract
import Derived.Test.YtjjbohacmmhddaaDoorProg
import Derived.Test.YtjjbohacmmhddaaDoorShelf
import Derived.Test.YtjjbohacmmhddaaDoorSplit
import Derived.Below
import Derived.Deep.Draws
import Derived.Deep.AppendLies
import Derived.Maps.AppendAt
import Derived.OwnWalk
import Derived.Laws.BytesArg
import Derived.Laws.MakeOwn
import Derived.Laws.OwnMore
import Derived.Deep.OwnRows
import Derived.Tactics
import Derived.Lib.ConvBytes
import Derived.Laws.Slices
import Derived.WalkKit
import Derived.KernelRfl
import Derived.RowKit3
import Derived.Deep.LoopGhost
import Derived.Deep.QuietTactic
import Derived.BigQuiet
import Derived.WideLaws
import Derived.Deep.DeepCutAuto
import Derived.Deep.CutBlock
import Derived.Deep.RegionHeld3
import Derived.Laws.Rows
import Derived.Lib.AppendStr
import Derived.ArgAppend
import Derived.Laws.IdiomCopy
import Derived.OrdersHeld
import Derived.Laws.BitsLemmas
import Derived.RowKit
import Derived.Test.YtjjbohacmmhddaaDoorWWords
import Derived.Test.YtjjbohacmmhddaaDoorWLast
import Derived.Test.YtjjbohacmmhddaaDoorWTab
import Derived.Test.YtjjbohacmmhddaaDoorWFour
import Derived.Test.YtjjbohacmmhddaaDoorWQPut
import Derived.Test.YtjjbohacmmhddaaDoorWApart
import Derived.Test.YtjjbohacmmhddaaDoorWArr
import Derived.Test.YtjjbohacmmhddaaDoorWZeros
import Derived.Test.YtjjbohacmmhddaaDoorWFoot
import Derived.Test.YtjjbohacmmhddaaDoorWKept
import Derived.Test.YtjjbohacmmhddaaDoorWShare
import Derived.Test.YtjjbohacmmhddaaDoorWN
import Derived.Test.YtjjbohacmmhddaaDoorWFootNe
import Derived.Test.YtjjbohacmmhddaaDoorWAt
import Derived.Test.YtjjbohacmmhddaaDoorWEqStruct
import Derived.Test.YtjjbohacmmhddaaDoorWRepsOne
import Derived.Test.YtjjbohacmmhddaaDoorWInv
import Derived.Test.YtjjbohacmmhddaaDoorWInvWords
import Derived.Test.YtjjbohacmmhddaaDoorWGuard
import Derived.Test.YtjjbohacmmhddaaDoorWNEv
import Derived.Test.YtjjbohacmmhddaaDoorWMore
namespace Go.Proofs.YtjjbohacmmhddaaDoor.PFnExactParsePlan
open Go.RowKit Go.Proofs.YtjjbohacmmhddaaDoorW.PrintWords Go.Proofs.YtjjbohacmmhddaaDoorW.PrintLast Go.Proofs.YtjjbohacmmhddaaDoorW.PrintMore
attribute [local go_sem] max2_int min2_int max_two min_two max_three min_three max_four min_four   -- for this text's walks alone
set_option linter.unusedVariables false
set_option linter.unusedSimpArgs false



/-- The library's table of powers of ten is as its text lays it. -/
def TabW (w : World) : Prop := Lib.TabIs Tryd.prog w "internal/strconv.uint64pow10" .u64 Lib.pow10Tab ∧ 1 < w.heap.size ∧ ∃ m, w.cell? ⟨0, 0, none⟩ = some (.int .i64 m)
theorem tabW_below {w w' : World} (h : TabW w) (hb : Below w.heap.size w w') : TabW w' := ⟨Go.var?_below hb (show Tryd.prog.globalNamed "internal/strconv.uint64pow10" = some 1 by kernel_rfl) h.2.1 h.1, Nat.lt_of_lt_of_le h.2.1 hb.size, h.2.2.imp fun _ hm => (hb.cell (World.block_lt_of_cell? w _ hm)).trans hm⟩
def errW : Option Int → Value
  | none => .nilIface
  | some c => .iface 0 (.int .i64 c)
theorem errW_none : errW none = .nilIface := rfl
theorem errW_some (c : Int) : errW (some c) = .iface 0 (.int .i64 c) := rfl

theorem info3 : (Tryd.prog.info? 3).map (fun i => (i.zero, i.size, i.bytes)) = some (some (.int .i64 0), 1, 8) := by kernel_rfl
theorem info5 : (Tryd.prog.info? 5).map (fun i => (i.zero, i.size, i.bytes)) = some (some (.int .u8 0), 1, 1) := by kernel_rfl
theorem info9 : (Tryd.prog.info? 9).map (fun i => (i.zero, i.size, i.bytes)) = some (some (.string ⟨#[]⟩), 1, 16) := by kernel_rfl
theorem info23 : (Tryd.prog.info? 23).map (fun i => (i.zero, i.size, i.bytes)) = some (some (.slice none 0 0), 1, 24) := by kernel_rfl
-- the values' own types
def rd_L1 (xs : List (List Int)) (i : Int) : (List Int) := xs.getD i.toNat ([] : List Int)
theorem at_L1 {w : World} {A : Option Addr} {n : Nat} {xs : List (List Int)} (h : Kd.C (Kd.slice 3 (Kd.int .i64)) w A n xs) (i : Int) (h0 : 0 ≤ i) (h1 : i < n) : ∃ ad A0 c0, A = some ad ∧ w.cell? (ad.add i.toNat) = some (.slice A0 (rd_L1 xs i).length c0) ∧ (rd_L1 xs i).length ≤ c0 ∧ (Kd.int .i64).C w A0 (rd_L1 xs i).length (rd_L1 xs i) := by
  obtain ⟨ad, c, e, _, hK, hc0⟩ := Kd.C_get h ([] : List Int) i h0 h1
  have hc : ∀ j u, c[j]? = some u → w.cell? (ad.add (i.toNat * 1 + j)) = some u := hc0
  obtain ⟨A0, c0, rfl, l0, g0⟩ := hK
  exact ⟨ad, A0, c0, e, by have hq := hc 0 _ rfl; rwa [Nat.mul_one, Nat.add_zero] at hq, l0, g0⟩

end Go.Proofs.YtjjbohacmmhddaaDoor.PFnExactParsePlan

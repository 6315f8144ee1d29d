/- The row of FnExactDelayBlocks, over its contract and over its pure statement. -/
import Derived.Test.YtmlmghkkalljbaaRows
import Derived.Test.YtmlmghkkalljbaaWalkFnExactDelayBlocks
import Derived.Test.YtmlmghkkalljbaaOpn
import Derived.Test.YtmlmghkkalljbaaWSized
import Derived.WalkKit
import Derived.ProofKit
import Derived.OpenShut
import Derived.ShutString
import Derived.ChangeOld
import Derived.Below
import Derived.SizedLaws
import Derived.WideShapes
namespace Go.Proofs.Ytmlmghkkalljbaa.fnExactDelayBlocks
open Go.ChangeShapes Go.WideShapes Go.ChangeAt Go.RowKit Go.Proofs.YtmlmghkkalljbaaW
open Go.ChangeMaps (open_string shut_string)
set_option linter.unusedVariables false
theorem own : ownKnob Try.prog.godebug = none := by kernel_rfl
theorem laidOut : laidOutB Try.prog = true := by kernel_rfl
set_option maxRecDepth 100000 in
theorem lifted (os : Os) (started : os.Started) (H : Type) (enc : TypeId × Value → H) :
    ReturnsInHanded {} Try.checked os 10 .any (Rows.fnExactDelayBlocksSpec.pre6 enc Try.prog Try.f10 Rows.fnExactDelayBlocksRow.domain false) (Rows.fnExactDelayBlocksSpec.post enc Try.prog Try.f10 false true false false) := by
  refine returnsInHanded_of_change_sized (C := Try.checked) own started (by kernel_rfl) Try.func10
    (ChangeSpec.witness6 (enc := enc) (C := Try.checked) false ⟨#[], #[.agg #[.slice none 0 0, .slice none 0 0, .slice none 0 0, .int .i64 0, .int .i64 0, .int .i64 0, .int .i64 0, .int .i64 0], .agg #[.int .i64 0, .slice none 0 0]], []⟩ 8 (by kernel_rfl) (by kernel_rfl) (by kernel_rfl) (by kernel_rfl)) ?_
  intro W base args ds gs before hval0 hW hcnd hsz0 _
  have hsz : (DataW.weightsEach Try.prog (Try.f10.params.toList ++ Rows.fnExactDelayBlocksSpec.plain.varTypes Try.prog) (ds ++ gs)).all (· ≤ reachBytes) = true := hsz0
  have hval : ∀ (j : Nat) t v, Try.f10.params[j]? = some t → args[j]? = some v → Value.okWide Try.prog W .any base t v := hval0
  have hW' := hW
  obtain ⟨p, q, hA0, hV, rfl, hfz, hnd⟩ := hW
  have hA : DataW.TrodAll enc Try.prog W 0 (fun _ => true) true Try.f10.params.toList args.toList ds p := hA0
  rw [Try.params10] at hA hval hsz
  obtain ⟨v0, vs0, d0, ds0, p0, q0, hargs, rfl, rfl, h0, r0⟩ := trodAll_cons hA
  obtain ⟨v1, vs1, d1, ds1, p1, q1, rfl, rfl, rfl, h1, r1⟩ := trodAll_cons r0
  obtain ⟨rfl, rfl, rfl⟩ := trodAll_nil r1
  obtain rfl : args = #[v0, v1] := by cases args; simp_all
  obtain ⟨rfl, rfl⟩ := trodVars_none hV
  obtain ⟨cs0, rfl, hs0⟩ := okWide_struct Try.underlying27 (hval 0 27 v0 rfl rfl)
  have hs0 : cs0.size = 8 := hs0.trans (by kernel_rfl)
  obtain ⟨ll0, rfl, hll0⟩ := Opn.arr_list hs0
  obtain ⟨c0_0, c0_1, c0_2, c0_3, c0_4, c0_5, c0_6, c0_7, rfl⟩ := Opn.list8 hll0
  have k0 := h0
  have lt0 : ∀ x ∈ p0, x.block < W.heap.size := by obtain ⟨m, hm⟩ := k0; exact DataW.trod_lt m _ _ _ hm
  obtain ⟨fu0, hf0⟩ := h0
  have hf0_ : DataW.trod enc Try.prog W 0 (fun _ => true) true fu0 27 [c0_0, c0_1, c0_2, c0_3, c0_4, c0_5, c0_6, c0_7] = some (d0, p0) := by
    have e_ : (Value.agg (List.toArray [c0_0, c0_1, c0_2, c0_3, c0_4, c0_5, c0_6, c0_7])).cells.toList = [c0_0, c0_1, c0_2, c0_3, c0_4, c0_5, c0_6, c0_7] := rfl
    rw [e_] at hf0
    exact hf0
  obtain ⟨n0_0_0, y0_0_0, g0_0_0_⟩ := Opn.fldAt (cs' := [c0_0]) Try.underlying27 hf0_ 0 22 0 1 rfl (by kernel_rfl) rfl
  obtain ⟨b0_0, len0_0, cap0_0, z0_0, e0_0, hl0_0, hc0_0, hm0_0, hC0_0, hi0_0, hw0_0⟩ := Opn.rows_cell Try.underlying22 Try.underlying23 Try.underlying3 (by kernel_rfl) (by kernel_rfl) g0_0_0_
  subst hl0_0
  obtain ⟨n0_1_0, y0_1_0, g0_1_0_⟩ := Opn.fldAt (cs' := [c0_1]) Try.underlying27 hf0_ 1 23 1 1 rfl (by kernel_rfl) rfl
  obtain ⟨b0_1, len0_1, cap0_1, z0_1, e0_1, hl0_1, hc0_1, hm0_1, hC0_1, hw0_1⟩ := Opn.ints_cell Try.underlying23 Try.underlying3 (by kernel_rfl) g0_1_0_
  subst hl0_1
  obtain ⟨n0_2_0, y0_2_0, g0_2_0_⟩ := Opn.fldAt (cs' := [c0_2]) Try.underlying27 hf0_ 2 23 2 1 rfl (by kernel_rfl) rfl
  obtain ⟨b0_2, len0_2, cap0_2, z0_2, e0_2, hl0_2, hc0_2, hm0_2, hC0_2, hw0_2⟩ := Opn.ints_cell Try.underlying23 Try.underlying3 (by kernel_rfl) g0_2_0_
  subst hl0_2
  obtain ⟨n0_3_0, y0_3_0, g0_3_0_⟩ := Opn.fldAt (cs' := [c0_3, c0_4]) Try.underlying27 hf0_ 3 25 3 2 rfl (by kernel_rfl) rfl
  obtain ⟨n0_3_1, y0_3_1, g0_3_1_⟩ := Opn.fldAt (cs' := [c0_3]) Try.underlying25 g0_3_0_ 0 3 0 1 rfl (by kernel_rfl) rfl
  obtain ⟨a0_3, e0_3, w0_3⟩ := Opn.int_cell Try.underlying3 g0_3_1_
  obtain ⟨n0_4_0, y0_4_0, g0_4_0_⟩ := Opn.fldAt (cs' := [c0_3, c0_4]) Try.underlying27 hf0_ 3 25 3 2 rfl (by kernel_rfl) rfl
  obtain ⟨n0_4_1, y0_4_1, g0_4_1_⟩ := Opn.fldAt (cs' := [c0_4]) Try.underlying25 g0_4_0_ 1 3 1 1 rfl (by kernel_rfl) rfl
  obtain ⟨a0_4, e0_4, w0_4⟩ := Opn.int_cell Try.underlying3 g0_4_1_
  obtain ⟨n0_5_0, y0_5_0, g0_5_0_⟩ := Opn.fldAt (cs' := [c0_5]) Try.underlying27 hf0_ 4 3 5 1 rfl (by kernel_rfl) rfl
  obtain ⟨a0_5, e0_5, w0_5⟩ := Opn.int_cell Try.underlying3 g0_5_0_
  obtain ⟨n0_6_0, y0_6_0, g0_6_0_⟩ := Opn.fldAt (cs' := [c0_6]) Try.underlying27 hf0_ 5 3 6 1 rfl (by kernel_rfl) rfl
  obtain ⟨a0_6, e0_6, w0_6⟩ := Opn.int_cell Try.underlying3 g0_6_0_
  obtain ⟨n0_7_0, y0_7_0, g0_7_0_⟩ := Opn.fldAt (cs' := [c0_7]) Try.underlying27 hf0_ 6 3 7 1 rfl (by kernel_rfl) rfl
  obtain ⟨a0_7, e0_7, w0_7⟩ := Opn.int_cell Try.underlying3 g0_7_0_
  clear hf0_ hf0
  clear g0_0_0_
  clear g0_1_0_
  clear g0_2_0_
  clear g0_3_0_ g0_3_1_
  clear g0_4_0_ g0_4_1_
  clear g0_5_0_
  clear g0_6_0_
  clear g0_7_0_
  subst e0_0
  subst e0_1
  subst e0_2
  subst e0_3
  subst e0_4
  subst e0_5
  subst e0_6
  subst e0_7
  obtain ⟨cs1, rfl, hs1⟩ := okWide_struct Try.underlying37 (hval 1 37 v1 rfl rfl)
  have hs1 : cs1.size = 2 := hs1.trans (by kernel_rfl)
  obtain ⟨ll1, rfl, hll1⟩ := Opn.arr_list hs1
  obtain ⟨c1_0, c1_1, rfl⟩ := Opn.list2 hll1
  have k1 := h1
  have lt1 : ∀ x ∈ p1, x.block < W.heap.size := by obtain ⟨m, hm⟩ := k1; exact DataW.trod_lt m _ _ _ hm
  obtain ⟨fu1, hf1⟩ := h1
  have hf1_ : DataW.trod enc Try.prog W 0 (fun _ => true) true fu1 37 [c1_0, c1_1] = some (d1, p1) := by
    have e_ : (Value.agg (List.toArray [c1_0, c1_1])).cells.toList = [c1_0, c1_1] := rfl
    rw [e_] at hf1
    exact hf1
  obtain ⟨n1_0_0, y1_0_0, g1_0_0_⟩ := Opn.fldAt (cs' := [c1_0]) Try.underlying37 hf1_ 0 3 0 1 rfl (by kernel_rfl) rfl
  obtain ⟨a1_0, e1_0, w1_0⟩ := Opn.int_cell Try.underlying3 g1_0_0_
  obtain ⟨n1_1_0, y1_1_0, g1_1_0_⟩ := Opn.fldAt (cs' := [c1_1]) Try.underlying37 hf1_ 1 23 1 1 rfl (by kernel_rfl) rfl
  obtain ⟨b1_1, len1_1, cap1_1, z1_1, e1_1, hl1_1, hc1_1, hm1_1, hC1_1, hw1_1⟩ := Opn.ints_cell Try.underlying23 Try.underlying3 (by kernel_rfl) g1_1_0_
  subst hl1_1
  clear hf1_ hf1
  clear g1_0_0_
  clear g1_1_0_
  subst e1_0
  subst e1_1
  clear hA0 hval0 hsz0 hsz
  refine (WalkFnExactDelayBlocks.law _ _ z0_0 _ _ z0_1 _ _ z0_2 a0_3 a0_4 a0_5 a0_6 a0_7 a1_0 _ _ z1_1 W hC0_0 hc0_0 hC0_1 hc0_1 hC0_2 hc0_2 hC1_1 hc1_1 hm0_0 hi0_0 hw0_0 hm0_1 hw0_1 hm0_2 hw0_2 w0_3 w0_4 w0_5 w0_6 w0_7 w1_0 hm1_1 hw1_1).mono fun e W' ⟨he, bel⟩ => ?_
  subst he
  exact ⟨_, rfl, _, _, _, [], _, [], hW', trodAll_mk1 (shut_bool Try.underlying4 _), (trodAll_cons_mk (Below.trod laidOut (by kernel_rfl) (of_decide_eq_true (by kernel_rfl)) k0 bel lt0) (trodAll_cons_mk (Below.trod laidOut (by kernel_rfl) (of_decide_eq_true (by kernel_rfl)) k1 bel lt1) trodAll_mk0)), rfl, bel.frame _, fun h => by cases h⟩
theorem over : Rows.fnExactDelayBlocksRow.holds Try.pinned (OpenSpec.ofChange Rows.fnExactDelayBlocksSpec) :=
  OpenClaim.holds_of_wide 10 Try.f10 rfl rfl rfl rfl rfl rfl rfl ⟨rfl, rfl, rfl, rfl, rfl⟩ rfl rfl rfl rfl rfl (by kernel_rfl) Try.func10 (by kernel_rfl)
    (of_decide_eq_true (by kernel_rfl)) (by unfold Func.isWrapper; first | (rw [if_pos (by decide +kernel)]; kernel_rfl) | (rw [if_neg (by decide +kernel)]; exact ⟨rfl, rfl⟩))
    (fun os started H enc _ => lifted os started H enc)
theorem proved : Rows.FnExactDelayBlocksSaid := over
end Go.Proofs.Ytmlmghkkalljbaa.fnExactDelayBlocks
namespace Go.Proofs.Ytmlmghkkalljbaa
/-- FnExactDelayBlocks, whatever the arguments. -/
theorem fnExactDelayBlocks_holds : Rows.FnExactDelayBlocksSaid := fnExactDelayBlocks.proved
end Go.Proofs.Ytmlmghkkalljbaa

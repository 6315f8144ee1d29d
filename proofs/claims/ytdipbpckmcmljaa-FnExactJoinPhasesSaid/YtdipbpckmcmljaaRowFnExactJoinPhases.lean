/- The row of FnExactJoinPhases, over its contract and over its pure statement. -/
import Derived.Test.YtdipbpckmcmljaaRows
import Derived.Test.YtdipbpckmcmljaaWalkFnExactJoinPhases
import Derived.Test.YtdipbpckmcmljaaOpn
import Derived.Test.YtdipbpckmcmljaaWSized
import Derived.WalkKit
import Derived.ProofKit
import Derived.OpenShut
import Derived.ShutString
import Derived.ChangeOld
import Derived.Below
import Derived.SizedLaws
import Derived.WideShapes
namespace Go.Proofs.Ytdipbpckmcmljaa.fnExactJoinPhases
open Go.ChangeShapes Go.WideShapes Go.ChangeAt Go.RowKit Go.Proofs.YtdipbpckmcmljaaW
open Go.ChangeMaps (open_string shut_string)
set_option linter.unusedVariables false
theorem own : ownKnob Try.prog.godebug = none := by kernel_rfl
theorem laidOut : laidOutB Try.prog = true := by kernel_rfl
set_option maxRecDepth 100000 in
theorem lifted (os : Os) (started : os.Started) (H : Type) (enc : TypeId × Value → H) :
    ReturnsInHanded {} Try.checked os 13 .any (Rows.fnExactJoinPhasesSpec.pre6 enc Try.prog Try.f13 Rows.fnExactJoinPhasesRow.domain false) (Rows.fnExactJoinPhasesSpec.post enc Try.prog Try.f13 false true false false) := by
  refine returnsInHanded_of_change_sized (C := Try.checked) own started (by kernel_rfl) Try.func13
    (ChangeSpec.witness6 (enc := enc) (C := Try.checked) false ⟨#[], #[.agg #[.int .i64 0, .int .i64 0, .int .i64 0, .slice none 0 0, .slice none 0 0, .slice none 0 0], .slice none 0 0, .slice none 0 0, .int .i64 0], []⟩ 8 (by kernel_rfl) (by kernel_rfl) (by kernel_rfl) (by kernel_rfl)) ?_
  intro W base args ds gs before hval0 hW hcnd hsz0 _
  have hsz : (DataW.weightsEach Try.prog (Try.f13.params.toList ++ Rows.fnExactJoinPhasesSpec.plain.varTypes Try.prog) (ds ++ gs)).all (· ≤ reachBytes) = true := hsz0
  have hval : ∀ (j : Nat) t v, Try.f13.params[j]? = some t → args[j]? = some v → Value.okWide Try.prog W .any base t v := hval0
  have hW' := hW
  obtain ⟨p, q, hA0, hV, rfl, hfz, hnd⟩ := hW
  have hA : DataW.TrodAll enc Try.prog W 0 (fun _ => true) true Try.f13.params.toList args.toList ds p := hA0
  rw [Try.params13] at hA hval hsz
  obtain ⟨v0, vs0, d0, ds0, p0, q0, hargs, rfl, rfl, h0, r0⟩ := trodAll_cons hA
  obtain ⟨v1, vs1, d1, ds1, p1, q1, rfl, rfl, rfl, h1, r1⟩ := trodAll_cons r0
  obtain ⟨v2, vs2, d2, ds2, p2, q2, rfl, rfl, rfl, h2, r2⟩ := trodAll_cons r1
  obtain ⟨v3, vs3, d3, ds3, p3, q3, rfl, rfl, rfl, h3, r3⟩ := trodAll_cons r2
  obtain ⟨rfl, rfl, rfl⟩ := trodAll_nil r3
  obtain rfl : args = #[v0, v1, v2, v3] := by cases args; simp_all
  obtain ⟨rfl, rfl⟩ := trodVars_none hV
  obtain ⟨cs0, rfl, hs0⟩ := okWide_struct Try.underlying67 (hval 0 67 v0 rfl rfl)
  have hs0 : cs0.size = 6 := hs0.trans (by kernel_rfl)
  obtain ⟨ll0, rfl, hll0⟩ := Opn.arr_list hs0
  obtain ⟨c0_0, c0_1, c0_2, c0_3, c0_4, c0_5, rfl⟩ := Opn.list6 hll0
  have k0 := h0
  have lt0 : ∀ x ∈ p0, x.block < W.heap.size := by obtain ⟨m, hm⟩ := k0; exact DataW.trod_lt m _ _ _ hm
  obtain ⟨fu0, hf0⟩ := h0
  have hf0_ : DataW.trod enc Try.prog W 0 (fun _ => true) true fu0 67 [c0_0, c0_1, c0_2, c0_3, c0_4, c0_5] = some (d0, p0) := by
    have e_ : (Value.agg (List.toArray [c0_0, c0_1, c0_2, c0_3, c0_4, c0_5])).cells.toList = [c0_0, c0_1, c0_2, c0_3, c0_4, c0_5] := rfl
    rw [e_] at hf0
    exact hf0
  obtain ⟨n0_0_0, y0_0_0, g0_0_0_⟩ := Opn.fldAt (cs' := [c0_0, c0_1, c0_2]) Try.underlying67 hf0_ 0 55 0 3 rfl (by kernel_rfl) rfl
  obtain ⟨n0_0_1, y0_0_1, g0_0_1_⟩ := Opn.fldAt (cs' := [c0_0]) Try.underlying55 g0_0_0_ 0 3 0 1 rfl (by kernel_rfl) rfl
  obtain ⟨a0_0, e0_0, w0_0⟩ := Opn.int_cell Try.underlying3 g0_0_1_
  obtain ⟨n0_1_0, y0_1_0, g0_1_0_⟩ := Opn.fldAt (cs' := [c0_0, c0_1, c0_2]) Try.underlying67 hf0_ 0 55 0 3 rfl (by kernel_rfl) rfl
  obtain ⟨n0_1_1, y0_1_1, g0_1_1_⟩ := Opn.fldAt (cs' := [c0_1]) Try.underlying55 g0_1_0_ 1 3 1 1 rfl (by kernel_rfl) rfl
  obtain ⟨a0_1, e0_1, w0_1⟩ := Opn.int_cell Try.underlying3 g0_1_1_
  obtain ⟨n0_2_0, y0_2_0, g0_2_0_⟩ := Opn.fldAt (cs' := [c0_0, c0_1, c0_2]) Try.underlying67 hf0_ 0 55 0 3 rfl (by kernel_rfl) rfl
  obtain ⟨n0_2_1, y0_2_1, g0_2_1_⟩ := Opn.fldAt (cs' := [c0_2]) Try.underlying55 g0_2_0_ 2 3 2 1 rfl (by kernel_rfl) rfl
  obtain ⟨a0_2, e0_2, w0_2⟩ := Opn.int_cell Try.underlying3 g0_2_1_
  obtain ⟨n0_3_0, y0_3_0, g0_3_0_⟩ := Opn.fldAt (cs' := [c0_3]) Try.underlying67 hf0_ 1 24 3 1 rfl (by kernel_rfl) rfl
  obtain ⟨b0_3, len0_3, cap0_3, z0_3, e0_3, hl0_3, hc0_3, hm0_3, hC0_3, hw0_3⟩ := Opn.ints_cell Try.underlying24 Try.underlying3 (by kernel_rfl) g0_3_0_
  subst hl0_3
  obtain ⟨n0_4_0, y0_4_0, g0_4_0_⟩ := Opn.fldAt (cs' := [c0_4]) Try.underlying67 hf0_ 2 24 4 1 rfl (by kernel_rfl) rfl
  obtain ⟨b0_4, len0_4, cap0_4, z0_4, e0_4, hl0_4, hc0_4, hm0_4, hC0_4, hw0_4⟩ := Opn.ints_cell Try.underlying24 Try.underlying3 (by kernel_rfl) g0_4_0_
  subst hl0_4
  obtain ⟨n0_5_0, y0_5_0, g0_5_0_⟩ := Opn.fldAt (cs' := [c0_5]) Try.underlying67 hf0_ 3 24 5 1 rfl (by kernel_rfl) rfl
  obtain ⟨b0_5, len0_5, cap0_5, z0_5, e0_5, hl0_5, hc0_5, hm0_5, hC0_5, hw0_5⟩ := Opn.ints_cell Try.underlying24 Try.underlying3 (by kernel_rfl) g0_5_0_
  subst hl0_5
  clear hf0_ hf0
  clear g0_0_0_ g0_0_1_
  clear g0_1_0_ g0_1_1_
  clear g0_2_0_ g0_2_1_
  clear g0_3_0_
  clear g0_4_0_
  clear g0_5_0_
  subst e0_0
  subst e0_1
  subst e0_2
  subst e0_3
  subst e0_4
  subst e0_5
  obtain ⟨b1, len1, cap1, rfl⟩ := okWide_slice Try.underlying22 (hval 1 22 v1 rfl rfl)
  have k1 := h1
  have lt1 : ∀ x ∈ p1, x.block < W.heap.size := by obtain ⟨m, hm⟩ := k1; exact DataW.trod_lt m _ _ _ hm
  obtain ⟨z1, hl1, hc1, hm1, hC1, hi1, hw1⟩ := Opn.rows_open Try.underlying22 Try.underlying24 Try.underlying3 (by kernel_rfl) (by kernel_rfl) h1
  subst hl1
  obtain ⟨b2, len2, cap2, rfl⟩ := okWide_slice Try.underlying22 (hval 2 22 v2 rfl rfl)
  have k2 := h2
  have lt2 : ∀ x ∈ p2, x.block < W.heap.size := by obtain ⟨m, hm⟩ := k2; exact DataW.trod_lt m _ _ _ hm
  obtain ⟨z2, hl2, hc2, hm2, hC2, hi2, hw2⟩ := Opn.rows_open Try.underlying22 Try.underlying24 Try.underlying3 (by kernel_rfl) (by kernel_rfl) h2
  subst hl2
  obtain ⟨a3, rfl, rfl, rfl, w3⟩ := open_int Try.underlying3 (hval 3 3 v3 rfl rfl) h3
  clear hA0 hval0 hsz0 hsz
  refine (WalkFnExactJoinPhases.law a0_0 a0_1 a0_2 _ _ z0_3 _ _ z0_4 _ _ z0_5 _ _ z1 _ _ z2 a3 W hC0_3 hc0_3 hC0_4 hc0_4 hC0_5 hc0_5 hC1 hc1 hC2 hc2 w0_0 w0_1 w0_2 hm0_3 hw0_3 hm0_4 hw0_4 hm0_5 hw0_5 hm1 hi1 hw1 hm2 hi2 hw2 w3).mono fun e W' ⟨he, bel⟩ => ?_
  subst he
  exact ⟨_, rfl, _, _, _, [], _, [], hW', trodAll_mk1 (shut_bool Try.underlying4 _), (trodAll_cons_mk (Below.trod laidOut (by kernel_rfl) (of_decide_eq_true (by kernel_rfl)) k0 bel lt0) (trodAll_cons_mk (Below.trod laidOut (by kernel_rfl) (of_decide_eq_true (by kernel_rfl)) k1 bel lt1) (trodAll_cons_mk (Below.trod laidOut (by kernel_rfl) (of_decide_eq_true (by kernel_rfl)) k2 bel lt2) (trodAll_cons_mk (shut_int Try.underlying3 w3) trodAll_mk0)))), rfl, bel.frame _, fun h => by cases h⟩
theorem over : Rows.fnExactJoinPhasesRow.holds Try.pinned (OpenSpec.ofChange Rows.fnExactJoinPhasesSpec) :=
  OpenClaim.holds_of_wide 13 Try.f13 rfl rfl rfl rfl rfl rfl rfl ⟨rfl, rfl, rfl, rfl, rfl⟩ rfl rfl rfl rfl rfl (by kernel_rfl) Try.func13 (by kernel_rfl)
    (of_decide_eq_true (by kernel_rfl)) (by unfold Func.isWrapper; first | (rw [if_pos (by decide +kernel)]; kernel_rfl) | (rw [if_neg (by decide +kernel)]; exact ⟨rfl, rfl⟩))
    (fun os started H enc _ => lifted os started H enc)
theorem proved : Rows.FnExactJoinPhasesSaid := over
end Go.Proofs.Ytdipbpckmcmljaa.fnExactJoinPhases
namespace Go.Proofs.Ytdipbpckmcmljaa
/-- FnExactJoinPhases, whatever the arguments. -/
theorem fnExactJoinPhases_holds : Rows.FnExactJoinPhasesSaid := fnExactJoinPhases.proved
end Go.Proofs.Ytdipbpckmcmljaa

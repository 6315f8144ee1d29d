-- Printed by a changed copy of the printer
import Derived.Test.YtdipbpckmcmljaaPFnSectionsx0
namespace Go.Proofs.Ytdipbpckmcmljaa.PFnSections
open Go.RowKit Go.Proofs.YtdipbpckmcmljaaW.PrintWords Go.Proofs.YtdipbpckmcmljaaW.PrintLast Go.Proofs.YtdipbpckmcmljaaW.PrintMore
attribute [local go_sem] max2_int min2_int max_two min_two max_three min_three max_four min_four   -- for this text's walks alone
set_option linter.unusedVariables false
set_option linter.unusedSimpArgs false

/-! ### impl_CountProfiles: function 36 -/
mutual
def impl_CountProfiles.j0 : Nat → Int → Int → Bool → Option (Int × Bool)
 | 0, _, _, _ => none
 | k + 1, x0, x1, x28 => if x28 = true then (some (0, false)) else (if 0 ≤ (wrap64 (x1 + 1)) then (if (wrap64 (x1 + 1) : Int).toNat ≤ 35184372088832 then ((some (List.replicate (wrap64 (x1 + 1) : Int).toNat 0 : List Int)).bind fun y397 => (impl_CountProfiles.l0 k x0 x1 y397 (y397.length : Int) 0)) else (none)) else (none))
def impl_CountProfiles.l0 : Nat → Int → Int → List Int → Int → Int → Option (Int × Bool)
 | 0, _, _, _, _, _ => none
 | k + 1, x0, x1, x6, x33, x34 => if x34 < x33 then (if 0 ≤ x34 then (if x34 < (x6.length : Int) then (impl_CountProfiles.l0 k x0 x1 (x6.set (x34 : Int).toNat 1) x33 (wrap64 (x34 + 1))) else (none)) else (none)) else (impl_CountProfiles.l1 k x0 x1 x6 1)
def impl_CountProfiles.l1 : Nat → Int → Int → List Int → Int → Option (Int × Bool)
 | 0, _, _, _, _ => none
 | k + 1, x0, x1, x6, x8 => if x8 < x0 then (if 0 ≤ (wrap64 (x1 + 1)) then (if (wrap64 (x1 + 1) : Int).toNat ≤ 35184372088832 then ((some (List.replicate (wrap64 (x1 + 1) : Int).toNat 0 : List Int)).bind fun y401 => (impl_CountProfiles.l2 k x0 x1 x6 x8 y401 (y401.length : Int) 0)) else (none)) else (none)) else (impl_CountProfiles.l4 k 0 x6 (x6.length : Int) 0)
def impl_CountProfiles.l2 : Nat → Int → Int → List Int → Int → List Int → Int → Int → Option (Int × Bool)
 | 0, _, _, _, _, _, _, _ => none
 | k + 1, x0, x1, x6, x8, x9, x50, x51 => if x51 < x50 then (impl_CountProfiles.l3 k x0 x1 x6 x8 x9 x51 (mx 0 (wrap64 (x51 - 1))) x50 x51) else (impl_CountProfiles.l1 k x0 x1 x9 (wrap64 (x8 + 1)))
def impl_CountProfiles.l3 : Nat → Int → Int → List Int → Int → List Int → Int → Int → Int → Int → Option (Int × Bool)
 | 0, _, _, _, _, _, _, _, _, _ => none
 | k + 1, x0, x1, x6, x8, x9, x10, x11, x50, x51 => if x11 ≤ (mn x1 (wrap64 (x10 + 1))) then (if 0 ≤ x10 then (if x10 < (x9.length : Int) then (if 0 ≤ x11 then (if x11 < (x6.length : Int) then (impl_CountProfiles.l3 k x0 x1 x6 x8 (x9.set (x10 : Int).toNat (wrap64 ((rd x9 x10) + (rd x6 x11)))) x10 (wrap64 (x11 + 1)) x50 x51) else (none)) else (none)) else (none)) else (none)) else (impl_CountProfiles.l2 k x0 x1 x6 x8 x9 x50 (wrap64 (x51 + 1)))
def impl_CountProfiles.l4 : Nat → Int → List Int → Int → Int → Option (Int × Bool)
 | 0, _, _, _, _ => none
 | k + 1, x12, x77, x78, x79 => if x79 < x78 then (if 0 ≤ x79 then (if x79 < (x77.length : Int) then (impl_CountProfiles.l4 k (wrap64 (x12 + (rd x77 x79))) x77 x78 (wrap64 (x79 + 1))) else (none)) else (none)) else (some (x12, true))
end
def impl_CountProfiles.f (k : Nat) (a0 : Int) (a1 : Int) : Option (Int × Bool) := if a0 < 1 then (impl_CountProfiles.j0 k a0 a1 true) else (if a0 > 8 then (impl_CountProfiles.j0 k a0 a1 true) else (if a1 < 1 then (impl_CountProfiles.j0 k a0 a1 true) else (impl_CountProfiles.j0 k a0 a1 (decide (a1 > 6)))))
theorem impl_CountProfiles.mono_l : ∀ k, (∀ y0 y1 y2, LeO (impl_CountProfiles.j0 k y0 y1 y2) (impl_CountProfiles.j0 (k + 1) y0 y1 y2)) ∧ (∀ y0 y1 y2 y3 y4, LeO (impl_CountProfiles.l0 k y0 y1 y2 y3 y4) (impl_CountProfiles.l0 (k + 1) y0 y1 y2 y3 y4)) ∧ (∀ y0 y1 y2 y3, LeO (impl_CountProfiles.l1 k y0 y1 y2 y3) (impl_CountProfiles.l1 (k + 1) y0 y1 y2 y3)) ∧ (∀ y0 y1 y2 y3 y4 y5 y6, LeO (impl_CountProfiles.l2 k y0 y1 y2 y3 y4 y5 y6) (impl_CountProfiles.l2 (k + 1) y0 y1 y2 y3 y4 y5 y6)) ∧ (∀ y0 y1 y2 y3 y4 y5 y6 y7 y8, LeO (impl_CountProfiles.l3 k y0 y1 y2 y3 y4 y5 y6 y7 y8) (impl_CountProfiles.l3 (k + 1) y0 y1 y2 y3 y4 y5 y6 y7 y8)) ∧ (∀ y0 y1 y2 y3, LeO (impl_CountProfiles.l4 k y0 y1 y2 y3) (impl_CountProfiles.l4 (k + 1) y0 y1 y2 y3))
 | 0 => ⟨fun _ _ _ r h => by simp [impl_CountProfiles.j0] at h, fun _ _ _ _ _ r h => by simp [impl_CountProfiles.l0] at h, fun _ _ _ _ r h => by simp [impl_CountProfiles.l1] at h, fun _ _ _ _ _ _ _ r h => by simp [impl_CountProfiles.l2] at h, fun _ _ _ _ _ _ _ _ _ r h => by simp [impl_CountProfiles.l3] at h, fun _ _ _ _ r h => by simp [impl_CountProfiles.l4] at h⟩
 | k + 1 => by
  obtain ⟨ih0, ih1, ih2, ih3, ih4, ih5⟩ := impl_CountProfiles.mono_l k;refine ⟨?_, ?_, ?_, ?_, ?_, ?_⟩
  ·intro y0 y1 y2
   unfold impl_CountProfiles.j0
   repeat' first
   | (with_reducible exact ih0 _ _ _)
   | (with_reducible exact ih1 _ _ _ _ _)
   | (with_reducible exact ih2 _ _ _ _)
   | (with_reducible exact ih3 _ _ _ _ _ _ _)
   | (with_reducible exact ih4 _ _ _ _ _ _ _ _ _)
   | (with_reducible exact ih5 _ _ _ _)
   | (with_reducible exact LeO.refl _)
   | (with_reducible exact LeO.none _)
   | (with_reducible refine LeO.ite ?_ ?_)
   | (with_reducible refine LeO.bind ?_ (fun _ => ?_))
   | exact ih0 _ _ _
   | exact ih1 _ _ _ _ _
   | exact ih2 _ _ _ _
   | exact ih3 _ _ _ _ _ _ _
   | exact ih4 _ _ _ _ _ _ _ _ _
   | exact ih5 _ _ _ _
   | exact LeO.none _
   | refine LeO.ite ?_ ?_
   | refine LeO.bind ?_ (fun _ => ?_)
  ·intro y0 y1 y2 y3 y4
   unfold impl_CountProfiles.l0
   repeat' first
   | (with_reducible exact ih0 _ _ _)
   | (with_reducible exact ih1 _ _ _ _ _)
   | (with_reducible exact ih2 _ _ _ _)
   | (with_reducible exact ih3 _ _ _ _ _ _ _)
   | (with_reducible exact ih4 _ _ _ _ _ _ _ _ _)
   | (with_reducible exact ih5 _ _ _ _)
   | (with_reducible exact LeO.refl _)
   | (with_reducible exact LeO.none _)
   | (with_reducible refine LeO.ite ?_ ?_)
   | (with_reducible refine LeO.bind ?_ (fun _ => ?_))
   | exact ih0 _ _ _
   | exact ih1 _ _ _ _ _
   | exact ih2 _ _ _ _
   | exact ih3 _ _ _ _ _ _ _
   | exact ih4 _ _ _ _ _ _ _ _ _
   | exact ih5 _ _ _ _
   | exact LeO.none _
   | refine LeO.ite ?_ ?_
   | refine LeO.bind ?_ (fun _ => ?_)
  ·intro y0 y1 y2 y3
   unfold impl_CountProfiles.l1
   repeat' first
   | (with_reducible exact ih0 _ _ _)
   | (with_reducible exact ih1 _ _ _ _ _)
   | (with_reducible exact ih2 _ _ _ _)
   | (with_reducible exact ih3 _ _ _ _ _ _ _)
   | (with_reducible exact ih4 _ _ _ _ _ _ _ _ _)
   | (with_reducible exact ih5 _ _ _ _)
   | (with_reducible exact LeO.refl _)
   | (with_reducible exact LeO.none _)
   | (with_reducible refine LeO.ite ?_ ?_)
   | (with_reducible refine LeO.bind ?_ (fun _ => ?_))
   | exact ih0 _ _ _
   | exact ih1 _ _ _ _ _
   | exact ih2 _ _ _ _
   | exact ih3 _ _ _ _ _ _ _
   | exact ih4 _ _ _ _ _ _ _ _ _
   | exact ih5 _ _ _ _
   | exact LeO.none _
   | refine LeO.ite ?_ ?_
   | refine LeO.bind ?_ (fun _ => ?_)
  ·intro y0 y1 y2 y3 y4 y5 y6
   unfold impl_CountProfiles.l2
   repeat' first
   | (with_reducible exact ih0 _ _ _)
   | (with_reducible exact ih1 _ _ _ _ _)
   | (with_reducible exact ih2 _ _ _ _)
   | (with_reducible exact ih3 _ _ _ _ _ _ _)
   | (with_reducible exact ih4 _ _ _ _ _ _ _ _ _)
   | (with_reducible exact ih5 _ _ _ _)
   | (with_reducible exact LeO.refl _)
   | (with_reducible exact LeO.none _)
   | (with_reducible refine LeO.ite ?_ ?_)
   | (with_reducible refine LeO.bind ?_ (fun _ => ?_))
   | exact ih0 _ _ _
   | exact ih1 _ _ _ _ _
   | exact ih2 _ _ _ _
   | exact ih3 _ _ _ _ _ _ _
   | exact ih4 _ _ _ _ _ _ _ _ _
   | exact ih5 _ _ _ _
   | exact LeO.none _
   | refine LeO.ite ?_ ?_
   | refine LeO.bind ?_ (fun _ => ?_)
  ·intro y0 y1 y2 y3 y4 y5 y6 y7 y8
   unfold impl_CountProfiles.l3
   repeat' first
   | (with_reducible exact ih0 _ _ _)
   | (with_reducible exact ih1 _ _ _ _ _)
   | (with_reducible exact ih2 _ _ _ _)
   | (with_reducible exact ih3 _ _ _ _ _ _ _)
   | (with_reducible exact ih4 _ _ _ _ _ _ _ _ _)
   | (with_reducible exact ih5 _ _ _ _)
   | (with_reducible exact LeO.refl _)
   | (with_reducible exact LeO.none _)
   | (with_reducible refine LeO.ite ?_ ?_)
   | (with_reducible refine LeO.bind ?_ (fun _ => ?_))
   | exact ih0 _ _ _
   | exact ih1 _ _ _ _ _
   | exact ih2 _ _ _ _
   | exact ih3 _ _ _ _ _ _ _
   | exact ih4 _ _ _ _ _ _ _ _ _
   | exact ih5 _ _ _ _
   | exact LeO.none _
   | refine LeO.ite ?_ ?_
   | refine LeO.bind ?_ (fun _ => ?_)
  ·intro y0 y1 y2 y3
   unfold impl_CountProfiles.l4
   repeat' first
   | (with_reducible exact ih0 _ _ _)
   | (with_reducible exact ih1 _ _ _ _ _)
   | (with_reducible exact ih2 _ _ _ _)
   | (with_reducible exact ih3 _ _ _ _ _ _ _)
   | (with_reducible exact ih4 _ _ _ _ _ _ _ _ _)
   | (with_reducible exact ih5 _ _ _ _)
   | (with_reducible exact LeO.refl _)
   | (with_reducible exact LeO.none _)
   | (with_reducible refine LeO.ite ?_ ?_)
   | (with_reducible refine LeO.bind ?_ (fun _ => ?_))
   | exact ih0 _ _ _
   | exact ih1 _ _ _ _ _
   | exact ih2 _ _ _ _
   | exact ih3 _ _ _ _ _ _ _
   | exact ih4 _ _ _ _ _ _ _ _ _
   | exact ih5 _ _ _ _
   | exact LeO.none _
   | refine LeO.ite ?_ ?_
   | refine LeO.bind ?_ (fun _ => ?_)
theorem impl_CountProfiles.mono : ∀ a0 a1 k, LeO (impl_CountProfiles.f k a0 a1) (impl_CountProfiles.f (k + 1) a0 a1) := by
 intro a0 a1 k;obtain ⟨ih0, ih1, ih2, ih3, ih4, ih5⟩ := impl_CountProfiles.mono_l k
 unfold impl_CountProfiles.f
 repeat' first
   | (with_reducible exact ih0 _ _ _)
   | (with_reducible exact ih1 _ _ _ _ _)
   | (with_reducible exact ih2 _ _ _ _)
   | (with_reducible exact ih3 _ _ _ _ _ _ _)
   | (with_reducible exact ih4 _ _ _ _ _ _ _ _ _)
   | (with_reducible exact ih5 _ _ _ _)
   | (with_reducible exact LeO.refl _)
   | (with_reducible exact LeO.none _)
   | (with_reducible refine LeO.ite ?_ ?_)
   | (with_reducible refine LeO.bind ?_ (fun _ => ?_))
   | exact ih0 _ _ _
   | exact ih1 _ _ _ _ _
   | exact ih2 _ _ _ _
   | exact ih3 _ _ _ _ _ _ _
   | exact ih4 _ _ _ _ _ _ _ _ _
   | exact ih5 _ _ _ _
   | exact LeO.none _
   | refine LeO.ite ?_ ?_
   | refine LeO.bind ?_ (fun _ => ?_)
def impl_CountProfiles.T19 : Bool × List (List Nat × List Nat) := (true, [([], []), ([], []), ([0, 1], [0, 1]), ([2], [2]), ([], []), ([], []), ([4, 5], [4, 5]), ([6], [6]), ([3, 7], [3, 7]), ([0, 1, 0, 1, 2, 3, 4, 5, 6, 7, 8], [0, 1]), ([9, 8, 0, 1, 2, 3, 4, 5, 6, 7, 8], [8, 9])])
def impl_CountProfiles.B19 : List Nat := [0, 0, 3, 7, 0, 0, 48, 112, 255, 511, 1023]
theorem impl_CountProfiles.tab19 : rtab .any (opsOf Try.f36 19) = impl_CountProfiles.T19 := by kernel_rfl
theorem impl_CountProfiles.bits19 : waitsOk impl_CountProfiles.T19.2 impl_CountProfiles.B19 = true := by kernel_rfl
set_option maxHeartbeats 8000000 in
set_option maxRecDepth 100000 in
theorem impl_CountProfiles.calls (k : Nat) (a0 : Int) (a1 : Int) (r1 : Int) (r2 : Bool) (w : World) (h : impl_CountProfiles.f k a0 a1 = some (r1, r2)) :
  Calls Try.prog 36 #[.int .i64 a0, .int .i64 a1] w fun e w' => e = .returned (.tuple #[.int .i64 r1, .bool r2]) ∧ Below w.heap.size w w' := by
 have HB := Aside0.mk (Below.refl w.heap.size w);have H : (if a0 < 1 then (impl_CountProfiles.j0 k a0 a1 true) else (if a0 > 8 then (impl_CountProfiles.j0 k a0 a1 true) else (if a1 < 1 then (impl_CountProfiles.j0 k a0 a1 true) else (impl_CountProfiles.j0 k a0 a1 (decide (a1 > 6)))))) = some (r1, r2) := h;clear h;have HC3 := Aside0.mk H;clear H
 go_enter Try.func36, Try.ntmps36
 go_upto_region 1 with (fail)
 go_cut [28] (fun v28 wc => ∃ (kq : Nat) (x28_2 : Bool), v28 = .bool x28_2 ∧ Aside0 (impl_CountProfiles.j0 kq a0 a1 x28_2 = some (r1, r2)) ∧ Aside0 (kq ≤ k) ∧ Aside0 (Below w.heap.size w wc))
 case first =>
  have H := HC3.out;clear HC3
  by_cases c4 : a0 < 1
  ·rw [if_pos c4] at H;have c4b0 := decide_eq_true c4;clear c4
   (first | rw [c4b0] | (simp only [i64_w, i32_w]; rw [c4b0]) | skip)
   have H' := Aside0.mk H;clear H;go_wp2
   go_meet
   case rel => exact ⟨_, (true), (by first | rfl | (simp; done) | (simp [*]; done)), H', ⟨by first | omega | exact Nat.le_refl _⟩, ⟨HB.out⟩⟩
  ·rw [if_neg c4] at H;have c4b0 := decide_eq_false c4;clear c4
   (first | rw [c4b0] | (simp only [i64_w, i32_w]; rw [c4b0]) | skip)
   by_cases c5 : a0 > 8
   ·rw [if_pos c5] at H;have c5b0 := decide_eq_true c5;clear c5;have H' := Aside0.mk H;clear H;go_wp2
    go_meet
    case rel => exact ⟨_, (true), (by first | rfl | (simp; done) | (simp [*]; done)), H', ⟨by first | omega | exact Nat.le_refl _⟩, ⟨HB.out⟩⟩
   ·rw [if_neg c5] at H;have c5b0 := decide_eq_false c5;clear c5
    by_cases c6 : a1 < 1
    ·rw [if_pos c6] at H;have c6b0 := decide_eq_true c6;clear c6;have H' := Aside0.mk H;clear H;go_wp2
     go_meet
     case rel => exact ⟨_, (true), (by first | rfl | (simp; done) | (simp [*]; done)), H', ⟨by first | omega | exact Nat.le_refl _⟩, ⟨HB.out⟩⟩
    ·rw [if_neg c6] at H;have c6b0 := decide_eq_false c6;clear c6;have H' := Aside0.mk H;clear H;go_wp2
     go_meet
     case rel => exact ⟨_, (decide (a1 > 6)), (by first | rfl | (simp; done) | (simp [*]; done)), H', ⟨by first | omega | exact Nat.le_refl _⟩, ⟨HB.out⟩⟩
 case rest =>
  clear HC3;(try clear p2);(try clear c3);(try clear c4);(try clear c4b0);(try clear c5);(try clear c5b0);(try clear c6);(try clear c6b0);obtain ⟨kq, x28_2, rfl, HA, HJ2, HB⟩ := hcut;cases kq with
  | zero => exact absurd HA.out (by simp [impl_CountProfiles.j0])
  | succ kj2 =>
   have H := HA.out;clear HA;simp only [impl_CountProfiles.j0] at H
   by_cases c7 : x28_2 = true
   ·subst c7;rw [if_pos rfl] at H;simp only [Option.some.injEq, Prod.mk.injEq] at H;obtain ⟨rfl, rfl⟩ := H;go_wp2
    go_ret2
    exact ⟨rfl, HB.out⟩
   ·replace c7 := Bool.eq_false_iff.mpr c7;subst c7;rw [if_neg (show ¬ (false = true) by decide)] at H;obtain ⟨ji8, hji8⟩ : ∃ j_ : Int, (wrap64 (a1 + 1)) = j_ := ⟨_, rfl⟩;replace H : (if 0 ≤ (ji8) then (if (ji8 : Int).toNat ≤ 35184372088832 then ((some (List.replicate (ji8 : Int).toNat 0 : List Int)).bind fun y397 => (impl_CountProfiles.l0 kj2 a0 a1 y397 (y397.length : Int) 0)) else (none)) else (none)) = some (r1, r2) := by first | (rw [hji8] at H; exact H) | (simp only [hji8] at H ⊢; exact H)
    have hji8w : (IntKind.i64.wrap (a1 + 1)) = ji8 := (i64_w _).trans hji8
    by_cases c9 : 0 ≤ (ji8)
    ·rw [if_pos c9] at H;have c9b0 := eq_true c9;have c9b1 := decide_eq_true c9;clear c9
     by_cases c10 : (ji8 : Int).toNat ≤ 35184372088832
     ·rw [if_pos c10] at H;have c10b0 := eq_true c10;have c10b1 := decide_eq_true c10;clear c10;obtain ⟨y397, hy397⟩ : ∃ y_ : List Int, y_ = (List.replicate (ji8 : Int).toNat 0) := ⟨_, rfl⟩
      first | rw [← hy397] at H | (rw [Option.bind_some] at H; rw [← hy397] at H)
      have Ny397 := Aside0.mk hy397;clear hy397;have H' := Aside0.mk H;clear H
      go_wp2_with (first | ((with_reducible refine gate_dst (N := 31) rfl ?_); refine Kd.R_make (Kd.int .i64) _ 3 rfl (N := 31) rfl 24 _ _ rfl ji8 rfl rfl Try.underlying24 (.int .i64 0) 8 info3 rfl (by decide) (by omega) 0 (ok := fun _ => True) (okp := fun _ => True) rfl (fun _ hk => hk) trivial (of_decide_eq_true (by assumption)) (Nat.le_trans (Nat.mul_le_mul_right _ (of_decide_eq_true (by assumption) : ji8.toNat ≤ 35184372088832)) (by omega)) (Below.refl _ _) (Nat.le_refl _) ?_; intro v398 w11 ho12 hb hg_ hnew_; clear hg_ hnew_; (first | rw [← Ny397.out] at ho12 | (simp only [Int.reduceToNat] at ho12; rw [← Ny397.out] at ho12)); have HO399 := Aside0.mk (Kd.R_lower ho12 (below_size HB.out)); replace HB := Aside0.mk (below_step HB.out hb); clear hb ho12; obtain ⟨Ao13, co13, eo13⟩ := Kd.R_slice HO399.out; subst eo13))
      go_loopg [34] kj2 (fun kq v34 w' => ∃ (x6_2 : List Int) (x34_2 : Int), v34 = .int .i64 x34_2 ∧ Aside0 (impl_CountProfiles.l0 kq a0 a1 x6_2 (y397.length : Int) x34_2 = some (r1, r2)) ∧ Aside0 (kq ≤ kj2) ∧ Aside0 (Kd.R (Kd.int .i64) 3 w' w.heap.size (fun _ => True) (.slice Ao13 y397.length co13) x6_2) ∧ Aside0 (Below w.heap.size w w'))
      case atStart => exact ⟨(y397), (0), (by first | rfl | (simp; done) | (simp [*]; done)), H', ⟨Nat.le_refl _⟩, ⟨by (with_reducible repeat (first | apply Kd.R_alloc | apply Kd.R_drewN | apply Kd.R_drew)); exact HO399.out⟩, ⟨HB.out⟩⟩
      case round =>
       clear H';(try clear c1);(try clear p2);(try clear c3);(try clear c4);(try clear c4b0);(try clear c5);(try clear c5b0);(try clear c6);(try clear c6b0);(try clear p6);(try clear c7);(try clear c9);(try clear c9b0);(try clear c9b1);(try clear c10);(try clear c10b0);(try clear c10b1);(try clear p2);obtain ⟨x6_2, x34_2, rfl, HA, HK2, HO_6, HB⟩ := hrel;have hl6_2 := (Kd.R_reads' HO_6.out).1;rw [hl6_2] at HO_6
       (try simp only [hl6_2])
       cases gk with
       | zero => exact absurd HA.out (by simp [impl_CountProfiles.l0])
       | succ k2 =>
        have H := HA.out;clear HA;simp only [impl_CountProfiles.l0] at H
        by_cases c14 : x34_2 < (y397.length : Int)
        ·rw [if_pos c14] at H;have c14b0 := decide_eq_true c14
         (try (have c14b20 := c14b0; rw [hl6_2] at c14b20))
         clear c14
         by_cases c15 : 0 ≤ x34_2
         ·rw [if_pos c15] at H;have c15b0 := decide_eq_true c15;clear c15
          by_cases c16 : x34_2 < (x6_2.length : Int)
          ·rw [if_pos c16] at H;have c16b0 := decide_eq_true c16
           (try (have c16b20 := c16b0; rw [hl6_2] at c16b20))
           clear c16;obtain ⟨y400, hy400⟩ : ∃ y_ : List Int, y_ = (x6_2.set (x34_2 : Int).toNat 1) := ⟨_, rfl⟩
           first | rw [← hy400] at H | (rw [Option.bind_some] at H; rw [← hy400] at H)
           have Ny400 := Aside0.mk hy400;clear hy400;have H' := Aside0.mk H;clear H;have p17 : 0 ≤ (x34_2 : Int) := of_decide_eq_true (by assumption);have q17 : (x34_2 : Int) < ((x6_2.length : Int) : Int) := of_decide_eq_true (by assumption);obtain ⟨go17, co17, eo17, gb17, gl17, cl17, HG17⟩ := Kd.R_form HO_6.out (by omega)
           (first | cases eo17 | (injection eo17 with ea_ en_ ec_; (first | subst ea_ | (injection ea_ with ea_; subst ea_)); subst ec_; clear en_))
           have GB17 := Aside0.mk gb17;have GG17 := Aside0.mk HG17;clear gb17 gl17 HG17;obtain ⟨hx17_0, hf17_0⟩ := Kd.R_celln 0 HO_6.out (x34_2 : Int) p17 q17;replace p17 := eq_true p17;replace q17 := eq_true q17;have HP18 := Kd.R_putg HO_6.out (x34_2 : Int) 1
           go_wp2_with (first | ((with_reducible refine gate_store (t := 3) (p := 39) rfl ?_); refine store_event (t := 3) (p := 39) (v := ?vo_w19) (w1 := (wr.setCell ⟨go17, (x34_2 : Int).toNat, none⟩ (.int .i64 1))) ?hg ?ho ?hn ?hr ?_; (case ho => rfl); (case hg => rfl); (case hn => rfl); (case hr => first | (go_simp; done) | (go_simp; rfl)); intro w19 hw; have hg : wr.grownBy w19 (some go17) := (by rw [hw]; exact HP18.2); have hp_ : Kd.R (Kd.int .i64) 3 w19 w.heap.size (fun _ => True) (.slice (some ⟨go17, 0, none⟩) x6_2.length co13) y400 := (by rw [hw, Ny400.out]; exact HP18.1); clear HP18; replace HO_6 := Aside0.mk (hp_); replace HB := Aside0.mk ((by rw [hw]; exact below_set (HB.out) GB17.out : Below w.heap.size w w19)); clear hg hw hp_))
           (try simp only [← hl6_2])
           go_roundg k2
           case measure => have := HJ2.out; have := HK2.out; omega
           case rel => exact ⟨(y400), (wrap64 (x34_2 + 1)), (by first | rfl | (simp; done) | (simp [*]; done)), H', ⟨by have := HJ2.out; have := HK2.out; omega⟩, ⟨by (try simp only [hl6_2]); (with_reducible repeat (first | apply Kd.R_alloc | apply Kd.R_drewN | apply Kd.R_drew)); exact HO_6.out⟩, ⟨HB.out⟩⟩
          ·rw [if_neg c16] at H;exact absurd H (by simp)
         ·rw [if_neg c15] at H;exact absurd H (by simp)
        ·rw [if_neg c14] at H;have c14b0 := decide_eq_false c14
         (try (have c14b20 := c14b0; rw [hl6_2] at c14b20))
         clear c14;have H' := Aside0.mk H;clear H;go_wp2
         go_loopg [6, 8] k2 (fun kq v6 v8 w' => ∃ (x6_3 : List Int) (x8_3 : Int), v8 = .int .i64 x8_3 ∧ Aside0 (impl_CountProfiles.l1 kq a0 a1 x6_3 x8_3 = some (r1, r2)) ∧ Aside0 (kq ≤ k2) ∧ Aside0 (Kd.R (Kd.int .i64) 3 w' w.heap.size (fun _ => True) v6 x6_3) ∧ Aside0 (Below w.heap.size w w'))
         case atStart => exact ⟨(x6_2), (1), (by first | rfl | (simp; done) | (simp [*]; done)), H', ⟨Nat.le_refl _⟩, ⟨by (try simp only [hl6_2]); (with_reducible repeat (first | apply Kd.R_alloc | apply Kd.R_drewN | apply Kd.R_drew)); exact HO_6.out⟩, ⟨HB.out⟩⟩
         case round =>
          clear H';(try clear c1);(try clear p1);(try clear q1);(try clear hx1);(try clear p2);(try clear c3);(try clear c4);(try clear c4b0);(try clear c5);(try clear c5b0);(try clear c6);(try clear c6b0);(try clear p6);(try clear c7);(try clear c9);(try clear c9b0);(try clear c9b1);(try clear c10);(try clear c10b0);(try clear c10b1);(try clear c14);(try clear c14b0);(try clear c15);(try clear c15b0);(try clear c16);(try clear c16b0);(try clear p17);(try clear q17);(try clear hx17);(try clear hf17);(try clear hx17_0);(try clear p17);(try clear p2);(try clear p6);(try clear q17);obtain ⟨x6_3, x8_3, rfl, HA, HK3, HO_6, HB⟩ := hrel;cases gk with
          | zero => exact absurd HA.out (by simp [impl_CountProfiles.l1])
          | succ k3 =>
           have H := HA.out;clear HA;simp only [impl_CountProfiles.l1] at H
           by_cases c20 : x8_3 < a0
           ·rw [if_pos c20] at H;have c20b0 := decide_eq_true c20;clear c20;obtain ⟨ji21, hji21⟩ : ∃ j_ : Int, (wrap64 (a1 + 1)) = j_ := ⟨_, rfl⟩;replace H : (if 0 ≤ (ji21) then (if (ji21 : Int).toNat ≤ 35184372088832 then ((some (List.replicate (ji21 : Int).toNat 0 : List Int)).bind fun y401 => (impl_CountProfiles.l2 k3 a0 a1 x6_3 x8_3 y401 (y401.length : Int) 0)) else (none)) else (none)) = some (r1, r2) := by first | (rw [hji21] at H; exact H) | (simp only [hji21] at H ⊢; exact H)
            have hji21w : (IntKind.i64.wrap (a1 + 1)) = ji21 := (i64_w _).trans hji21
            (try (obtain rfl : ji21 = ji8 := hji21.symm.trans hji8))
            by_cases c22 : 0 ≤ (ji21)
            ·rw [if_pos c22] at H;have c22b0 := eq_true c22;have c22b1 := decide_eq_true c22;clear c22
             by_cases c23 : (ji21 : Int).toNat ≤ 35184372088832
             ·rw [if_pos c23] at H;have c23b0 := eq_true c23;have c23b1 := decide_eq_true c23;clear c23;obtain ⟨y401, hy401⟩ : ∃ y_ : List Int, y_ = (List.replicate (ji21 : Int).toNat 0) := ⟨_, rfl⟩
              first | rw [← hy401] at H | (rw [Option.bind_some] at H; rw [← hy401] at H)
              have Ny401 := Aside0.mk hy401;clear hy401;have H' := Aside0.mk H;clear H
              go_wp2_with (first | ((with_reducible refine gate_dst (N := 48) rfl ?_); refine Kd.R_make (Kd.int .i64) _ 3 rfl (N := 48) rfl 24 _ _ rfl ji21 rfl rfl Try.underlying24 (.int .i64 0) 8 info3 rfl (by decide) (by omega) 0 (ok := fun _ => True) (okp := fun _ => True) rfl (fun _ hk => hk) trivial (of_decide_eq_true (by assumption)) (Nat.le_trans (Nat.mul_le_mul_right _ (of_decide_eq_true (by assumption) : ji21.toNat ≤ 35184372088832)) (by omega)) (Below.refl _ _) (Nat.le_refl _) ?_; intro v402 w24 ho25 hb hg_ hnew_; clear hg_ hnew_; (first | rw [← Ny401.out] at ho25 | (simp only [Int.reduceToNat] at ho25; rw [← Ny401.out] at ho25)); have HO403 := Aside0.mk (Kd.R_lower (Kd.R_new' ho25 (Kd.R_lt HO_6.out)) (below_size HB.out)); replace HO_6 := Aside0.mk (Kd.R_elder' HO_6.out (Kd.R_base ho25) hb); replace HB := Aside0.mk (below_step HB.out hb); clear hb ho25; obtain ⟨Ao26, co26, eo26⟩ := Kd.R_slice HO403.out; subst eo26))
              go_loopg [51] k3 (fun kq v51 w' => ∃ (x9_4 : List Int) (x51_4 : Int), v51 = .int .i64 x51_4 ∧ Aside0 (impl_CountProfiles.l2 kq a0 a1 x6_3 x8_3 x9_4 (y401.length : Int) x51_4 = some (r1, r2)) ∧ Aside0 (kq ≤ k3) ∧ Aside0 (Kd.R (Kd.int .i64) 3 w' w.heap.size (fun k_ => some k_ ≠ ((.slice Ao26 y401.length co26) : Value).ownBlock) u6 x6_3) ∧ Aside0 (Kd.R (Kd.int .i64) 3 w' w.heap.size (fun k_ => some k_ ≠ (u6 : Value).ownBlock) (.slice Ao26 y401.length co26) x9_4) ∧ Aside0 (Below w.heap.size w w'))
              case atStart => exact ⟨(y401), (0), (by first | rfl | (simp; done) | (simp [*]; done)), H', ⟨Nat.le_refl _⟩, ⟨by (try simp only [hl6_2]); (with_reducible repeat (first | apply Kd.R_alloc | apply Kd.R_drewN | apply Kd.R_drew)); exact Kd.R_mono HO_6.out (fun _ hk => hk.2)⟩, ⟨by (try simp only [hl6_2]); (with_reducible repeat (first | apply Kd.R_alloc | apply Kd.R_drewN | apply Kd.R_drew)); exact Kd.R_mono HO403.out (fun _ hk => hk.2)⟩, ⟨HB.out⟩⟩
              case round =>
               clear H';(try clear c1);(try clear p1);(try clear q1);(try clear hx1);(try clear c2);(try clear p2);(try clear c3);(try clear c4);(try clear c4b0);(try clear c5);(try clear c5b0);(try clear c6);(try clear c6b0);(try clear p6);(try clear c7);(try clear c9);(try clear c9b0);(try clear c9b1);(try clear c10);(try clear c10b0);(try clear c10b1);(try clear c14);(try clear c14b0);(try clear c15);(try clear c15b0);(try clear c16);(try clear c16b0);(try clear p17);(try clear q17);(try clear hx17);(try clear hf17);(try clear c20);(try clear c20b0);(try clear c22);(try clear c22b0);(try clear c22b1);(try clear c23);(try clear c23b0);(try clear c23b1);(try clear hx17_0);(try clear p1);(try clear p17);(try clear p2);(try clear p6);(try clear q1);(try clear q17);obtain ⟨x9_4, x51_4, rfl, HA, HK4, HO_6, HO_9, HB⟩ := hrel;have hl9_4 := (Kd.R_reads' HO_9.out).1;rw [hl9_4] at HO_9
               (try simp only [hl9_4])
               (try simp only [hl9_4] at HO_6)
               cases gk with
               | zero => exact absurd HA.out (by simp [impl_CountProfiles.l2])
               | succ k4 =>
                have H := HA.out;clear HA;simp only [impl_CountProfiles.l2] at H
                by_cases c27 : x51_4 < (y401.length : Int)
                ·rw [if_pos c27] at H;have c27b0 := decide_eq_true c27
                 (try (have c27b20 := c27b0; rw [hl6_2] at c27b20))
                 (try (have c27b21 := c27b0; rw [hl9_4] at c27b21))
                 clear c27;obtain ⟨ji28, hji28⟩ : ∃ j_ : Int, (mx 0 (wrap64 (x51_4 - 1))) = j_ := ⟨_, rfl⟩;replace H : (impl_CountProfiles.l3 k4 a0 a1 x6_3 x8_3 x9_4 x51_4 ji28 (y401.length : Int) x51_4) = some (r1, r2) := by first | (rw [hji28] at H; exact H) | (simp only [hji28] at H ⊢; exact H)
                 have hji28_ : (if 0 < (wrap64 (x51_4 - 1)) then (wrap64 (x51_4 - 1)) else 0) = ji28 := hji28;have H' := Aside0.mk H;clear H;go_wp2
                 go_loopg [11] k4 (fun kq v11 w' => ∃ (x9_5 : List Int) (x11_5 : Int), v11 = .int .i64 x11_5 ∧ Aside0 (impl_CountProfiles.l3 kq a0 a1 x6_3 x8_3 x9_5 x51_4 x11_5 (y401.length : Int) x51_4 = some (r1, r2)) ∧ Aside0 (kq ≤ k4) ∧ Aside0 (Kd.R (Kd.int .i64) 3 w' w.heap.size (fun k_ => some k_ ≠ ((.slice Ao26 x9_4.length co26) : Value).ownBlock) u6 x6_3) ∧ Aside0 (Kd.R (Kd.int .i64) 3 w' w.heap.size (fun k_ => some k_ ≠ (u6 : Value).ownBlock) (.slice Ao26 x9_4.length co26) x9_5) ∧ Aside0 (Below w.heap.size w w'))
                 case atStart => exact ⟨(x9_4), (ji28), (by first | rfl | (simp; done) | (simp only [← hji28] <;> (first | rfl | simp)) | (simp [*]; done)), H', ⟨Nat.le_refl _⟩, ⟨by (try simp only [hl6_2]); (try simp only [hl9_4]); (with_reducible repeat (first | apply Kd.R_alloc | apply Kd.R_drewN | apply Kd.R_drew)); exact HO_6.out⟩, ⟨by (try simp only [hl6_2]); (try simp only [hl9_4]); (with_reducible repeat (first | apply Kd.R_alloc | apply Kd.R_drewN | apply Kd.R_drew)); exact HO_9.out⟩, ⟨HB.out⟩⟩
                 case round =>
                  clear H';(try clear c1);(try clear p1);(try clear q1);(try clear hx1);(try clear c2);(try clear p2);(try clear c3);(try clear c4);(try clear c4b0);(try clear c5);(try clear c5b0);(try clear c6);(try clear c6b0);(try clear p6);(try clear c7);(try clear c9);(try clear c9b0);(try clear c9b1);(try clear c10);(try clear c10b0);(try clear c10b1);(try clear c14);(try clear c14b0);(try clear c15);(try clear c15b0);(try clear c16);(try clear c16b0);(try clear p17);(try clear q17);(try clear hx17);(try clear hf17);(try clear c20);(try clear c20b0);(try clear c22);(try clear c22b0);(try clear c22b1);(try clear c23);(try clear c23b0);(try clear c23b1);(try clear c27);(try clear c27b0);(try clear hx17_0);(try clear p1);(try clear p17);(try clear p2);(try clear p6);(try clear q1);(try clear q17);obtain ⟨x9_5, x11_5, rfl, HA, HK5, HO_6, HO_9, HB⟩ := hrel;have hl9_5 := (Kd.R_reads' HO_9.out).1;rw [hl9_5] at HO_9
                  (try simp only [hl9_5])
                  (try simp only [hl9_5] at HO_6)
                  cases gk with
                  | zero => exact absurd HA.out (by simp [impl_CountProfiles.l3])
                  | succ k5 =>
                   have H := HA.out;clear HA;simp only [impl_CountProfiles.l3] at H;obtain ⟨ji29, hji29⟩ : ∃ j_ : Int, (mn a1 (wrap64 (x51_4 + 1))) = j_ := ⟨_, rfl⟩;replace H : (if x11_5 ≤ (ji29) then (if 0 ≤ x51_4 then (if x51_4 < (x9_5.length : Int) then (if 0 ≤ x11_5 then (if x11_5 < (x6_3.length : Int) then (impl_CountProfiles.l3 k5 a0 a1 x6_3 x8_3 (x9_5.set (x51_4 : Int).toNat (wrap64 ((rd x9_5 x51_4) + (rd x6_3 x11_5)))) x51_4 (wrap64 (x11_5 + 1)) (y401.length : Int) x51_4) else (none)) else (none)) else (none)) else (none)) else (impl_CountProfiles.l2 k5 a0 a1 x6_3 x8_3 x9_5 (y401.length : Int) (wrap64 (x51_4 + 1)))) = some (r1, r2) := by first | (rw [hji29] at H; exact H) | (simp only [hji29] at H ⊢; exact H)
                   have hji29_ : (if (wrap64 (x51_4 + 1)) < a1 then (wrap64 (x51_4 + 1)) else a1) = ji29 := hji29
                   by_cases c30 : x11_5 ≤ (ji29)
                   ·rw [if_pos c30] at H;have c30b0 := decide_eq_true c30;clear c30
                    by_cases c31 : 0 ≤ x51_4
                    ·rw [if_pos c31] at H;have c31b0 := decide_eq_true c31;clear c31
                     by_cases c32 : x51_4 < (x9_5.length : Int)
                     ·rw [if_pos c32] at H;have c32b0 := decide_eq_true c32
                      (try (have c32b20 := c32b0; rw [hl6_2] at c32b20))
                      (try (have c32b21 := c32b0; rw [hl9_4] at c32b21))
                      (try (have c32b22 := c32b0; rw [hl9_5] at c32b22))
                      clear c32
                      by_cases c33 : 0 ≤ x11_5
                      ·rw [if_pos c33] at H;have c33b0 := decide_eq_true c33;clear c33
                       by_cases c34 : x11_5 < (x6_3.length : Int)
                       ·rw [if_pos c34] at H;have c34b0 := decide_eq_true c34
                        (try (have c34b20 := c34b0; rw [hl6_2] at c34b20))
                        (try (have c34b21 := c34b0; rw [hl9_4] at c34b21))
                        (try (have c34b22 := c34b0; rw [hl9_5] at c34b22))
                        clear c34;obtain ⟨y406, hy406⟩ : ∃ y_ : List Int, y_ = (x9_5.set (x51_4 : Int).toNat (wrap64 ((rd x9_5 x51_4) + (rd x6_3 x11_5)))) := ⟨_, rfl⟩
                        first | rw [← hy406] at H | (rw [Option.bind_some] at H; rw [← hy406] at H)
                        have Ny406 := Aside0.mk hy406;clear hy406;have H' := Aside0.mk H;clear H
                        try go_wp2
                        have n0_ := Aside0.mk (Kd.R_drew HO_6.out);have n1_ := Aside0.mk (Kd.R_drew HO_9.out);have n2_ := Aside0.mk (below_drew1 HB.out);clear HO_6;clear HO_9;clear HB;have HO_6 := n0_;have HO_9 := n1_;have HB := n2_;clear n0_ n1_ n2_;have p404 : 0 ≤ (x51_4 : Int) := of_decide_eq_true (by assumption);have q404 : x51_4 < (x9_5.length : Int) := of_decide_eq_true (by assumption);obtain ⟨ad404, e404, hx404_0⟩ := Kd.at_int (Kd.R_reads' HO_9.out).2.2 x51_4 p404 q404;cases e404;replace p404 := eq_true p404;replace q404 := eq_true q404;obtain ⟨Ao37, co37, eo37⟩ := Kd.R_slice HO_6.out
                        (first | subst eo37 | (injection eo37 with f1_ f2_ f3_; have f4_ := f1_.symm; have f5_ := f3_.symm; clear f1_ f2_ f3_; subst f4_; subst f5_))
                        have p405 : 0 ≤ (x11_5 : Int) := of_decide_eq_true (by assumption);have q405 : x11_5 < (x6_3.length : Int) := of_decide_eq_true (by assumption);obtain ⟨ad405, e405, hx405_0⟩ := Kd.at_int (Kd.R_reads' HO_6.out).2.2 x11_5 p405 q405;cases e405;replace p405 := eq_true p405;replace q405 := eq_true q405;have p35 : 0 ≤ (x51_4 : Int) := of_decide_eq_true (by assumption);have q35 : (x51_4 : Int) < ((x9_5.length : Int) : Int) := of_decide_eq_true (by assumption);obtain ⟨go35, co35, eo35, gb35, gl35, cl35, HG35⟩ := Kd.R_form HO_9.out (by omega)
                        (first | cases eo35 | (injection eo35 with ea_ en_ ec_; (first | subst ea_ | (injection ea_ with ea_; subst ea_)); subst ec_; clear en_))
                        have GB35 := Aside0.mk gb35;have GG35 := Aside0.mk HG35;clear gb35 gl35 HG35
                        (first | simp only [add_plain] at hx404_0 | skip)
                        obtain ⟨hx35_0, hf35_0⟩ := Kd.R_celln 0 HO_9.out (x51_4 : Int) p35 q35;replace p35 := eq_true p35;replace q35 := eq_true q35;have HP38 := Kd.R_putn HO_9.out (x51_4 : Int) (wrap64 ((rd x9_5 x51_4) + (rd x6_3 x11_5)));rw [← Ny406.out] at HP38;have HQ38 := Aside0.mk HP38;clear HP38;refine start_ (n := 11) (S := fun w' => w'.cell? ⟨go35, (x51_4).toNat, none⟩ = some (.int .i64 (rd x9_5 x51_4)) ∧ w'.cell? (ad405.add (x11_5).toNat) = some (.int .i64 (rd x6_3 x11_5))) (ds := [10]) #[false, false, false, false, false, false, false, false, false, false, false] (by kernel_rfl) rfl rfl ⟨hx404_0, hx405_0⟩ (fun hHeld => ?_); refine with_tabW impl_CountProfiles.tab19 impl_CountProfiles.bits19 (fun HT_ HW_ => ?_);generalize wr.drew = w36 at HO_6 HO_9 HB GG35 HQ38 hf35_0 hx35_0 hx404_0 hx405_0 hHeld ⊢;refine pure_ (i := 0) (N := some 65) (v := ?_) (a' := ?_) #[true, false, false, false, false, false, false, false, false, false, false] rfl rfl (any_of HT_.out (by kernel_rfl)) (fun _ _ _ h => h) (Or.inl ⟨by rfl, ?_⟩) ?_ ?_;rotate_left
                        ·intro w';go_simp;with_reducible rfl
                        rotate_left
                        ·simp only [Act.put, List.setIfInBounds_toArray, List.set_cons_zero, List.set_cons_succ, i64_w, i32_w];rfl
                        refine pure_ (i := 1) (N := some 66) (v := ?_) (a' := ?_) #[true, true, false, false, false, false, false, false, false, false, false] rfl rfl (any_of HT_.out (by kernel_rfl)) (fun _ _ _ h => h) (Or.inl ⟨by rfl, ?_⟩) ?_ ?_;rotate_left
                        ·intro w';go_simp;with_reducible rfl
                        rotate_left
                        ·simp only [Act.put, List.setIfInBounds_toArray, List.set_cons_zero, List.set_cons_succ, i64_w, i32_w];rfl
                        refine pure_ (i := 2) (N := some 67) (v := ?_) (a' := ?_) #[true, true, true, false, false, false, false, false, false, false, false] rfl rfl (any_of HT_.out (by kernel_rfl)) (fun _ _ _ h => h) (Or.inl ⟨by rfl, ?_⟩) ?_ ?_;rotate_left
                        ·intro w';go_simp;with_reducible rfl
                        rotate_left
                        ·simp only [Act.put, List.setIfInBounds_toArray, List.set_cons_zero, List.set_cons_succ, i64_w, i32_w];rfl
                        refine pure_ (i := 4) (N := some 69) (v := ?_) (a' := ?_) #[true, true, true, false, true, false, false, false, false, false, false] rfl rfl (any_of HT_.out (by kernel_rfl)) (fun _ _ _ h => h) (Or.inl ⟨by rfl, ?_⟩) ?_ ?_;rotate_left
                        ·intro w';go_simp;with_reducible rfl
                        rotate_left
                        ·simp only [Act.put, List.setIfInBounds_toArray, List.set_cons_zero, List.set_cons_succ, i64_w, i32_w];rfl
                        refine pure_ (i := 5) (N := some 70) (v := ?_) (a' := ?_) #[true, true, true, false, true, true, false, false, false, false, false] rfl rfl (any_of HT_.out (by kernel_rfl)) (fun _ _ _ h => h) (Or.inl ⟨by rfl, ?_⟩) ?_ ?_;rotate_left
                        ·intro w';go_simp;with_reducible rfl
                        rotate_left
                        ·simp only [Act.put, List.setIfInBounds_toArray, List.set_cons_zero, List.set_cons_succ, i64_w, i32_w];rfl
                        refine pure_ (i := 6) (N := some 71) (v := ?_) (a' := ?_) #[true, true, true, false, true, true, true, false, false, false, false] rfl rfl (any_of HT_.out (by kernel_rfl)) (fun _ _ _ h => h) (Or.inl ⟨by rfl, ?_⟩) ?_ ?_;rotate_left
                        ·intro w';go_simp;with_reducible rfl
                        rotate_left
                        ·simp only [Act.put, List.setIfInBounds_toArray, List.set_cons_zero, List.set_cons_succ, i64_w, i32_w];rfl
                        refine take_ (i := 3) (N := some 68) (v := ?_) (a' := ?_) #[true, true, true, true, true, true, true, false, false, false, false] rfl rfl (take_ofW HT_.out HW_.out (by kernel_rfl)) (fun _ _ _ h => h) (Or.inl ⟨by rfl, ?_⟩) hHeld ?_ ?_;rotate_left
                        ·rintro w' ⟨s0, s1⟩;go_simp;with_reducible rfl
                        rotate_left
                        ·simp only [Act.put, List.setIfInBounds_toArray, List.set_cons_zero, List.set_cons_succ, i64_w, i32_w];rfl
                        refine take_ (i := 7) (N := some 72) (v := ?_) (a' := ?_) #[true, true, true, true, true, true, true, true, false, false, false] rfl rfl (take_ofW HT_.out HW_.out (by kernel_rfl)) (fun _ _ _ h => h) (Or.inl ⟨by rfl, ?_⟩) hHeld ?_ ?_;rotate_left
                        ·rintro w' ⟨s0, s1⟩;go_simp;with_reducible rfl
                        rotate_left
                        ·simp only [Act.put, List.setIfInBounds_toArray, List.set_cons_zero, List.set_cons_succ, i64_w, i32_w];rfl
                        refine pure_ (i := 8) (N := some 73) (v := ?_) (a' := ?_) #[true, true, true, true, true, true, true, true, true, false, false] rfl rfl (any_of HT_.out (by kernel_rfl)) (fun _ _ _ h => h) (Or.inl ⟨by rfl, ?_⟩) ?_ ?_;rotate_left
                        ·intro w';go_simp;with_reducible rfl
                        rotate_left
                        ·simp only [Act.put, List.setIfInBounds_toArray, List.set_cons_zero, List.set_cons_succ, i64_w, i32_w];rfl
                        refine pure_ (i := 9) (N := some 74) (v := ?_) (a' := ?_) #[true, true, true, true, true, true, true, true, true, true, false] rfl rfl (any_of HT_.out (by kernel_rfl)) (fun _ _ _ h => h) (Or.inl ⟨by rfl, ?_⟩) ?_ ?_;rotate_left
                        ·intro w';go_simp;with_reducible rfl
                        rotate_left
                        ·simp only [Act.put, List.setIfInBounds_toArray, List.set_cons_zero, List.set_cons_succ, i64_w, i32_w];rfl
                        refine last_ (i := 10) (N := none) #[true, true, true, true, true, true, true, true, true, true, true] rfl rfl (one_of HT_.out (by kernel_rfl)) (by decide) (fun K hK => ?_);refine skip_ (w1 := ?_) (by rfl) rfl ?_ ?_;rotate_left
                        ·go_simp;rfl
                        refine hK.out _ _ ?_;clear hK K;refine done_ (done_of HT_.out (by kernel_rfl)) ?_
                        try go_wp2
                        (try simp only [← hl9_5])
                        go_roundg k5
                        case measure => have := HJ2.out; have := HK2.out; have := HK3.out; have := HK4.out; have := HK5.out; omega
                        case rel => exact ⟨(y406), (wrap64 (x11_5 + 1)), (by first | rfl | (simp; done) | (simp [*]; done)), H', ⟨by have := HJ2.out; have := HK2.out; have := HK3.out; have := HK4.out; have := HK5.out; omega⟩, ⟨by (try simp only [hl6_2]); (try simp only [hl9_4]); (try simp only [hl9_5]); (with_reducible repeat (first | apply Kd.R_alloc | apply Kd.R_drewN | apply Kd.R_drew)); exact Kd.R_mono (Kd.R_far (p := ⟨go35, (x51_4 : Int).toNat, none⟩) (Kd.R_mono HO_6.out (fun k_ hk => (⟨hk, fun e_ => hk (by rw [e_]; rfl)⟩ : _ ∧ k_ ≠ go35))) (fun _ hk => hk.2) (.int .i64 (wrap64 ((rd x9_5 x51_4) + (rd x6_3 x11_5))))) (fun _ hk => hk.1)⟩, ⟨by (try simp only [hl6_2]); (try simp only [hl9_4]); (try simp only [hl9_5]); (with_reducible repeat (first | apply Kd.R_alloc | apply Kd.R_drewN | apply Kd.R_drew)); exact HQ38.out⟩, ⟨by repeat (first | (with_reducible first | exact HB.out | apply below_alloc | apply pw_below_drewN | apply below_drew1 | refine below_set ?_ GB35.out) | exact HB.out)⟩⟩
                       ·rw [if_neg c34] at H;exact absurd H (by simp)
                      ·rw [if_neg c33] at H;exact absurd H (by simp)
                     ·rw [if_neg c32] at H;exact absurd H (by simp)
                    ·rw [if_neg c31] at H;exact absurd H (by simp)
                   ·rw [if_neg c30] at H;have c30b0 := decide_eq_false c30;clear c30;have H' := Aside0.mk H;clear H;go_wp2
                    (try simp only [← hl9_4, ← hl9_5])
                    go_roundg k5
                    case measure => have := HJ2.out; have := HK2.out; have := HK3.out; have := HK4.out; have := HK5.out; omega
                    case rel => exact ⟨(x9_5), (wrap64 (x51_4 + 1)), (by first | rfl | (simp; done) | (simp [*]; done)), H', ⟨by have := HJ2.out; have := HK2.out; have := HK3.out; have := HK4.out; have := HK5.out; omega⟩, ⟨by (try simp only [hl6_2]); (try simp only [hl9_4]); (try simp only [hl9_5]); (with_reducible repeat (first | apply Kd.R_alloc | apply Kd.R_drewN | apply Kd.R_drew)); exact HO_6.out⟩, ⟨by (try simp only [hl6_2]); (try simp only [hl9_4]); (try simp only [hl9_5]); (with_reducible repeat (first | apply Kd.R_alloc | apply Kd.R_drewN | apply Kd.R_drew)); exact HO_9.out⟩, ⟨HB.out⟩⟩
                ·rw [if_neg c27] at H;have c27b0 := decide_eq_false c27
                 (try (have c27b20 := c27b0; rw [hl6_2] at c27b20))
                 (try (have c27b21 := c27b0; rw [hl9_4] at c27b21))
                 (try (have c27b22 := c27b0; rw [hl9_5] at c27b22))
                 clear c27;have H' := Aside0.mk H;clear H;go_wp2
                 (try simp only [← hl9_4])
                 go_roundg k4
                 case measure => have := HJ2.out; have := HK2.out; have := HK3.out; have := HK4.out; omega
                 case rel => exact ⟨(x9_4), (wrap64 (x8_3 + 1)), (by first | rfl | (simp; done) | (simp [*]; done)), H', ⟨by have := HJ2.out; have := HK2.out; have := HK3.out; have := HK4.out; omega⟩, ⟨by (try simp only [hl6_2]); (try simp only [hl9_4]); (with_reducible repeat (first | apply Kd.R_alloc | apply Kd.R_drewN | apply Kd.R_drew)); exact Kd.R_mono HO_9.out (fun _ hk => trivial)⟩, ⟨HB.out⟩⟩
             ·rw [if_neg c23] at H;exact absurd H (by simp)
            ·rw [if_neg c22] at H;exact absurd H (by simp)
           ·rw [if_neg c20] at H;have c20b0 := decide_eq_false c20;clear c20;have H' := Aside0.mk H;clear H;obtain ⟨Ao39, co39, eo39⟩ := Kd.R_slice HO_6.out;subst eo39;go_wp2
            go_loopg [12, 79] k3 (fun kq v12 v79 w' => ∃ (x12_4 : Int) (x79_4 : Int), v12 = .int .i64 x12_4 ∧ v79 = .int .i64 x79_4 ∧ Aside0 (impl_CountProfiles.l4 kq x12_4 x6_3 (x6_3.length : Int) x79_4 = some (r1, r2)) ∧ Aside0 (kq ≤ k3) ∧ Aside0 (Kd.R (Kd.int .i64) 3 w' w.heap.size (fun _ => True) (.slice Ao39 x6_3.length co39) x6_3) ∧ Aside0 (Below w.heap.size w w'))
            case atStart => exact ⟨(0), (0), (by first | rfl | (simp; done) | (simp [*]; done)), (by first | rfl | (simp; done) | (simp [*]; done)), H', ⟨Nat.le_refl _⟩, ⟨by (try simp only [hl6_2]); (with_reducible repeat (first | apply Kd.R_alloc | apply Kd.R_drewN | apply Kd.R_drew)); exact HO_6.out⟩, ⟨HB.out⟩⟩
            case round =>
             clear H';(try clear c1);(try clear p1);(try clear q1);(try clear hx1);(try clear c2);(try clear p2);(try clear c3);(try clear p3);(try clear q3);(try clear hx3);(try clear hf3);(try clear c4);(try clear c4b0);(try clear p4);(try clear q4);(try clear hx4);(try clear c5);(try clear c5b0);(try clear c6);(try clear c6b0);(try clear p6);(try clear c7);(try clear c9);(try clear c9b0);(try clear c9b1);(try clear c10);(try clear c10b0);(try clear c10b1);(try clear c14);(try clear c14b0);(try clear c15);(try clear c15b0);(try clear c16);(try clear c16b0);(try clear p17);(try clear q17);(try clear hx17);(try clear hf17);(try clear c20);(try clear c20b0);(try clear c22);(try clear c22b0);(try clear c22b1);(try clear c23);(try clear c23b0);(try clear c23b1);(try clear c27);(try clear c27b0);(try clear c30);(try clear c30b0);(try clear c31);(try clear c31b0);(try clear c32);(try clear c32b0);(try clear c33);(try clear c33b0);(try clear c34);(try clear c34b0);(try clear p35);(try clear q35);(try clear hx35);(try clear hf35);(try clear c36);(try clear hx17_0);(try clear hx35_0);(try clear hx404_0);(try clear hx405_0);(try clear p1);(try clear p17);(try clear p2);(try clear p35);(try clear p404);(try clear p405);(try clear p6);(try clear q1);(try clear q17);(try clear q35);(try clear q404);(try clear q405);obtain ⟨x12_4, x79_4, rfl, rfl, HA, HK4, HO_77, HB⟩ := hrel;cases gk with
             | zero => exact absurd HA.out (by simp [impl_CountProfiles.l4])
             | succ k4 =>
              have H := HA.out;clear HA;simp only [impl_CountProfiles.l4] at H
              by_cases c40 : x79_4 < (x6_3.length : Int)
              ·rw [if_pos c40] at H;have c40b0 := decide_eq_true c40
               (try (have c40b20 := c40b0; rw [hl6_2] at c40b20))
               (try (have c40b21 := c40b0; rw [hl9_4] at c40b21))
               (try (have c40b22 := c40b0; rw [hl9_5] at c40b22))
               clear c40
               by_cases c41 : 0 ≤ x79_4
               ·rw [if_pos c41] at H;have c41b0 := decide_eq_true c41;clear c41
                by_cases c42 : x79_4 < (x6_3.length : Int)
                ·rw [if_pos c42] at H;have c42b0 := decide_eq_true c42
                 (try (have c42b20 := c42b0; rw [hl6_2] at c42b20))
                 (try (have c42b21 := c42b0; rw [hl9_4] at c42b21))
                 (try (have c42b22 := c42b0; rw [hl9_5] at c42b22))
                 clear c42;have H' := Aside0.mk H;clear H;have p407 : 0 ≤ (x79_4 : Int) := of_decide_eq_true (by assumption);have q407 : x79_4 < (x6_3.length : Int) := of_decide_eq_true (by assumption);obtain ⟨ad407, e407, hx407_0⟩ := Kd.at_int (Kd.R_reads' HO_77.out).2.2 x79_4 p407 q407;cases e407;replace p407 := eq_true p407;replace q407 := eq_true q407;go_wp2
                 go_roundg k4
                 case measure => have := HJ2.out; have := HK2.out; have := HK3.out; have := HK4.out; omega
                 case rel => exact ⟨(wrap64 (x12_4 + (rd x6_3 x79_4))), (wrap64 (x79_4 + 1)), (by first | rfl | (simp; done) | (simp [*]; done)), (by first | rfl | (simp; done) | (simp [*]; done)), H', ⟨by have := HJ2.out; have := HK2.out; have := HK3.out; have := HK4.out; omega⟩, ⟨by (try simp only [hl6_2]); (with_reducible repeat (first | apply Kd.R_alloc | apply Kd.R_drewN | apply Kd.R_drew)); exact HO_77.out⟩, ⟨HB.out⟩⟩
                ·rw [if_neg c42] at H;exact absurd H (by simp)
               ·rw [if_neg c41] at H;exact absurd H (by simp)
              ·rw [if_neg c40] at H;have c40b0 := decide_eq_false c40
               (try (have c40b20 := c40b0; rw [hl6_2] at c40b20))
               (try (have c40b21 := c40b0; rw [hl9_4] at c40b21))
               (try (have c40b22 := c40b0; rw [hl9_5] at c40b22))
               clear c40;simp only [Option.some.injEq, Prod.mk.injEq] at H;obtain ⟨rfl, rfl⟩ := H;go_wp2
               go_ret2
               exact ⟨by first | rfl | (simp [errW_none, errW_some] <;> rfl) | (simp only [← hji8]; first | rfl | (simp [errW_none, errW_some] <;> rfl)) | (simp [*, errW_none, errW_some] <;> rfl), HB.out⟩
     ·rw [if_neg c10] at H;exact absurd H (by simp)
    ·rw [if_neg c9] at H;exact absurd H (by simp)

end Go.Proofs.Ytdipbpckmcmljaa.PFnSections

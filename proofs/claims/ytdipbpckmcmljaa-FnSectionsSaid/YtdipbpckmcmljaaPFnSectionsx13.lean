-- Printed by a changed copy of the printer
import Derived.Test.YtdipbpckmcmljaaPFnSectionsx0
import Derived.Test.YtdipbpckmcmljaaPFnSectionsx3
import Derived.Test.YtdipbpckmcmljaaPFnSectionsx5
namespace Go.Proofs.Ytdipbpckmcmljaa.PFnSections
open Go.RowKit Go.Proofs.YtdipbpckmcmljaaW.PrintWords Go.Proofs.YtdipbpckmcmljaaW.PrintLast Go.Proofs.YtdipbpckmcmljaaW.PrintMore
attribute [local go_sem] max2_int min2_int max_two min_two max_three min_three max_four min_four   -- for this text's walks alone
set_option linter.unusedVariables false
set_option linter.unusedSimpArgs false

/-! ### spec_CountProfiles: function 37 -/
mutual
def spec_CountProfiles.j0 : Nat → Int → Int → Bool → Option (Int × Bool)
 | 0, _, _, _ => none
 | k + 1, x0, x1, x21 => if x21 = true then (some (0, false)) else (if 0 ≤ (wrap64 (x1 + 1)) then (if (wrap64 (x1 + 1) : Int).toNat ≤ 35184372088832 then ((some (List.replicate (wrap64 (x1 + 1) : Int).toNat 0 : List Int)).bind fun y410 => (spec_CountProfiles.l0 k x0 x1 y410 (y410.length : Int) 0)) else (none)) else (none))
def spec_CountProfiles.l0 : Nat → Int → Int → List Int → Int → Int → Option (Int × Bool)
 | 0, _, _, _, _, _ => none
 | k + 1, x0, x1, x6, x26, x27 => if x27 < x26 then (if 0 ≤ x27 then (if x27 < (x6.length : Int) then (spec_CountProfiles.l0 k x0 x1 (x6.set (x27 : Int).toNat 1) x26 (wrap64 (x27 + 1))) else (none)) else (none)) else (spec_CountProfiles.l1 k x0 x1 x6)
def spec_CountProfiles.l1 : Nat → Int → Int → List Int → Option (Int × Bool)
 | 0, _, _, _ => none
 | k + 1, x0, x1, x6 => if x0 > 1 then (if 0 ≤ (wrap64 (x1 + 1)) then (if (wrap64 (x1 + 1) : Int).toNat ≤ 35184372088832 then ((some (List.replicate (wrap64 (x1 + 1) : Int).toNat 0 : List Int)).bind fun y414 => (spec_CountProfiles.l2 k x0 x1 x6 y414 (y414.length : Int) 0)) else (none)) else (none)) else (spec_CountProfiles.l4 k 0 x6 (x6.length : Int) 0)
def spec_CountProfiles.l2 : Nat → Int → Int → List Int → List Int → Int → Int → Option (Int × Bool)
 | 0, _, _, _, _, _, _ => none
 | k + 1, x0, x1, x6, x8, x42, x43 => if x43 < x42 then ((spec_l1Most.f 0 (wrap64 (x43 - 1))).bind fun t417 => (spec_CountProfiles.l3 k x0 x1 x6 x8 x43 t417 x42 x43)) else (spec_CountProfiles.l1 k (wrap64 (x0 - 1)) x1 x8)
def spec_CountProfiles.l3 : Nat → Int → Int → List Int → List Int → Int → Int → Int → Int → Option (Int × Bool)
 | 0, _, _, _, _, _, _, _, _ => none
 | k + 1, x0, x1, x6, x8, x9, x10, x42, x43 => (spec_l1Least.f x1 (wrap64 (x9 + 1))).bind fun t418 => (if x10 ≤ t418 then (if 0 ≤ x9 then (if x9 < (x8.length : Int) then (if 0 ≤ x10 then (if x10 < (x6.length : Int) then (spec_CountProfiles.l3 k x0 x1 x6 (x8.set (x9 : Int).toNat (wrap64 ((rd x8 x9) + (rd x6 x10)))) x9 (wrap64 (x10 + 1)) x42 x43) else (none)) else (none)) else (none)) else (none)) else (spec_CountProfiles.l2 k x0 x1 x6 x8 x42 (wrap64 (x43 + 1))))
def spec_CountProfiles.l4 : Nat → Int → List Int → Int → Int → Option (Int × Bool)
 | 0, _, _, _, _ => none
 | k + 1, x11, x69, x70, x71 => if x71 < x70 then (if 0 ≤ x71 then (if x71 < (x69.length : Int) then (spec_CountProfiles.l4 k (wrap64 (x11 + (rd x69 x71))) x69 x70 (wrap64 (x71 + 1))) else (none)) else (none)) else (some (x11, true))
end
def spec_CountProfiles.f (k : Nat) (a0 : Int) (a1 : Int) : Option (Int × Bool) := (spec_l1In.f a0 1 8).bind fun t408 => (if t408 = true then ((spec_l1In.f a1 1 6).bind fun t409 => (spec_CountProfiles.j0 k a0 a1 (!t409))) else (spec_CountProfiles.j0 k a0 a1 true))
theorem spec_CountProfiles.mono_l : ∀ k, (∀ y0 y1 y2, LeO (spec_CountProfiles.j0 k y0 y1 y2) (spec_CountProfiles.j0 (k + 1) y0 y1 y2)) ∧ (∀ y0 y1 y2 y3 y4, LeO (spec_CountProfiles.l0 k y0 y1 y2 y3 y4) (spec_CountProfiles.l0 (k + 1) y0 y1 y2 y3 y4)) ∧ (∀ y0 y1 y2, LeO (spec_CountProfiles.l1 k y0 y1 y2) (spec_CountProfiles.l1 (k + 1) y0 y1 y2)) ∧ (∀ y0 y1 y2 y3 y4 y5, LeO (spec_CountProfiles.l2 k y0 y1 y2 y3 y4 y5) (spec_CountProfiles.l2 (k + 1) y0 y1 y2 y3 y4 y5)) ∧ (∀ y0 y1 y2 y3 y4 y5 y6 y7, LeO (spec_CountProfiles.l3 k y0 y1 y2 y3 y4 y5 y6 y7) (spec_CountProfiles.l3 (k + 1) y0 y1 y2 y3 y4 y5 y6 y7)) ∧ (∀ y0 y1 y2 y3, LeO (spec_CountProfiles.l4 k y0 y1 y2 y3) (spec_CountProfiles.l4 (k + 1) y0 y1 y2 y3))
 | 0 => ⟨fun _ _ _ r h => by simp [spec_CountProfiles.j0] at h, fun _ _ _ _ _ r h => by simp [spec_CountProfiles.l0] at h, fun _ _ _ r h => by simp [spec_CountProfiles.l1] at h, fun _ _ _ _ _ _ r h => by simp [spec_CountProfiles.l2] at h, fun _ _ _ _ _ _ _ _ r h => by simp [spec_CountProfiles.l3] at h, fun _ _ _ _ r h => by simp [spec_CountProfiles.l4] at h⟩
 | k + 1 => by
  obtain ⟨ih0, ih1, ih2, ih3, ih4, ih5⟩ := spec_CountProfiles.mono_l k;refine ⟨?_, ?_, ?_, ?_, ?_, ?_⟩
  ·intro y0 y1 y2
   unfold spec_CountProfiles.j0
   repeat' first
   | (with_reducible exact ih0 _ _ _)
   | (with_reducible exact ih1 _ _ _ _ _)
   | (with_reducible exact ih2 _ _ _)
   | (with_reducible exact ih3 _ _ _ _ _ _)
   | (with_reducible exact ih4 _ _ _ _ _ _ _ _)
   | (with_reducible exact ih5 _ _ _ _)
   | (with_reducible exact LeO.refl _)
   | (with_reducible exact LeO.none _)
   | (with_reducible refine LeO.ite ?_ ?_)
   | (with_reducible refine LeO.bind ?_ (fun _ => ?_))
   | exact ih0 _ _ _
   | exact ih1 _ _ _ _ _
   | exact ih2 _ _ _
   | exact ih3 _ _ _ _ _ _
   | exact ih4 _ _ _ _ _ _ _ _
   | exact ih5 _ _ _ _
   | exact LeO.none _
   | refine LeO.ite ?_ ?_
   | refine LeO.bind ?_ (fun _ => ?_)
  ·intro y0 y1 y2 y3 y4
   unfold spec_CountProfiles.l0
   repeat' first
   | (with_reducible exact ih0 _ _ _)
   | (with_reducible exact ih1 _ _ _ _ _)
   | (with_reducible exact ih2 _ _ _)
   | (with_reducible exact ih3 _ _ _ _ _ _)
   | (with_reducible exact ih4 _ _ _ _ _ _ _ _)
   | (with_reducible exact ih5 _ _ _ _)
   | (with_reducible exact LeO.refl _)
   | (with_reducible exact LeO.none _)
   | (with_reducible refine LeO.ite ?_ ?_)
   | (with_reducible refine LeO.bind ?_ (fun _ => ?_))
   | exact ih0 _ _ _
   | exact ih1 _ _ _ _ _
   | exact ih2 _ _ _
   | exact ih3 _ _ _ _ _ _
   | exact ih4 _ _ _ _ _ _ _ _
   | exact ih5 _ _ _ _
   | exact LeO.none _
   | refine LeO.ite ?_ ?_
   | refine LeO.bind ?_ (fun _ => ?_)
  ·intro y0 y1 y2
   unfold spec_CountProfiles.l1
   repeat' first
   | (with_reducible exact ih0 _ _ _)
   | (with_reducible exact ih1 _ _ _ _ _)
   | (with_reducible exact ih2 _ _ _)
   | (with_reducible exact ih3 _ _ _ _ _ _)
   | (with_reducible exact ih4 _ _ _ _ _ _ _ _)
   | (with_reducible exact ih5 _ _ _ _)
   | (with_reducible exact LeO.refl _)
   | (with_reducible exact LeO.none _)
   | (with_reducible refine LeO.ite ?_ ?_)
   | (with_reducible refine LeO.bind ?_ (fun _ => ?_))
   | exact ih0 _ _ _
   | exact ih1 _ _ _ _ _
   | exact ih2 _ _ _
   | exact ih3 _ _ _ _ _ _
   | exact ih4 _ _ _ _ _ _ _ _
   | exact ih5 _ _ _ _
   | exact LeO.none _
   | refine LeO.ite ?_ ?_
   | refine LeO.bind ?_ (fun _ => ?_)
  ·intro y0 y1 y2 y3 y4 y5
   unfold spec_CountProfiles.l2
   repeat' first
   | (with_reducible exact ih0 _ _ _)
   | (with_reducible exact ih1 _ _ _ _ _)
   | (with_reducible exact ih2 _ _ _)
   | (with_reducible exact ih3 _ _ _ _ _ _)
   | (with_reducible exact ih4 _ _ _ _ _ _ _ _)
   | (with_reducible exact ih5 _ _ _ _)
   | (with_reducible exact LeO.refl _)
   | (with_reducible exact LeO.none _)
   | (with_reducible refine LeO.ite ?_ ?_)
   | (with_reducible refine LeO.bind ?_ (fun _ => ?_))
   | exact ih0 _ _ _
   | exact ih1 _ _ _ _ _
   | exact ih2 _ _ _
   | exact ih3 _ _ _ _ _ _
   | exact ih4 _ _ _ _ _ _ _ _
   | exact ih5 _ _ _ _
   | exact LeO.none _
   | refine LeO.ite ?_ ?_
   | refine LeO.bind ?_ (fun _ => ?_)
  ·intro y0 y1 y2 y3 y4 y5 y6 y7
   unfold spec_CountProfiles.l3
   repeat' first
   | (with_reducible exact ih0 _ _ _)
   | (with_reducible exact ih1 _ _ _ _ _)
   | (with_reducible exact ih2 _ _ _)
   | (with_reducible exact ih3 _ _ _ _ _ _)
   | (with_reducible exact ih4 _ _ _ _ _ _ _ _)
   | (with_reducible exact ih5 _ _ _ _)
   | (with_reducible exact LeO.refl _)
   | (with_reducible exact LeO.none _)
   | (with_reducible refine LeO.ite ?_ ?_)
   | (with_reducible refine LeO.bind ?_ (fun _ => ?_))
   | exact ih0 _ _ _
   | exact ih1 _ _ _ _ _
   | exact ih2 _ _ _
   | exact ih3 _ _ _ _ _ _
   | exact ih4 _ _ _ _ _ _ _ _
   | exact ih5 _ _ _ _
   | exact LeO.none _
   | refine LeO.ite ?_ ?_
   | refine LeO.bind ?_ (fun _ => ?_)
  ·intro y0 y1 y2 y3
   unfold spec_CountProfiles.l4
   repeat' first
   | (with_reducible exact ih0 _ _ _)
   | (with_reducible exact ih1 _ _ _ _ _)
   | (with_reducible exact ih2 _ _ _)
   | (with_reducible exact ih3 _ _ _ _ _ _)
   | (with_reducible exact ih4 _ _ _ _ _ _ _ _)
   | (with_reducible exact ih5 _ _ _ _)
   | (with_reducible exact LeO.refl _)
   | (with_reducible exact LeO.none _)
   | (with_reducible refine LeO.ite ?_ ?_)
   | (with_reducible refine LeO.bind ?_ (fun _ => ?_))
   | exact ih0 _ _ _
   | exact ih1 _ _ _ _ _
   | exact ih2 _ _ _
   | exact ih3 _ _ _ _ _ _
   | exact ih4 _ _ _ _ _ _ _ _
   | exact ih5 _ _ _ _
   | exact LeO.none _
   | refine LeO.ite ?_ ?_
   | refine LeO.bind ?_ (fun _ => ?_)
theorem spec_CountProfiles.mono : ∀ a0 a1 k, LeO (spec_CountProfiles.f k a0 a1) (spec_CountProfiles.f (k + 1) a0 a1) := by
 intro a0 a1 k;obtain ⟨ih0, ih1, ih2, ih3, ih4, ih5⟩ := spec_CountProfiles.mono_l k
 unfold spec_CountProfiles.f
 repeat' first
   | (with_reducible exact ih0 _ _ _)
   | (with_reducible exact ih1 _ _ _ _ _)
   | (with_reducible exact ih2 _ _ _)
   | (with_reducible exact ih3 _ _ _ _ _ _)
   | (with_reducible exact ih4 _ _ _ _ _ _ _ _)
   | (with_reducible exact ih5 _ _ _ _)
   | (with_reducible exact LeO.refl _)
   | (with_reducible exact LeO.none _)
   | (with_reducible refine LeO.ite ?_ ?_)
   | (with_reducible refine LeO.bind ?_ (fun _ => ?_))
   | exact ih0 _ _ _
   | exact ih1 _ _ _ _ _
   | exact ih2 _ _ _
   | exact ih3 _ _ _ _ _ _
   | exact ih4 _ _ _ _ _ _ _ _
   | exact ih5 _ _ _ _
   | exact LeO.none _
   | refine LeO.ite ?_ ?_
   | refine LeO.bind ?_ (fun _ => ?_)
def spec_CountProfiles.T18 : Bool × List (List Nat × List Nat) := (true, [([], []), ([], []), ([0, 1], [0, 1]), ([2], [2]), ([], []), ([], []), ([4, 5], [4, 5]), ([6], [6]), ([3, 7], [3, 7]), ([0, 1, 0, 1, 2, 3, 4, 5, 6, 7, 8], [0, 1]), ([9, 8, 0, 1, 2, 3, 4, 5, 6, 7, 8], [8, 9])])
def spec_CountProfiles.B18 : List Nat := [0, 0, 3, 7, 0, 0, 48, 112, 255, 511, 1023]
theorem spec_CountProfiles.tab18 : rtab .any (opsOf Try.f37 18) = spec_CountProfiles.T18 := by kernel_rfl
theorem spec_CountProfiles.bits18 : waitsOk spec_CountProfiles.T18.2 spec_CountProfiles.B18 = true := by kernel_rfl
set_option maxHeartbeats 8000000 in
set_option maxRecDepth 100000 in
theorem spec_CountProfiles.calls (k : Nat) (a0 : Int) (a1 : Int) (r1 : Int) (r2 : Bool) (w : World) (h : spec_CountProfiles.f k a0 a1 = some (r1, r2)) :
  Calls Try.prog 37 #[.int .i64 a0, .int .i64 a1] w fun e w' => e = .returned (.tuple #[.int .i64 r1, .bool r2]) ∧ Below w.heap.size w w' := by
 have HB := Aside0.mk (Below.refl w.heap.size w);have H : ((spec_l1In.f a0 1 8).bind fun t408 => (if t408 = true then ((spec_l1In.f a1 1 6).bind fun t409 => (spec_CountProfiles.j0 k a0 a1 (!t409))) else (spec_CountProfiles.j0 k a0 a1 true))) = some (r1, r2) := h;clear h;have HC3 := Aside0.mk H;clear H
 go_enter Try.func37, Try.ntmps37
 go_upto_region 1 with (fail)
 go_cut [21] (fun v21 wc => ∃ (kq : Nat) (x21_2 : Bool), v21 = .bool x21_2 ∧ Aside0 (spec_CountProfiles.j0 kq a0 a1 x21_2 = some (r1, r2)) ∧ Aside0 (kq ≤ k) ∧ Aside0 (Below w.heap.size w wc))
 case first =>
  have H := HC3.out;clear HC3;replace H := Option.bind_eq_some_iff.mp H;obtain ⟨t408, A40, H⟩ := H;(try dsimp only at H);have A4 := Aside0.mk A40;clear A40
  by_cases c5 : t408 = true
  ·subst c5;rw [if_pos rfl] at H;replace H := Option.bind_eq_some_iff.mp H;obtain ⟨t409, A60, H⟩ := H;(try dsimp only at H);have A6 := Aside0.mk A60;clear A60;have H' := Aside0.mk H;clear H
   go_wp2_with (first | ((with_reducible refine gate_callee (f := 91) rfl ?_); refine goesL_ (some 15) rfl rfl Try.func91 (by kernel_rfl) rfl #[.int .i64 a0, .int .i64 1, .int .i64 8] rfl (by (try simp only [List.map_toArray, List.map_cons, List.map_nil]); first | done | rfl | (simp only [List.length_drop, List.length_take]; rfl)) ?_; (with_reducible refine (spec_l1In.calls a0 1 8 true _ A4.out).mono ?_); rintro e w' ⟨rfl, ⟨nd, rfl⟩⟩; refine ⟨_, rfl, ?_⟩) | (go_at_call 91; (with_reducible refine (spec_l1In.calls a1 1 6 t409 _ A6.out).mono ?_); rintro e w' ⟨rfl, ⟨nd, rfl⟩⟩))
   go_meet
   case rel => exact ⟨_, (!t409), (by first | rfl | (simp; done) | (simp [*]; done)), H', ⟨by first | omega | exact Nat.le_refl _⟩, ⟨by repeat (first | (with_reducible first | exact HB.out | apply below_alloc | apply pw_below_drewN | apply below_drew1) | exact HB.out)⟩⟩
  ·replace c5 := Bool.eq_false_iff.mpr c5;subst c5;rw [if_neg (show ¬ (false = true) by decide)] at H;have H' := Aside0.mk H;clear H
   go_wp2_with (first | ((with_reducible refine gate_callee (f := 91) rfl ?_); refine goesL_ (some 15) rfl rfl Try.func91 (by kernel_rfl) rfl #[.int .i64 a0, .int .i64 1, .int .i64 8] rfl (by (try simp only [List.map_toArray, List.map_cons, List.map_nil]); first | done | rfl | (simp only [List.length_drop, List.length_take]; rfl)) ?_; (with_reducible refine (spec_l1In.calls a0 1 8 false _ A4.out).mono ?_); rintro e w' ⟨rfl, ⟨nd, rfl⟩⟩; refine ⟨_, rfl, ?_⟩))
   go_meet
   case rel => exact ⟨_, (true), (by first | rfl | (simp; done) | (simp [*]; done)), H', ⟨by first | omega | exact Nat.le_refl _⟩, ⟨by repeat (first | (with_reducible first | exact HB.out | apply below_alloc | apply pw_below_drewN | apply below_drew1) | exact HB.out)⟩⟩
 case rest =>
  clear HC3;(try clear p2);(try clear c3);(try clear c5);obtain ⟨kq, x21_2, rfl, HA, HJ2, HB⟩ := hcut;cases kq with
  | zero => exact absurd HA.out (by simp [spec_CountProfiles.j0])
  | succ kj2 =>
   have H := HA.out;clear HA;simp only [spec_CountProfiles.j0] at H
   by_cases c7 : x21_2 = true
   ·subst c7;rw [if_pos rfl] at H;simp only [Option.some.injEq, Prod.mk.injEq] at H;obtain ⟨rfl, rfl⟩ := H;go_wp2
    go_ret2
    exact ⟨rfl, HB.out⟩
   ·replace c7 := Bool.eq_false_iff.mpr c7;subst c7;rw [if_neg (show ¬ (false = true) by decide)] at H;obtain ⟨ji8, hji8⟩ : ∃ j_ : Int, (wrap64 (a1 + 1)) = j_ := ⟨_, rfl⟩;replace H : (if 0 ≤ (ji8) then (if (ji8 : Int).toNat ≤ 35184372088832 then ((some (List.replicate (ji8 : Int).toNat 0 : List Int)).bind fun y410 => (spec_CountProfiles.l0 kj2 a0 a1 y410 (y410.length : Int) 0)) else (none)) else (none)) = some (r1, r2) := by first | (rw [hji8] at H; exact H) | (simp only [hji8] at H ⊢; exact H)
    have hji8w : (IntKind.i64.wrap (a1 + 1)) = ji8 := (i64_w _).trans hji8
    by_cases c9 : 0 ≤ (ji8)
    ·rw [if_pos c9] at H;have c9b0 := eq_true c9;have c9b1 := decide_eq_true c9;clear c9
     by_cases c10 : (ji8 : Int).toNat ≤ 35184372088832
     ·rw [if_pos c10] at H;have c10b0 := eq_true c10;have c10b1 := decide_eq_true c10;clear c10;obtain ⟨y410, hy410⟩ : ∃ y_ : List Int, y_ = (List.replicate (ji8 : Int).toNat 0) := ⟨_, rfl⟩
      first | rw [← hy410] at H | (rw [Option.bind_some] at H; rw [← hy410] at H)
      have Ny410 := Aside0.mk hy410;clear hy410;have H' := Aside0.mk H;clear H
      go_wp2_with (first | ((with_reducible refine gate_dst (N := 24) rfl ?_); refine Kd.R_make (Kd.int .i64) _ 3 rfl (N := 24) rfl 24 _ _ rfl ji8 rfl rfl Try.underlying24 (.int .i64 0) 8 info3 rfl (by decide) (by omega) 0 (ok := fun _ => True) (okp := fun _ => True) rfl (fun _ hk => hk) trivial (of_decide_eq_true (by assumption)) (Nat.le_trans (Nat.mul_le_mul_right _ (of_decide_eq_true (by assumption) : ji8.toNat ≤ 35184372088832)) (by omega)) (Below.refl _ _) (Nat.le_refl _) ?_; intro v411 w11 ho12 hb hg_ hnew_; clear hg_ hnew_; (first | rw [← Ny410.out] at ho12 | (simp only [Int.reduceToNat] at ho12; rw [← Ny410.out] at ho12)); have HO412 := Aside0.mk (Kd.R_lower ho12 (below_size HB.out)); replace HB := Aside0.mk (below_step HB.out hb); clear hb ho12; obtain ⟨Ao13, co13, eo13⟩ := Kd.R_slice HO412.out; subst eo13))
      go_loopg [27] kj2 (fun kq v27 w' => ∃ (x6_2 : List Int) (x27_2 : Int), v27 = .int .i64 x27_2 ∧ Aside0 (spec_CountProfiles.l0 kq a0 a1 x6_2 (y410.length : Int) x27_2 = some (r1, r2)) ∧ Aside0 (kq ≤ kj2) ∧ Aside0 (Kd.R (Kd.int .i64) 3 w' w.heap.size (fun _ => True) (.slice Ao13 y410.length co13) x6_2) ∧ Aside0 (Below w.heap.size w w'))
      case atStart => exact ⟨(y410), (0), (by first | rfl | (simp; done) | (simp [*]; done)), H', ⟨Nat.le_refl _⟩, ⟨by (with_reducible repeat (first | apply Kd.R_alloc | apply Kd.R_drewN | apply Kd.R_drew)); exact HO412.out⟩, ⟨HB.out⟩⟩
      case round =>
       clear H';(try clear c1);(try clear p2);(try clear c3);(try clear c5);(try clear p6);(try clear c7);(try clear c9);(try clear c9b0);(try clear c9b1);(try clear c10);(try clear c10b0);(try clear c10b1);(try clear p2);obtain ⟨x6_2, x27_2, rfl, HA, HK2, HO_6, HB⟩ := hrel;have hl6_2 := (Kd.R_reads' HO_6.out).1;rw [hl6_2] at HO_6
       (try simp only [hl6_2])
       cases gk with
       | zero => exact absurd HA.out (by simp [spec_CountProfiles.l0])
       | succ k2 =>
        have H := HA.out;clear HA;simp only [spec_CountProfiles.l0] at H
        by_cases c14 : x27_2 < (y410.length : Int)
        ·rw [if_pos c14] at H;have c14b0 := decide_eq_true c14
         (try (have c14b20 := c14b0; rw [hl6_2] at c14b20))
         clear c14
         by_cases c15 : 0 ≤ x27_2
         ·rw [if_pos c15] at H;have c15b0 := decide_eq_true c15;clear c15
          by_cases c16 : x27_2 < (x6_2.length : Int)
          ·rw [if_pos c16] at H;have c16b0 := decide_eq_true c16
           (try (have c16b20 := c16b0; rw [hl6_2] at c16b20))
           clear c16;obtain ⟨y413, hy413⟩ : ∃ y_ : List Int, y_ = (x6_2.set (x27_2 : Int).toNat 1) := ⟨_, rfl⟩
           first | rw [← hy413] at H | (rw [Option.bind_some] at H; rw [← hy413] at H)
           have Ny413 := Aside0.mk hy413;clear hy413;have H' := Aside0.mk H;clear H;have p17 : 0 ≤ (x27_2 : Int) := of_decide_eq_true (by assumption);have q17 : (x27_2 : Int) < ((x6_2.length : Int) : Int) := of_decide_eq_true (by assumption);obtain ⟨go17, co17, eo17, gb17, gl17, cl17, HG17⟩ := Kd.R_form HO_6.out (by omega)
           (first | cases eo17 | (injection eo17 with ea_ en_ ec_; (first | subst ea_ | (injection ea_ with ea_; subst ea_)); subst ec_; clear en_))
           have GB17 := Aside0.mk gb17;have GG17 := Aside0.mk HG17;clear gb17 gl17 HG17;obtain ⟨hx17_0, hf17_0⟩ := Kd.R_celln 0 HO_6.out (x27_2 : Int) p17 q17;replace p17 := eq_true p17;replace q17 := eq_true q17;have HP18 := Kd.R_putg HO_6.out (x27_2 : Int) 1
           go_wp2_with (first | ((with_reducible refine gate_store (t := 3) (p := 32) rfl ?_); refine store_event (t := 3) (p := 32) (v := ?vo_w19) (w1 := (wr.setCell ⟨go17, (x27_2 : Int).toNat, none⟩ (.int .i64 1))) ?hg ?ho ?hn ?hr ?_; (case ho => rfl); (case hg => rfl); (case hn => rfl); (case hr => first | (go_simp; done) | (go_simp; rfl)); intro w19 hw; have hg : wr.grownBy w19 (some go17) := (by rw [hw]; exact HP18.2); have hp_ : Kd.R (Kd.int .i64) 3 w19 w.heap.size (fun _ => True) (.slice (some ⟨go17, 0, none⟩) x6_2.length co13) y413 := (by rw [hw, Ny413.out]; exact HP18.1); clear HP18; replace HO_6 := Aside0.mk (hp_); replace HB := Aside0.mk ((by rw [hw]; exact below_set (HB.out) GB17.out : Below w.heap.size w w19)); clear hg hw hp_))
           (try simp only [← hl6_2])
           go_roundg k2
           case measure => have := HJ2.out; have := HK2.out; omega
           case rel => exact ⟨(y413), (wrap64 (x27_2 + 1)), (by first | rfl | (simp; done) | (simp [*]; done)), H', ⟨by have := HJ2.out; have := HK2.out; omega⟩, ⟨by (try simp only [hl6_2]); (with_reducible repeat (first | apply Kd.R_alloc | apply Kd.R_drewN | apply Kd.R_drew)); exact HO_6.out⟩, ⟨HB.out⟩⟩
          ·rw [if_neg c16] at H;exact absurd H (by simp)
         ·rw [if_neg c15] at H;exact absurd H (by simp)
        ·rw [if_neg c14] at H;have c14b0 := decide_eq_false c14
         (try (have c14b20 := c14b0; rw [hl6_2] at c14b20))
         clear c14;have H' := Aside0.mk H;clear H;go_wp2
         go_loopg [0, 6] k2 (fun kq v0 v6 w' => ∃ (x0_3 : Int) (x6_3 : List Int), v0 = .int .i64 x0_3 ∧ Aside0 (spec_CountProfiles.l1 kq x0_3 a1 x6_3 = some (r1, r2)) ∧ Aside0 (kq ≤ k2) ∧ Aside0 (Kd.R (Kd.int .i64) 3 w' w.heap.size (fun _ => True) v6 x6_3) ∧ Aside0 (Below w.heap.size w w'))
         case atStart => exact ⟨(a0), (x6_2), (by first | rfl | (simp; done) | (simp [*]; done)), H', ⟨Nat.le_refl _⟩, ⟨by (try simp only [hl6_2]); (with_reducible repeat (first | apply Kd.R_alloc | apply Kd.R_drewN | apply Kd.R_drew)); exact HO_6.out⟩, ⟨HB.out⟩⟩
         case round =>
          clear H';(try clear c1);(try clear p1);(try clear q1);(try clear hx1);(try clear p2);(try clear c3);(try clear c5);(try clear p6);(try clear c7);(try clear c9);(try clear c9b0);(try clear c9b1);(try clear c10);(try clear c10b0);(try clear c10b1);(try clear c14);(try clear c14b0);(try clear c15);(try clear c15b0);(try clear c16);(try clear c16b0);(try clear p17);(try clear q17);(try clear hx17);(try clear hf17);(try clear hx17_0);(try clear p17);(try clear p2);(try clear p6);(try clear q17);obtain ⟨x0_3, x6_3, rfl, HA, HK3, HO_6, HB⟩ := hrel;cases gk with
          | zero => exact absurd HA.out (by simp [spec_CountProfiles.l1])
          | succ k3 =>
           have H := HA.out;clear HA;simp only [spec_CountProfiles.l1] at H
           by_cases c20 : x0_3 > 1
           ·rw [if_pos c20] at H;have c20b0 := decide_eq_true c20;clear c20;obtain ⟨ji21, hji21⟩ : ∃ j_ : Int, (wrap64 (a1 + 1)) = j_ := ⟨_, rfl⟩;replace H : (if 0 ≤ (ji21) then (if (ji21 : Int).toNat ≤ 35184372088832 then ((some (List.replicate (ji21 : Int).toNat 0 : List Int)).bind fun y414 => (spec_CountProfiles.l2 k3 x0_3 a1 x6_3 y414 (y414.length : Int) 0)) else (none)) else (none)) = some (r1, r2) := by first | (rw [hji21] at H; exact H) | (simp only [hji21] at H ⊢; exact H)
            have hji21w : (IntKind.i64.wrap (a1 + 1)) = ji21 := (i64_w _).trans hji21
            (try (obtain rfl : ji21 = ji8 := hji21.symm.trans hji8))
            by_cases c22 : 0 ≤ (ji21)
            ·rw [if_pos c22] at H;have c22b0 := eq_true c22;have c22b1 := decide_eq_true c22;clear c22
             by_cases c23 : (ji21 : Int).toNat ≤ 35184372088832
             ·rw [if_pos c23] at H;have c23b0 := eq_true c23;have c23b1 := decide_eq_true c23;clear c23;obtain ⟨y414, hy414⟩ : ∃ y_ : List Int, y_ = (List.replicate (ji21 : Int).toNat 0) := ⟨_, rfl⟩
              first | rw [← hy414] at H | (rw [Option.bind_some] at H; rw [← hy414] at H)
              have Ny414 := Aside0.mk hy414;clear hy414;have H' := Aside0.mk H;clear H
              go_wp2_with (first | ((with_reducible refine gate_dst (N := 40) rfl ?_); refine Kd.R_make (Kd.int .i64) _ 3 rfl (N := 40) rfl 24 _ _ rfl ji21 rfl rfl Try.underlying24 (.int .i64 0) 8 info3 rfl (by decide) (by omega) 0 (ok := fun _ => True) (okp := fun _ => True) rfl (fun _ hk => hk) trivial (of_decide_eq_true (by assumption)) (Nat.le_trans (Nat.mul_le_mul_right _ (of_decide_eq_true (by assumption) : ji21.toNat ≤ 35184372088832)) (by omega)) (Below.refl _ _) (Nat.le_refl _) ?_; intro v415 w24 ho25 hb hg_ hnew_; clear hg_ hnew_; (first | rw [← Ny414.out] at ho25 | (simp only [Int.reduceToNat] at ho25; rw [← Ny414.out] at ho25)); have HO416 := Aside0.mk (Kd.R_lower (Kd.R_new' ho25 (Kd.R_lt HO_6.out)) (below_size HB.out)); replace HO_6 := Aside0.mk (Kd.R_elder' HO_6.out (Kd.R_base ho25) hb); replace HB := Aside0.mk (below_step HB.out hb); clear hb ho25; obtain ⟨Ao26, co26, eo26⟩ := Kd.R_slice HO416.out; subst eo26))
              go_loopg [43] k3 (fun kq v43 w' => ∃ (x8_4 : List Int) (x43_4 : Int), v43 = .int .i64 x43_4 ∧ Aside0 (spec_CountProfiles.l2 kq x0_3 a1 x6_3 x8_4 (y414.length : Int) x43_4 = some (r1, r2)) ∧ Aside0 (kq ≤ k3) ∧ Aside0 (Kd.R (Kd.int .i64) 3 w' w.heap.size (fun k_ => some k_ ≠ ((.slice Ao26 y414.length co26) : Value).ownBlock) u6 x6_3) ∧ Aside0 (Kd.R (Kd.int .i64) 3 w' w.heap.size (fun k_ => some k_ ≠ (u6 : Value).ownBlock) (.slice Ao26 y414.length co26) x8_4) ∧ Aside0 (Below w.heap.size w w'))
              case atStart => exact ⟨(y414), (0), (by first | rfl | (simp; done) | (simp [*]; done)), H', ⟨Nat.le_refl _⟩, ⟨by (try simp only [hl6_2]); (with_reducible repeat (first | apply Kd.R_alloc | apply Kd.R_drewN | apply Kd.R_drew)); exact Kd.R_mono HO_6.out (fun _ hk => hk.2)⟩, ⟨by (try simp only [hl6_2]); (with_reducible repeat (first | apply Kd.R_alloc | apply Kd.R_drewN | apply Kd.R_drew)); exact Kd.R_mono HO416.out (fun _ hk => hk.2)⟩, ⟨HB.out⟩⟩
              case round =>
               clear H';(try clear c1);(try clear p1);(try clear q1);(try clear hx1);(try clear c2);(try clear p2);(try clear c3);(try clear c5);(try clear p6);(try clear c7);(try clear c9);(try clear c9b0);(try clear c9b1);(try clear c10);(try clear c10b0);(try clear c10b1);(try clear c14);(try clear c14b0);(try clear c15);(try clear c15b0);(try clear c16);(try clear c16b0);(try clear p17);(try clear q17);(try clear hx17);(try clear hf17);(try clear c20);(try clear c20b0);(try clear c22);(try clear c22b0);(try clear c22b1);(try clear c23);(try clear c23b0);(try clear c23b1);(try clear hx17_0);(try clear p1);(try clear p17);(try clear p2);(try clear p6);(try clear q1);(try clear q17);obtain ⟨x8_4, x43_4, rfl, HA, HK4, HO_6, HO_8, HB⟩ := hrel;have hl8_4 := (Kd.R_reads' HO_8.out).1;rw [hl8_4] at HO_8
               (try simp only [hl8_4])
               (try simp only [hl8_4] at HO_6)
               cases gk with
               | zero => exact absurd HA.out (by simp [spec_CountProfiles.l2])
               | succ k4 =>
                have H := HA.out;clear HA;simp only [spec_CountProfiles.l2] at H
                by_cases c27 : x43_4 < (y414.length : Int)
                ·rw [if_pos c27] at H;have c27b0 := decide_eq_true c27
                 (try (have c27b20 := c27b0; rw [hl6_2] at c27b20))
                 (try (have c27b21 := c27b0; rw [hl8_4] at c27b21))
                 clear c27;replace H := Option.bind_eq_some_iff.mp H;obtain ⟨t417, A280, H⟩ := H;(try dsimp only at H);have A28 := Aside0.mk A280;clear A280;have H' := Aside0.mk H;clear H
                 go_wp2_with (first | ((with_reducible refine gate_callee (f := 88) rfl ?_); refine goesL_ (some 48) rfl rfl Try.func88 (by kernel_rfl) rfl #[.int .i64 0, .int .i64 (wrap64 (x43_4 - 1))] rfl (by (try simp only [List.map_toArray, List.map_cons, List.map_nil]); first | done | rfl | (simp only [List.length_drop, List.length_take]; rfl)) ?_; (with_reducible refine (spec_l1Most.calls 0 (wrap64 (x43_4 - 1)) t417 _ A28.out).mono ?_); rintro e w' ⟨rfl, ⟨nd, rfl⟩⟩; refine ⟨_, rfl, ?_⟩))
                 go_loopg [10] k4 (fun kq v10 w' => ∃ (x8_5 : List Int) (x10_5 : Int), v10 = .int .i64 x10_5 ∧ Aside0 (spec_CountProfiles.l3 kq x0_3 a1 x6_3 x8_5 x43_4 x10_5 (y414.length : Int) x43_4 = some (r1, r2)) ∧ Aside0 (kq ≤ k4) ∧ Aside0 (Kd.R (Kd.int .i64) 3 w' w.heap.size (fun k_ => some k_ ≠ ((.slice Ao26 x8_4.length co26) : Value).ownBlock) u6 x6_3) ∧ Aside0 (Kd.R (Kd.int .i64) 3 w' w.heap.size (fun k_ => some k_ ≠ (u6 : Value).ownBlock) (.slice Ao26 x8_4.length co26) x8_5) ∧ Aside0 (Below w.heap.size w w'))
                 case atStart => exact ⟨(x8_4), (t417), (by first | rfl | (simp; done) | (simp [*]; done)), H', ⟨Nat.le_refl _⟩, ⟨by (try simp only [hl6_2]); (try simp only [hl8_4]); (with_reducible repeat (first | apply Kd.R_alloc | apply Kd.R_drewN | apply Kd.R_drew)); exact HO_6.out⟩, ⟨by (try simp only [hl6_2]); (try simp only [hl8_4]); (with_reducible repeat (first | apply Kd.R_alloc | apply Kd.R_drewN | apply Kd.R_drew)); exact HO_8.out⟩, ⟨by repeat (first | (with_reducible first | exact HB.out | apply below_alloc | apply pw_below_drewN | apply below_drew1) | exact HB.out)⟩⟩
                 case round =>
                  clear H';(try clear c1);(try clear p1);(try clear q1);(try clear hx1);(try clear c2);(try clear p2);(try clear c3);(try clear c5);(try clear p6);(try clear c7);(try clear c8);(try clear c9);(try clear c9b0);(try clear c9b1);(try clear c10);(try clear c10b0);(try clear c10b1);(try clear c14);(try clear c14b0);(try clear c15);(try clear c15b0);(try clear c16);(try clear c16b0);(try clear p17);(try clear q17);(try clear hx17);(try clear hf17);(try clear c20);(try clear c20b0);(try clear c22);(try clear c22b0);(try clear c22b1);(try clear c23);(try clear c23b0);(try clear c23b1);(try clear c27);(try clear c27b0);(try clear hx17_0);(try clear p1);(try clear p17);(try clear p2);(try clear p6);(try clear q1);(try clear q17);obtain ⟨x8_5, x10_5, rfl, HA, HK5, HO_6, HO_8, HB⟩ := hrel;have hl8_5 := (Kd.R_reads' HO_8.out).1;rw [hl8_5] at HO_8
                  (try simp only [hl8_5])
                  (try simp only [hl8_5] at HO_6)
                  cases gk with
                  | zero => exact absurd HA.out (by simp [spec_CountProfiles.l3])
                  | succ k5 =>
                   have H := HA.out;clear HA;simp only [spec_CountProfiles.l3] at H;replace H := Option.bind_eq_some_iff.mp H;obtain ⟨t418, A290, H⟩ := H;(try dsimp only at H);have A29 := Aside0.mk A290;clear A290
                   by_cases c30 : x10_5 ≤ t418
                   ·rw [if_pos c30] at H;have c30b0 := decide_eq_true c30;clear c30
                    by_cases c31 : 0 ≤ x43_4
                    ·rw [if_pos c31] at H;have c31b0 := decide_eq_true c31;clear c31
                     by_cases c32 : x43_4 < (x8_5.length : Int)
                     ·rw [if_pos c32] at H;have c32b0 := decide_eq_true c32
                      (try (have c32b20 := c32b0; rw [hl6_2] at c32b20))
                      (try (have c32b21 := c32b0; rw [hl8_4] at c32b21))
                      (try (have c32b22 := c32b0; rw [hl8_5] at c32b22))
                      clear c32
                      by_cases c33 : 0 ≤ x10_5
                      ·rw [if_pos c33] at H;have c33b0 := decide_eq_true c33;clear c33
                       by_cases c34 : x10_5 < (x6_3.length : Int)
                       ·rw [if_pos c34] at H;have c34b0 := decide_eq_true c34
                        (try (have c34b20 := c34b0; rw [hl6_2] at c34b20))
                        (try (have c34b21 := c34b0; rw [hl8_4] at c34b21))
                        (try (have c34b22 := c34b0; rw [hl8_5] at c34b22))
                        clear c34;obtain ⟨y421, hy421⟩ : ∃ y_ : List Int, y_ = (x8_5.set (x43_4 : Int).toNat (wrap64 ((rd x8_5 x43_4) + (rd x6_3 x10_5)))) := ⟨_, rfl⟩
                        first | rw [← hy421] at H | (rw [Option.bind_some] at H; rw [← hy421] at H)
                        have Ny421 := Aside0.mk hy421;clear hy421;have H' := Aside0.mk H;clear H
                        try go_wp2_with (first | ((with_reducible refine gate_callee (f := 92) rfl ?_); refine goesL_ (some 53) rfl rfl Try.func92 (by kernel_rfl) rfl #[.int .i64 a1, .int .i64 (wrap64 (x43_4 + 1))] rfl (by (try simp only [List.map_toArray, List.map_cons, List.map_nil]); first | done | rfl | (simp only [List.length_drop, List.length_take]; rfl)) ?_; (with_reducible refine (spec_l1Least.calls a1 (wrap64 (x43_4 + 1)) t418 _ A29.out).mono ?_); rintro e w' ⟨rfl, ⟨nd, rfl⟩⟩; refine ⟨_, rfl, ?_⟩; (try (rw [drewN_self wr]; generalize hq_ : World.drewN wr _ = wr; have n0_ : Aside0 (Kd.R (Kd.int .i64) 3 wr w.heap.size (fun k_ => some k_ ≠ (.slice Ao26 x8_5.length co26 : Value).ownBlock) u6 x6_3) := ⟨by rw [← hq_]; exact (by (with_reducible repeat (first | apply Kd.R_alloc | apply Kd.R_drewN | apply Kd.R_drew)); exact HO_6.out)⟩; have n1_ : Aside0 (Kd.R (Kd.int .i64) 3 wr w.heap.size (fun k_ => some k_ ≠ (u6 : Value).ownBlock) (.slice Ao26 x8_5.length co26) x8_5) := ⟨by rw [← hq_]; exact (by (with_reducible repeat (first | apply Kd.R_alloc | apply Kd.R_drewN | apply Kd.R_drew)); exact HO_8.out)⟩; have n2_ : Aside0 (Below w.heap.size w wr) := ⟨by rw [← hq_]; exact (by repeat (first | (with_reducible first | exact HB.out | apply below_alloc | apply pw_below_drewN | apply below_drew1) | exact HB.out))⟩; clear HO_6 HO_8 HB hq_; have HO_6 := n0_; have HO_8 := n1_; have HB := n2_; clear n0_ n1_ n2_))))
                        have n0_ := Aside0.mk (Kd.R_drew HO_6.out);have n1_ := Aside0.mk (Kd.R_drew HO_8.out);have n2_ := Aside0.mk (below_drew1 HB.out);clear HO_6;clear HO_8;clear HB;have HO_6 := n0_;have HO_8 := n1_;have HB := n2_;clear n0_ n1_ n2_;have p419 : 0 ≤ (x43_4 : Int) := of_decide_eq_true (by assumption);have q419 : x43_4 < (x8_5.length : Int) := of_decide_eq_true (by assumption);obtain ⟨ad419, e419, hx419_0⟩ := Kd.at_int (Kd.R_reads' HO_8.out).2.2 x43_4 p419 q419;cases e419;replace p419 := eq_true p419;replace q419 := eq_true q419;obtain ⟨Ao37, co37, eo37⟩ := Kd.R_slice HO_6.out
                        (first | subst eo37 | (injection eo37 with f1_ f2_ f3_; have f4_ := f1_.symm; have f5_ := f3_.symm; clear f1_ f2_ f3_; subst f4_; subst f5_))
                        have p420 : 0 ≤ (x10_5 : Int) := of_decide_eq_true (by assumption);have q420 : x10_5 < (x6_3.length : Int) := of_decide_eq_true (by assumption);obtain ⟨ad420, e420, hx420_0⟩ := Kd.at_int (Kd.R_reads' HO_6.out).2.2 x10_5 p420 q420;cases e420;replace p420 := eq_true p420;replace q420 := eq_true q420;have p35 : 0 ≤ (x43_4 : Int) := of_decide_eq_true (by assumption);have q35 : (x43_4 : Int) < ((x8_5.length : Int) : Int) := of_decide_eq_true (by assumption);obtain ⟨go35, co35, eo35, gb35, gl35, cl35, HG35⟩ := Kd.R_form HO_8.out (by omega)
                        (first | cases eo35 | (injection eo35 with ea_ en_ ec_; (first | subst ea_ | (injection ea_ with ea_; subst ea_)); subst ec_; clear en_))
                        have GB35 := Aside0.mk gb35;have GG35 := Aside0.mk HG35;clear gb35 gl35 HG35
                        (first | simp only [add_plain] at hx419_0 | skip)
                        obtain ⟨hx35_0, hf35_0⟩ := Kd.R_celln 0 HO_8.out (x43_4 : Int) p35 q35;replace p35 := eq_true p35;replace q35 := eq_true q35;have HP38 := Kd.R_putn HO_8.out (x43_4 : Int) (wrap64 ((rd x8_5 x43_4) + (rd x6_3 x10_5)));rw [← Ny421.out] at HP38;have HQ38 := Aside0.mk HP38;clear HP38;refine start_ (n := 11) (S := fun w' => w'.cell? ⟨go35, (x43_4).toNat, none⟩ = some (.int .i64 (rd x8_5 x43_4)) ∧ w'.cell? (ad420.add (x10_5).toNat) = some (.int .i64 (rd x6_3 x10_5))) (ds := [10]) #[false, false, false, false, false, false, false, false, false, false, false] (by kernel_rfl) rfl rfl ⟨hx419_0, hx420_0⟩ (fun hHeld => ?_); refine with_tabW spec_CountProfiles.tab18 spec_CountProfiles.bits18 (fun HT_ HW_ => ?_);generalize wr.drew = w36 at HO_6 HO_8 HB GG35 HQ38 hf35_0 hx35_0 hx419_0 hx420_0 hHeld ⊢;refine pure_ (i := 0) (N := some 57) (v := ?_) (a' := ?_) #[true, false, false, false, false, false, false, false, false, false, false] rfl rfl (any_of HT_.out (by kernel_rfl)) (fun _ _ _ h => h) (Or.inl ⟨by rfl, ?_⟩) ?_ ?_;rotate_left
                        ·intro w';go_simp;with_reducible rfl
                        rotate_left
                        ·simp only [Act.put, List.setIfInBounds_toArray, List.set_cons_zero, List.set_cons_succ, i64_w, i32_w];rfl
                        refine pure_ (i := 1) (N := some 58) (v := ?_) (a' := ?_) #[true, true, false, false, false, false, false, false, false, false, false] rfl rfl (any_of HT_.out (by kernel_rfl)) (fun _ _ _ h => h) (Or.inl ⟨by rfl, ?_⟩) ?_ ?_;rotate_left
                        ·intro w';go_simp;with_reducible rfl
                        rotate_left
                        ·simp only [Act.put, List.setIfInBounds_toArray, List.set_cons_zero, List.set_cons_succ, i64_w, i32_w];rfl
                        refine pure_ (i := 2) (N := some 59) (v := ?_) (a' := ?_) #[true, true, true, false, false, false, false, false, false, false, false] rfl rfl (any_of HT_.out (by kernel_rfl)) (fun _ _ _ h => h) (Or.inl ⟨by rfl, ?_⟩) ?_ ?_;rotate_left
                        ·intro w';go_simp;with_reducible rfl
                        rotate_left
                        ·simp only [Act.put, List.setIfInBounds_toArray, List.set_cons_zero, List.set_cons_succ, i64_w, i32_w];rfl
                        refine pure_ (i := 4) (N := some 61) (v := ?_) (a' := ?_) #[true, true, true, false, true, false, false, false, false, false, false] rfl rfl (any_of HT_.out (by kernel_rfl)) (fun _ _ _ h => h) (Or.inl ⟨by rfl, ?_⟩) ?_ ?_;rotate_left
                        ·intro w';go_simp;with_reducible rfl
                        rotate_left
                        ·simp only [Act.put, List.setIfInBounds_toArray, List.set_cons_zero, List.set_cons_succ, i64_w, i32_w];rfl
                        refine pure_ (i := 5) (N := some 62) (v := ?_) (a' := ?_) #[true, true, true, false, true, true, false, false, false, false, false] rfl rfl (any_of HT_.out (by kernel_rfl)) (fun _ _ _ h => h) (Or.inl ⟨by rfl, ?_⟩) ?_ ?_;rotate_left
                        ·intro w';go_simp;with_reducible rfl
                        rotate_left
                        ·simp only [Act.put, List.setIfInBounds_toArray, List.set_cons_zero, List.set_cons_succ, i64_w, i32_w];rfl
                        refine pure_ (i := 6) (N := some 63) (v := ?_) (a' := ?_) #[true, true, true, false, true, true, true, false, false, false, false] rfl rfl (any_of HT_.out (by kernel_rfl)) (fun _ _ _ h => h) (Or.inl ⟨by rfl, ?_⟩) ?_ ?_;rotate_left
                        ·intro w';go_simp;with_reducible rfl
                        rotate_left
                        ·simp only [Act.put, List.setIfInBounds_toArray, List.set_cons_zero, List.set_cons_succ, i64_w, i32_w];rfl
                        refine take_ (i := 3) (N := some 60) (v := ?_) (a' := ?_) #[true, true, true, true, true, true, true, false, false, false, false] rfl rfl (take_ofW HT_.out HW_.out (by kernel_rfl)) (fun _ _ _ h => h) (Or.inl ⟨by rfl, ?_⟩) hHeld ?_ ?_;rotate_left
                        ·rintro w' ⟨s0, s1⟩;go_simp;with_reducible rfl
                        rotate_left
                        ·simp only [Act.put, List.setIfInBounds_toArray, List.set_cons_zero, List.set_cons_succ, i64_w, i32_w];rfl
                        refine take_ (i := 7) (N := some 64) (v := ?_) (a' := ?_) #[true, true, true, true, true, true, true, true, false, false, false] rfl rfl (take_ofW HT_.out HW_.out (by kernel_rfl)) (fun _ _ _ h => h) (Or.inl ⟨by rfl, ?_⟩) hHeld ?_ ?_;rotate_left
                        ·rintro w' ⟨s0, s1⟩;go_simp;with_reducible rfl
                        rotate_left
                        ·simp only [Act.put, List.setIfInBounds_toArray, List.set_cons_zero, List.set_cons_succ, i64_w, i32_w];rfl
                        refine pure_ (i := 8) (N := some 65) (v := ?_) (a' := ?_) #[true, true, true, true, true, true, true, true, true, false, false] rfl rfl (any_of HT_.out (by kernel_rfl)) (fun _ _ _ h => h) (Or.inl ⟨by rfl, ?_⟩) ?_ ?_;rotate_left
                        ·intro w';go_simp;with_reducible rfl
                        rotate_left
                        ·simp only [Act.put, List.setIfInBounds_toArray, List.set_cons_zero, List.set_cons_succ, i64_w, i32_w];rfl
                        refine pure_ (i := 9) (N := some 66) (v := ?_) (a' := ?_) #[true, true, true, true, true, true, true, true, true, true, false] rfl rfl (any_of HT_.out (by kernel_rfl)) (fun _ _ _ h => h) (Or.inl ⟨by rfl, ?_⟩) ?_ ?_;rotate_left
                        ·intro w';go_simp;with_reducible rfl
                        rotate_left
                        ·simp only [Act.put, List.setIfInBounds_toArray, List.set_cons_zero, List.set_cons_succ, i64_w, i32_w];rfl
                        refine last_ (i := 10) (N := none) #[true, true, true, true, true, true, true, true, true, true, true] rfl rfl (one_of HT_.out (by kernel_rfl)) (by decide) (fun K hK => ?_);refine skip_ (w1 := ?_) (by rfl) rfl ?_ ?_;rotate_left
                        ·go_simp;rfl
                        refine hK.out _ _ ?_;clear hK K;refine done_ (done_of HT_.out (by kernel_rfl)) ?_
                        try go_wp2
                        (try simp only [← hl8_5])
                        go_roundg k5
                        case measure => have := HJ2.out; have := HK2.out; have := HK3.out; have := HK4.out; have := HK5.out; omega
                        case rel => exact ⟨(y421), (wrap64 (x10_5 + 1)), (by first | rfl | (simp; done) | (simp [*]; done)), H', ⟨by have := HJ2.out; have := HK2.out; have := HK3.out; have := HK4.out; have := HK5.out; omega⟩, ⟨by (try simp only [hl6_2]); (try simp only [hl8_4]); (try simp only [hl8_5]); (with_reducible repeat (first | apply Kd.R_alloc | apply Kd.R_drewN | apply Kd.R_drew)); exact Kd.R_mono (Kd.R_far (p := ⟨go35, (x43_4 : Int).toNat, none⟩) (Kd.R_mono HO_6.out (fun k_ hk => (⟨hk, fun e_ => hk (by rw [e_]; rfl)⟩ : _ ∧ k_ ≠ go35))) (fun _ hk => hk.2) (.int .i64 (wrap64 ((rd x8_5 x43_4) + (rd x6_3 x10_5))))) (fun _ hk => hk.1)⟩, ⟨by (try simp only [hl6_2]); (try simp only [hl8_4]); (try simp only [hl8_5]); (with_reducible repeat (first | apply Kd.R_alloc | apply Kd.R_drewN | apply Kd.R_drew)); exact HQ38.out⟩, ⟨by repeat (first | (with_reducible first | exact HB.out | apply below_alloc | apply pw_below_drewN | apply below_drew1 | refine below_set ?_ GB35.out) | exact HB.out)⟩⟩
                       ·rw [if_neg c34] at H;exact absurd H (by simp)
                      ·rw [if_neg c33] at H;exact absurd H (by simp)
                     ·rw [if_neg c32] at H;exact absurd H (by simp)
                    ·rw [if_neg c31] at H;exact absurd H (by simp)
                   ·rw [if_neg c30] at H;have c30b0 := decide_eq_false c30;clear c30;have H' := Aside0.mk H;clear H
                    go_wp2_with (first | ((with_reducible refine gate_callee (f := 92) rfl ?_); refine goesL_ (some 53) rfl rfl Try.func92 (by kernel_rfl) rfl #[.int .i64 a1, .int .i64 (wrap64 (x43_4 + 1))] rfl (by (try simp only [List.map_toArray, List.map_cons, List.map_nil]); first | done | rfl | (simp only [List.length_drop, List.length_take]; rfl)) ?_; (with_reducible refine (spec_l1Least.calls a1 (wrap64 (x43_4 + 1)) t418 _ A29.out).mono ?_); rintro e w' ⟨rfl, ⟨nd, rfl⟩⟩; refine ⟨_, rfl, ?_⟩))
                    (try simp only [← hl8_4, ← hl8_5])
                    go_roundg k5
                    case measure => have := HJ2.out; have := HK2.out; have := HK3.out; have := HK4.out; have := HK5.out; omega
                    case rel => exact ⟨(x8_5), (wrap64 (x43_4 + 1)), (by first | rfl | (simp; done) | (simp [*]; done)), H', ⟨by have := HJ2.out; have := HK2.out; have := HK3.out; have := HK4.out; have := HK5.out; omega⟩, ⟨by (try simp only [hl6_2]); (try simp only [hl8_4]); (try simp only [hl8_5]); (with_reducible repeat (first | apply Kd.R_alloc | apply Kd.R_drewN | apply Kd.R_drew)); exact HO_6.out⟩, ⟨by (try simp only [hl6_2]); (try simp only [hl8_4]); (try simp only [hl8_5]); (with_reducible repeat (first | apply Kd.R_alloc | apply Kd.R_drewN | apply Kd.R_drew)); exact HO_8.out⟩, ⟨by repeat (first | (with_reducible first | exact HB.out | apply below_alloc | apply pw_below_drewN | apply below_drew1) | exact HB.out)⟩⟩
                ·rw [if_neg c27] at H;have c27b0 := decide_eq_false c27
                 (try (have c27b20 := c27b0; rw [hl6_2] at c27b20))
                 (try (have c27b21 := c27b0; rw [hl8_4] at c27b21))
                 (try (have c27b22 := c27b0; rw [hl8_5] at c27b22))
                 clear c27;have H' := Aside0.mk H;clear H;go_wp2
                 (try simp only [← hl8_4])
                 go_roundg k4
                 case measure => have := HJ2.out; have := HK2.out; have := HK3.out; have := HK4.out; omega
                 case rel => exact ⟨(wrap64 (x0_3 - 1)), (x8_4), (by first | rfl | (simp; done) | (simp [*]; done)), H', ⟨by have := HJ2.out; have := HK2.out; have := HK3.out; have := HK4.out; omega⟩, ⟨by (try simp only [hl6_2]); (try simp only [hl8_4]); (with_reducible repeat (first | apply Kd.R_alloc | apply Kd.R_drewN | apply Kd.R_drew)); exact Kd.R_mono HO_8.out (fun _ hk => trivial)⟩, ⟨HB.out⟩⟩
             ·rw [if_neg c23] at H;exact absurd H (by simp)
            ·rw [if_neg c22] at H;exact absurd H (by simp)
           ·rw [if_neg c20] at H;have c20b0 := decide_eq_false c20;clear c20;have H' := Aside0.mk H;clear H;obtain ⟨Ao39, co39, eo39⟩ := Kd.R_slice HO_6.out;subst eo39;go_wp2
            go_loopg [11, 71] k3 (fun kq v11 v71 w' => ∃ (x11_4 : Int) (x71_4 : Int), v11 = .int .i64 x11_4 ∧ v71 = .int .i64 x71_4 ∧ Aside0 (spec_CountProfiles.l4 kq x11_4 x6_3 (x6_3.length : Int) x71_4 = some (r1, r2)) ∧ Aside0 (kq ≤ k3) ∧ Aside0 (Kd.R (Kd.int .i64) 3 w' w.heap.size (fun _ => True) (.slice Ao39 x6_3.length co39) x6_3) ∧ Aside0 (Below w.heap.size w w'))
            case atStart => exact ⟨(0), (0), (by first | rfl | (simp; done) | (simp [*]; done)), (by first | rfl | (simp; done) | (simp [*]; done)), H', ⟨Nat.le_refl _⟩, ⟨by (try simp only [hl6_2]); (with_reducible repeat (first | apply Kd.R_alloc | apply Kd.R_drewN | apply Kd.R_drew)); exact HO_6.out⟩, ⟨HB.out⟩⟩
            case round =>
             clear H';(try clear c1);(try clear p1);(try clear q1);(try clear hx1);(try clear c2);(try clear p2);(try clear c3);(try clear p3);(try clear q3);(try clear hx3);(try clear hf3);(try clear p4);(try clear q4);(try clear hx4);(try clear c5);(try clear p6);(try clear c7);(try clear c8);(try clear c9);(try clear c9b0);(try clear c9b1);(try clear c10);(try clear c10b0);(try clear c10b1);(try clear c14);(try clear c14b0);(try clear c15);(try clear c15b0);(try clear c16);(try clear c16b0);(try clear p17);(try clear q17);(try clear hx17);(try clear hf17);(try clear c20);(try clear c20b0);(try clear c22);(try clear c22b0);(try clear c22b1);(try clear c23);(try clear c23b0);(try clear c23b1);(try clear c27);(try clear c27b0);(try clear c30);(try clear c30b0);(try clear c31);(try clear c31b0);(try clear c32);(try clear c32b0);(try clear c33);(try clear c33b0);(try clear c34);(try clear c34b0);(try clear p35);(try clear q35);(try clear hx35);(try clear hf35);(try clear c37);(try clear hx17_0);(try clear hx35_0);(try clear hx419_0);(try clear hx420_0);(try clear p1);(try clear p17);(try clear p2);(try clear p35);(try clear p419);(try clear p420);(try clear p6);(try clear q1);(try clear q17);(try clear q35);(try clear q419);(try clear q420);obtain ⟨x11_4, x71_4, rfl, rfl, HA, HK4, HO_69, HB⟩ := hrel;cases gk with
             | zero => exact absurd HA.out (by simp [spec_CountProfiles.l4])
             | succ k4 =>
              have H := HA.out;clear HA;simp only [spec_CountProfiles.l4] at H
              by_cases c40 : x71_4 < (x6_3.length : Int)
              ·rw [if_pos c40] at H;have c40b0 := decide_eq_true c40
               (try (have c40b20 := c40b0; rw [hl6_2] at c40b20))
               (try (have c40b21 := c40b0; rw [hl8_4] at c40b21))
               (try (have c40b22 := c40b0; rw [hl8_5] at c40b22))
               clear c40
               by_cases c41 : 0 ≤ x71_4
               ·rw [if_pos c41] at H;have c41b0 := decide_eq_true c41;clear c41
                by_cases c42 : x71_4 < (x6_3.length : Int)
                ·rw [if_pos c42] at H;have c42b0 := decide_eq_true c42
                 (try (have c42b20 := c42b0; rw [hl6_2] at c42b20))
                 (try (have c42b21 := c42b0; rw [hl8_4] at c42b21))
                 (try (have c42b22 := c42b0; rw [hl8_5] at c42b22))
                 clear c42;have H' := Aside0.mk H;clear H;have p422 : 0 ≤ (x71_4 : Int) := of_decide_eq_true (by assumption);have q422 : x71_4 < (x6_3.length : Int) := of_decide_eq_true (by assumption);obtain ⟨ad422, e422, hx422_0⟩ := Kd.at_int (Kd.R_reads' HO_69.out).2.2 x71_4 p422 q422;cases e422;replace p422 := eq_true p422;replace q422 := eq_true q422;go_wp2
                 go_roundg k4
                 case measure => have := HJ2.out; have := HK2.out; have := HK3.out; have := HK4.out; omega
                 case rel => exact ⟨(wrap64 (x11_4 + (rd x6_3 x71_4))), (wrap64 (x71_4 + 1)), (by first | rfl | (simp; done) | (simp [*]; done)), (by first | rfl | (simp; done) | (simp [*]; done)), H', ⟨by have := HJ2.out; have := HK2.out; have := HK3.out; have := HK4.out; omega⟩, ⟨by (try simp only [hl6_2]); (with_reducible repeat (first | apply Kd.R_alloc | apply Kd.R_drewN | apply Kd.R_drew)); exact HO_69.out⟩, ⟨HB.out⟩⟩
                ·rw [if_neg c42] at H;exact absurd H (by simp)
               ·rw [if_neg c41] at H;exact absurd H (by simp)
              ·rw [if_neg c40] at H;have c40b0 := decide_eq_false c40
               (try (have c40b20 := c40b0; rw [hl6_2] at c40b20))
               (try (have c40b21 := c40b0; rw [hl8_4] at c40b21))
               (try (have c40b22 := c40b0; rw [hl8_5] at c40b22))
               clear c40;simp only [Option.some.injEq, Prod.mk.injEq] at H;obtain ⟨rfl, rfl⟩ := H;go_wp2
               go_ret2
               exact ⟨by first | rfl | (simp [errW_none, errW_some] <;> rfl) | (simp only [← hji8]; first | rfl | (simp [errW_none, errW_some] <;> rfl)) | (simp [*, errW_none, errW_some] <;> rfl), HB.out⟩
     ·rw [if_neg c10] at H;exact absurd H (by simp)
    ·rw [if_neg c9] at H;exact absurd H (by simp)

end Go.Proofs.Ytdipbpckmcmljaa.PFnSections

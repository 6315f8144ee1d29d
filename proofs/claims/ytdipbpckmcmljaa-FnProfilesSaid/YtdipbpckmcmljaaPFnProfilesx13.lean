-- Printed by a changed copy of the printer
import Derived.Test.YtdipbpckmcmljaaPFnProfilesx0
import Derived.Test.YtdipbpckmcmljaaPFnProfilesx1
import Derived.Test.YtdipbpckmcmljaaPFnProfilesx3
import Derived.Test.YtdipbpckmcmljaaPFnProfilesx7
import Derived.Test.YtdipbpckmcmljaaPFnProfilesx12
namespace Go.Proofs.Ytdipbpckmcmljaa.PFnProfiles
open Go.RowKit Go.Proofs.YtdipbpckmcmljaaW.PrintWords Go.Proofs.YtdipbpckmcmljaaW.PrintLast Go.Proofs.YtdipbpckmcmljaaW.PrintMore
attribute [local go_sem] max2_int min2_int max_two min_two max_three min_three max_four min_four   -- for this text's walks alone
set_option linter.unusedVariables false
set_option linter.unusedSimpArgs false

/-! ### spec_ProfileValue: function 47 -/
def spec_ProfileValue.f (k : Nat) (l0 : List (List Int)) (l1 : List Int) : Option (Int × Bool) := (spec_seGood.f k l0).bind fun t414 => (if t414 = true then ((spec_seProfile.f k l0 l1).bind fun t415 => (if t415 = true then ((spec_seValue.f k l0 l1).bind fun t416 => (some (t416, true))) else (some (0, false)))) else (some (0, false)))
set_option maxHeartbeats 8000000 in
set_option maxRecDepth 100000 in
theorem spec_ProfileValue.calls (k : Nat) (A0 : Option Addr) (c0 : Nat) (l0 : List (List Int)) (A1 : Option Addr) (c1 : Nat) (l1 : List Int) (r1 : Int) (r2 : Bool) (w : World) (hr0 : Kd.C (Kd.slice 3 (Kd.int .i64)) w A0 l0.length l0) (hc0 : l0.length ≤ c0) (hr1 : Kd.C (Kd.int .i64) w A1 l1.length l1) (hc1 : l1.length ≤ c1) (h : spec_ProfileValue.f k l0 l1 = some (r1, r2)) :
  Calls Try.prog 47 #[.slice A0 l0.length c0, .slice A1 l1.length c1] w fun e w' => e = .returned (.tuple #[.int .i64 r1, .bool r2]) ∧ Drawn0 w w' := by
 have HR0 := Aside0.mk hr0;have HC0 := Aside0.mk hc0;clear hr0 hc0;have HR1 := Aside0.mk hr1;have HC1 := Aside0.mk hc1;clear hr1 hc1;have H : ((spec_seGood.f k l0).bind fun t414 => (if t414 = true then ((spec_seProfile.f k l0 l1).bind fun t415 => (if t415 = true then ((spec_seValue.f k l0 l1).bind fun t416 => (some (t416, true))) else (some (0, false)))) else (some (0, false)))) = some (r1, r2) := h;clear h;replace H := Option.bind_eq_some_iff.mp H;obtain ⟨t414, A30, H⟩ := H;replace H : (if t414 = true then ((spec_seProfile.f k l0 l1).bind fun t415 => (if t415 = true then ((spec_seValue.f k l0 l1).bind fun t416 => (some (t416, true))) else (some (0, false)))) else (some (0, false))) = some (r1, r2) := H;have A3 := Aside0.mk A30;clear A30
 by_cases c4 : t414 = true
 ·subst c4;have H1 : ((spec_seProfile.f k l0 l1).bind fun t415 => (if t415 = true then ((spec_seValue.f k l0 l1).bind fun t416 => (some (t416, true))) else (some (0, false)))) = some (r1, r2) := by rw [if_pos rfl] at H; exact H
  clear H;have H := H1;clear H1;replace H := Option.bind_eq_some_iff.mp H;obtain ⟨t415, A50, H⟩ := H;replace H : (if t415 = true then ((spec_seValue.f k l0 l1).bind fun t416 => (some (t416, true))) else (some (0, false))) = some (r1, r2) := H;have A5 := Aside0.mk A50;clear A50
  by_cases c6 : t415 = true
  ·subst c6;have H1 : ((spec_seValue.f k l0 l1).bind fun t416 => (some (t416, true))) = some (r1, r2) := by rw [if_pos rfl] at H; exact H
   clear H;have H := H1;clear H1;replace H := Option.bind_eq_some_iff.mp H;obtain ⟨t416, A70, H⟩ := H;replace H : (some (t416, true)) = some (r1, r2) := H;have A7 := Aside0.mk A70;clear A70;simp only [Option.some.injEq, Prod.mk.injEq] at H;obtain ⟨rfl, rfl⟩ := H
   go_enter Try.func47, Try.ntmps47
   go_wp2_with (first | ((with_reducible refine gate_callee (f := 77) rfl ?_); refine goesL_ (some 7) rfl rfl Try.func77 (by kernel_rfl) rfl #[.slice A0 l0.length c0] rfl (by (try simp only [List.map_toArray, List.map_cons, List.map_nil]); first | done | rfl | (simp only [List.length_drop, List.length_take]; rfl)) ?_; (with_reducible refine (spec_seGood.calls k _ _ l0 true _ ?side1 ?side2 A3.out).mono ?_); (case side1 => exact HR0.out); (case side2 => exact HC0.out); rintro e w' ⟨rfl, ⟨nd, rfl⟩⟩; refine ⟨_, rfl, ?_⟩) | (go_at_call 97; (with_reducible refine (spec_seProfile.calls k _ _ l0 _ _ l1 true _ ?side1 ?side2 ?side3 ?side4 A5.out).mono ?_); (case side1 => exact HR0.out); (case side2 => exact HC0.out); (case side3 => exact HR1.out); (case side4 => exact HC1.out); rintro e w' ⟨rfl, ⟨nd, rfl⟩⟩) | ((with_reducible refine gate_callee (f := 98) rfl ?_); refine goesL_ (some 17) rfl rfl Try.func98 (by kernel_rfl) rfl #[.slice A0 l0.length c0, .slice A1 l1.length c1] rfl (by (try simp only [List.map_toArray, List.map_cons, List.map_nil]); first | done | rfl | (simp only [List.length_drop, List.length_take]; rfl)) ?_; (with_reducible refine (spec_seValue.calls k _ _ l0 _ _ l1 t416 _ ?side1 ?side2 ?side3 ?side4 A7.out).mono ?_); (case side1 => exact HR0.out); (case side2 => exact HC0.out); (case side3 => exact HR1.out); (case side4 => exact HC1.out); rintro e w' ⟨rfl, ⟨nd, rfl⟩⟩; refine ⟨_, rfl, ?_⟩))
   go_ret2
   exact ⟨by first | rfl | (simp; done) | (simp [*]; done), by repeat (first | exact Drawn0.refl _ | apply Drawn0.step)⟩
  ·replace c6 := Bool.eq_false_iff.mpr c6;subst c6;have H1 : (some (0, false)) = some (r1, r2) := by rw [if_neg (show ¬ (false = true) by decide)] at H; exact H
   clear H;have H := H1;clear H1;simp only [Option.some.injEq, Prod.mk.injEq] at H;obtain ⟨rfl, rfl⟩ := H
   go_enter Try.func47, Try.ntmps47
   go_wp2_with (first | ((with_reducible refine gate_callee (f := 77) rfl ?_); refine goesL_ (some 7) rfl rfl Try.func77 (by kernel_rfl) rfl #[.slice A0 l0.length c0] rfl (by (try simp only [List.map_toArray, List.map_cons, List.map_nil]); first | done | rfl | (simp only [List.length_drop, List.length_take]; rfl)) ?_; (with_reducible refine (spec_seGood.calls k _ _ l0 true _ ?side1 ?side2 A3.out).mono ?_); (case side1 => exact HR0.out); (case side2 => exact HC0.out); rintro e w' ⟨rfl, ⟨nd, rfl⟩⟩; refine ⟨_, rfl, ?_⟩) | (go_at_call 97; (with_reducible refine (spec_seProfile.calls k _ _ l0 _ _ l1 false _ ?side1 ?side2 ?side3 ?side4 A5.out).mono ?_); (case side1 => exact HR0.out); (case side2 => exact HC0.out); (case side3 => exact HR1.out); (case side4 => exact HC1.out); rintro e w' ⟨rfl, ⟨nd, rfl⟩⟩))
   go_ret2
   exact ⟨by first | rfl | (simp; done) | (simp [*]; done), by repeat (first | exact Drawn0.refl _ | apply Drawn0.step)⟩
 ·replace c4 := Bool.eq_false_iff.mpr c4;subst c4;have H1 : (some (0, false)) = some (r1, r2) := by rw [if_neg (show ¬ (false = true) by decide)] at H; exact H
  clear H;have H := H1;clear H1;simp only [Option.some.injEq, Prod.mk.injEq] at H;obtain ⟨rfl, rfl⟩ := H
  go_enter Try.func47, Try.ntmps47
  go_wp2_with (first | ((with_reducible refine gate_callee (f := 77) rfl ?_); refine goesL_ (some 7) rfl rfl Try.func77 (by kernel_rfl) rfl #[.slice A0 l0.length c0] rfl (by (try simp only [List.map_toArray, List.map_cons, List.map_nil]); first | done | rfl | (simp only [List.length_drop, List.length_take]; rfl)) ?_; (with_reducible refine (spec_seGood.calls k _ _ l0 false _ ?side1 ?side2 A3.out).mono ?_); (case side1 => exact HR0.out); (case side2 => exact HC0.out); rintro e w' ⟨rfl, ⟨nd, rfl⟩⟩; refine ⟨_, rfl, ?_⟩))
  go_ret2
  exact ⟨by first | rfl | (simp; done) | (simp [*]; done), by repeat (first | exact Drawn0.refl _ | apply Drawn0.step)⟩

/-! ### impl_ProfileText: function 48 -/
mutual
def impl_ProfileText.j0 : Nat → List (List Int) → List Int → Bool → Option (ByteArray × Bool)
 | 0, _, _, _ => none
 | k + 1, x0, x1, x18 => if x18 = true then (some ((⟨#[]⟩ : ByteArray), false)) else (if 0 < (x0.length : Int) then (impl_ProfileText.l0 k x1 (([] : List Int)) ((rd_L1 x0 0).length : Int) 0) else (none))
def impl_ProfileText.l0 : Nat → List Int → List Int → Int → Int → Option (ByteArray × Bool)
 | 0, _, _, _, _ => none
 | k + 1, x1, x6, x23, x24 => if x24 < x23 then (impl_ProfileText.l1 k x1 x6 x24 x23 x24 x1 (x1.length : Int) 0) else (some (strOfNums x6, true))
def impl_ProfileText.l1 : Nat → List Int → List Int → Int → Int → Int → List Int → Int → Int → Option (ByteArray × Bool)
 | 0, _, _, _, _, _, _, _, _ => none
 | k + 1, x1, x6, x7, x23, x24, x27, x28, x29 => if x29 < x28 then (if 0 ≤ x29 then (if x29 < (x27.length : Int) then (if x7 < (rd x27 x29) then (if x6.length < 140737488355328 then (impl_ProfileText.l1 k x1 (x6 ++ [35]) x7 x23 x24 x27 x28 (wrap64 (x29 + 1))) else (none)) else (if x6.length < 140737488355328 then (impl_ProfileText.l1 k x1 (x6 ++ [46]) x7 x23 x24 x27 x28 (wrap64 (x29 + 1))) else (none))) else (none)) else (none)) else (if x6.length < 140737488355328 then (impl_ProfileText.l0 k x1 (x6 ++ [10]) x23 (wrap64 (x24 + 1))) else (none))
end
def impl_ProfileText.f (k : Nat) (l0 : List (List Int)) (l1 : List Int) : Option (ByteArray × Bool) := (impl_IsSection.f k l0).bind fun t417 => (if t417 = true then ((impl_isProfile.f k l0 l1).bind fun t418 => (impl_ProfileText.j0 k l0 l1 (!t418))) else (impl_ProfileText.j0 k l0 l1 true))
set_option maxHeartbeats 8000000 in
set_option maxRecDepth 100000 in
theorem impl_ProfileText.calls (k : Nat) (A0 : Option Addr) (c0 : Nat) (l0 : List (List Int)) (A1 : Option Addr) (c1 : Nat) (l1 : List Int) (r1 : ByteArray) (r2 : Bool) (w : World) (hr0 : Kd.C (Kd.slice 3 (Kd.int .i64)) w A0 l0.length l0) (hc0 : l0.length ≤ c0) (hr1 : Kd.C (Kd.int .i64) w A1 l1.length l1) (hc1 : l1.length ≤ c1) (h : impl_ProfileText.f k l0 l1 = some (r1, r2)) :
  Calls Try.prog 48 #[.slice A0 l0.length c0, .slice A1 l1.length c1] w fun e w' => e = .returned (.tuple #[.string r1, .bool r2]) ∧ Below w.heap.size w w' := by
 have HR0 := Aside0.mk hr0;have HC0 := Aside0.mk hc0;clear hr0 hc0;have HR1 := Aside0.mk hr1;have HC1 := Aside0.mk hc1;clear hr1 hc1;have HB := Aside0.mk (Below.refl w.heap.size w);have H : ((impl_IsSection.f k l0).bind fun t417 => (if t417 = true then ((impl_isProfile.f k l0 l1).bind fun t418 => (impl_ProfileText.j0 k l0 l1 (!t418))) else (impl_ProfileText.j0 k l0 l1 true))) = some (r1, r2) := h;clear h;have HC3 := Aside0.mk H;clear H
 go_enter Try.func48, Try.ntmps48
 go_upto_region 1 with (fail)
 go_cut [18] (fun v18 wc => ∃ (kq : Nat) (x18_2 : Bool), v18 = .bool x18_2 ∧ Aside0 (impl_ProfileText.j0 kq l0 l1 x18_2 = some (r1, r2)) ∧ Aside0 (kq ≤ k) ∧ Aside0 (Below w.heap.size w wc))
 case first =>
  have H := HC3.out;clear HC3;replace H := Option.bind_eq_some_iff.mp H;obtain ⟨t417, A40, H⟩ := H;replace H : (if t417 = true then ((impl_isProfile.f k l0 l1).bind fun t418 => (impl_ProfileText.j0 k l0 l1 (!t418))) else (impl_ProfileText.j0 k l0 l1 true)) = some (r1, r2) := H;have A4 := Aside0.mk A40;clear A40
  by_cases c5 : t417 = true
  ·subst c5;have H1 : ((impl_isProfile.f k l0 l1).bind fun t418 => (impl_ProfileText.j0 k l0 l1 (!t418))) = some (r1, r2) := by rw [if_pos rfl] at H; exact H
   clear H;have H := H1;clear H1;replace H := Option.bind_eq_some_iff.mp H;obtain ⟨t418, A60, H⟩ := H;replace H : (impl_ProfileText.j0 k l0 l1 (!t418)) = some (r1, r2) := H;have A6 := Aside0.mk A60;clear A60;have H' := Aside0.mk H;clear H
   go_wp2_with (first | ((with_reducible refine gate_callee (f := 42) rfl ?_); refine goesL_ (some 11) rfl rfl Try.func42 (by kernel_rfl) rfl #[.slice A0 l0.length c0] rfl (by (try simp only [List.map_toArray, List.map_cons, List.map_nil]); first | done | rfl | (simp only [List.length_drop, List.length_take]; rfl)) ?_; (with_reducible refine (impl_IsSection.calls k _ _ l0 true _ ?side1 ?side2 A4.out).mono ?_); (case side1 => repeat (first | exact (Kd.C_below HR0.out HB.out) | (with_reducible refine Kd.C_alloc ?_ _) | (with_reducible refine Kd.C_drewN ?_ _) | (with_reducible refine Kd.C_drew ?_))); (case side2 => exact HC0.out); rintro e w' ⟨rfl, ⟨nd, rfl⟩⟩; refine ⟨_, rfl, ?_⟩) | (go_at_call 89; (with_reducible refine (impl_isProfile.calls k _ _ l0 _ _ l1 t418 _ ?side1 ?side2 ?side3 ?side4 A6.out).mono ?_); (case side1 => repeat (first | exact (Kd.C_below HR0.out (by repeat (first | (with_reducible first | exact HB.out | apply below_alloc | apply pw_below_drewN | apply below_drew1) | exact HB.out))) | (with_reducible refine Kd.C_alloc ?_ _) | (with_reducible refine Kd.C_drewN ?_ _) | (with_reducible refine Kd.C_drew ?_))); (case side2 => exact HC0.out); (case side3 => repeat (first | exact (Kd.C_below HR1.out (by repeat (first | (with_reducible first | exact HB.out | apply below_alloc | apply pw_below_drewN | apply below_drew1) | exact HB.out))) | (with_reducible refine Kd.C_alloc ?_ _) | (with_reducible refine Kd.C_drewN ?_ _) | (with_reducible refine Kd.C_drew ?_))); (case side4 => exact HC1.out); rintro e w7 ⟨rfl, hb⟩; have n0_ := Aside0.mk (below_step (by repeat (first | (with_reducible first | exact HB.out | apply below_alloc | apply pw_below_drewN | apply below_drew1) | exact HB.out)) hb); clear HB; have HB := n0_; clear n0_; (try clear hb); (try clear hb2); (try clear hk); (try clear hi)))
   go_meet
   case rel => exact ⟨_, (!t418), (by first | rfl | (simp; done) | (simp [*]; done)), H', ⟨by first | omega | exact Nat.le_refl _⟩, ⟨HB.out⟩⟩
  ·replace c5 := Bool.eq_false_iff.mpr c5;subst c5;have H1 : (impl_ProfileText.j0 k l0 l1 true) = some (r1, r2) := by rw [if_neg (show ¬ (false = true) by decide)] at H; exact H
   clear H;have H := H1;clear H1;have H' := Aside0.mk H;clear H
   go_wp2_with (first | ((with_reducible refine gate_callee (f := 42) rfl ?_); refine goesL_ (some 11) rfl rfl Try.func42 (by kernel_rfl) rfl #[.slice A0 l0.length c0] rfl (by (try simp only [List.map_toArray, List.map_cons, List.map_nil]); first | done | rfl | (simp only [List.length_drop, List.length_take]; rfl)) ?_; (with_reducible refine (impl_IsSection.calls k _ _ l0 false _ ?side1 ?side2 A4.out).mono ?_); (case side1 => exact (Kd.C_below HR0.out HB.out)); (case side2 => exact HC0.out); rintro e w' ⟨rfl, ⟨nd, rfl⟩⟩; refine ⟨_, rfl, ?_⟩))
   go_meet
   case rel => exact ⟨_, (true), (by first | rfl | (simp; done) | (simp [*]; done)), H', ⟨by first | omega | exact Nat.le_refl _⟩, ⟨by repeat (first | (with_reducible first | exact HB.out | apply below_alloc | apply pw_below_drewN | apply below_drew1) | exact HB.out)⟩⟩
 case rest =>
  clear HC3;(try clear c1);(try clear p2);(try clear c4);(try clear c5);obtain ⟨kq, x18_2, rfl, HA, HJ2, HB⟩ := hcut;cases kq with
  | zero => exact absurd HA.out (by simp [impl_ProfileText.j0])
  | succ kj2 =>
   have H := HA.out;clear HA;simp only [impl_ProfileText.j0] at H
   by_cases c8 : x18_2 = true
   ·subst c8;have H1 : (some ((⟨#[]⟩ : ByteArray), false)) = some (r1, r2) := by rw [if_pos rfl] at H; exact H
    clear H;have H := H1;clear H1;simp only [Option.some.injEq, Prod.mk.injEq] at H;obtain ⟨rfl, rfl⟩ := H;go_wp2
    go_ret2
    exact ⟨by first | rfl | (simp [errW_none, errW_some] <;> rfl) | (simp [*, errW_none, errW_some] <;> rfl), HB.out⟩
   ·replace c8 := Bool.eq_false_iff.mpr c8;subst c8;have H1 : (if 0 < (l0.length : Int) then (impl_ProfileText.l0 kj2 l1 (([] : List Int)) ((rd_L1 l0 0).length : Int) 0) else (none)) = some (r1, r2) := by rw [if_neg (show ¬ (false = true) by decide)] at H; exact H
    clear H;have H := H1;clear H1;obtain ⟨y419, hy419⟩ : ∃ y_ : List Int, y_ = (([] : List Int)) := ⟨_, rfl⟩;replace H : (if 0 < (l0.length : Int) then (impl_ProfileText.l0 kj2 l1 y419 ((rd_L1 l0 0).length : Int) 0) else (none)) = some (r1, r2) := by first | (rw [hy419]; with_reducible exact H) | (have H2_ := (Option.bind_some _ _).symm.trans H; rw [hy419]; with_reducible exact H2_) | (have H2_ := (Option.bind_some _ _).symm.trans H; with_reducible exact H2_) | with_reducible exact H | (rw [hy419]; exact H) | exact H
    have Ny419 := Aside0.mk hy419;clear hy419
    by_cases c9 : 0 < (l0.length : Int)
    ·rw [if_pos c9] at H;have c9b0 := decide_eq_true c9;have c9b1 : decide (0 < l0.length) = true := decide_eq_true (by omega);clear c9;have H' := Aside0.mk H;clear H
     go_wp2_with (first | ((with_reducible refine gate_dst (N := 19) rfl ?_); refine Kd.R_lit (Kd.int .u8) _ 5 ?hg (N := 19) ?hd (xs := ([] : List Int)) (inner := []) (ok := fun _ => True) (okp := fun _ => True) ?hr ?hp (fun _ hk => hk) trivial (Below.refl _ _) (Nat.le_refl _) (by simp) ?_; (case hd => rfl); (case hg => rfl); (case hr => first | (go_simp; done) | (go_simp; rfl)); (case hp => exact (Reps.none _ _)); intro v420 w10 ho11 hb hg_ hnew_; clear hg_ hnew_; (first | rw [← Ny419.out] at ho11 | (simp only [Int.reduceToNat] at ho11; rw [← Ny419.out] at ho11)); have HO421 := Aside0.mk (Kd.R_lower ho11 (below_size HB.out)); replace HB := Aside0.mk (below_step HB.out hb); clear hb ho11; have p422 : 0 ≤ (0 : Int) := (by omega); have q422 : 0 < (l0.length : Int) := of_decide_eq_true (by first | (with_reducible assumption) | assumption); obtain ⟨ad422, A422_0, c422_0, e422, hx422_0, hl422_0, hi422_0⟩ := at_L1 HR0.out 0 p422 q422; cases e422; have qi422 : (0 < l0.length) = True := eq_true (by omega); (try rw [show ((0 : Int)).toNat = 0 from rfl] at hx422_0); (try rw [Addr.add_zero'] at hx422_0); replace hx422_0 := (HB.out.cell (World.block_lt_of_cell? w _ hx422_0)).trans hx422_0; have HR422_0 := Aside0.mk hi422_0; have HC422_0 := Aside0.mk hl422_0; clear hi422_0 hl422_0; replace p422 := eq_true p422; replace q422 := eq_true q422))
     go_loopg [6, 24] kj2 (fun kq v6 v24 w' => ∃ (x6_2 : List Int) (x24_2 : Int), v24 = .int .i64 x24_2 ∧ Aside0 (impl_ProfileText.l0 kq l1 x6_2 ((rd_L1 l0 0).length : Int) x24_2 = some (r1, r2)) ∧ Aside0 (kq ≤ kj2) ∧ Aside0 (Kd.R (Kd.int .u8) 5 w' w.heap.size (fun _ => True) v6 x6_2) ∧ Aside0 (Below w.heap.size w w'))
     case atStart => exact ⟨(y419), (0), (by first | rfl | (simp; done) | (simp [*]; done)), H', ⟨Nat.le_refl _⟩, ⟨by (with_reducible repeat (first | apply Kd.R_alloc | apply Kd.R_drewN | apply Kd.R_drew)); exact HO421.out⟩, ⟨HB.out⟩⟩
     case round =>
      clear H';(try clear c1);(try clear p2);(try clear c4);(try clear p4);(try clear q4);(try clear hx4);(try clear qi4);(try clear c5);(try clear c8);(try clear c9);(try clear c9b0);(try clear c9b1);(try clear hx422_0);(try clear p2);(try clear p422);(try clear q422);obtain ⟨x6_2, x24_2, rfl, HA, HK2, HO_6, HB⟩ := hrel;cases gk with
      | zero => exact absurd HA.out (by simp [impl_ProfileText.l0])
      | succ k2 =>
       have H := HA.out;clear HA;simp only [impl_ProfileText.l0] at H
       by_cases c12 : x24_2 < ((rd_L1 l0 0).length : Int)
       ·rw [if_pos c12] at H;have c12b0 := decide_eq_true c12;clear c12;have H' := Aside0.mk H;clear H;go_wp2
        go_loopg [6, 29] k2 (fun kq v6 v29 w' => ∃ (x6_3 : List Int) (x29_3 : Int), v29 = .int .i64 x29_3 ∧ Aside0 (impl_ProfileText.l1 kq l1 x6_3 x24_2 ((rd_L1 l0 0).length : Int) x24_2 l1 (l1.length : Int) x29_3 = some (r1, r2)) ∧ Aside0 (kq ≤ k2) ∧ Aside0 (Kd.R (Kd.int .u8) 5 w' w.heap.size (fun _ => True) v6 x6_3) ∧ Aside0 (Below w.heap.size w w'))
        case atStart => exact ⟨(x6_2), (0), (by first | rfl | (simp; done) | (simp [*]; done)), H', ⟨Nat.le_refl _⟩, ⟨by (with_reducible repeat (first | apply Kd.R_alloc | apply Kd.R_drewN | apply Kd.R_drew)); exact HO_6.out⟩, ⟨HB.out⟩⟩
        case round =>
         clear H';(try clear c1);(try clear p2);(try clear c4);(try clear p4);(try clear q4);(try clear hx4);(try clear qi4);(try clear c5);(try clear c8);(try clear c9);(try clear c9b0);(try clear c9b1);(try clear c12);(try clear c12b0);(try clear hx422_0);(try clear p2);(try clear p4);(try clear p422);(try clear q4);(try clear q422);obtain ⟨x6_3, x29_3, rfl, HA, HK3, HO_6, HB⟩ := hrel;cases gk with
         | zero => exact absurd HA.out (by simp [impl_ProfileText.l1])
         | succ k3 =>
          have H := HA.out;clear HA;simp only [impl_ProfileText.l1] at H
          by_cases c13 : x29_3 < (l1.length : Int)
          ·rw [if_pos c13] at H;have c13b0 := decide_eq_true c13;clear c13
           by_cases c14 : 0 ≤ x29_3
           ·rw [if_pos c14] at H;have c14b0 := decide_eq_true c14;clear c14
            by_cases c15 : x29_3 < (l1.length : Int)
            ·rw [if_pos c15] at H;have c15b0 := decide_eq_true c15;clear c15
             by_cases c16 : x24_2 < (rd l1 x29_3)
             ·rw [if_pos c16] at H;have c16b0 := decide_eq_true c16;clear c16
              by_cases c17 : x6_3.length < 140737488355328
              ·rw [if_pos c17] at H;have LMc17 := Aside0.mk c17;clear c17;obtain ⟨y424, hy424⟩ : ∃ y_ : List Int, y_ = (x6_3 ++ [35]) := ⟨_, rfl⟩;replace H : (impl_ProfileText.l1 k3 l1 y424 x24_2 ((rd_L1 l0 0).length : Int) x24_2 l1 (l1.length : Int) (wrap64 (x29_3 + 1))) = some (r1, r2) := by first | (rw [hy424]; with_reducible exact H) | (have H2_ := (Option.bind_some _ _).symm.trans H; rw [hy424]; with_reducible exact H2_) | (have H2_ := (Option.bind_some _ _).symm.trans H; with_reducible exact H2_) | with_reducible exact H | (rw [hy424]; exact H) | exact H
               have Ny424 := Aside0.mk hy424;clear hy424;have H' := Aside0.mk H;clear H;have p423 : 0 ≤ (x29_3 : Int) := of_decide_eq_true (by first | (with_reducible assumption) | assumption);have q423 : x29_3 < (l1.length : Int) := of_decide_eq_true (by first | (with_reducible assumption) | assumption);obtain ⟨ad423, e423, hx423_0⟩ := Kd.at_int HR1.out x29_3 p423 q423;cases e423;replace hx423_0 := (HB.out.cell (World.block_lt_of_cell? w _ hx423_0)).trans hx423_0;replace p423 := eq_true p423;replace q423 := eq_true q423
               go_wp2_with (first | ((with_reducible refine gate_builtin (b := .append) (xs := #[.tmp 36, .tmp 37]) rfl ?_); at_builtin; refine Kd.R_append (Kd.int .u8) (w0 := w) w.heap.size rfl (.tmp 36) (.tmp 37) 35 5 (.int .u8 0) 1 rfl Try.underlying35 info5 rfl (by decide) (by omega) u6 x6_3 35 [.int .u8 35] (fun _ => True) (fun _ => False) rfl rfl ?aP (fun _ hk => hk.elim) ?aF ?aO ?aB ?aS ?aL ?_; (case aP => exact rfl); (case aB => exact HB.out); (case aF => exact (fun _ _ => trivial)); (case aO => exact HO_6.out); (case aS => exact (below_size HB.out)); (case aL => have := LMc17.out; omega); intro v425 w18 ho hb hg hat; rw [← Ny424.out] at ho; have n0_ := Aside0.mk (hb); have n1_ := Aside0.mk (ho); clear HB; clear HO_6; have HB := n0_; have HO426 := n1_; clear n0_ n1_; clear ho hb hg hat))
               go_roundg k3
               case measure => have := HJ2.out; have := HK2.out; have := HK3.out; omega
               case rel => exact ⟨(y424), (wrap64 (x29_3 + 1)), (by first | rfl | (simp; done) | (simp [*]; done)), H', ⟨by have := HJ2.out; have := HK2.out; have := HK3.out; omega⟩, ⟨by (with_reducible repeat (first | apply Kd.R_alloc | apply Kd.R_drewN | apply Kd.R_drew)); exact HO426.out⟩, ⟨HB.out⟩⟩
              ·rw [if_neg c17] at H;exact absurd H (by simp)
             ·rw [if_neg c16] at H;have c16b0 := decide_eq_false c16;clear c16
              by_cases c19 : x6_3.length < 140737488355328
              ·rw [if_pos c19] at H;have LMc19 := Aside0.mk c19;clear c19;obtain ⟨y427, hy427⟩ : ∃ y_ : List Int, y_ = (x6_3 ++ [46]) := ⟨_, rfl⟩;replace H : (impl_ProfileText.l1 k3 l1 y427 x24_2 ((rd_L1 l0 0).length : Int) x24_2 l1 (l1.length : Int) (wrap64 (x29_3 + 1))) = some (r1, r2) := by first | (rw [hy427]; with_reducible exact H) | (have H2_ := (Option.bind_some _ _).symm.trans H; rw [hy427]; with_reducible exact H2_) | (have H2_ := (Option.bind_some _ _).symm.trans H; with_reducible exact H2_) | with_reducible exact H | (rw [hy427]; exact H) | exact H
               have Ny427 := Aside0.mk hy427;clear hy427;have H' := Aside0.mk H;clear H;have p423 : 0 ≤ (x29_3 : Int) := of_decide_eq_true (by first | (with_reducible assumption) | assumption);have q423 : x29_3 < (l1.length : Int) := of_decide_eq_true (by first | (with_reducible assumption) | assumption);obtain ⟨ad423, e423, hx423_0⟩ := Kd.at_int HR1.out x29_3 p423 q423;cases e423;replace hx423_0 := (HB.out.cell (World.block_lt_of_cell? w _ hx423_0)).trans hx423_0;replace p423 := eq_true p423;replace q423 := eq_true q423
               go_wp2_with (first | ((with_reducible refine gate_builtin (b := .append) (xs := #[.tmp 39, .tmp 40]) rfl ?_); at_builtin; refine Kd.R_append (Kd.int .u8) (w0 := w) w.heap.size rfl (.tmp 39) (.tmp 40) 35 5 (.int .u8 0) 1 rfl Try.underlying35 info5 rfl (by decide) (by omega) u6 x6_3 46 [.int .u8 46] (fun _ => True) (fun _ => False) rfl rfl ?aP (fun _ hk => hk.elim) ?aF ?aO ?aB ?aS ?aL ?_; (case aP => exact rfl); (case aB => exact HB.out); (case aF => exact (fun _ _ => trivial)); (case aO => exact HO_6.out); (case aS => exact (below_size HB.out)); (case aL => have := LMc19.out; omega); intro v428 w20 ho hb hg hat; rw [← Ny427.out] at ho; have n0_ := Aside0.mk (hb); have n1_ := Aside0.mk (ho); clear HB; clear HO_6; have HB := n0_; have HO429 := n1_; clear n0_ n1_; clear ho hb hg hat))
               go_roundg k3
               case measure => have := HJ2.out; have := HK2.out; have := HK3.out; omega
               case rel => exact ⟨(y427), (wrap64 (x29_3 + 1)), (by first | rfl | (simp; done) | (simp [*]; done)), H', ⟨by have := HJ2.out; have := HK2.out; have := HK3.out; omega⟩, ⟨by (with_reducible repeat (first | apply Kd.R_alloc | apply Kd.R_drewN | apply Kd.R_drew)); exact HO429.out⟩, ⟨HB.out⟩⟩
              ·rw [if_neg c19] at H;exact absurd H (by simp)
            ·rw [if_neg c15] at H;exact absurd H (by simp)
           ·rw [if_neg c14] at H;exact absurd H (by simp)
          ·rw [if_neg c13] at H;have c13b0 := decide_eq_false c13;clear c13
           by_cases c21 : x6_3.length < 140737488355328
           ·rw [if_pos c21] at H;have LMc21 := Aside0.mk c21;clear c21;obtain ⟨y430, hy430⟩ : ∃ y_ : List Int, y_ = (x6_3 ++ [10]) := ⟨_, rfl⟩;replace H : (impl_ProfileText.l0 k3 l1 y430 ((rd_L1 l0 0).length : Int) (wrap64 (x24_2 + 1))) = some (r1, r2) := by first | (rw [hy430]; with_reducible exact H) | (have H2_ := (Option.bind_some _ _).symm.trans H; rw [hy430]; with_reducible exact H2_) | (have H2_ := (Option.bind_some _ _).symm.trans H; with_reducible exact H2_) | with_reducible exact H | (rw [hy430]; exact H) | exact H
            have Ny430 := Aside0.mk hy430;clear hy430;have H' := Aside0.mk H;clear H
            go_wp2_with (first | ((with_reducible refine gate_builtin (b := .append) (xs := #[.tmp 43, .tmp 44]) rfl ?_); at_builtin; refine Kd.R_append (Kd.int .u8) (w0 := w) w.heap.size rfl (.tmp 43) (.tmp 44) 35 5 (.int .u8 0) 1 rfl Try.underlying35 info5 rfl (by decide) (by omega) u6 x6_3 10 [.int .u8 10] (fun _ => True) (fun _ => False) rfl rfl ?aP (fun _ hk => hk.elim) ?aF ?aO ?aB ?aS ?aL ?_; (case aP => exact rfl); (case aB => exact HB.out); (case aF => exact (fun _ _ => trivial)); (case aO => exact HO_6.out); (case aS => exact (below_size HB.out)); (case aL => have := LMc21.out; omega); intro v431 w22 ho hb hg hat; rw [← Ny430.out] at ho; have n0_ := Aside0.mk (hb); have n1_ := Aside0.mk (ho); clear HB; clear HO_6; have HB := n0_; have HO432 := n1_; clear n0_ n1_; clear ho hb hg hat))
            go_roundg k3
            case measure => have := HJ2.out; have := HK2.out; have := HK3.out; omega
            case rel => exact ⟨(y430), (wrap64 (x24_2 + 1)), (by first | rfl | (simp; done) | (simp [*]; done)), H', ⟨by have := HJ2.out; have := HK2.out; have := HK3.out; omega⟩, ⟨by (with_reducible repeat (first | apply Kd.R_alloc | apply Kd.R_drewN | apply Kd.R_drew)); exact HO432.out⟩, ⟨HB.out⟩⟩
           ·rw [if_neg c21] at H;exact absurd H (by simp)
       ·rw [if_neg c12] at H;have c12b0 := decide_eq_false c12;clear c12;simp only [Option.some.injEq, Prod.mk.injEq] at H;obtain ⟨rfl, rfl⟩ := H;have hcv23 := own_string (P := Try.prog) Try.underlying35 Try.underlying5 Try.underlying9 (Kd.own_of_R HO_6.out);go_wp2
        go_ret2
        exact ⟨by first | rfl | (simp [errW_none, errW_some] <;> rfl) | (simp [*, errW_none, errW_some] <;> rfl), HB.out⟩
    ·rw [if_neg c9] at H;exact absurd H (by simp)

/-! ### spec_ProfileText: function 49 -/
mutual
def spec_ProfileText.j0 : Nat → List (List Int) → List Int → Bool → Option (ByteArray × Bool)
 | 0, _, _, _ => none
 | k + 1, x0, x1, x18 => if x18 = true then (some ((⟨#[]⟩ : ByteArray), false)) else (if 0 < (x0.length : Int) then (spec_ProfileText.l0 k x1 (⟨#[]⟩ : ByteArray) ((rd_L1 x0 0).length : Int) 0) else (none))
def spec_ProfileText.l0 : Nat → List Int → ByteArray → Int → Int → Option (ByteArray × Bool)
 | 0, _, _, _, _ => none
 | k + 1, x1, x6, x22, x23 => if x23 < x22 then (spec_ProfileText.l1 k x1 x6 x23 x22 x23 x1 (x1.length : Int) 0) else (some (x6, true))
def spec_ProfileText.l1 : Nat → List Int → ByteArray → Int → Int → Int → List Int → Int → Int → Option (ByteArray × Bool)
 | 0, _, _, _, _, _, _, _, _ => none
 | k + 1, x1, x6, x7, x22, x23, x26, x27, x28 => if x28 < x27 then (if 0 ≤ x28 then (if x28 < (x26.length : Int) then (if x7 < (rd x26 x28) then (if x6.size + 1 ≤ 9223372036854775807 then (spec_ProfileText.l1 k x1 (x6 ++ (⟨#[35]⟩ : ByteArray)) x7 x22 x23 x26 x27 (wrap64 (x28 + 1))) else (none)) else (if x6.size + 1 ≤ 9223372036854775807 then (spec_ProfileText.l1 k x1 (x6 ++ (⟨#[46]⟩ : ByteArray)) x7 x22 x23 x26 x27 (wrap64 (x28 + 1))) else (none))) else (none)) else (none)) else (if x6.size + 1 ≤ 9223372036854775807 then (spec_ProfileText.l0 k x1 (x6 ++ (⟨#[10]⟩ : ByteArray)) x22 (wrap64 (x23 + 1))) else (none))
end
def spec_ProfileText.f (k : Nat) (l0 : List (List Int)) (l1 : List Int) : Option (ByteArray × Bool) := (spec_seGood.f k l0).bind fun t433 => (if t433 = true then ((spec_seProfile.f k l0 l1).bind fun t434 => (spec_ProfileText.j0 k l0 l1 (!t434))) else (spec_ProfileText.j0 k l0 l1 true))
set_option maxHeartbeats 8000000 in
set_option maxRecDepth 100000 in
theorem spec_ProfileText.calls (k : Nat) (A0 : Option Addr) (c0 : Nat) (l0 : List (List Int)) (A1 : Option Addr) (c1 : Nat) (l1 : List Int) (r1 : ByteArray) (r2 : Bool) (w : World) (hr0 : Kd.C (Kd.slice 3 (Kd.int .i64)) w A0 l0.length l0) (hc0 : l0.length ≤ c0) (hr1 : Kd.C (Kd.int .i64) w A1 l1.length l1) (hc1 : l1.length ≤ c1) (h : spec_ProfileText.f k l0 l1 = some (r1, r2)) :
  Calls Try.prog 49 #[.slice A0 l0.length c0, .slice A1 l1.length c1] w fun e w' => e = .returned (.tuple #[.string r1, .bool r2]) ∧ Drawn0 w w' := by
 have HR0 := Aside0.mk hr0;have HC0 := Aside0.mk hc0;clear hr0 hc0;have HR1 := Aside0.mk hr1;have HC1 := Aside0.mk hc1;clear hr1 hc1;have H : ((spec_seGood.f k l0).bind fun t433 => (if t433 = true then ((spec_seProfile.f k l0 l1).bind fun t434 => (spec_ProfileText.j0 k l0 l1 (!t434))) else (spec_ProfileText.j0 k l0 l1 true))) = some (r1, r2) := h;clear h;have HC3 := Aside0.mk H;clear H
 go_enter Try.func49, Try.ntmps49
 go_upto_region 1 with (fail)
 go_cut [18] (fun v18 wc => ∃ (kq : Nat) (x18_2 : Bool), v18 = .bool x18_2 ∧ Aside0 (spec_ProfileText.j0 kq l0 l1 x18_2 = some (r1, r2)) ∧ Aside0 (kq ≤ k) ∧ Drawn0 w wc)
 case first =>
  have H := HC3.out;clear HC3;replace H := Option.bind_eq_some_iff.mp H;obtain ⟨t433, A40, H⟩ := H;replace H : (if t433 = true then ((spec_seProfile.f k l0 l1).bind fun t434 => (spec_ProfileText.j0 k l0 l1 (!t434))) else (spec_ProfileText.j0 k l0 l1 true)) = some (r1, r2) := H;have A4 := Aside0.mk A40;clear A40
  by_cases c5 : t433 = true
  ·subst c5;have H1 : ((spec_seProfile.f k l0 l1).bind fun t434 => (spec_ProfileText.j0 k l0 l1 (!t434))) = some (r1, r2) := by rw [if_pos rfl] at H; exact H
   clear H;have H := H1;clear H1;replace H := Option.bind_eq_some_iff.mp H;obtain ⟨t434, A60, H⟩ := H;replace H : (spec_ProfileText.j0 k l0 l1 (!t434)) = some (r1, r2) := H;have A6 := Aside0.mk A60;clear A60;have H' := Aside0.mk H;clear H
   go_wp2_with (first | ((with_reducible refine gate_callee (f := 77) rfl ?_); refine goesL_ (some 11) rfl rfl Try.func77 (by kernel_rfl) rfl #[.slice A0 l0.length c0] rfl (by (try simp only [List.map_toArray, List.map_cons, List.map_nil]); first | done | rfl | (simp only [List.length_drop, List.length_take]; rfl)) ?_; (with_reducible refine (spec_seGood.calls k _ _ l0 true _ ?side1 ?side2 A4.out).mono ?_); (case side1 => exact HR0.out); (case side2 => exact HC0.out); rintro e w' ⟨rfl, ⟨nd, rfl⟩⟩; refine ⟨_, rfl, ?_⟩) | (go_at_call 97; (with_reducible refine (spec_seProfile.calls k _ _ l0 _ _ l1 t434 _ ?side1 ?side2 ?side3 ?side4 A6.out).mono ?_); (case side1 => exact HR0.out); (case side2 => exact HC0.out); (case side3 => exact HR1.out); (case side4 => exact HC1.out); rintro e w' ⟨rfl, ⟨nd, rfl⟩⟩))
   go_meet
   case rel => exact ⟨_, (!t434), (by first | rfl | (simp; done) | (simp [*]; done)), H', ⟨by first | omega | exact Nat.le_refl _⟩, by repeat (first | exact Drawn0.refl _ | apply Drawn0.step)⟩
  ·replace c5 := Bool.eq_false_iff.mpr c5;subst c5;have H1 : (spec_ProfileText.j0 k l0 l1 true) = some (r1, r2) := by rw [if_neg (show ¬ (false = true) by decide)] at H; exact H
   clear H;have H := H1;clear H1;have H' := Aside0.mk H;clear H
   go_wp2_with (first | ((with_reducible refine gate_callee (f := 77) rfl ?_); refine goesL_ (some 11) rfl rfl Try.func77 (by kernel_rfl) rfl #[.slice A0 l0.length c0] rfl (by (try simp only [List.map_toArray, List.map_cons, List.map_nil]); first | done | rfl | (simp only [List.length_drop, List.length_take]; rfl)) ?_; (with_reducible refine (spec_seGood.calls k _ _ l0 false _ ?side1 ?side2 A4.out).mono ?_); (case side1 => exact HR0.out); (case side2 => exact HC0.out); rintro e w' ⟨rfl, ⟨nd, rfl⟩⟩; refine ⟨_, rfl, ?_⟩))
   go_meet
   case rel => exact ⟨_, (true), (by first | rfl | (simp; done) | (simp [*]; done)), H', ⟨by first | omega | exact Nat.le_refl _⟩, by repeat (first | exact Drawn0.refl _ | apply Drawn0.step)⟩
 case rest =>
  clear HC3;(try clear c1);(try clear p2);(try clear c4);(try clear c5);obtain ⟨kq, x18_2, rfl, HA, HJ2, ⟨mc2, rfl⟩⟩ := hcut;cases kq with
  | zero => exact absurd HA.out (by simp [spec_ProfileText.j0])
  | succ kj2 =>
   have H := HA.out;clear HA;simp only [spec_ProfileText.j0] at H
   by_cases c7 : x18_2 = true
   ·subst c7;have H1 : (some ((⟨#[]⟩ : ByteArray), false)) = some (r1, r2) := by rw [if_pos rfl] at H; exact H
    clear H;have H := H1;clear H1;simp only [Option.some.injEq, Prod.mk.injEq] at H;obtain ⟨rfl, rfl⟩ := H;go_wp2
    go_ret2
    exact ⟨by first | rfl | (simp; done) | (simp [*]; done), by repeat (first | exact Drawn0.refl _ | apply Drawn0.step)⟩
   ·replace c7 := Bool.eq_false_iff.mpr c7;subst c7;have H1 : (if 0 < (l0.length : Int) then (spec_ProfileText.l0 kj2 l1 (⟨#[]⟩ : ByteArray) ((rd_L1 l0 0).length : Int) 0) else (none)) = some (r1, r2) := by rw [if_neg (show ¬ (false = true) by decide)] at H; exact H
    clear H;have H := H1;clear H1
    by_cases c8 : 0 < (l0.length : Int)
    ·rw [if_pos c8] at H;have c8b0 := decide_eq_true c8;have c8b1 : decide (0 < l0.length) = true := decide_eq_true (by omega);clear c8;have H' := Aside0.mk H;clear H;have p435 : 0 ≤ (0 : Int) := (by omega);have q435 : 0 < (l0.length : Int) := of_decide_eq_true (by first | (with_reducible assumption) | assumption);obtain ⟨ad435, A435_0, c435_0, e435, hx435_0, hl435_0, hi435_0⟩ := at_L1 HR0.out 0 p435 q435;cases e435;have qi435 : (0 < l0.length) = True := eq_true (by omega)
     (try rw [show ((0 : Int)).toNat = 0 from rfl] at hx435_0)
     (try rw [Addr.add_zero'] at hx435_0)
     have HR435_0 := Aside0.mk hi435_0;have HC435_0 := Aside0.mk hl435_0;clear hi435_0 hl435_0;replace p435 := eq_true p435;replace q435 := eq_true q435;go_wp2
     go_loopg [6, 23] kj2 (fun kq v6 v23 w' => ∃ (x6_2 : ByteArray) (x23_2 : Int), v6 = .string x6_2 ∧ v23 = .int .i64 x23_2 ∧ Aside0 (spec_ProfileText.l0 kq l1 x6_2 ((rd_L1 l0 0).length : Int) x23_2 = some (r1, r2)) ∧ Aside0 (kq ≤ kj2) ∧ Drawn0 w w')
     case atStart => exact ⟨((⟨#[]⟩ : ByteArray)), (0), (by first | rfl | (simp; done) | (simp [*]; done)), (by first | rfl | (simp; done) | (simp [*]; done)), H', ⟨Nat.le_refl _⟩, by repeat (first | exact Drawn0.refl _ | apply Drawn0.step)⟩
     case round =>
      clear H';(try clear c1);(try clear c2);(try clear p2);(try clear c4);(try clear p4);(try clear q4);(try clear hx4);(try clear qi4);(try clear c5);(try clear c7);(try clear c8);(try clear c8b0);(try clear c8b1);(try clear hx435_0);(try clear p2);(try clear p435);(try clear q435);obtain ⟨x6_2, x23_2, rfl, rfl, HA, HK2, ⟨m2, rfl⟩⟩ := hrel;cases gk with
      | zero => exact absurd HA.out (by simp [spec_ProfileText.l0])
      | succ k2 =>
       have H := HA.out;clear HA;simp only [spec_ProfileText.l0] at H
       by_cases c9 : x23_2 < ((rd_L1 l0 0).length : Int)
       ·rw [if_pos c9] at H;have c9b0 := decide_eq_true c9;clear c9;have H' := Aside0.mk H;clear H;go_wp2
        go_loopg [6, 28] k2 (fun kq v6 v28 w' => ∃ (x6_3 : ByteArray) (x28_3 : Int), v6 = .string x6_3 ∧ v28 = .int .i64 x28_3 ∧ Aside0 (spec_ProfileText.l1 kq l1 x6_3 x23_2 ((rd_L1 l0 0).length : Int) x23_2 l1 (l1.length : Int) x28_3 = some (r1, r2)) ∧ Aside0 (kq ≤ k2) ∧ Drawn0 w w')
        case atStart => exact ⟨(x6_2), (0), (by first | rfl | (simp; done) | (simp [*]; done)), (by first | rfl | (simp; done) | (simp [*]; done)), H', ⟨Nat.le_refl _⟩, by repeat (first | exact Drawn0.refl _ | apply Drawn0.step)⟩
        case round =>
         clear H';(try clear c1);(try clear c2);(try clear p2);(try clear c4);(try clear p4);(try clear q4);(try clear hx4);(try clear qi4);(try clear c5);(try clear c7);(try clear c8);(try clear c8b0);(try clear c8b1);(try clear c9);(try clear c9b0);(try clear hx435_0);(try clear p2);(try clear p4);(try clear p435);(try clear q4);(try clear q435);obtain ⟨x6_3, x28_3, rfl, rfl, HA, HK3, ⟨m3, rfl⟩⟩ := hrel;cases gk with
         | zero => exact absurd HA.out (by simp [spec_ProfileText.l1])
         | succ k3 =>
          have H := HA.out;clear HA;simp only [spec_ProfileText.l1] at H
          by_cases c10 : x28_3 < (l1.length : Int)
          ·rw [if_pos c10] at H;have c10b0 := decide_eq_true c10;clear c10
           by_cases c11 : 0 ≤ x28_3
           ·rw [if_pos c11] at H;have c11b0 := decide_eq_true c11;clear c11
            by_cases c12 : x28_3 < (l1.length : Int)
            ·rw [if_pos c12] at H;have c12b0 := decide_eq_true c12;clear c12
             by_cases c13 : x23_2 < (rd l1 x28_3)
             ·rw [if_pos c13] at H;have c13b0 := decide_eq_true c13;clear c13
              by_cases c14 : x6_3.size + 1 ≤ 9223372036854775807
              ·rw [if_pos c14] at H;have c14b0 := eq_true c14;have c14b1 := decide_eq_true c14
               try have c14b2 : (9223372036854775807 < x6_3.size + 1) = False := eq_false (Nat.not_lt.2 c14)
               have H' := Aside0.mk H;clear H;have p436 : 0 ≤ (x28_3 : Int) := of_decide_eq_true (by first | (with_reducible assumption) | assumption);have q436 : x28_3 < (l1.length : Int) := of_decide_eq_true (by first | (with_reducible assumption) | assumption);obtain ⟨ad436, e436, hx436_0⟩ := Kd.at_int HR1.out x28_3 p436 q436;cases e436;replace p436 := eq_true p436;replace q436 := eq_true q436;go_wp2
               go_roundg k3
               case measure => have := HJ2.out; have := HK2.out; have := HK3.out; omega
               case rel => exact ⟨(x6_3 ++ (⟨#[35]⟩ : ByteArray)), (wrap64 (x28_3 + 1)), (by first | rfl | (simp; done) | (simp [*]; done)), (by first | rfl | (simp; done) | (simp [*]; done)), H', ⟨by have := HJ2.out; have := HK2.out; have := HK3.out; omega⟩, by repeat (first | exact Drawn0.refl _ | apply Drawn0.step)⟩
              ·rw [if_neg c14] at H;exact absurd H (by simp)
             ·rw [if_neg c13] at H;have c13b0 := decide_eq_false c13;clear c13
              by_cases c15 : x6_3.size + 1 ≤ 9223372036854775807
              ·rw [if_pos c15] at H;have c15b0 := eq_true c15;have c15b1 := decide_eq_true c15
               try have c15b2 : (9223372036854775807 < x6_3.size + 1) = False := eq_false (Nat.not_lt.2 c15)
               have H' := Aside0.mk H;clear H;have p436 : 0 ≤ (x28_3 : Int) := of_decide_eq_true (by first | (with_reducible assumption) | assumption);have q436 : x28_3 < (l1.length : Int) := of_decide_eq_true (by first | (with_reducible assumption) | assumption);obtain ⟨ad436, e436, hx436_0⟩ := Kd.at_int HR1.out x28_3 p436 q436;cases e436;replace p436 := eq_true p436;replace q436 := eq_true q436;go_wp2
               go_roundg k3
               case measure => have := HJ2.out; have := HK2.out; have := HK3.out; omega
               case rel => exact ⟨(x6_3 ++ (⟨#[46]⟩ : ByteArray)), (wrap64 (x28_3 + 1)), (by first | rfl | (simp; done) | (simp [*]; done)), (by first | rfl | (simp; done) | (simp [*]; done)), H', ⟨by have := HJ2.out; have := HK2.out; have := HK3.out; omega⟩, by repeat (first | exact Drawn0.refl _ | apply Drawn0.step)⟩
              ·rw [if_neg c15] at H;exact absurd H (by simp)
            ·rw [if_neg c12] at H;exact absurd H (by simp)
           ·rw [if_neg c11] at H;exact absurd H (by simp)
          ·rw [if_neg c10] at H;have c10b0 := decide_eq_false c10;clear c10
           by_cases c16 : x6_3.size + 1 ≤ 9223372036854775807
           ·rw [if_pos c16] at H;have c16b0 := eq_true c16;have c16b1 := decide_eq_true c16
            try have c16b2 : (9223372036854775807 < x6_3.size + 1) = False := eq_false (Nat.not_lt.2 c16)
            have H' := Aside0.mk H;clear H;go_wp2
            go_roundg k3
            case measure => have := HJ2.out; have := HK2.out; have := HK3.out; omega
            case rel => exact ⟨(x6_3 ++ (⟨#[10]⟩ : ByteArray)), (wrap64 (x23_2 + 1)), (by first | rfl | (simp; done) | (simp [*]; done)), (by first | rfl | (simp; done) | (simp [*]; done)), H', ⟨by have := HJ2.out; have := HK2.out; have := HK3.out; omega⟩, by repeat (first | exact Drawn0.refl _ | apply Drawn0.step)⟩
           ·rw [if_neg c16] at H;exact absurd H (by simp)
       ·rw [if_neg c9] at H;have c9b0 := decide_eq_false c9;clear c9;simp only [Option.some.injEq, Prod.mk.injEq] at H;obtain ⟨rfl, rfl⟩ := H;go_wp2
        go_ret2
        exact ⟨by first | rfl | (simp; done) | (simp [*]; done), by repeat (first | exact Drawn0.refl _ | apply Drawn0.step)⟩
    ·rw [if_neg c8] at H;exact absurd H (by simp)

/-! ### spec_IsProfile: function 51 -/
def spec_IsProfile.f (k : Nat) (l0 : List (List Int)) (l1 : List Int) : Option (Bool × Bool) := (spec_seGood.f k l0).bind fun t437 => (if t437 = true then ((spec_seProfile.f k l0 l1).bind fun t438 => (some (t438, true))) else (some (false, false)))
set_option maxHeartbeats 8000000 in
set_option maxRecDepth 100000 in
theorem spec_IsProfile.calls (k : Nat) (A0 : Option Addr) (c0 : Nat) (l0 : List (List Int)) (A1 : Option Addr) (c1 : Nat) (l1 : List Int) (r1 : Bool) (r2 : Bool) (w : World) (hr0 : Kd.C (Kd.slice 3 (Kd.int .i64)) w A0 l0.length l0) (hc0 : l0.length ≤ c0) (hr1 : Kd.C (Kd.int .i64) w A1 l1.length l1) (hc1 : l1.length ≤ c1) (h : spec_IsProfile.f k l0 l1 = some (r1, r2)) :
  Calls Try.prog 51 #[.slice A0 l0.length c0, .slice A1 l1.length c1] w fun e w' => e = .returned (.tuple #[.bool r1, .bool r2]) ∧ Drawn0 w w' := by
 have HR0 := Aside0.mk hr0;have HC0 := Aside0.mk hc0;clear hr0 hc0;have HR1 := Aside0.mk hr1;have HC1 := Aside0.mk hc1;clear hr1 hc1;have H : ((spec_seGood.f k l0).bind fun t437 => (if t437 = true then ((spec_seProfile.f k l0 l1).bind fun t438 => (some (t438, true))) else (some (false, false)))) = some (r1, r2) := h;clear h;replace H := Option.bind_eq_some_iff.mp H;obtain ⟨t437, A30, H⟩ := H;replace H : (if t437 = true then ((spec_seProfile.f k l0 l1).bind fun t438 => (some (t438, true))) else (some (false, false))) = some (r1, r2) := H;have A3 := Aside0.mk A30;clear A30
 by_cases c4 : t437 = true
 ·subst c4;have H1 : ((spec_seProfile.f k l0 l1).bind fun t438 => (some (t438, true))) = some (r1, r2) := by rw [if_pos rfl] at H; exact H
  clear H;have H := H1;clear H1;replace H := Option.bind_eq_some_iff.mp H;obtain ⟨t438, A50, H⟩ := H;replace H : (some (t438, true)) = some (r1, r2) := H;have A5 := Aside0.mk A50;clear A50;simp only [Option.some.injEq, Prod.mk.injEq] at H;obtain ⟨rfl, rfl⟩ := H
  go_enter Try.func51, Try.ntmps51
  go_wp2_with (first | ((with_reducible refine gate_callee (f := 77) rfl ?_); refine goesL_ (some 7) rfl rfl Try.func77 (by kernel_rfl) rfl #[.slice A0 l0.length c0] rfl (by (try simp only [List.map_toArray, List.map_cons, List.map_nil]); first | done | rfl | (simp only [List.length_drop, List.length_take]; rfl)) ?_; (with_reducible refine (spec_seGood.calls k _ _ l0 true _ ?side1 ?side2 A3.out).mono ?_); (case side1 => exact HR0.out); (case side2 => exact HC0.out); rintro e w' ⟨rfl, ⟨nd, rfl⟩⟩; refine ⟨_, rfl, ?_⟩) | ((with_reducible refine gate_callee (f := 97) rfl ?_); refine goesL_ (some 11) rfl rfl Try.func97 (by kernel_rfl) rfl #[.slice A0 l0.length c0, .slice A1 l1.length c1] rfl (by (try simp only [List.map_toArray, List.map_cons, List.map_nil]); first | done | rfl | (simp only [List.length_drop, List.length_take]; rfl)) ?_; (with_reducible refine (spec_seProfile.calls k _ _ l0 _ _ l1 t438 _ ?side1 ?side2 ?side3 ?side4 A5.out).mono ?_); (case side1 => exact HR0.out); (case side2 => exact HC0.out); (case side3 => exact HR1.out); (case side4 => exact HC1.out); rintro e w' ⟨rfl, ⟨nd, rfl⟩⟩; refine ⟨_, rfl, ?_⟩))
  go_ret2
  exact ⟨by first | rfl | (simp; done) | (simp [*]; done), by repeat (first | exact Drawn0.refl _ | apply Drawn0.step)⟩
 ·replace c4 := Bool.eq_false_iff.mpr c4;subst c4;have H1 : (some (false, false)) = some (r1, r2) := by rw [if_neg (show ¬ (false = true) by decide)] at H; exact H
  clear H;have H := H1;clear H1;simp only [Option.some.injEq, Prod.mk.injEq] at H;obtain ⟨rfl, rfl⟩ := H
  go_enter Try.func51, Try.ntmps51
  go_wp2_with (first | ((with_reducible refine gate_callee (f := 77) rfl ?_); refine goesL_ (some 7) rfl rfl Try.func77 (by kernel_rfl) rfl #[.slice A0 l0.length c0] rfl (by (try simp only [List.map_toArray, List.map_cons, List.map_nil]); first | done | rfl | (simp only [List.length_drop, List.length_take]; rfl)) ?_; (with_reducible refine (spec_seGood.calls k _ _ l0 false _ ?side1 ?side2 A3.out).mono ?_); (case side1 => exact HR0.out); (case side2 => exact HC0.out); rintro e w' ⟨rfl, ⟨nd, rfl⟩⟩; refine ⟨_, rfl, ?_⟩))
  go_ret2
  exact ⟨by first | rfl | (simp; done) | (simp [*]; done), by repeat (first | exact Drawn0.refl _ | apply Drawn0.step)⟩

end Go.Proofs.Ytdipbpckmcmljaa.PFnProfiles

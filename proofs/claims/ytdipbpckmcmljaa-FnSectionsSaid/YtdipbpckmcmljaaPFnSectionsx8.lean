-- Printed by a changed copy of the printer
import Derived.Test.YtdipbpckmcmljaaPFnSectionsx0
import Derived.Test.YtdipbpckmcmljaaPFnSectionsx1
import Derived.Test.YtdipbpckmcmljaaPFnSectionsx6
import Derived.Test.YtdipbpckmcmljaaPFnSectionsx7
namespace Go.Proofs.Ytdipbpckmcmljaa.PFnSections
open Go.RowKit Go.Proofs.YtdipbpckmcmljaaW.PrintWords Go.Proofs.YtdipbpckmcmljaaW.PrintLast Go.Proofs.YtdipbpckmcmljaaW.PrintMore
attribute [local go_sem] max2_int min2_int max_two min_two max_three min_three max_four min_four   -- for this text's walks alone
set_option linter.unusedVariables false
set_option linter.unusedSimpArgs false

/-! ### impl_LeastProfile: function 29 -/
mutual
def impl_LeastProfile.j0 : Nat → List Int → Bool → Option (List Int × Bool)
 | 0, _, _ => none
 | k + 1, x1, x18 => if x18 = true then (some (([] : List Int), false)) else ((some (([] : List Int) : List Int)).bind fun y342 => (if y342.length + x1.length < 17592186044416 then ((some (y342 ++ x1 : List Int)).bind fun y345 => (impl_LeastProfile.l0 k x1 y345 (y345.length : Int) 0)) else (none)))
def impl_LeastProfile.l0 : Nat → List Int → List Int → Int → Int → Option (List Int × Bool)
 | 0, _, _, _, _ => none
 | k + 1, x1, x6, x23, x24 => if x24 < x23 then (impl_LeastProfile.l1 k x1 x6 x24 x23 x24 x1 (x1.length : Int) 0) else (some (x6, true))
def impl_LeastProfile.l1 : Nat → List Int → List Int → Int → Int → Int → List Int → Int → Int → Option (List Int × Bool)
 | 0, _, _, _, _, _, _, _, _ => none
 | k + 1, x1, x6, x7, x23, x24, x27, x28, x29 => if x29 < x28 then (if 0 ≤ x29 then (if x29 < (x27.length : Int) then (if 0 ≤ x7 then (if x7 < (x6.length : Int) then ((impl_abs.f (wrap64 (x7 - x29))).bind fun t350 => (impl_LeastProfile.l1 k x1 (x6.set (x7 : Int).toNat (mx (rd x6 x7) (wrap64 ((rd x27 x29) - t350)))) x7 x23 x24 x27 x28 (wrap64 (x29 + 1)))) else (none)) else (none)) else (none)) else (none)) else (impl_LeastProfile.l0 k x1 x6 x23 (wrap64 (x24 + 1)))
end
def impl_LeastProfile.f (k : Nat) (l0 : List (List Int)) (l1 : List Int) : Option (List Int × Bool) := (impl_IsSection.f k l0).bind fun t340 => (if t340 = true then ((impl_areDepths.f k l0 l1).bind fun t341 => (impl_LeastProfile.j0 k l1 (!t341))) else (impl_LeastProfile.j0 k l1 true))
def impl_LeastProfile.T10 : Bool × List (List Nat × List Nat) := (true, [([], []), ([], []), ([], []), ([], []), ([2, 3], [2, 3]), ([4], [4]), ([], []), ([], []), ([], []), ([7, 8], [7, 8]), ([9], [9]), ([6, 10], [6, 10]), ([5, 11], [5, 11]), ([0, 1, 0, 1, 2, 3, 4, 5, 6, 7, 8, 9, 10, 11, 12], [0, 1]), ([13, 12, 10, 0, 1, 2, 3, 4, 5, 6, 7, 8, 9, 10, 11, 12], [12, 13])])
def impl_LeastProfile.B10 : List Nat := [0, 0, 0, 0, 12, 28, 0, 0, 0, 384, 896, 1984, 4092, 8191, 16383]
theorem impl_LeastProfile.tab10 : rtab .any (opsOf Try.f29 10) = impl_LeastProfile.T10 := by kernel_rfl
theorem impl_LeastProfile.bits10 : waitsOk impl_LeastProfile.T10.2 impl_LeastProfile.B10 = true := by kernel_rfl
set_option maxHeartbeats 8000000 in
set_option maxRecDepth 100000 in
theorem impl_LeastProfile.calls (k : Nat) (A0 : Option Addr) (c0 : Nat) (l0 : List (List Int)) (A1 : Option Addr) (c1 : Nat) (l1 : List Int) (r1 : List Int) (r2 : Bool) (w : World) (hr0 : Kd.C (Kd.slice 3 (Kd.int .i64)) w A0 l0.length l0) (hc0 : l0.length ≤ c0) (hr1 : Kd.C (Kd.int .i64) w A1 l1.length l1) (hc1 : l1.length ≤ c1) (h : impl_LeastProfile.f k l0 l1 = some (r1, r2)) :
  Calls Try.prog 29 #[.slice A0 l0.length c0, .slice A1 l1.length c1] w fun e w' => ∃ v0_ : Value, e = .returned (.tuple #[v0_, .bool r2]) ∧ Kd.R (Kd.int .i64) 3 w' w.heap.size (fun _ => True) v0_ r1 ∧ Below w.heap.size w w' := by
 have HR0 := Aside0.mk hr0;have HC0 := Aside0.mk hc0;clear hr0 hc0;have HR1 := Aside0.mk hr1;have HC1 := Aside0.mk hc1;clear hr1 hc1;have HB := Aside0.mk (Below.refl w.heap.size w);have H : ((impl_IsSection.f k l0).bind fun t340 => (if t340 = true then ((impl_areDepths.f k l0 l1).bind fun t341 => (impl_LeastProfile.j0 k l1 (!t341))) else (impl_LeastProfile.j0 k l1 true))) = some (r1, r2) := h;clear h;have HC3 := Aside0.mk H;clear H
 go_enter Try.func29, Try.ntmps29
 go_upto_region 1 with (fail)
 go_cut [18] (fun v18 wc => ∃ (kq : Nat) (x18_2 : Bool), v18 = .bool x18_2 ∧ Aside0 (impl_LeastProfile.j0 kq l1 x18_2 = some (r1, r2)) ∧ Aside0 (kq ≤ k) ∧ Aside0 (Below w.heap.size w wc))
 case first =>
  have H := HC3.out;clear HC3;replace H := Option.bind_eq_some_iff.mp H;obtain ⟨t340, A40, H⟩ := H;replace H : (if t340 = true then ((impl_areDepths.f k l0 l1).bind fun t341 => (impl_LeastProfile.j0 k l1 (!t341))) else (impl_LeastProfile.j0 k l1 true)) = some (r1, r2) := H;have A4 := Aside0.mk A40;clear A40
  by_cases c5 : t340 = true
  ·subst c5;have H1 : ((impl_areDepths.f k l0 l1).bind fun t341 => (impl_LeastProfile.j0 k l1 (!t341))) = some (r1, r2) := by rw [if_pos rfl] at H; exact H
   clear H;have H := H1;clear H1;replace H := Option.bind_eq_some_iff.mp H;obtain ⟨t341, A60, H⟩ := H;replace H : (impl_LeastProfile.j0 k l1 (!t341)) = some (r1, r2) := H;have A6 := Aside0.mk A60;clear A60;have H' := Aside0.mk H;clear H
   go_wp2_with (first | ((with_reducible refine gate_callee (f := 42) rfl ?_); refine goesL_ (some 11) rfl rfl Try.func42 (by kernel_rfl) rfl #[.slice A0 l0.length c0] rfl (by (try simp only [List.map_toArray, List.map_cons, List.map_nil]); first | done | rfl | (simp only [List.length_drop, List.length_take]; rfl)) ?_; (with_reducible refine (impl_IsSection.calls k _ _ l0 true _ ?side1 ?side2 A4.out).mono ?_); (case side1 => repeat (first | exact (Kd.C_below HR0.out HB.out) | (with_reducible refine Kd.C_alloc ?_ _) | (with_reducible refine Kd.C_drewN ?_ _) | (with_reducible refine Kd.C_drew ?_))); (case side2 => exact HC0.out); rintro e w' ⟨rfl, ⟨nd, rfl⟩⟩; refine ⟨_, rfl, ?_⟩) | (go_at_call 83; (with_reducible refine (impl_areDepths.calls k _ _ l0 _ _ l1 t341 _ ?side1 ?side2 ?side3 ?side4 A6.out).mono ?_); (case side1 => repeat (first | exact (Kd.C_below HR0.out (by repeat (first | (with_reducible first | exact HB.out | apply below_alloc | apply pw_below_drewN | apply below_drew1) | exact HB.out))) | (with_reducible refine Kd.C_alloc ?_ _) | (with_reducible refine Kd.C_drewN ?_ _) | (with_reducible refine Kd.C_drew ?_))); (case side2 => exact HC0.out); (case side3 => repeat (first | exact (Kd.C_below HR1.out (by repeat (first | (with_reducible first | exact HB.out | apply below_alloc | apply pw_below_drewN | apply below_drew1) | exact HB.out))) | (with_reducible refine Kd.C_alloc ?_ _) | (with_reducible refine Kd.C_drewN ?_ _) | (with_reducible refine Kd.C_drew ?_))); (case side4 => exact HC1.out); rintro e w' ⟨rfl, ⟨nd, rfl⟩⟩))
   go_meet
   case rel => exact ⟨_, (!t341), (by first | rfl | (simp; done) | (simp [*]; done)), H', ⟨by first | omega | exact Nat.le_refl _⟩, ⟨by repeat (first | (with_reducible first | exact HB.out | apply below_alloc | apply pw_below_drewN | apply below_drew1) | exact HB.out)⟩⟩
  ·replace c5 := Bool.eq_false_iff.mpr c5;subst c5;have H1 : (impl_LeastProfile.j0 k l1 true) = some (r1, r2) := by rw [if_neg (show ¬ (false = true) by decide)] at H; exact H
   clear H;have H := H1;clear H1;have H' := Aside0.mk H;clear H
   go_wp2_with (first | ((with_reducible refine gate_callee (f := 42) rfl ?_); refine goesL_ (some 11) rfl rfl Try.func42 (by kernel_rfl) rfl #[.slice A0 l0.length c0] rfl (by (try simp only [List.map_toArray, List.map_cons, List.map_nil]); first | done | rfl | (simp only [List.length_drop, List.length_take]; rfl)) ?_; (with_reducible refine (impl_IsSection.calls k _ _ l0 false _ ?side1 ?side2 A4.out).mono ?_); (case side1 => exact (Kd.C_below HR0.out HB.out)); (case side2 => exact HC0.out); rintro e w' ⟨rfl, ⟨nd, rfl⟩⟩; refine ⟨_, rfl, ?_⟩))
   go_meet
   case rel => exact ⟨_, (true), (by first | rfl | (simp; done) | (simp [*]; done)), H', ⟨by first | omega | exact Nat.le_refl _⟩, ⟨by repeat (first | (with_reducible first | exact HB.out | apply below_alloc | apply pw_below_drewN | apply below_drew1) | exact HB.out)⟩⟩
 case rest =>
  clear HC3;(try clear c1);(try clear c2);(try clear p2);(try clear c4);(try clear c5);obtain ⟨kq, x18_2, rfl, HA, HJ2, HB⟩ := hcut;cases kq with
  | zero => exact absurd HA.out (by simp [impl_LeastProfile.j0])
  | succ kj2 =>
   have H := HA.out;clear HA;simp only [impl_LeastProfile.j0] at H
   by_cases c7 : x18_2 = true
   ·subst c7;have H1 : (some (([] : List Int), false)) = some (r1, r2) := by rw [if_pos rfl] at H; exact H
    clear H;have H := H1;clear H1;simp only [Option.some.injEq, Prod.mk.injEq] at H;obtain ⟨rfl, rfl⟩ := H;go_wp2
    go_ret2
    exact ⟨_, by first | rfl | (simp [errW_none, errW_some] <;> rfl) | (simp [*, errW_none, errW_some] <;> rfl), by first | exact Kd.R_nil _ _ _ _ _ | exact Kd.N_nil _ _ _ _ _ | exact Kd.V_nil _ _ _ _ _ | exact Kd.Q_nil _ _ _ _ _ | exact Kd.S_nil _ _ _ _ _, HB.out⟩
   ·replace c7 := Bool.eq_false_iff.mpr c7;subst c7;have H1 : ((some (([] : List Int) : List Int)).bind fun y342 => (if y342.length + l1.length < 17592186044416 then ((some (y342 ++ l1 : List Int)).bind fun y345 => (impl_LeastProfile.l0 kj2 l1 y345 (y345.length : Int) 0)) else (none))) = some (r1, r2) := by rw [if_neg (show ¬ (false = true) by decide)] at H; exact H
    clear H;have H := H1;clear H1;obtain ⟨y342, hy342⟩ : ∃ y_ : List Int, y_ = (([] : List Int)) := ⟨_, rfl⟩;replace H : (if y342.length + l1.length < 17592186044416 then ((some (y342 ++ l1 : List Int)).bind fun y345 => (impl_LeastProfile.l0 kj2 l1 y345 (y345.length : Int) 0)) else (none)) = some (r1, r2) := by first | (rw [hy342]; with_reducible exact H) | (have H2_ := (Option.bind_some _ _).symm.trans H; rw [hy342]; with_reducible exact H2_) | (have H2_ := (Option.bind_some _ _).symm.trans H; with_reducible exact H2_) | with_reducible exact H | (rw [hy342]; exact H) | exact H
    have Ny342 := Aside0.mk hy342;clear hy342
    by_cases c8 : y342.length + l1.length < 17592186044416
    ·rw [if_pos c8] at H;have LMc8 := Aside0.mk c8;clear c8;obtain ⟨y345, hy345⟩ : ∃ y_ : List Int, y_ = (y342 ++ l1) := ⟨_, rfl⟩;replace H : (impl_LeastProfile.l0 kj2 l1 y345 (y345.length : Int) 0) = some (r1, r2) := by first | (rw [hy345]; with_reducible exact H) | (have H2_ := (Option.bind_some _ _).symm.trans H; rw [hy345]; with_reducible exact H2_) | (have H2_ := (Option.bind_some _ _).symm.trans H; with_reducible exact H2_) | with_reducible exact H | (rw [hy345]; exact H) | exact H
     have Ny345 := Aside0.mk hy345;clear hy345;have H' := Aside0.mk H;clear H
     go_wp2_with (first | ((with_reducible refine gate_dst (N := 19) rfl ?_); refine Kd.R_lit (Kd.int .i64) _ 3 ?hg (N := 19) ?hd (xs := ([] : List Int)) (inner := []) (ok := fun _ => True) (okp := fun _ => True) ?hr ?hp (fun _ hk => hk) trivial (Below.refl _ _) (Nat.le_refl _) (by simp) ?_; (case hd => rfl); (case hg => rfl); (case hr => first | (go_simp; done) | (go_simp; rfl)); (case hp => exact (Reps.none _ _)); intro v343 w9 ho10 hb hg_ hnew_; clear hg_ hnew_; (first | rw [← Ny342.out] at ho10 | (simp only [Int.reduceToNat] at ho10; rw [← Ny342.out] at ho10)); have HO344 := Aside0.mk (Kd.R_lower ho10 (below_size HB.out)); replace HB := Aside0.mk (below_step HB.out hb); clear hb ho10) | ((with_reducible refine gate_builtin (b := .append) (xs := #[.tmp 19, .tmp 20]) rfl ?_); at_builtin; refine Kd.R_append_rows (Kd.int .i64) (w0 := w) w.heap.size rfl (.tmp 19) (.tmp 20) 24 3 (.int .i64 0) 8 rfl Try.underlying24 info3 rfl (by decide) (by omega) v343 y342 l1 _ _ _ (fun _ => True) (fun _ => False) rfl rfl ?aO ?aR (fun _ _ h => h) (fun _ h => h.elim) ?aF ?aB ?aS ?aL ?_; (case aR => repeat (first | exact (Kd.C_below HR1.out HB.out) | (with_reducible refine Kd.C_alloc ?_ _) | (with_reducible refine Kd.C_drewN ?_ _) | (with_reducible refine Kd.C_drew ?_))); (case aB => exact HB.out); (case aF => exact (fun _ _ => trivial)); (case aO => exact HO344.out); (case aS => exact (below_size HB.out)); (case aL => have := LMc8.out; omega); intro v346 w11 ho hb hg hat; rw [← Ny345.out] at ho; have n0_ := Aside0.mk (hb); have n1_ := Aside0.mk (ho); clear HB; clear HO344; have HB := n0_; have HO347 := n1_; clear n0_ n1_; clear ho hb hg hat; obtain ⟨Ao12, co12, eo12⟩ := Kd.R_slice HO347.out; subst eo12))
     go_loopg [24] kj2 (fun kq v24 w' => ∃ (x6_2 : List Int) (x24_2 : Int), v24 = .int .i64 x24_2 ∧ Aside0 (impl_LeastProfile.l0 kq l1 x6_2 (y345.length : Int) x24_2 = some (r1, r2)) ∧ Aside0 (kq ≤ kj2) ∧ Aside0 (Kd.R (Kd.int .i64) 3 w' w.heap.size (fun _ => True) (.slice Ao12 y345.length co12) x6_2) ∧ Aside0 (Below w.heap.size w w'))
     case atStart => exact ⟨(y345), (0), (by first | rfl | (simp; done) | (simp [*]; done)), H', ⟨Nat.le_refl _⟩, ⟨by (with_reducible repeat (first | apply Kd.R_alloc | apply Kd.R_drewN | apply Kd.R_drew)); exact HO347.out⟩, ⟨HB.out⟩⟩
     case round =>
      clear H';(try clear c1);(try clear c2);(try clear p2);(try clear c4);(try clear c5);(try clear c7);(try clear c8);(try clear p2);obtain ⟨x6_2, x24_2, rfl, HA, HK2, HO_6, HB⟩ := hrel;have hl6_2 := (Kd.R_reads' HO_6.out).1;rw [hl6_2] at HO_6
      (try simp only [hl6_2])
      cases gk with
      | zero => exact absurd HA.out (by simp [impl_LeastProfile.l0])
      | succ k2 =>
       have H := HA.out;clear HA;simp only [impl_LeastProfile.l0] at H
       by_cases c13 : x24_2 < (y345.length : Int)
       ·rw [if_pos c13] at H;have c13b0 := decide_eq_true c13
        (try (have c13b20 := c13b0; rw [hl6_2] at c13b20))
        clear c13;have H' := Aside0.mk H;clear H;go_wp2
        go_loopg [29] k2 (fun kq v29 w' => ∃ (x6_3 : List Int) (x29_3 : Int), v29 = .int .i64 x29_3 ∧ Aside0 (impl_LeastProfile.l1 kq l1 x6_3 x24_2 (y345.length : Int) x24_2 l1 (l1.length : Int) x29_3 = some (r1, r2)) ∧ Aside0 (kq ≤ k2) ∧ Aside0 (Kd.R (Kd.int .i64) 3 w' w.heap.size (fun _ => True) (.slice Ao12 x6_2.length co12) x6_3) ∧ Aside0 (Below w.heap.size w w'))
        case atStart => exact ⟨(x6_2), (0), (by first | rfl | (simp; done) | (simp [*]; done)), H', ⟨Nat.le_refl _⟩, ⟨by (try simp only [hl6_2]); (with_reducible repeat (first | apply Kd.R_alloc | apply Kd.R_drewN | apply Kd.R_drew)); exact HO_6.out⟩, ⟨HB.out⟩⟩
        case round =>
         clear H';(try clear c1);(try clear c2);(try clear p2);(try clear c4);(try clear c5);(try clear c7);(try clear c8);(try clear c13);(try clear c13b0);(try clear p2);obtain ⟨x6_3, x29_3, rfl, HA, HK3, HO_6, HB⟩ := hrel;have hl6_3 := (Kd.R_reads' HO_6.out).1;rw [hl6_3] at HO_6
         (try simp only [hl6_3])
         cases gk with
         | zero => exact absurd HA.out (by simp [impl_LeastProfile.l1])
         | succ k3 =>
          have H := HA.out;clear HA;simp only [impl_LeastProfile.l1] at H
          by_cases c14 : x29_3 < (l1.length : Int)
          ·rw [if_pos c14] at H;have c14b0 := decide_eq_true c14
           (try (have c14b20 := c14b0; rw [hl6_2] at c14b20))
           (try (have c14b21 := c14b0; rw [hl6_3] at c14b21))
           clear c14
           by_cases c15 : 0 ≤ x29_3
           ·rw [if_pos c15] at H;have c15b0 := decide_eq_true c15;clear c15
            by_cases c16 : x29_3 < (l1.length : Int)
            ·rw [if_pos c16] at H;have c16b0 := decide_eq_true c16
             (try (have c16b20 := c16b0; rw [hl6_2] at c16b20))
             (try (have c16b21 := c16b0; rw [hl6_3] at c16b21))
             clear c16
             by_cases c17 : 0 ≤ x24_2
             ·rw [if_pos c17] at H;have c17b0 := decide_eq_true c17;clear c17
              by_cases c18 : x24_2 < (x6_3.length : Int)
              ·rw [if_pos c18] at H;have c18b0 := decide_eq_true c18
               (try (have c18b20 := c18b0; rw [hl6_2] at c18b20))
               (try (have c18b21 := c18b0; rw [hl6_3] at c18b21))
               clear c18;replace H := Option.bind_eq_some_iff.mp H;obtain ⟨t350, A190, H⟩ := H;replace H : (impl_LeastProfile.l1 k3 l1 (x6_3.set (x24_2 : Int).toNat (mx (rd x6_3 x24_2) (wrap64 ((rd l1 x29_3) - t350)))) x24_2 (y345.length : Int) x24_2 l1 (l1.length : Int) (wrap64 (x29_3 + 1))) = some (r1, r2) := H;have A19 := Aside0.mk A190;clear A190;obtain ⟨ji20, hji20⟩ : ∃ j_ : Int, (mx (rd x6_3 x24_2) (wrap64 ((rd l1 x29_3) - t350))) = j_ := ⟨_, rfl⟩;replace H : (impl_LeastProfile.l1 k3 l1 (x6_3.set (x24_2 : Int).toNat (ji20)) x24_2 (y345.length : Int) x24_2 l1 (l1.length : Int) (wrap64 (x29_3 + 1))) = some (r1, r2) := by first | (rw [hji20] at H; exact H) | (simp only [hji20] at H ⊢; exact H)
               (try rw [hji20] at A19)
               have hji20_ : (if (rd x6_3 x24_2) < (wrap64 ((rd l1 x29_3) - t350)) then (wrap64 ((rd l1 x29_3) - t350)) else (rd x6_3 x24_2)) = ji20 := hji20;obtain ⟨y351, hy351⟩ : ∃ y_ : List Int, y_ = (x6_3.set (x24_2 : Int).toNat (ji20)) := ⟨_, rfl⟩;replace H : (impl_LeastProfile.l1 k3 l1 y351 x24_2 (y345.length : Int) x24_2 l1 (l1.length : Int) (wrap64 (x29_3 + 1))) = some (r1, r2) := by first | (rw [hy351]; with_reducible exact H) | (have H2_ := (Option.bind_some _ _).symm.trans H; rw [hy351]; with_reducible exact H2_) | (have H2_ := (Option.bind_some _ _).symm.trans H; with_reducible exact H2_) | with_reducible exact H | (rw [hy351]; exact H) | exact H
               have Ny351 := Aside0.mk hy351;clear hy351;have H' := Aside0.mk H;clear H;have p348 : 0 ≤ (x29_3 : Int) := of_decide_eq_true (by first | (with_reducible assumption) | assumption);have q348 : x29_3 < (l1.length : Int) := of_decide_eq_true (by first | (with_reducible assumption) | assumption);obtain ⟨ad348, e348, hx348_0⟩ := Kd.at_int HR1.out x29_3 p348 q348;cases e348;replace hx348_0 := (HB.out.cell (World.block_lt_of_cell? w _ hx348_0)).trans hx348_0;replace p348 := eq_true p348;replace q348 := eq_true q348
               try go_wp2
               have n0_ := Aside0.mk (Kd.R_drew HO_6.out);have n1_ := Aside0.mk (below_drew1 HB.out);clear HO_6;clear HB;have HO_6 := n0_;have HB := n1_;clear n0_ n1_;have p349 : 0 ≤ (x24_2 : Int) := of_decide_eq_true (by first | (with_reducible assumption) | assumption);have q349 : x24_2 < (x6_3.length : Int) := of_decide_eq_true (by first | (with_reducible assumption) | assumption);obtain ⟨ad349, e349, hx349_0⟩ := Kd.at_int (Kd.R_reads' HO_6.out).2.2 x24_2 p349 q349;cases e349;replace p349 := eq_true p349;replace q349 := eq_true q349;refine start_ (n := 15) (S := fun w' => w'.cell? (ad349.add (x24_2).toNat) = some (.int .i64 (rd x6_3 x24_2))) (ds := [14]) #[false, false, false, false, false, false, false, false, false, false, false, false, false, false, false] (by kernel_rfl) rfl rfl (hx349_0) (fun hHeld => ?_); refine with_tabW impl_LeastProfile.tab10 impl_LeastProfile.bits10 (fun HT_ HW_ => ?_);generalize wr.drew = w22 at HO_6 HB hx349_0 hHeld ⊢;refine pure_ (i := 0) (N := some 34) (v := ?_) (a' := ?_) #[true, false, false, false, false, false, false, false, false, false, false, false, false, false, false] rfl rfl (any_of HT_.out (by kernel_rfl)) (fun _ _ _ h => h) (Or.inl ⟨by rfl, ?_⟩) ?_ ?_;rotate_left
               ·intro w';go_simp;with_reducible rfl
               rotate_left
               ·simp only [Act.put, List.setIfInBounds_toArray, List.set_cons_zero, List.set_cons_succ, i64_w, i32_w];rfl
               refine pure_ (i := 1) (N := some 35) (v := ?_) (a' := ?_) #[true, true, false, false, false, false, false, false, false, false, false, false, false, false, false] rfl rfl (any_of HT_.out (by kernel_rfl)) (fun _ _ _ h => h) (Or.inl ⟨by rfl, ?_⟩) ?_ ?_;rotate_left
               ·intro w';go_simp;with_reducible rfl
               rotate_left
               ·simp only [Act.put, List.setIfInBounds_toArray, List.set_cons_zero, List.set_cons_succ, i64_w, i32_w];rfl
               refine pure_ (i := 2) (N := some 36) (v := ?_) (a' := ?_) #[true, true, true, false, false, false, false, false, false, false, false, false, false, false, false] rfl rfl (any_of HT_.out (by kernel_rfl)) (fun _ _ _ h => h) (Or.inl ⟨by rfl, ?_⟩) ?_ ?_;rotate_left
               ·intro w';go_simp;with_reducible rfl
               rotate_left
               ·simp only [Act.put, List.setIfInBounds_toArray, List.set_cons_zero, List.set_cons_succ, i64_w, i32_w];rfl
               refine pure_ (i := 3) (N := some 37) (v := ?_) (a' := ?_) #[true, true, true, true, false, false, false, false, false, false, false, false, false, false, false] rfl rfl (any_of HT_.out (by kernel_rfl)) (fun _ _ _ h => h) (Or.inl ⟨by rfl, ?_⟩) ?_ ?_;rotate_left
               ·intro w';go_simp;with_reducible rfl
               rotate_left
               ·simp only [Act.put, List.setIfInBounds_toArray, List.set_cons_zero, List.set_cons_succ, i64_w, i32_w];rfl
               refine pure_ (i := 4) (N := some 38) (v := ?_) (a' := ?_) #[true, true, true, true, true, false, false, false, false, false, false, false, false, false, false] rfl rfl (any_of HT_.out (by kernel_rfl)) (fun _ _ _ h => h) (Or.inl ⟨by rfl, ?_⟩) ?_ ?_;rotate_left
               ·intro w';go_simp;with_reducible rfl
               rotate_left
               ·simp only [Act.put, List.setIfInBounds_toArray, List.set_cons_zero, List.set_cons_succ, i64_w, i32_w];rfl
               refine pure_ (i := 6) (N := some 40) (v := ?_) (a' := ?_) #[true, true, true, true, true, false, true, false, false, false, false, false, false, false, false] rfl rfl (any_of HT_.out (by kernel_rfl)) (fun _ _ _ h => h) (Or.inl ⟨by rfl, ?_⟩) ?_ ?_;rotate_left
               ·intro w';go_simp;with_reducible rfl
               rotate_left
               ·simp only [Act.put, List.setIfInBounds_toArray, List.set_cons_zero, List.set_cons_succ, i64_w, i32_w];rfl
               refine pure_ (i := 7) (N := some 41) (v := ?_) (a' := ?_) #[true, true, true, true, true, false, true, true, false, false, false, false, false, false, false] rfl rfl (any_of HT_.out (by kernel_rfl)) (fun _ _ _ h => h) (Or.inl ⟨by rfl, ?_⟩) ?_ ?_;rotate_left
               ·intro w';go_simp;with_reducible rfl
               rotate_left
               ·simp only [Act.put, List.setIfInBounds_toArray, List.set_cons_zero, List.set_cons_succ, i64_w, i32_w];rfl
               refine pure_ (i := 8) (N := some 42) (v := ?_) (a' := ?_) #[true, true, true, true, true, false, true, true, true, false, false, false, false, false, false] rfl rfl (any_of HT_.out (by kernel_rfl)) (fun _ _ _ h => h) (Or.inl ⟨by rfl, ?_⟩) ?_ ?_;rotate_left
               ·intro w';go_simp;with_reducible rfl
               rotate_left
               ·simp only [Act.put, List.setIfInBounds_toArray, List.set_cons_zero, List.set_cons_succ, i64_w, i32_w];rfl
               refine pure_ (i := 9) (N := some 43) (v := ?_) (a' := ?_) #[true, true, true, true, true, false, true, true, true, true, false, false, false, false, false] rfl rfl (any_of HT_.out (by kernel_rfl)) (fun _ _ _ h => h) (Or.inl ⟨by rfl, ?_⟩) ?_ ?_;rotate_left
               ·intro w';go_simp;with_reducible rfl
               rotate_left
               ·simp only [Act.put, List.setIfInBounds_toArray, List.set_cons_zero, List.set_cons_succ, i64_w, i32_w];rfl
               refine take_ (i := 5) (N := some 39) (v := ?_) (a' := ?_) #[true, true, true, true, true, true, true, true, true, true, false, false, false, false, false] rfl rfl (take_ofW HT_.out HW_.out (by kernel_rfl)) (fun _ _ _ h => h) (Or.inl ⟨by rfl, ?_⟩) hHeld ?_ ?_;rotate_left
               ·intro w' s0;go_simp;with_reducible rfl
               rotate_left
               ·simp only [Act.put, List.setIfInBounds_toArray, List.set_cons_zero, List.set_cons_succ, i64_w, i32_w];rfl
               refine one_ (i := 10) (N := some 44) #[true, true, true, true, true, true, true, true, true, true, true, false, false, false, false] rfl rfl (one_of HT_.out (by kernel_rfl)) (by decide) (fun K hK => ?_);refine goes_ Try.func86 (by kernel_rfl) rfl #[.int .i64 (wrap64 (x24_2 - x29_3))] (by rfl) rfl rfl (by (try simp only [List.map_toArray, List.map_cons, List.map_nil]); first | done | rfl | (simp only [List.length_drop, List.length_take]; rfl)) ?_
               with_reducible refine (impl_abs.calls (wrap64 (x24_2 - x29_3)) t350 _ A19.out).mono ?_
               rintro e w23 ⟨rfl, hb⟩;have HS0_ := (hb.cell (World.block_lt_of_cell? _ _ (hHeld))).trans (hHeld);refine ⟨_, rfl, ?_⟩;have n0_ := Aside0.mk (Kd.R_below HO_6.out hb);have n1_ := Aside0.mk (below_step HB.out hb);clear HO_6;clear HB;have HO_6 := n0_;have HB := n1_;clear n0_ n1_
               (try clear hb)
               (try clear hb2)
               (try clear hk)
               (try clear hi)
               have p21 : 0 ≤ (x24_2 : Int) := of_decide_eq_true (by first | (with_reducible assumption) | assumption);have q21 : (x24_2 : Int) < ((x6_3.length : Int) : Int) := of_decide_eq_true (by first | (with_reducible assumption) | assumption);obtain ⟨go21, co21, eo21, gb21, gl21, cl21, HG21⟩ := Kd.R_form HO_6.out (by omega)
               (first | cases eo21 | (injection eo21 with ea_ en_ ec_; (first | subst ea_ | (injection ea_ with ea_; subst ea_)); subst ec_; clear en_))
               have GB21 := Aside0.mk gb21;have GG21 := Aside0.mk HG21;clear gb21 gl21 HG21
               (first | simp only [add_plain] at hx349_0 | skip)
               obtain ⟨hx21_0, hf21_0⟩ := Kd.R_celln 0 HO_6.out (x24_2 : Int) p21 q21;replace p21 := eq_true p21;replace q21 := eq_true q21;have HP24 := Kd.R_putn HO_6.out (x24_2 : Int) ji20;rw [← Ny351.out] at HP24;have HQ24 := Aside0.mk HP24;clear HP24;refine hK.out _ _ (HS0_) (fun hHeld => ?_);clear hK K;refine norm_ (a' := ?_) ?_ ?_;rotate_left
               ·show Act.put _ (some 44) _ = _
                simp only [Act.put, List.setIfInBounds_toArray, List.set_cons_zero, List.set_cons_succ, i64_w, i32_w];rfl
               refine pure_ (i := 11) (N := some 45) (v := ?_) (a' := ?_) #[true, true, true, true, true, true, true, true, true, true, true, true, false, false, false] rfl rfl (any_of HT_.out (by kernel_rfl)) (fun _ _ _ h => h) (Or.inl ⟨by rfl, ?_⟩) ?_ ?_;rotate_left
               ·intro w';go_simp;with_reducible rfl
               rotate_left
               ·simp only [Act.put, List.setIfInBounds_toArray, List.set_cons_zero, List.set_cons_succ, i64_w, i32_w];rfl
               refine pure_ (i := 12) (N := some 46) (v := ?_) (a' := ?_) #[true, true, true, true, true, true, true, true, true, true, true, true, true, false, false] rfl rfl (any_of HT_.out (by kernel_rfl)) (fun _ _ _ h => h) (Or.inl ⟨by rfl, ?_⟩) ?_ ?_;rotate_left
               ·intro w';go_simp;with_reducible rfl
               rotate_left
               ·simp only [Act.put, List.setIfInBounds_toArray, List.set_cons_zero, List.set_cons_succ, i64_w, i32_w];rfl
               refine pure_ (i := 13) (N := some 47) (v := ?_) (a' := ?_) #[true, true, true, true, true, true, true, true, true, true, true, true, true, true, false] rfl rfl (any_of HT_.out (by kernel_rfl)) (fun _ _ _ h => h) (Or.inl ⟨by rfl, ?_⟩) ?_ ?_;rotate_left
               ·intro w';go_simp;with_reducible rfl
               rotate_left
               ·simp only [Act.put, List.setIfInBounds_toArray, List.set_cons_zero, List.set_cons_succ, i64_w, i32_w];rfl
               refine last_ (i := 14) (N := none) #[true, true, true, true, true, true, true, true, true, true, true, true, true, true, true] rfl rfl (one_of HT_.out (by kernel_rfl)) (by decide) (fun K hK => ?_);refine skip_ (w1 := ?_) (by rfl) rfl ?_ ?_;rotate_left
               ·go_simp;rfl
               refine hK.out _ _ ?_;clear hK K;refine done_ (done_of HT_.out (by kernel_rfl)) ?_
               try go_wp2
               (try simp only [← hl6_3])
               go_roundg k3
               case measure => have := HJ2.out; have := HK2.out; have := HK3.out; omega
               case rel => exact ⟨(y351), (wrap64 (x29_3 + 1)), (by first | rfl | (simp; done) | (simp [*]; done)), H', ⟨by have := HJ2.out; have := HK2.out; have := HK3.out; omega⟩, ⟨by (try simp only [hl6_2]); (try simp only [hl6_3]); (with_reducible repeat (first | apply Kd.R_alloc | apply Kd.R_drewN | apply Kd.R_drew)); exact HQ24.out⟩, ⟨by repeat (first | (with_reducible first | exact HB.out | apply below_alloc | apply pw_below_drewN | apply below_drew1 | refine below_set ?_ GB21.out) | exact HB.out)⟩⟩
              ·rw [if_neg c18] at H;exact absurd H (by simp)
             ·rw [if_neg c17] at H;exact absurd H (by simp)
            ·rw [if_neg c16] at H;exact absurd H (by simp)
           ·rw [if_neg c15] at H;exact absurd H (by simp)
          ·rw [if_neg c14] at H;have c14b0 := decide_eq_false c14
           (try (have c14b20 := c14b0; rw [hl6_2] at c14b20))
           (try (have c14b21 := c14b0; rw [hl6_3] at c14b21))
           clear c14;have H' := Aside0.mk H;clear H;go_wp2
           (try simp only [← hl6_2, ← hl6_3])
           go_roundg k3
           case measure => have := HJ2.out; have := HK2.out; have := HK3.out; omega
           case rel => exact ⟨(x6_3), (wrap64 (x24_2 + 1)), (by first | rfl | (simp; done) | (simp [*]; done)), H', ⟨by have := HJ2.out; have := HK2.out; have := HK3.out; omega⟩, ⟨by (try simp only [hl6_2]); (try simp only [hl6_3]); (with_reducible repeat (first | apply Kd.R_alloc | apply Kd.R_drewN | apply Kd.R_drew)); exact HO_6.out⟩, ⟨HB.out⟩⟩
       ·rw [if_neg c13] at H;have c13b0 := decide_eq_false c13
        (try (have c13b20 := c13b0; rw [hl6_2] at c13b20))
        (try (have c13b21 := c13b0; rw [hl6_3] at c13b21))
        clear c13;simp only [Option.some.injEq, Prod.mk.injEq] at H;obtain ⟨rfl, rfl⟩ := H;go_wp2
        go_ret2
        exact ⟨_, by first | rfl | (simp [errW_none, errW_some] <;> rfl) | (simp [*, errW_none, errW_some] <;> rfl), by (with_reducible repeat (first | apply Kd.R_alloc | apply Kd.R_drewN | apply Kd.R_drew)); exact HO_6.out, HB.out⟩
    ·rw [if_neg c8] at H;exact absurd H (by simp)

end Go.Proofs.Ytdipbpckmcmljaa.PFnSections

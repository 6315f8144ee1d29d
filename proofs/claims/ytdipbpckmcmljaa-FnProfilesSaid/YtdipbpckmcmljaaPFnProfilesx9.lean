-- Printed by a changed copy of the printer
import Derived.Test.YtdipbpckmcmljaaPFnProfilesx0
import Derived.Test.YtdipbpckmcmljaaPFnProfilesx3
import Derived.Test.YtdipbpckmcmljaaPFnProfilesx7
namespace Go.Proofs.Ytdipbpckmcmljaa.PFnProfiles
open Go.RowKit Go.Proofs.YtdipbpckmcmljaaW.PrintWords Go.Proofs.YtdipbpckmcmljaaW.PrintLast Go.Proofs.YtdipbpckmcmljaaW.PrintMore
attribute [local go_sem] max2_int min2_int max_two min_two max_three min_three max_four min_four   -- for this text's walks alone
set_option linter.unusedVariables false
set_option linter.unusedSimpArgs false

/-! ### impl_ProfileValue: function 43 -/
mutual
def impl_ProfileValue.j0 : Nat → List (List Int) → List Int → Bool → Option (Int × Bool)
 | 0, _, _, _ => none
 | k + 1, x0, x1, x19 => if x19 = true then (some (0, false)) else (impl_ProfileValue.l0 k x0 0 x1 (x1.length : Int) 0)
def impl_ProfileValue.l0 : Nat → List (List Int) → Int → List Int → Int → Int → Option (Int × Bool)
 | 0, _, _, _, _, _ => none
 | k + 1, x0, x6, x20, x21, x22 => if x22 < x21 then (if 0 ≤ x22 then (if x22 < (x20.length : Int) then (if x22 < (x0.length : Int) then (if 0 ≤ (rd x20 x22) then (if (rd x20 x22) ≤ ((rd_L1 x0 x22).length : Int) then (impl_ProfileValue.l1 k x0 x6 x20 x21 x22 ((rd_L1 x0 x22).take ((rd x20 x22) : Int).toNat) (((rd_L1 x0 x22).take ((rd x20 x22) : Int).toNat).length : Int) 0) else (none)) else (none)) else (none)) else (none)) else (none)) else (some (x6, true))
def impl_ProfileValue.l1 : Nat → List (List Int) → Int → List Int → Int → Int → List Int → Int → Int → Option (Int × Bool)
 | 0, _, _, _, _, _, _, _, _ => none
 | k + 1, x0, x6, x20, x21, x22, x32, x33, x34 => if x34 < x33 then (if 0 ≤ x34 then (if x34 < (x32.length : Int) then (impl_ProfileValue.l1 k x0 (wrap64 (x6 + (rd x32 x34))) x20 x21 x22 x32 x33 (wrap64 (x34 + 1))) else (none)) else (none)) else (impl_ProfileValue.l0 k x0 x6 x20 x21 (wrap64 (x22 + 1)))
end
def impl_ProfileValue.f (k : Nat) (l0 : List (List Int)) (l1 : List Int) : Option (Int × Bool) := (impl_IsSection.f k l0).bind fun t302 => (if t302 = true then ((impl_isProfile.f k l0 l1).bind fun t303 => (impl_ProfileValue.j0 k l0 l1 (!t303))) else (impl_ProfileValue.j0 k l0 l1 true))
set_option maxHeartbeats 8000000 in
set_option maxRecDepth 100000 in
theorem impl_ProfileValue.calls (k : Nat) (A0 : Option Addr) (c0 : Nat) (l0 : List (List Int)) (A1 : Option Addr) (c1 : Nat) (l1 : List Int) (r1 : Int) (r2 : Bool) (w : World) (hr0 : Kd.C (Kd.slice 3 (Kd.int .i64)) w A0 l0.length l0) (hc0 : l0.length ≤ c0) (hr1 : Kd.C (Kd.int .i64) w A1 l1.length l1) (hc1 : l1.length ≤ c1) (h : impl_ProfileValue.f k l0 l1 = some (r1, r2)) :
  Calls Try.prog 43 #[.slice A0 l0.length c0, .slice A1 l1.length c1] w fun e w' => e = .returned (.tuple #[.int .i64 r1, .bool r2]) ∧ Below w.heap.size w w' := by
 have HR0 := Aside0.mk hr0;have HC0 := Aside0.mk hc0;clear hr0 hc0;have HR1 := Aside0.mk hr1;have HC1 := Aside0.mk hc1;clear hr1 hc1;have HB := Aside0.mk (Below.refl w.heap.size w);have H : ((impl_IsSection.f k l0).bind fun t302 => (if t302 = true then ((impl_isProfile.f k l0 l1).bind fun t303 => (impl_ProfileValue.j0 k l0 l1 (!t303))) else (impl_ProfileValue.j0 k l0 l1 true))) = some (r1, r2) := h;clear h;have HC3 := Aside0.mk H;clear H
 go_enter Try.func43, Try.ntmps43
 go_upto_region 1 with (fail)
 go_cut [19] (fun v19 wc => ∃ (kq : Nat) (x19_2 : Bool), v19 = .bool x19_2 ∧ Aside0 (impl_ProfileValue.j0 kq l0 l1 x19_2 = some (r1, r2)) ∧ Aside0 (kq ≤ k) ∧ Aside0 (Below w.heap.size w wc))
 case first =>
  have H := HC3.out;clear HC3;replace H := Option.bind_eq_some_iff.mp H;obtain ⟨t302, A40, H⟩ := H;replace H : (if t302 = true then ((impl_isProfile.f k l0 l1).bind fun t303 => (impl_ProfileValue.j0 k l0 l1 (!t303))) else (impl_ProfileValue.j0 k l0 l1 true)) = some (r1, r2) := H;have A4 := Aside0.mk A40;clear A40
  by_cases c5 : t302 = true
  ·subst c5;have H1 : ((impl_isProfile.f k l0 l1).bind fun t303 => (impl_ProfileValue.j0 k l0 l1 (!t303))) = some (r1, r2) := by rw [if_pos rfl] at H; exact H
   clear H;have H := H1;clear H1;replace H := Option.bind_eq_some_iff.mp H;obtain ⟨t303, A60, H⟩ := H;replace H : (impl_ProfileValue.j0 k l0 l1 (!t303)) = some (r1, r2) := H;have A6 := Aside0.mk A60;clear A60;have H' := Aside0.mk H;clear H
   go_wp2_with (first | ((with_reducible refine gate_callee (f := 42) rfl ?_); refine goesL_ (some 12) rfl rfl Try.func42 (by kernel_rfl) rfl #[.slice A0 l0.length c0] rfl (by (try simp only [List.map_toArray, List.map_cons, List.map_nil]); first | done | rfl | (simp only [List.length_drop, List.length_take]; rfl)) ?_; (with_reducible refine (impl_IsSection.calls k _ _ l0 true _ ?side1 ?side2 A4.out).mono ?_); (case side1 => repeat (first | exact (Kd.C_below HR0.out HB.out) | (with_reducible refine Kd.C_alloc ?_ _) | (with_reducible refine Kd.C_drewN ?_ _) | (with_reducible refine Kd.C_drew ?_))); (case side2 => exact HC0.out); rintro e w' ⟨rfl, ⟨nd, rfl⟩⟩; refine ⟨_, rfl, ?_⟩) | (go_at_call 89; (with_reducible refine (impl_isProfile.calls k _ _ l0 _ _ l1 t303 _ ?side1 ?side2 ?side3 ?side4 A6.out).mono ?_); (case side1 => repeat (first | exact (Kd.C_below HR0.out (by repeat (first | (with_reducible first | exact HB.out | apply below_alloc | apply pw_below_drewN | apply below_drew1) | exact HB.out))) | (with_reducible refine Kd.C_alloc ?_ _) | (with_reducible refine Kd.C_drewN ?_ _) | (with_reducible refine Kd.C_drew ?_))); (case side2 => exact HC0.out); (case side3 => repeat (first | exact (Kd.C_below HR1.out (by repeat (first | (with_reducible first | exact HB.out | apply below_alloc | apply pw_below_drewN | apply below_drew1) | exact HB.out))) | (with_reducible refine Kd.C_alloc ?_ _) | (with_reducible refine Kd.C_drewN ?_ _) | (with_reducible refine Kd.C_drew ?_))); (case side4 => exact HC1.out); rintro e w7 ⟨rfl, hb⟩; have n0_ := Aside0.mk (below_step (by repeat (first | (with_reducible first | exact HB.out | apply below_alloc | apply pw_below_drewN | apply below_drew1) | exact HB.out)) hb); clear HB; have HB := n0_; clear n0_; (try clear hb); (try clear hb2); (try clear hk); (try clear hi)))
   go_meet
   case rel => exact ⟨_, (!t303), (by first | rfl | (simp; done) | (simp [*]; done)), H', ⟨by first | omega | exact Nat.le_refl _⟩, ⟨HB.out⟩⟩
  ·replace c5 := Bool.eq_false_iff.mpr c5;subst c5;have H1 : (impl_ProfileValue.j0 k l0 l1 true) = some (r1, r2) := by rw [if_neg (show ¬ (false = true) by decide)] at H; exact H
   clear H;have H := H1;clear H1;have H' := Aside0.mk H;clear H
   go_wp2_with (first | ((with_reducible refine gate_callee (f := 42) rfl ?_); refine goesL_ (some 12) rfl rfl Try.func42 (by kernel_rfl) rfl #[.slice A0 l0.length c0] rfl (by (try simp only [List.map_toArray, List.map_cons, List.map_nil]); first | done | rfl | (simp only [List.length_drop, List.length_take]; rfl)) ?_; (with_reducible refine (impl_IsSection.calls k _ _ l0 false _ ?side1 ?side2 A4.out).mono ?_); (case side1 => exact (Kd.C_below HR0.out HB.out)); (case side2 => exact HC0.out); rintro e w' ⟨rfl, ⟨nd, rfl⟩⟩; refine ⟨_, rfl, ?_⟩))
   go_meet
   case rel => exact ⟨_, (true), (by first | rfl | (simp; done) | (simp [*]; done)), H', ⟨by first | omega | exact Nat.le_refl _⟩, ⟨by repeat (first | (with_reducible first | exact HB.out | apply below_alloc | apply pw_below_drewN | apply below_drew1) | exact HB.out)⟩⟩
 case rest =>
  clear HC3;(try clear c1);(try clear p2);(try clear c4);(try clear c5);obtain ⟨kq, x19_2, rfl, HA, HJ2, HB⟩ := hcut;cases kq with
  | zero => exact absurd HA.out (by simp [impl_ProfileValue.j0])
  | succ kj2 =>
   have H := HA.out;clear HA;simp only [impl_ProfileValue.j0] at H
   by_cases c8 : x19_2 = true
   ·subst c8;have H1 : (some (0, false)) = some (r1, r2) := by rw [if_pos rfl] at H; exact H
    clear H;have H := H1;clear H1;simp only [Option.some.injEq, Prod.mk.injEq] at H;obtain ⟨rfl, rfl⟩ := H;go_wp2
    go_ret2
    exact ⟨by first | rfl | (simp [errW_none, errW_some] <;> rfl) | (simp [*, errW_none, errW_some] <;> rfl), HB.out⟩
   ·replace c8 := Bool.eq_false_iff.mpr c8;subst c8;have H1 : (impl_ProfileValue.l0 kj2 l0 0 l1 (l1.length : Int) 0) = some (r1, r2) := by rw [if_neg (show ¬ (false = true) by decide)] at H; exact H
    clear H;have H := H1;clear H1;have H' := Aside0.mk H;clear H;go_wp2
    go_loopg [6, 22] kj2 (fun kq v6 v22 w' => ∃ (x6_2 : Int) (x22_2 : Int), v6 = .int .i64 x6_2 ∧ v22 = .int .i64 x22_2 ∧ Aside0 (impl_ProfileValue.l0 kq l0 x6_2 l1 (l1.length : Int) x22_2 = some (r1, r2)) ∧ Aside0 (kq ≤ kj2) ∧ Aside0 (Below w.heap.size w w'))
    case atStart => exact ⟨(0), (0), (by first | rfl | (simp; done) | (simp [*]; done)), (by first | rfl | (simp; done) | (simp [*]; done)), H', ⟨Nat.le_refl _⟩, ⟨HB.out⟩⟩
    case round =>
     clear H';(try clear c1);(try clear p2);(try clear c4);(try clear c5);(try clear c8);(try clear p2);obtain ⟨x6_2, x22_2, rfl, rfl, HA, HK2, HB⟩ := hrel;cases gk with
     | zero => exact absurd HA.out (by simp [impl_ProfileValue.l0])
     | succ k2 =>
      have H := HA.out;clear HA;simp only [impl_ProfileValue.l0] at H
      by_cases c9 : x22_2 < (l1.length : Int)
      ·rw [if_pos c9] at H;have c9b0 := decide_eq_true c9;clear c9
       by_cases c10 : 0 ≤ x22_2
       ·rw [if_pos c10] at H;have c10b0 := decide_eq_true c10;clear c10
        by_cases c11 : x22_2 < (l1.length : Int)
        ·rw [if_pos c11] at H;have c11b0 := decide_eq_true c11;clear c11
         by_cases c12 : x22_2 < (l0.length : Int)
         ·rw [if_pos c12] at H;have c12b0 := decide_eq_true c12;clear c12
          by_cases c13 : 0 ≤ (rd l1 x22_2)
          ·rw [if_pos c13] at H;have c13b0 := eq_true c13;have c13b1 := decide_eq_true c13;clear c13
           by_cases c14 : (rd l1 x22_2) ≤ ((rd_L1 l0 x22_2).length : Int)
           ·rw [if_pos c14] at H;have c14b0 := eq_true c14;have c14b1 := decide_eq_true c14;clear c14;have H' := Aside0.mk H;clear H;have p304 : 0 ≤ (x22_2 : Int) := of_decide_eq_true (by first | (with_reducible assumption) | assumption);have q304 : x22_2 < (l1.length : Int) := of_decide_eq_true (by first | (with_reducible assumption) | assumption);obtain ⟨ad304, e304, hx304_0⟩ := Kd.at_int HR1.out x22_2 p304 q304;cases e304;replace hx304_0 := (HB.out.cell (World.block_lt_of_cell? w _ hx304_0)).trans hx304_0;replace p304 := eq_true p304;replace q304 := eq_true q304;have p305 : 0 ≤ (x22_2 : Int) := of_decide_eq_true (by first | (with_reducible assumption) | assumption);have q305 : x22_2 < (l0.length : Int) := of_decide_eq_true (by first | (with_reducible assumption) | assumption);obtain ⟨ad305, A305_0, c305_0, e305, hx305_0, hl305_0, hi305_0⟩ := at_L1 HR0.out x22_2 p305 q305;cases e305;replace hx305_0 := (HB.out.cell (World.block_lt_of_cell? w _ hx305_0)).trans hx305_0;have HR305_0 := Aside0.mk hi305_0;have HC305_0 := Aside0.mk hl305_0;clear hi305_0 hl305_0;replace p305 := eq_true p305;replace q305 := eq_true q305;obtain ⟨i015, hi015, _, hsz15, _⟩ := info_parts info3;obtain ⟨hcut15, hA15, hC15⟩ := print_take_of (P := Try.prog) (Value.int .i64) 0 24 3 .i64 Try.underlying24 hi015 hsz15 A305_0 c305_0 (rd_L1 l0 x22_2) (rd l1 x22_2) (of_decide_eq_true (by first | (with_reducible assumption) | assumption)) (of_decide_eq_true (by first | (with_reducible assumption) | assumption)) HC305_0.out
            (try (have HT15_ := Aside0.mk (show ((((rd_L1 l0 x22_2)).take (((rd l1 x22_2) : Int)).toNat).length : Int) = max ((rd l1 x22_2)) 0 from (by have h1_ : 0 ≤ ((rd l1 x22_2) : Int) := of_decide_eq_true (by first | (with_reducible assumption) | assumption); have h2_ : ((rd l1 x22_2) : Int) ≤ (((rd_L1 l0 x22_2)).length : Int) := of_decide_eq_true (by first | (with_reducible assumption) | assumption); rw [List.length_take]; omega))))
            have HR306 := Aside0.mk (Kd.C_of_reads (h1 := fun _ => rfl) (hA15 _ (Kd.reads_of_C HR305_0.out)));have HC306 := Aside0.mk hC15;clear hA15 hC15 hi015 hsz15;go_wp2
            go_loopg [6, 34] k2 (fun kq v6 v34 w' => ∃ (x6_3 : Int) (x34_3 : Int), v6 = .int .i64 x6_3 ∧ v34 = .int .i64 x34_3 ∧ Aside0 (impl_ProfileValue.l1 kq l0 x6_3 l1 (l1.length : Int) x22_2 ((rd_L1 l0 x22_2).take ((rd l1 x22_2) : Int).toNat) (((rd_L1 l0 x22_2).take ((rd l1 x22_2) : Int).toNat).length : Int) x34_3 = some (r1, r2)) ∧ Aside0 (kq ≤ k2) ∧ Aside0 (Below w.heap.size w w'))
            case atStart => exact ⟨(x6_2), (0), (by first | rfl | (simp; done) | (simp [*]; done)), (by first | rfl | (simp; done) | (simp [*]; done)), H', ⟨Nat.le_refl _⟩, ⟨HB.out⟩⟩
            case round =>
             clear H';(try clear c1);(try clear p2);(try clear c3);(try clear p3);(try clear q3);(try clear hx3);(try clear c4);(try clear c5);(try clear c8);(try clear c9);(try clear c9b0);(try clear c10);(try clear c10b0);(try clear c11);(try clear c11b0);(try clear c12);(try clear c12b0);(try clear c13);(try clear c13b0);(try clear c13b1);(try clear c14);(try clear c14b0);(try clear c14b1);(try clear hx304_0);(try clear hx305_0);(try clear p2);(try clear p304);(try clear p305);(try clear q304);(try clear q305);obtain ⟨x6_3, x34_3, rfl, rfl, HA, HK3, HB⟩ := hrel;cases gk with
             | zero => exact absurd HA.out (by simp [impl_ProfileValue.l1])
             | succ k3 =>
              have H := HA.out;clear HA;simp only [impl_ProfileValue.l1] at H
              by_cases c16 : x34_3 < (((rd_L1 l0 x22_2).take ((rd l1 x22_2) : Int).toNat).length : Int)
              ·rw [if_pos c16] at H;have c16b0 := decide_eq_true c16
               (try (have c16b30 := c16b0; rw [HT15_.out] at c16b30; have c16p30 := eq_true (of_decide_eq_true c16b30); have c16n30 := eq_false (Int.not_le.2 (of_decide_eq_true c16b30))))
               clear c16
               by_cases c17 : 0 ≤ x34_3
               ·rw [if_pos c17] at H;have c17b0 := decide_eq_true c17;clear c17
                by_cases c18 : x34_3 < (((rd_L1 l0 x22_2).take ((rd l1 x22_2) : Int).toNat).length : Int)
                ·rw [if_pos c18] at H;have c18b0 := decide_eq_true c18
                 (try (have c18b30 := c18b0; rw [HT15_.out] at c18b30; have c18p30 := eq_true (of_decide_eq_true c18b30); have c18n30 := eq_false (Int.not_le.2 (of_decide_eq_true c18b30))))
                 clear c18;have H' := Aside0.mk H;clear H;have p307 : 0 ≤ (x34_3 : Int) := of_decide_eq_true (by first | (with_reducible assumption) | assumption);have q307 : x34_3 < (((rd_L1 l0 x22_2).take ((rd l1 x22_2) : Int).toNat).length : Int) := of_decide_eq_true (by first | (with_reducible assumption) | assumption);obtain ⟨ad307, e307, hx307_0⟩ := Kd.at_int HR306.out x34_3 p307 q307;cases e307;replace hx307_0 := (HB.out.cell (World.block_lt_of_cell? w _ hx307_0)).trans hx307_0;replace p307 := eq_true p307;replace q307 := eq_true q307;go_wp2
                 go_roundg k3
                 case measure => have := HJ2.out; have := HK2.out; have := HK3.out; omega
                 case rel => exact ⟨(wrap64 (x6_3 + (rd ((rd_L1 l0 x22_2).take ((rd l1 x22_2) : Int).toNat) x34_3))), (wrap64 (x34_3 + 1)), (by first | rfl | (simp; done) | (simp [*]; done)), (by first | rfl | (simp; done) | (simp [*]; done)), H', ⟨by have := HJ2.out; have := HK2.out; have := HK3.out; omega⟩, ⟨HB.out⟩⟩
                ·rw [if_neg c18] at H;exact absurd H (by simp)
               ·rw [if_neg c17] at H;exact absurd H (by simp)
              ·rw [if_neg c16] at H;have c16b0 := decide_eq_false c16
               (try (have c16b30 := c16b0; rw [HT15_.out] at c16b30; have c16p30 := eq_false (of_decide_eq_false c16b30); have c16n30 := eq_true (Int.not_lt.1 (of_decide_eq_false c16b30))))
               clear c16;have H' := Aside0.mk H;clear H;go_wp2
               go_roundg k3
               case measure => have := HJ2.out; have := HK2.out; have := HK3.out; omega
               case rel => exact ⟨(x6_3), (wrap64 (x22_2 + 1)), (by first | rfl | (simp; done) | (simp [*]; done)), (by first | rfl | (simp; done) | (simp [*]; done)), H', ⟨by have := HJ2.out; have := HK2.out; have := HK3.out; omega⟩, ⟨HB.out⟩⟩
           ·rw [if_neg c14] at H;exact absurd H (by simp)
          ·rw [if_neg c13] at H;exact absurd H (by simp)
         ·rw [if_neg c12] at H;exact absurd H (by simp)
        ·rw [if_neg c11] at H;exact absurd H (by simp)
       ·rw [if_neg c10] at H;exact absurd H (by simp)
      ·rw [if_neg c9] at H;have c9b0 := decide_eq_false c9;clear c9;simp only [Option.some.injEq, Prod.mk.injEq] at H;obtain ⟨rfl, rfl⟩ := H;go_wp2
       go_ret2
       exact ⟨by first | rfl | (simp [errW_none, errW_some] <;> rfl) | (simp [*, errW_none, errW_some] <;> rfl), HB.out⟩

/-! ### impl_ProfileBlocks: function 44 -/
mutual
def impl_ProfileBlocks.j0 : Nat → List (List Int) → List Int → Bool → Option (List Int × Bool)
 | 0, _, _, _ => none
 | k + 1, x0, x1, x18 => if x18 = true then (some (([] : List Int), false)) else (if 0 < (x0.length : Int) then (impl_ProfileBlocks.l0 k x0 x1 (([] : List Int)) ((rd_L1 x0 0).length : Int) 0) else (none))
def impl_ProfileBlocks.l0 : Nat → List (List Int) → List Int → List Int → Int → Int → Option (List Int × Bool)
 | 0, _, _, _, _, _ => none
 | k + 1, x0, x1, x6, x23, x24 => if x24 < x23 then (impl_ProfileBlocks.l1 k x0 x1 x6 x24 x23 x24 x1 (x1.length : Int) 0) else (some (x6, true))
def impl_ProfileBlocks.l1 : Nat → List (List Int) → List Int → List Int → Int → Int → Int → List Int → Int → Int → Option (List Int × Bool)
 | 0, _, _, _, _, _, _, _, _, _ => none
 | k + 1, x0, x1, x6, x7, x23, x24, x27, x28, x29 => if x29 < x28 then (if 0 ≤ x29 then (if x29 < (x27.length : Int) then (if x7 < (rd x27 x29) then (if x6.length < 17592186044416 then (impl_ProfileBlocks.l1 k x0 x1 (x6 ++ [wrap64 ((wrap64 (x7 * (x0.length : Int))) + x29)]) x7 x23 x24 x27 x28 (wrap64 (x29 + 1))) else (none)) else (impl_ProfileBlocks.l1 k x0 x1 x6 x7 x23 x24 x27 x28 (wrap64 (x29 + 1)))) else (none)) else (none)) else (impl_ProfileBlocks.l0 k x0 x1 x6 x23 (wrap64 (x24 + 1)))
end
def impl_ProfileBlocks.f (k : Nat) (l0 : List (List Int)) (l1 : List Int) : Option (List Int × Bool) := (impl_IsSection.f k l0).bind fun t308 => (if t308 = true then ((impl_isProfile.f k l0 l1).bind fun t309 => (impl_ProfileBlocks.j0 k l0 l1 (!t309))) else (impl_ProfileBlocks.j0 k l0 l1 true))
set_option maxHeartbeats 8000000 in
set_option maxRecDepth 100000 in
theorem impl_ProfileBlocks.calls (k : Nat) (A0 : Option Addr) (c0 : Nat) (l0 : List (List Int)) (A1 : Option Addr) (c1 : Nat) (l1 : List Int) (r1 : List Int) (r2 : Bool) (w : World) (hr0 : Kd.C (Kd.slice 3 (Kd.int .i64)) w A0 l0.length l0) (hc0 : l0.length ≤ c0) (hr1 : Kd.C (Kd.int .i64) w A1 l1.length l1) (hc1 : l1.length ≤ c1) (h : impl_ProfileBlocks.f k l0 l1 = some (r1, r2)) :
  Calls Try.prog 44 #[.slice A0 l0.length c0, .slice A1 l1.length c1] w fun e w' => ∃ v0_ : Value, e = .returned (.tuple #[v0_, .bool r2]) ∧ Kd.R (Kd.int .i64) 3 w' w.heap.size (fun _ => True) v0_ r1 ∧ Below w.heap.size w w' := by
 have HR0 := Aside0.mk hr0;have HC0 := Aside0.mk hc0;clear hr0 hc0;have HR1 := Aside0.mk hr1;have HC1 := Aside0.mk hc1;clear hr1 hc1;have HB := Aside0.mk (Below.refl w.heap.size w);have H : ((impl_IsSection.f k l0).bind fun t308 => (if t308 = true then ((impl_isProfile.f k l0 l1).bind fun t309 => (impl_ProfileBlocks.j0 k l0 l1 (!t309))) else (impl_ProfileBlocks.j0 k l0 l1 true))) = some (r1, r2) := h;clear h;have HC3 := Aside0.mk H;clear H
 go_enter Try.func44, Try.ntmps44
 go_upto_region 1 with (fail)
 go_cut [18] (fun v18 wc => ∃ (kq : Nat) (x18_2 : Bool), v18 = .bool x18_2 ∧ Aside0 (impl_ProfileBlocks.j0 kq l0 l1 x18_2 = some (r1, r2)) ∧ Aside0 (kq ≤ k) ∧ Aside0 (Below w.heap.size w wc))
 case first =>
  have H := HC3.out;clear HC3;replace H := Option.bind_eq_some_iff.mp H;obtain ⟨t308, A40, H⟩ := H;replace H : (if t308 = true then ((impl_isProfile.f k l0 l1).bind fun t309 => (impl_ProfileBlocks.j0 k l0 l1 (!t309))) else (impl_ProfileBlocks.j0 k l0 l1 true)) = some (r1, r2) := H;have A4 := Aside0.mk A40;clear A40
  by_cases c5 : t308 = true
  ·subst c5;have H1 : ((impl_isProfile.f k l0 l1).bind fun t309 => (impl_ProfileBlocks.j0 k l0 l1 (!t309))) = some (r1, r2) := by rw [if_pos rfl] at H; exact H
   clear H;have H := H1;clear H1;replace H := Option.bind_eq_some_iff.mp H;obtain ⟨t309, A60, H⟩ := H;replace H : (impl_ProfileBlocks.j0 k l0 l1 (!t309)) = some (r1, r2) := H;have A6 := Aside0.mk A60;clear A60;have H' := Aside0.mk H;clear H
   go_wp2_with (first | ((with_reducible refine gate_callee (f := 42) rfl ?_); refine goesL_ (some 11) rfl rfl Try.func42 (by kernel_rfl) rfl #[.slice A0 l0.length c0] rfl (by (try simp only [List.map_toArray, List.map_cons, List.map_nil]); first | done | rfl | (simp only [List.length_drop, List.length_take]; rfl)) ?_; (with_reducible refine (impl_IsSection.calls k _ _ l0 true _ ?side1 ?side2 A4.out).mono ?_); (case side1 => repeat (first | exact (Kd.C_below HR0.out HB.out) | (with_reducible refine Kd.C_alloc ?_ _) | (with_reducible refine Kd.C_drewN ?_ _) | (with_reducible refine Kd.C_drew ?_))); (case side2 => exact HC0.out); rintro e w' ⟨rfl, ⟨nd, rfl⟩⟩; refine ⟨_, rfl, ?_⟩) | (go_at_call 89; (with_reducible refine (impl_isProfile.calls k _ _ l0 _ _ l1 t309 _ ?side1 ?side2 ?side3 ?side4 A6.out).mono ?_); (case side1 => repeat (first | exact (Kd.C_below HR0.out (by repeat (first | (with_reducible first | exact HB.out | apply below_alloc | apply pw_below_drewN | apply below_drew1) | exact HB.out))) | (with_reducible refine Kd.C_alloc ?_ _) | (with_reducible refine Kd.C_drewN ?_ _) | (with_reducible refine Kd.C_drew ?_))); (case side2 => exact HC0.out); (case side3 => repeat (first | exact (Kd.C_below HR1.out (by repeat (first | (with_reducible first | exact HB.out | apply below_alloc | apply pw_below_drewN | apply below_drew1) | exact HB.out))) | (with_reducible refine Kd.C_alloc ?_ _) | (with_reducible refine Kd.C_drewN ?_ _) | (with_reducible refine Kd.C_drew ?_))); (case side4 => exact HC1.out); rintro e w7 ⟨rfl, hb⟩; have n0_ := Aside0.mk (below_step (by repeat (first | (with_reducible first | exact HB.out | apply below_alloc | apply pw_below_drewN | apply below_drew1) | exact HB.out)) hb); clear HB; have HB := n0_; clear n0_; (try clear hb); (try clear hb2); (try clear hk); (try clear hi)))
   go_meet
   case rel => exact ⟨_, (!t309), (by first | rfl | (simp; done) | (simp [*]; done)), H', ⟨by first | omega | exact Nat.le_refl _⟩, ⟨HB.out⟩⟩
  ·replace c5 := Bool.eq_false_iff.mpr c5;subst c5;have H1 : (impl_ProfileBlocks.j0 k l0 l1 true) = some (r1, r2) := by rw [if_neg (show ¬ (false = true) by decide)] at H; exact H
   clear H;have H := H1;clear H1;have H' := Aside0.mk H;clear H
   go_wp2_with (first | ((with_reducible refine gate_callee (f := 42) rfl ?_); refine goesL_ (some 11) rfl rfl Try.func42 (by kernel_rfl) rfl #[.slice A0 l0.length c0] rfl (by (try simp only [List.map_toArray, List.map_cons, List.map_nil]); first | done | rfl | (simp only [List.length_drop, List.length_take]; rfl)) ?_; (with_reducible refine (impl_IsSection.calls k _ _ l0 false _ ?side1 ?side2 A4.out).mono ?_); (case side1 => exact (Kd.C_below HR0.out HB.out)); (case side2 => exact HC0.out); rintro e w' ⟨rfl, ⟨nd, rfl⟩⟩; refine ⟨_, rfl, ?_⟩))
   go_meet
   case rel => exact ⟨_, (true), (by first | rfl | (simp; done) | (simp [*]; done)), H', ⟨by first | omega | exact Nat.le_refl _⟩, ⟨by repeat (first | (with_reducible first | exact HB.out | apply below_alloc | apply pw_below_drewN | apply below_drew1) | exact HB.out)⟩⟩
 case rest =>
  clear HC3;(try clear c1);(try clear p2);(try clear c4);(try clear c5);obtain ⟨kq, x18_2, rfl, HA, HJ2, HB⟩ := hcut;cases kq with
  | zero => exact absurd HA.out (by simp [impl_ProfileBlocks.j0])
  | succ kj2 =>
   have H := HA.out;clear HA;simp only [impl_ProfileBlocks.j0] at H
   by_cases c8 : x18_2 = true
   ·subst c8;have H1 : (some (([] : List Int), false)) = some (r1, r2) := by rw [if_pos rfl] at H; exact H
    clear H;have H := H1;clear H1;simp only [Option.some.injEq, Prod.mk.injEq] at H;obtain ⟨rfl, rfl⟩ := H;go_wp2
    go_ret2
    exact ⟨_, by first | rfl | (simp [errW_none, errW_some] <;> rfl) | (simp [*, errW_none, errW_some] <;> rfl), by first | exact Kd.R_nil _ _ _ _ _ | exact Kd.N_nil _ _ _ _ _ | exact Kd.V_nil _ _ _ _ _ | exact Kd.Q_nil _ _ _ _ _ | exact Kd.S_nil _ _ _ _ _, HB.out⟩
   ·replace c8 := Bool.eq_false_iff.mpr c8;subst c8;have H1 : (if 0 < (l0.length : Int) then (impl_ProfileBlocks.l0 kj2 l0 l1 (([] : List Int)) ((rd_L1 l0 0).length : Int) 0) else (none)) = some (r1, r2) := by rw [if_neg (show ¬ (false = true) by decide)] at H; exact H
    clear H;have H := H1;clear H1;obtain ⟨y310, hy310⟩ : ∃ y_ : List Int, y_ = (([] : List Int)) := ⟨_, rfl⟩;replace H : (if 0 < (l0.length : Int) then (impl_ProfileBlocks.l0 kj2 l0 l1 y310 ((rd_L1 l0 0).length : Int) 0) else (none)) = some (r1, r2) := by first | (rw [hy310]; with_reducible exact H) | (have H2_ := (Option.bind_some _ _).symm.trans H; rw [hy310]; with_reducible exact H2_) | (have H2_ := (Option.bind_some _ _).symm.trans H; with_reducible exact H2_) | with_reducible exact H | (rw [hy310]; exact H) | exact H
    have Ny310 := Aside0.mk hy310;clear hy310
    by_cases c9 : 0 < (l0.length : Int)
    ·rw [if_pos c9] at H;have c9b0 := decide_eq_true c9;have c9b1 : decide (0 < l0.length) = true := decide_eq_true (by omega);clear c9;have H' := Aside0.mk H;clear H
     go_wp2_with (first | ((with_reducible refine gate_dst (N := 19) rfl ?_); refine Kd.R_lit (Kd.int .i64) _ 3 ?hg (N := 19) ?hd (xs := ([] : List Int)) (inner := []) (ok := fun _ => True) (okp := fun _ => True) ?hr ?hp (fun _ hk => hk) trivial (Below.refl _ _) (Nat.le_refl _) (by simp) ?_; (case hd => rfl); (case hg => rfl); (case hr => first | (go_simp; done) | (go_simp; rfl)); (case hp => exact (Reps.none _ _)); intro v311 w10 ho11 hb hg_ hnew_; clear hg_ hnew_; (first | rw [← Ny310.out] at ho11 | (simp only [Int.reduceToNat] at ho11; rw [← Ny310.out] at ho11)); have HO312 := Aside0.mk (Kd.R_lower ho11 (below_size HB.out)); replace HB := Aside0.mk (below_step HB.out hb); clear hb ho11; have p313 : 0 ≤ (0 : Int) := (by omega); have q313 : 0 < (l0.length : Int) := of_decide_eq_true (by first | (with_reducible assumption) | assumption); obtain ⟨ad313, A313_0, c313_0, e313, hx313_0, hl313_0, hi313_0⟩ := at_L1 HR0.out 0 p313 q313; cases e313; have qi313 : (0 < l0.length) = True := eq_true (by omega); (try rw [show ((0 : Int)).toNat = 0 from rfl] at hx313_0); (try rw [Addr.add_zero'] at hx313_0); replace hx313_0 := (HB.out.cell (World.block_lt_of_cell? w _ hx313_0)).trans hx313_0; have HR313_0 := Aside0.mk hi313_0; have HC313_0 := Aside0.mk hl313_0; clear hi313_0 hl313_0; replace p313 := eq_true p313; replace q313 := eq_true q313))
     go_loopg [6, 24] kj2 (fun kq v6 v24 w' => ∃ (x6_2 : List Int) (x24_2 : Int), v24 = .int .i64 x24_2 ∧ Aside0 (impl_ProfileBlocks.l0 kq l0 l1 x6_2 ((rd_L1 l0 0).length : Int) x24_2 = some (r1, r2)) ∧ Aside0 (kq ≤ kj2) ∧ Aside0 (Kd.R (Kd.int .i64) 3 w' w.heap.size (fun _ => True) v6 x6_2) ∧ Aside0 (Below w.heap.size w w'))
     case atStart => exact ⟨(y310), (0), (by first | rfl | (simp; done) | (simp [*]; done)), H', ⟨Nat.le_refl _⟩, ⟨by (with_reducible repeat (first | apply Kd.R_alloc | apply Kd.R_drewN | apply Kd.R_drew)); exact HO312.out⟩, ⟨HB.out⟩⟩
     case round =>
      clear H';(try clear c1);(try clear p2);(try clear c3);(try clear p3);(try clear q3);(try clear hx3);(try clear qi3);(try clear c4);(try clear c5);(try clear c8);(try clear c9);(try clear c9b0);(try clear c9b1);(try clear hx313_0);(try clear p2);(try clear p313);(try clear q313);obtain ⟨x6_2, x24_2, rfl, HA, HK2, HO_6, HB⟩ := hrel;cases gk with
      | zero => exact absurd HA.out (by simp [impl_ProfileBlocks.l0])
      | succ k2 =>
       have H := HA.out;clear HA;simp only [impl_ProfileBlocks.l0] at H
       by_cases c12 : x24_2 < ((rd_L1 l0 0).length : Int)
       ·rw [if_pos c12] at H;have c12b0 := decide_eq_true c12;clear c12;have H' := Aside0.mk H;clear H;go_wp2
        go_loopg [6, 29] k2 (fun kq v6 v29 w' => ∃ (x6_3 : List Int) (x29_3 : Int), v29 = .int .i64 x29_3 ∧ Aside0 (impl_ProfileBlocks.l1 kq l0 l1 x6_3 x24_2 ((rd_L1 l0 0).length : Int) x24_2 l1 (l1.length : Int) x29_3 = some (r1, r2)) ∧ Aside0 (kq ≤ k2) ∧ Aside0 (Kd.R (Kd.int .i64) 3 w' w.heap.size (fun _ => True) v6 x6_3) ∧ Aside0 (Below w.heap.size w w'))
        case atStart => exact ⟨(x6_2), (0), (by first | rfl | (simp; done) | (simp [*]; done)), H', ⟨Nat.le_refl _⟩, ⟨by (with_reducible repeat (first | apply Kd.R_alloc | apply Kd.R_drewN | apply Kd.R_drew)); exact HO_6.out⟩, ⟨HB.out⟩⟩
        case round =>
         clear H';(try clear c1);(try clear p2);(try clear c3);(try clear p3);(try clear q3);(try clear hx3);(try clear qi3);(try clear c4);(try clear c5);(try clear c8);(try clear c9);(try clear c9b0);(try clear c9b1);(try clear c12);(try clear c12b0);(try clear hx313_0);(try clear p2);(try clear p3);(try clear p313);(try clear q3);(try clear q313);obtain ⟨x6_3, x29_3, rfl, HA, HK3, HO_6, HB⟩ := hrel;cases gk with
         | zero => exact absurd HA.out (by simp [impl_ProfileBlocks.l1])
         | succ k3 =>
          have H := HA.out;clear HA;simp only [impl_ProfileBlocks.l1] at H
          by_cases c13 : x29_3 < (l1.length : Int)
          ·rw [if_pos c13] at H;have c13b0 := decide_eq_true c13;clear c13
           by_cases c14 : 0 ≤ x29_3
           ·rw [if_pos c14] at H;have c14b0 := decide_eq_true c14;clear c14
            by_cases c15 : x29_3 < (l1.length : Int)
            ·rw [if_pos c15] at H;have c15b0 := decide_eq_true c15;clear c15
             by_cases c16 : x24_2 < (rd l1 x29_3)
             ·rw [if_pos c16] at H;have c16b0 := decide_eq_true c16;clear c16
              by_cases c17 : x6_3.length < 17592186044416
              ·rw [if_pos c17] at H;have LMc17 := Aside0.mk c17;clear c17;obtain ⟨y315, hy315⟩ : ∃ y_ : List Int, y_ = (x6_3 ++ [wrap64 ((wrap64 (x24_2 * (l0.length : Int))) + x29_3)]) := ⟨_, rfl⟩;replace H : (impl_ProfileBlocks.l1 k3 l0 l1 y315 x24_2 ((rd_L1 l0 0).length : Int) x24_2 l1 (l1.length : Int) (wrap64 (x29_3 + 1))) = some (r1, r2) := by first | (rw [hy315]; with_reducible exact H) | (have H2_ := (Option.bind_some _ _).symm.trans H; rw [hy315]; with_reducible exact H2_) | (have H2_ := (Option.bind_some _ _).symm.trans H; with_reducible exact H2_) | with_reducible exact H | (rw [hy315]; exact H) | exact H
               have Ny315 := Aside0.mk hy315;clear hy315;have H' := Aside0.mk H;clear H;have p314 : 0 ≤ (x29_3 : Int) := of_decide_eq_true (by first | (with_reducible assumption) | assumption);have q314 : x29_3 < (l1.length : Int) := of_decide_eq_true (by first | (with_reducible assumption) | assumption);obtain ⟨ad314, e314, hx314_0⟩ := Kd.at_int HR1.out x29_3 p314 q314;cases e314;replace hx314_0 := (HB.out.cell (World.block_lt_of_cell? w _ hx314_0)).trans hx314_0;replace p314 := eq_true p314;replace q314 := eq_true q314
               go_wp2_with (first | ((with_reducible refine gate_builtin (b := .append) (xs := #[.tmp 37, .tmp 44]) rfl ?_); at_builtin; refine Kd.R_append (Kd.int .i64) (w0 := w) w.heap.size rfl (.tmp 37) (.tmp 44) 24 3 (.int .i64 0) 8 rfl Try.underlying24 info3 rfl (by decide) (by omega) u6 x6_3 (wrap64 ((wrap64 (x24_2 * (l0.length : Int))) + x29_3)) [.int .i64 (wrap64 ((wrap64 (x24_2 * (l0.length : Int))) + x29_3))] (fun _ => True) (fun _ => False) rfl rfl ?aP (fun _ hk => hk.elim) ?aF ?aO ?aB ?aS ?aL ?_; (case aP => exact rfl); (case aB => exact HB.out); (case aF => exact (fun _ _ => trivial)); (case aO => exact HO_6.out); (case aS => exact (below_size HB.out)); (case aL => have := LMc17.out; omega); intro v316 w18 ho hb hg hat; rw [← Ny315.out] at ho; have n0_ := Aside0.mk (hb); have n1_ := Aside0.mk (ho); clear HB; clear HO_6; have HB := n0_; have HO317 := n1_; clear n0_ n1_; clear ho hb hg hat))
               go_roundg k3
               case measure => have := HJ2.out; have := HK2.out; have := HK3.out; omega
               case rel => exact ⟨(y315), (wrap64 (x29_3 + 1)), (by first | rfl | (simp; done) | (simp [*]; done)), H', ⟨by have := HJ2.out; have := HK2.out; have := HK3.out; omega⟩, ⟨by (with_reducible repeat (first | apply Kd.R_alloc | apply Kd.R_drewN | apply Kd.R_drew)); exact HO317.out⟩, ⟨HB.out⟩⟩
              ·rw [if_neg c17] at H;exact absurd H (by simp)
             ·rw [if_neg c16] at H;have c16b0 := decide_eq_false c16;clear c16;have H' := Aside0.mk H;clear H;have p314 : 0 ≤ (x29_3 : Int) := of_decide_eq_true (by first | (with_reducible assumption) | assumption);have q314 : x29_3 < (l1.length : Int) := of_decide_eq_true (by first | (with_reducible assumption) | assumption);obtain ⟨ad314, e314, hx314_0⟩ := Kd.at_int HR1.out x29_3 p314 q314;cases e314;replace hx314_0 := (HB.out.cell (World.block_lt_of_cell? w _ hx314_0)).trans hx314_0;replace p314 := eq_true p314;replace q314 := eq_true q314;go_wp2
              go_roundg k3
              case measure => have := HJ2.out; have := HK2.out; have := HK3.out; omega
              case rel => exact ⟨(x6_3), (wrap64 (x29_3 + 1)), (by first | rfl | (simp; done) | (simp [*]; done)), H', ⟨by have := HJ2.out; have := HK2.out; have := HK3.out; omega⟩, ⟨by (with_reducible repeat (first | apply Kd.R_alloc | apply Kd.R_drewN | apply Kd.R_drew)); exact HO_6.out⟩, ⟨HB.out⟩⟩
            ·rw [if_neg c15] at H;exact absurd H (by simp)
           ·rw [if_neg c14] at H;exact absurd H (by simp)
          ·rw [if_neg c13] at H;have c13b0 := decide_eq_false c13;clear c13;have H' := Aside0.mk H;clear H;go_wp2
           go_roundg k3
           case measure => have := HJ2.out; have := HK2.out; have := HK3.out; omega
           case rel => exact ⟨(x6_3), (wrap64 (x24_2 + 1)), (by first | rfl | (simp; done) | (simp [*]; done)), H', ⟨by have := HJ2.out; have := HK2.out; have := HK3.out; omega⟩, ⟨by (with_reducible repeat (first | apply Kd.R_alloc | apply Kd.R_drewN | apply Kd.R_drew)); exact HO_6.out⟩, ⟨HB.out⟩⟩
       ·rw [if_neg c12] at H;have c12b0 := decide_eq_false c12;clear c12;simp only [Option.some.injEq, Prod.mk.injEq] at H;obtain ⟨rfl, rfl⟩ := H;go_wp2
        go_ret2
        exact ⟨_, by first | rfl | (simp [errW_none, errW_some] <;> rfl) | (simp [*, errW_none, errW_some] <;> rfl), by (with_reducible repeat (first | apply Kd.R_alloc | apply Kd.R_drewN | apply Kd.R_drew)); exact HO_6.out, HB.out⟩
    ·rw [if_neg c9] at H;exact absurd H (by simp)

/-! ### impl_areBlocks: function 95 -/
def impl_areBlocks.l0 : Nat → List Int → Int → List Int → Int → Int → Option (Bool)
 | 0, _, _, _, _, _ => none
 | k + 1, x0, x1, x7, x8, x9 => if x9 < x8 then (if 0 ≤ x9 then (if x9 < (x7.length : Int) then (if (rd x7 x9) < 0 then (some false) else (if (rd x7 x9) ≥ x1 then (some false) else (if x9 > 0 then (if 0 ≤ (wrap64 (x9 - 1)) then (if (wrap64 (x9 - 1)) < (x0.length : Int) then (if (rd x7 x9) ≤ (rd x0 (wrap64 (x9 - 1))) then (some false) else (impl_areBlocks.l0 k x0 x1 x7 x8 (wrap64 (x9 + 1)))) else (none)) else (none)) else (impl_areBlocks.l0 k x0 x1 x7 x8 (wrap64 (x9 + 1)))))) else (none)) else (none)) else (some true)
def impl_areBlocks.f (k : Nat) (l0 : List Int) (a1 : Int) : Option (Bool) := impl_areBlocks.l0 k l0 a1 l0 (l0.length : Int) 0
set_option maxHeartbeats 8000000 in
set_option maxRecDepth 100000 in
theorem impl_areBlocks.calls (k : Nat) (A0 : Option Addr) (c0 : Nat) (l0 : List Int) (a1 : Int) (r : Bool) (w : World) (hr0 : Kd.C (Kd.int .i64) w A0 l0.length l0) (hc0 : l0.length ≤ c0) (h : impl_areBlocks.f k l0 a1 = some r) :
  Calls Try.prog 95 #[.slice A0 l0.length c0, .int .i64 a1] w fun e w' => e = .returned (.bool r) ∧ Drawn0 w w' := by
 have HR0 := Aside0.mk hr0;have HC0 := Aside0.mk hc0;clear hr0 hc0;have H : (impl_areBlocks.l0 k l0 a1 l0 (l0.length : Int) 0) = some r := h;clear h;have H' := Aside0.mk H;clear H
 go_enter Try.func95, Try.ntmps95
 go_wp2
 go_loopg [9] k (fun kq v9 w' => ∃ (x9_1 : Int), v9 = .int .i64 x9_1 ∧ Aside0 (impl_areBlocks.l0 kq l0 a1 l0 (l0.length : Int) x9_1 = some r) ∧ Aside0 (kq ≤ k) ∧ Drawn0 w w')
 case atStart => exact ⟨(0), (by first | rfl | (simp; done) | (simp [*]; done)), H', ⟨Nat.le_refl _⟩, by repeat (first | exact Drawn0.refl _ | apply Drawn0.step)⟩
 case round =>
  clear H';(try clear p2);obtain ⟨x9_1, rfl, HA, HK1, ⟨m1, rfl⟩⟩ := hrel;cases gk with
  | zero => exact absurd HA.out (by simp [impl_areBlocks.l0])
  | succ k1 =>
   have H := HA.out;clear HA;simp only [impl_areBlocks.l0] at H
   by_cases c3 : x9_1 < (l0.length : Int)
   ·rw [if_pos c3] at H;have c3b0 := decide_eq_true c3;clear c3
    by_cases c4 : 0 ≤ x9_1
    ·rw [if_pos c4] at H;have c4b0 := decide_eq_true c4;clear c4
     by_cases c5 : x9_1 < (l0.length : Int)
     ·rw [if_pos c5] at H;have c5b0 := decide_eq_true c5;clear c5
      by_cases c6 : (rd l0 x9_1) < 0
      ·rw [if_pos c6] at H;have c6b0 := decide_eq_true c6;clear c6;obtain rfl := Option.some.inj H;have p174 : 0 ≤ (x9_1 : Int) := of_decide_eq_true (by first | (with_reducible assumption) | assumption);have q174 : x9_1 < (l0.length : Int) := of_decide_eq_true (by first | (with_reducible assumption) | assumption);obtain ⟨ad174, e174, hx174_0⟩ := Kd.at_int HR0.out x9_1 p174 q174;cases e174;replace p174 := eq_true p174;replace q174 := eq_true q174;go_wp2
       go_ret
       exact ⟨by first | rfl | (simp; done) | (simp [*]; done), by repeat (first | exact Drawn0.refl _ | apply Drawn0.step)⟩
      ·rw [if_neg c6] at H;have c6b0 := decide_eq_false c6;clear c6
       by_cases c7 : (rd l0 x9_1) ≥ a1
       ·rw [if_pos c7] at H;have c7b0 := decide_eq_true c7;clear c7;obtain rfl := Option.some.inj H;have p174 : 0 ≤ (x9_1 : Int) := of_decide_eq_true (by first | (with_reducible assumption) | assumption);have q174 : x9_1 < (l0.length : Int) := of_decide_eq_true (by first | (with_reducible assumption) | assumption);obtain ⟨ad174, e174, hx174_0⟩ := Kd.at_int HR0.out x9_1 p174 q174;cases e174;replace p174 := eq_true p174;replace q174 := eq_true q174;go_wp2
        go_ret
        exact ⟨by first | rfl | (simp; done) | (simp [*]; done), by repeat (first | exact Drawn0.refl _ | apply Drawn0.step)⟩
       ·rw [if_neg c7] at H;have c7b0 := decide_eq_false c7;clear c7
        by_cases c8 : x9_1 > 0
        ·rw [if_pos c8] at H;have c8b0 := decide_eq_true c8;clear c8;obtain ⟨ji9, hji9⟩ : ∃ j_ : Int, (wrap64 (x9_1 - 1)) = j_ := ⟨_, rfl⟩;replace H : (if 0 ≤ (ji9) then (if (ji9) < (l0.length : Int) then (if (rd l0 x9_1) ≤ (rd l0 (ji9)) then (some false) else (impl_areBlocks.l0 k1 l0 a1 l0 (l0.length : Int) (wrap64 (x9_1 + 1)))) else (none)) else (none)) = some r := by first | (rw [hji9] at H; exact H) | (simp only [hji9] at H ⊢; exact H)
         have hji9w : (IntKind.i64.wrap (x9_1 - 1)) = ji9 := (i64_w _).trans hji9
         by_cases c10 : 0 ≤ (ji9)
         ·rw [if_pos c10] at H;have c10b0 := decide_eq_true c10;clear c10
          by_cases c11 : (ji9) < (l0.length : Int)
          ·rw [if_pos c11] at H;have c11b0 := decide_eq_true c11;clear c11
           by_cases c12 : (rd l0 x9_1) ≤ (rd l0 (ji9))
           ·rw [if_pos c12] at H;have c12b0 := decide_eq_true c12;clear c12;obtain rfl := Option.some.inj H;have p174 : 0 ≤ (x9_1 : Int) := of_decide_eq_true (by first | (with_reducible assumption) | assumption);have q174 : x9_1 < (l0.length : Int) := of_decide_eq_true (by first | (with_reducible assumption) | assumption);obtain ⟨ad174, e174, hx174_0⟩ := Kd.at_int HR0.out x9_1 p174 q174;cases e174;replace p174 := eq_true p174;replace q174 := eq_true q174;have p175 : 0 ≤ ((ji9) : Int) := of_decide_eq_true (by first | (with_reducible assumption) | assumption);have q175 : (ji9) < (l0.length : Int) := of_decide_eq_true (by first | (with_reducible assumption) | assumption);obtain ⟨ad175, e175, hx175_0⟩ := Kd.at_int HR0.out (ji9) p175 q175;obtain rfl : ad174 = ad175 := (by injection e175);replace p175 := eq_true p175;replace q175 := eq_true q175;go_wp2
            go_ret
            exact ⟨by first | rfl | (simp; done) | (simp only [← hji9] <;> (first | rfl | simp)) | (simp [*]; done), by repeat (first | exact Drawn0.refl _ | apply Drawn0.step)⟩
           ·rw [if_neg c12] at H;have c12b0 := decide_eq_false c12;clear c12;have H' := Aside0.mk H;clear H;have p174 : 0 ≤ (x9_1 : Int) := of_decide_eq_true (by first | (with_reducible assumption) | assumption);have q174 : x9_1 < (l0.length : Int) := of_decide_eq_true (by first | (with_reducible assumption) | assumption);obtain ⟨ad174, e174, hx174_0⟩ := Kd.at_int HR0.out x9_1 p174 q174;cases e174;replace p174 := eq_true p174;replace q174 := eq_true q174;have p175 : 0 ≤ ((ji9) : Int) := of_decide_eq_true (by first | (with_reducible assumption) | assumption);have q175 : (ji9) < (l0.length : Int) := of_decide_eq_true (by first | (with_reducible assumption) | assumption);obtain ⟨ad175, e175, hx175_0⟩ := Kd.at_int HR0.out (ji9) p175 q175;obtain rfl : ad174 = ad175 := (by injection e175);replace p175 := eq_true p175;replace q175 := eq_true q175;go_wp2
            go_roundg k1
            case measure => have := HK1.out; omega
            case rel => exact ⟨(wrap64 (x9_1 + 1)), (by first | rfl | (simp; done) | (simp [*]; done)), H', ⟨by have := HK1.out; omega⟩, by repeat (first | exact Drawn0.refl _ | apply Drawn0.step)⟩
          ·rw [if_neg c11] at H;exact absurd H (by simp)
         ·rw [if_neg c10] at H;exact absurd H (by simp)
        ·rw [if_neg c8] at H;have c8b0 := decide_eq_false c8;clear c8;have H' := Aside0.mk H;clear H;have p174 : 0 ≤ (x9_1 : Int) := of_decide_eq_true (by first | (with_reducible assumption) | assumption);have q174 : x9_1 < (l0.length : Int) := of_decide_eq_true (by first | (with_reducible assumption) | assumption);obtain ⟨ad174, e174, hx174_0⟩ := Kd.at_int HR0.out x9_1 p174 q174;cases e174;replace p174 := eq_true p174;replace q174 := eq_true q174;go_wp2
         go_roundg k1
         case measure => have := HK1.out; omega
         case rel => exact ⟨(wrap64 (x9_1 + 1)), (by first | rfl | (simp; done) | (simp [*]; done)), H', ⟨by have := HK1.out; omega⟩, by repeat (first | exact Drawn0.refl _ | apply Drawn0.step)⟩
     ·rw [if_neg c5] at H;exact absurd H (by simp)
    ·rw [if_neg c4] at H;exact absurd H (by simp)
   ·rw [if_neg c3] at H;have c3b0 := decide_eq_false c3;clear c3;obtain rfl := Option.some.inj H;go_wp2
    go_ret
    exact ⟨by first | rfl | (simp; done) | (simp [*]; done), by repeat (first | exact Drawn0.refl _ | apply Drawn0.step)⟩

end Go.Proofs.Ytdipbpckmcmljaa.PFnProfiles

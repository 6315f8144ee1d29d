-- Printed by a changed copy of the printer; impl.bestPit and spec.paFind by contracts walked by hand
import Derived.Test.YtcbdglefkmpaeaaPFnExactShellsOfx0
import Derived.Test.YtcbdglefkmpaeaaPFnExactShellsOfx5
namespace Go.Proofs.Ytcbdglefkmpaeaa.PFnExactShellsOf
open Go.RowKit Go.Proofs.YtcbdglefkmpaeaaW.PrintWords Go.Proofs.YtcbdglefkmpaeaaW.PrintLast Go.Proofs.YtcbdglefkmpaeaaW.PrintMore
attribute [local go_sem] max2_int min2_int max_two min_two max_three min_three max_four min_four   -- for this text's walks alone
set_option linter.unusedVariables false
set_option linter.unusedSimpArgs false

/-! ### impl_pitsTo: function 51 -/
def impl_pitsTo.l0 : Nat → List (List Int) → List Int → List Int → Int → List (List Bool) → Int → Option ((List (List Bool)))
  | 0, _, _, _, _, _, _ => none
  | k + 1, x0, x1, x2, x3, x9, x10 => if x10 ≤ x3 then ((impl_pitAt.f k x0 x1 x2 x10).bind fun t376 => (if x9.length < 5864062014805 then (impl_pitsTo.l0 k x0 x1 x2 x3 (x9 ++ [t376]) (wrap64 (x10 + 1))) else (none))) else (some x9)
def impl_pitsTo.f (k : Nat) (l0 : List (List Int)) (l1 : List Int) (l2 : List Int) (a3 : Int) : Option ((List (List Bool))) := impl_pitsTo.l0 k l0 l1 l2 a3 (([] : List (List Bool))) 0
theorem impl_pitsTo.mono_l : ∀ k, (∀ y0 y1 y2 y3 y4 y5, LeO (impl_pitsTo.l0 k y0 y1 y2 y3 y4 y5) (impl_pitsTo.l0 (k + 1) y0 y1 y2 y3 y4 y5))
  | 0 => fun _ _ _ _ _ _ r h => by simp [impl_pitsTo.l0] at h
  | k + 1 => by
    have ih0 := impl_pitsTo.mono_l k
    · intro y0 y1 y2 y3 y4 y5
      unfold impl_pitsTo.l0
      repeat' first
      | (with_reducible exact ih0 _ _ _ _ _ _)
      | (with_reducible exact impl_pitAt.mono _ _ _ _ _)
      | (with_reducible exact LeO.refl _)
      | (with_reducible exact LeO.none _)
      | (with_reducible refine LeO.ite ?_ ?_)
      | (with_reducible refine LeO.bind ?_ (fun _ => ?_))
      | exact ih0 _ _ _ _ _ _
      | exact impl_pitAt.mono _ _ _ _ _
      | exact LeO.none _
      | refine LeO.ite ?_ ?_
      | refine LeO.bind ?_ (fun _ => ?_)
theorem impl_pitsTo.mono : ∀ a0 a1 a2 a3 k, LeO (impl_pitsTo.f k a0 a1 a2 a3) (impl_pitsTo.f (k + 1) a0 a1 a2 a3) := by
  intro a0 a1 a2 a3 k
  have ih0 := impl_pitsTo.mono_l k
  unfold impl_pitsTo.f
  repeat' first
      | (with_reducible exact ih0 _ _ _ _ _ _)
      | (with_reducible exact impl_pitAt.mono _ _ _ _ _)
      | (with_reducible exact LeO.refl _)
      | (with_reducible exact LeO.none _)
      | (with_reducible refine LeO.ite ?_ ?_)
      | (with_reducible refine LeO.bind ?_ (fun _ => ?_))
      | exact ih0 _ _ _ _ _ _
      | exact impl_pitAt.mono _ _ _ _ _
      | exact LeO.none _
      | refine LeO.ite ?_ ?_
      | refine LeO.bind ?_ (fun _ => ?_)
set_option maxHeartbeats 8000000 in
set_option maxRecDepth 100000 in
theorem impl_pitsTo.calls (k : Nat) (A0 : Option Addr) (c0 : Nat) (l0 : List (List Int)) (A1 : Option Addr) (c1 : Nat) (l1 : List Int) (A2 : Option Addr) (c2 : Nat) (l2 : List Int) (a3 : Int) (r : List (List Bool)) (w : World) (hr0 : Kd.C (Kd.slice 3 (Kd.int .i64)) w A0 l0.length l0) (hc0 : l0.length ≤ c0) (hr1 : Kd.C (Kd.int .i64) w A1 l1.length l1) (hc1 : l1.length ≤ c1) (hr2 : Kd.C (Kd.int .i64) w A2 l2.length l2) (hc2 : l2.length ≤ c2) (h : impl_pitsTo.f k l0 l1 l2 a3 = some r) :
    Calls Try.prog 51 #[.slice A0 l0.length c0, .slice A1 l1.length c1, .slice A2 l2.length c2, .int .i64 a3] w fun e w' => ∃ v0_ : Value, e = .returned (v0_) ∧ Kd.V (Kd.slice 4 Kd.bool) 44 w' w.heap.size (fun k_ => (w.heap.size ≤ k_)) v0_ r ∧ Below w.heap.size w w' := by
  have HR0 := Aside0.mk hr0
  have HC0 := Aside0.mk hc0
  clear hr0 hc0
  have HR1 := Aside0.mk hr1
  have HC1 := Aside0.mk hc1
  clear hr1 hc1
  have HR2 := Aside0.mk hr2
  have HC2 := Aside0.mk hc2
  clear hr2 hc2
  have HB := Aside0.mk (Below.refl w.heap.size w)
  have H : (impl_pitsTo.l0 k l0 l1 l2 a3 (([] : List (List Bool))) 0) = some r := h
  clear h
  obtain ⟨y373, hy373⟩ : ∃ y_ : List (List Bool), y_ = (([] : List (List Bool))) := ⟨_, rfl⟩
  replace H : (impl_pitsTo.l0 k l0 l1 l2 a3 y373 0) = some r := by first | (rw [hy373]; with_reducible exact H) | (have H2_ := (Option.bind_some _ _).symm.trans H; rw [hy373]; with_reducible exact H2_) | (have H2_ := (Option.bind_some _ _).symm.trans H; with_reducible exact H2_) | with_reducible exact H | (rw [hy373]; exact H) | exact H
  have Ny373 := Aside0.mk hy373
  clear hy373
  have H' := Aside0.mk H
  clear H
  go_enter Try.func51, Try.ntmps51
  go_wp2_with (first | ((with_reducible refine gate_dst (N := 11) rfl ?_); refine Kd.N_lit (Kd.slice 4 Kd.bool) _ 44 ?hg (N' := 11) ?hd (xs := ([] : List (List Bool))) (inner := []) (ok := (fun k_ => (w.heap.size ≤ k_))) (okp := (fun k_ => (w.heap.size ≤ k_))) ?hr ?hp (fun _ hk => hk) ((show ∀ k_, w.heap.size ≤ k_ → (fun k_ => (w.heap.size ≤ k_)) k_ from fun k_ hk => (Nat.le_trans (below_size (by repeat (first | (with_reducible first | exact HB.out | apply below_alloc | apply pw_below_drewN | apply below_drew1) | exact HB.out))) hk)) _ (Nat.le_refl _)) (Below.refl _ _) (Nat.le_refl _) (by simp) ?_; (case hd => rfl); (case hg => rfl); (case hr => first | (go_simp; done) | (go_simp; rfl)); (case hp => exact (Reps.none _ _)); intro v374 w5 ho6 hb hg_ hnew_; clear hg_ hnew_; (first | rw [← Ny373.out] at ho6 | (simp only [Int.reduceToNat] at ho6; rw [← Ny373.out] at ho6)); have n0_ := Aside0.mk (Kd.N_lower ho6 (below_size (by repeat (first | (with_reducible first | exact HB.out | apply below_alloc | apply pw_below_drewN | apply below_drew1) | exact HB.out)))); have n1_ := Aside0.mk (below_step (by repeat (first | (with_reducible first | exact HB.out | apply below_alloc | apply pw_below_drewN | apply below_drew1) | exact HB.out)) hb); clear HB; have HO375 := n0_; have HB := n1_; clear n0_ n1_; clear hb ho6))
  go_loopg [9, 10] k (fun kq v9 v10 w' => ∃ (x9_1 : List (List Bool)) (x10_1 : Int), v10 = .int .i64 x10_1 ∧ Aside0 (impl_pitsTo.l0 kq l0 l1 l2 a3 x9_1 x10_1 = some r) ∧ Aside0 (kq ≤ k) ∧ Aside0 (Kd.N (Kd.slice 4 Kd.bool) 44 w' w.heap.size (fun k_ => (w.heap.size ≤ k_)) v9 x9_1) ∧ Aside0 (Below w.heap.size w w'))
  case atStart => exact ⟨(y373), (0), (by first | rfl | (simp; done) | (simp [*]; done)), H', ⟨Nat.le_refl _⟩, ⟨by (with_reducible repeat (first | apply Kd.N_alloc | apply Kd.N_drewN | apply Kd.N_drew)); exact HO375.out⟩, ⟨by repeat (first | (with_reducible first | exact HB.out | apply below_alloc | apply pw_below_drewN | apply below_drew1) | exact HB.out)⟩⟩
  case round =>
    clear H'
    try clear c1
    try clear c2
    try clear p2
    try clear c5
    obtain ⟨x9_1, x10_1, rfl, HA, HK1, HO_9, HB⟩ := hrel
    cases gk with
    | zero => exact absurd HA.out (by simp [impl_pitsTo.l0])
    | succ k1 =>
      have H := HA.out
      clear HA
      simp only [impl_pitsTo.l0] at H
      by_cases c7 : x10_1 ≤ a3
      · rw [if_pos c7] at H
        have c7b0 : decide (x10_1 ≤ a3) = true := decide_eq_true c7
        clear c7
        replace H := Option.bind_eq_some_iff.mp H
        obtain ⟨t376, A80, H⟩ := H
        replace H : (if x9_1.length < 5864062014805 then (impl_pitsTo.l0 k1 l0 l1 l2 a3 (x9_1 ++ [t376]) (wrap64 (x10_1 + 1))) else (none)) = some r := H
        have A8 := Aside0.mk A80
        clear A80
        by_cases c9 : x9_1.length < 5864062014805
        · rw [if_pos c9] at H
          have LMc9 := Aside0.mk c9
          clear c9
          obtain ⟨y379, hy379⟩ : ∃ y_ : List (List Bool), y_ = (x9_1 ++ [t376]) := ⟨_, rfl⟩
          replace H : (impl_pitsTo.l0 k1 l0 l1 l2 a3 y379 (wrap64 (x10_1 + 1))) = some r := by first | (rw [hy379]; with_reducible exact H) | (have H2_ := (Option.bind_some _ _).symm.trans H; rw [hy379]; with_reducible exact H2_) | (have H2_ := (Option.bind_some _ _).symm.trans H; with_reducible exact H2_) | with_reducible exact H | (rw [hy379]; exact H) | exact H
          have Ny379 := Aside0.mk hy379
          clear hy379
          have H' := Aside0.mk H
          clear H
          go_wp2_with (first | ((with_reducible refine gate_callee (f := 47) rfl ?_); refine goesL_ (some 22) rfl rfl Try.func47 (by kernel_rfl) rfl #[.slice A0 l0.length c0, .slice A1 l1.length c1, .slice A2 l2.length c2, .int .i64 x10_1] rfl (by (try simp only [List.map_toArray, List.map_cons, List.map_nil]); first | done | rfl | (simp only [List.length_drop, List.length_take]; rfl)) ?_; (with_reducible refine (impl_pitAt.calls k1 _ _ l0 _ _ l1 _ _ l2 x10_1 t376 _ ?side1 ?side2 ?side3 ?side4 ?side5 ?side6 A8.out).mono ?_); (case side1 => repeat (first | exact (Kd.C_below HR0.out HB.out) | (with_reducible refine Kd.C_alloc ?_ _) | (with_reducible refine Kd.C_drewN ?_ _) | (with_reducible refine Kd.C_drew ?_))); (case side2 => exact HC0.out); (case side3 => repeat (first | exact (Kd.C_below HR1.out HB.out) | (with_reducible refine Kd.C_alloc ?_ _) | (with_reducible refine Kd.C_drewN ?_ _) | (with_reducible refine Kd.C_drew ?_))); (case side4 => exact HC1.out); (case side5 => repeat (first | exact (Kd.C_below HR2.out HB.out) | (with_reducible refine Kd.C_alloc ?_ _) | (with_reducible refine Kd.C_drewN ?_ _) | (with_reducible refine Kd.C_drew ?_))); (case side6 => exact HC2.out); rintro e w10 ⟨v377, rfl, ho0, hb⟩; refine ⟨_, rfl, ?_⟩; have n0_ := Aside0.mk (Kd.N_below (by (with_reducible repeat (first | apply Kd.N_alloc | apply Kd.N_drewN | apply Kd.N_drew)); exact HO_9.out) hb); have n1_ := Aside0.mk (Kd.V_lower (Kd.V_mono (ok' := fun k_ => (w.heap.size ≤ k_) ∧ some k_ ≠ (u9 : Value).ownBlock) ho0 (fun k_ hk_ => ⟨(Nat.le_trans (below_size (by repeat (first | (with_reducible first | exact HB.out | apply below_alloc | apply pw_below_drewN | apply below_drew1) | exact HB.out))) hk_), (Kd.fresh' (Kd.N_lt (by (with_reducible repeat (first | apply Kd.N_alloc | apply Kd.N_drewN | apply Kd.N_drew)); exact HO_9.out)) k_ hk_)⟩)) (below_size (by repeat (first | (with_reducible first | exact HB.out | apply below_alloc | apply pw_below_drewN | apply below_drew1) | exact HB.out)))); have n2_ := Aside0.mk (below_step (by repeat (first | (with_reducible first | exact HB.out | apply below_alloc | apply pw_below_drewN | apply below_drew1) | exact HB.out)) hb); clear HO_9; clear HB; have HO_9 := n0_; have HO378 := n1_; have HB := n2_; clear n0_ n1_ n2_; (try clear hb); (try clear hb2); (try clear hk); (try clear hi); (try clear ho0); obtain ⟨Ao12, co12, eo12⟩ := Kd.V_slice HO378.out; subst eo12) | ((with_reducible refine gate_builtin (b := .append) (xs := #[.tmp 17, .tmp 23]) rfl ?_); at_builtin; refine Kd.N_append (Kd.slice 4 Kd.bool) (w0 := w) w.heap.size rfl (.tmp 17) (.tmp 23) 49 44 (.slice none 0 0) 24 rfl Try.underlying49 info44 rfl (by decide) (by omega) u9 x9_1 t376 [.slice Ao12 t376.length co12] (fun k_ => (w.heap.size ≤ k_)) (fun k_ => ((fun k_ => (w.heap.size ≤ k_))) k_ ∧ some k_ ≠ (u9 : Value).ownBlock) rfl rfl ?aP (fun _ hk => hk) ?aF ?aO ?aB ?aS ?aL ?_; (case aP => exact (Kd.FK_slice_mk (Kd.V_reads' (Kd.V_mono (ok' := (fun k_ => ((fun k_ => (w.heap.size ≤ k_))) k_ ∧ some k_ ≠ (u9 : Value).ownBlock)) (HO378.out) (fun k_ hk => ⟨hk.1, hk.2⟩))).2.1 (Kd.V_F (Kd.V_mono (ok' := (fun k_ => ((fun k_ => (w.heap.size ≤ k_))) k_ ∧ some k_ ≠ (u9 : Value).ownBlock)) (HO378.out) (fun k_ hk => ⟨hk.1, hk.2⟩))))); (case aB => exact (by repeat (first | (with_reducible first | exact HB.out | apply below_alloc | apply pw_below_drewN | apply below_drew1) | exact HB.out))); (case aF => exact (fun k_ hk => (Nat.le_trans (below_size (by repeat (first | (with_reducible first | exact HB.out | apply below_alloc | apply pw_below_drewN | apply below_drew1) | exact HB.out))) hk))); (case aO => exact (by (with_reducible repeat (first | apply Kd.N_alloc | apply Kd.N_drewN | apply Kd.N_drew)); exact HO_9.out)); (case aS => exact (below_size (by repeat (first | (with_reducible first | exact HB.out | apply below_alloc | apply pw_below_drewN | apply below_drew1) | exact HB.out)))); (case aL => have := LMc9.out; omega); intro v380 w11 ho hb hg hat; rw [← Ny379.out] at ho; have n0_ := Aside0.mk (Kd.V_afterv (ok := (fun k_ => (w.heap.size ≤ k_))) (by (with_reducible repeat (first | apply Kd.V_alloc | apply Kd.V_drewN | apply Kd.V_drew)); exact HO378.out) hg hat); have n1_ := Aside0.mk (hb); have n2_ := Aside0.mk (ho); clear HO378; clear HB; clear HO_9; have HO378 := n0_; have HB := n1_; have HO381 := n2_; clear n0_ n1_ n2_; clear ho hb hg hat))
          go_roundg k1
          case measure => have := HK1.out; omega
          case rel => exact ⟨(y379), (wrap64 (x10_1 + 1)), (by first | rfl | (simp; done) | (simp [*]; done)), H', ⟨by have := HK1.out; omega⟩, ⟨by (with_reducible repeat (first | apply Kd.N_alloc | apply Kd.N_drewN | apply Kd.N_drew)); exact HO381.out⟩, ⟨by repeat (first | (with_reducible first | exact HB.out | apply below_alloc | apply pw_below_drewN | apply below_drew1) | exact HB.out)⟩⟩
        · rw [if_neg c9] at H
          exact absurd H (by simp)
      · rw [if_neg c7] at H
        have c7b0 : decide (x10_1 ≤ a3) = false := decide_eq_false c7
        clear c7
        obtain rfl := Option.some.inj H
        go_wp2
        go_ret
        exact ⟨_, by first | rfl | (simp [errW_none, errW_some] <;> rfl) | (simp [*, errW_none, errW_some] <;> rfl), Kd.N_V (by (with_reducible repeat (first | apply Kd.N_alloc | apply Kd.N_drewN | apply Kd.N_drew)); exact HO_9.out), by repeat (first | (with_reducible first | exact HB.out | apply below_alloc | apply pw_below_drewN | apply below_drew1) | exact HB.out)⟩

/-! ### impl_firstFactors: function 53 -/
mutual
def impl_firstFactors.l0 : Nat → List (List Int) → List Int → List Int → Int → List Int → Int → Int → Option (List Int)
  | 0, _, _, _, _, _, _, _ => none
  | k + 1, x0, x1, x2, x3, x9, x19, x20 => if x20 < x19 then (if 0 ≤ x20 then (if x20 < (x9.length : Int) then (impl_firstFactors.l0 k x0 x1 x2 x3 (x9.set (x20 : Int).toNat (-1)) x19 (wrap64 (x20 + 1))) else (none)) else (none)) else ((impl_pitsTo.f k x0 x1 x2 x3).bind fun t386 => (impl_firstFactors.l1 k x9 t386 (t386.length : Int) 0))
def impl_firstFactors.l1 : Nat → List Int → List (List Bool) → Int → Int → Option (List Int)
  | 0, _, _, _, _ => none
  | k + 1, x9, x31, x32, x33 => if x33 < x32 then (if 0 ≤ x33 then (if x33 < (x31.length : Int) then (impl_firstFactors.l2 k x9 x33 x31 x32 x33 (rd_L4 x31 x33) ((rd_L4 x31 x33).length : Int) 0) else (none)) else (none)) else (some x9)
def impl_firstFactors.l2 : Nat → List Int → Int → List (List Bool) → Int → Int → List Bool → Int → Int → Option (List Int)
  | 0, _, _, _, _, _, _, _, _ => none
  | k + 1, x9, x11, x31, x32, x33, x38, x39, x40 => if x40 < x39 then (if 0 ≤ x40 then (if x40 < (x38.length : Int) then (if rdOf false x38 x40 = true then (if x40 < (x9.length : Int) then (if (rd x9 x40) < 0 then (impl_firstFactors.l2 k (x9.set (x40 : Int).toNat x11) x11 x31 x32 x33 x38 x39 (wrap64 (x40 + 1))) else (impl_firstFactors.l2 k x9 x11 x31 x32 x33 x38 x39 (wrap64 (x40 + 1)))) else (none)) else (impl_firstFactors.l2 k x9 x11 x31 x32 x33 x38 x39 (wrap64 (x40 + 1)))) else (none)) else (none)) else (impl_firstFactors.l1 k x9 x31 x32 (wrap64 (x33 + 1)))
end
def impl_firstFactors.f (k : Nat) (l0 : List (List Int)) (l1 : List Int) (l2 : List Int) (a3 : Int) : Option (List Int) := if 0 ≤ (l0.length : Int) then (if ((l0.length : Int) : Int).toNat ≤ 35184372088832 then ((some (List.replicate ((l0.length : Int) : Int).toNat 0 : List Int)).bind fun y382 => (impl_firstFactors.l0 k l0 l1 l2 a3 y382 (y382.length : Int) 0)) else (none)) else (none)
theorem impl_firstFactors.mono_l : ∀ k, (∀ y0 y1 y2 y3 y4 y5 y6, LeO (impl_firstFactors.l0 k y0 y1 y2 y3 y4 y5 y6) (impl_firstFactors.l0 (k + 1) y0 y1 y2 y3 y4 y5 y6)) ∧ (∀ y0 y1 y2 y3, LeO (impl_firstFactors.l1 k y0 y1 y2 y3) (impl_firstFactors.l1 (k + 1) y0 y1 y2 y3)) ∧ (∀ y0 y1 y2 y3 y4 y5 y6 y7, LeO (impl_firstFactors.l2 k y0 y1 y2 y3 y4 y5 y6 y7) (impl_firstFactors.l2 (k + 1) y0 y1 y2 y3 y4 y5 y6 y7))
  | 0 => ⟨fun _ _ _ _ _ _ _ r h => by simp [impl_firstFactors.l0] at h, fun _ _ _ _ r h => by simp [impl_firstFactors.l1] at h, fun _ _ _ _ _ _ _ _ r h => by simp [impl_firstFactors.l2] at h⟩
  | k + 1 => by
    obtain ⟨ih0, ih1, ih2⟩ := impl_firstFactors.mono_l k
    refine ⟨?_, ?_, ?_⟩
    · intro y0 y1 y2 y3 y4 y5 y6
      unfold impl_firstFactors.l0
      repeat' first
      | (with_reducible exact ih0 _ _ _ _ _ _ _)
      | (with_reducible exact ih1 _ _ _ _)
      | (with_reducible exact ih2 _ _ _ _ _ _ _ _)
      | (with_reducible exact impl_pitsTo.mono _ _ _ _ _)
      | (with_reducible exact LeO.refl _)
      | (with_reducible exact LeO.none _)
      | (with_reducible refine LeO.ite ?_ ?_)
      | (with_reducible refine LeO.bind ?_ (fun _ => ?_))
      | exact ih0 _ _ _ _ _ _ _
      | exact ih1 _ _ _ _
      | exact ih2 _ _ _ _ _ _ _ _
      | exact impl_pitsTo.mono _ _ _ _ _
      | exact LeO.none _
      | refine LeO.ite ?_ ?_
      | refine LeO.bind ?_ (fun _ => ?_)
    · intro y0 y1 y2 y3
      unfold impl_firstFactors.l1
      repeat' first
      | (with_reducible exact ih0 _ _ _ _ _ _ _)
      | (with_reducible exact ih1 _ _ _ _)
      | (with_reducible exact ih2 _ _ _ _ _ _ _ _)
      | (with_reducible exact impl_pitsTo.mono _ _ _ _ _)
      | (with_reducible exact LeO.refl _)
      | (with_reducible exact LeO.none _)
      | (with_reducible refine LeO.ite ?_ ?_)
      | (with_reducible refine LeO.bind ?_ (fun _ => ?_))
      | exact ih0 _ _ _ _ _ _ _
      | exact ih1 _ _ _ _
      | exact ih2 _ _ _ _ _ _ _ _
      | exact impl_pitsTo.mono _ _ _ _ _
      | exact LeO.none _
      | refine LeO.ite ?_ ?_
      | refine LeO.bind ?_ (fun _ => ?_)
    · intro y0 y1 y2 y3 y4 y5 y6 y7
      unfold impl_firstFactors.l2
      repeat' first
      | (with_reducible exact ih0 _ _ _ _ _ _ _)
      | (with_reducible exact ih1 _ _ _ _)
      | (with_reducible exact ih2 _ _ _ _ _ _ _ _)
      | (with_reducible exact impl_pitsTo.mono _ _ _ _ _)
      | (with_reducible exact LeO.refl _)
      | (with_reducible exact LeO.none _)
      | (with_reducible refine LeO.ite ?_ ?_)
      | (with_reducible refine LeO.bind ?_ (fun _ => ?_))
      | exact ih0 _ _ _ _ _ _ _
      | exact ih1 _ _ _ _
      | exact ih2 _ _ _ _ _ _ _ _
      | exact impl_pitsTo.mono _ _ _ _ _
      | exact LeO.none _
      | refine LeO.ite ?_ ?_
      | refine LeO.bind ?_ (fun _ => ?_)
theorem impl_firstFactors.mono : ∀ a0 a1 a2 a3 k, LeO (impl_firstFactors.f k a0 a1 a2 a3) (impl_firstFactors.f (k + 1) a0 a1 a2 a3) := by
  intro a0 a1 a2 a3 k
  obtain ⟨ih0, ih1, ih2⟩ := impl_firstFactors.mono_l k
  unfold impl_firstFactors.f
  repeat' first
      | (with_reducible exact ih0 _ _ _ _ _ _ _)
      | (with_reducible exact ih1 _ _ _ _)
      | (with_reducible exact ih2 _ _ _ _ _ _ _ _)
      | (with_reducible exact impl_pitsTo.mono _ _ _ _ _)
      | (with_reducible exact LeO.refl _)
      | (with_reducible exact LeO.none _)
      | (with_reducible refine LeO.ite ?_ ?_)
      | (with_reducible refine LeO.bind ?_ (fun _ => ?_))
      | exact ih0 _ _ _ _ _ _ _
      | exact ih1 _ _ _ _
      | exact ih2 _ _ _ _ _ _ _ _
      | exact impl_pitsTo.mono _ _ _ _ _
      | exact LeO.none _
      | refine LeO.ite ?_ ?_
      | refine LeO.bind ?_ (fun _ => ?_)
set_option maxHeartbeats 8000000 in
set_option maxRecDepth 100000 in
theorem impl_firstFactors.calls (k : Nat) (A0 : Option Addr) (c0 : Nat) (l0 : List (List Int)) (A1 : Option Addr) (c1 : Nat) (l1 : List Int) (A2 : Option Addr) (c2 : Nat) (l2 : List Int) (a3 : Int) (r : List Int) (w : World) (hr0 : Kd.C (Kd.slice 3 (Kd.int .i64)) w A0 l0.length l0) (hc0 : l0.length ≤ c0) (hr1 : Kd.C (Kd.int .i64) w A1 l1.length l1) (hc1 : l1.length ≤ c1) (hr2 : Kd.C (Kd.int .i64) w A2 l2.length l2) (hc2 : l2.length ≤ c2) (h : impl_firstFactors.f k l0 l1 l2 a3 = some r) :
    Calls Try.prog 53 #[.slice A0 l0.length c0, .slice A1 l1.length c1, .slice A2 l2.length c2, .int .i64 a3] w fun e w' => ∃ v0_ : Value, e = .returned (v0_) ∧ Kd.R (Kd.int .i64) 3 w' w.heap.size (fun _ => True) v0_ r ∧ Below w.heap.size w w' := by
  have HR0 := Aside0.mk hr0
  have HC0 := Aside0.mk hc0
  clear hr0 hc0
  have HR1 := Aside0.mk hr1
  have HC1 := Aside0.mk hc1
  clear hr1 hc1
  have HR2 := Aside0.mk hr2
  have HC2 := Aside0.mk hc2
  clear hr2 hc2
  have HB := Aside0.mk (Below.refl w.heap.size w)
  have H : (if 0 ≤ (l0.length : Int) then (if ((l0.length : Int) : Int).toNat ≤ 35184372088832 then ((some (List.replicate ((l0.length : Int) : Int).toNat 0 : List Int)).bind fun y382 => (impl_firstFactors.l0 k l0 l1 l2 a3 y382 (y382.length : Int) 0)) else (none)) else (none)) = some r := h
  clear h
  by_cases c5 : 0 ≤ (l0.length : Int)
  · rw [if_pos c5] at H
    have c5b0 := eq_true c5
    have c5b1 : decide (0 ≤ (l0.length : Int)) = true := decide_eq_true c5
    clear c5
    by_cases c6 : ((l0.length : Int) : Int).toNat ≤ 35184372088832
    · rw [if_pos c6] at H
      have c6b0 := eq_true c6
      have c6b1 : decide (((l0.length : Int) : Int).toNat ≤ 35184372088832) = true := decide_eq_true c6
      clear c6
      obtain ⟨y382, hy382⟩ : ∃ y_ : List Int, y_ = (List.replicate ((l0.length : Int) : Int).toNat 0) := ⟨_, rfl⟩
      replace H : (impl_firstFactors.l0 k l0 l1 l2 a3 y382 (y382.length : Int) 0) = some r := by first | (rw [hy382]; with_reducible exact H) | (have H2_ := (Option.bind_some _ _).symm.trans H; rw [hy382]; with_reducible exact H2_) | (have H2_ := (Option.bind_some _ _).symm.trans H; with_reducible exact H2_) | with_reducible exact H | (rw [hy382]; exact H) | exact H
      have Ny382 := Aside0.mk hy382
      clear hy382
      have H' := Aside0.mk H
      clear H
      go_enter Try.func53, Try.ntmps53
      go_wp2_with (first | ((with_reducible refine gate_dst (N := 17) rfl ?_); refine Kd.R_make (Kd.int .i64) _ 3 rfl (N := 17) rfl 23 _ _ rfl (l0.length : Int) rfl rfl Try.underlying23 (.int .i64 0) 8 info3 rfl (by decide) (by omega) 0 (ok := fun _ => True) (okp := fun _ => True) rfl (fun _ hk => hk) trivial (of_decide_eq_true (by first | (with_reducible assumption) | assumption)) (Nat.le_trans (Nat.mul_le_mul_right _ (of_decide_eq_true (by first | (with_reducible assumption) | assumption) : (l0.length : Int).toNat ≤ 35184372088832)) (by omega)) (Below.refl _ _) (Nat.le_refl _) ?_; intro v383 w7 ho8 hb hg_ hnew_; clear hg_ hnew_; (first | rw [← Ny382.out] at ho8 | (simp only [Int.reduceToNat] at ho8; rw [← Ny382.out] at ho8)); have n0_ := Aside0.mk (Kd.R_lower ho8 (below_size (by repeat (first | (with_reducible first | exact HB.out | apply below_alloc | apply pw_below_drewN | apply below_drew1) | exact HB.out)))); have n1_ := Aside0.mk (below_step (by repeat (first | (with_reducible first | exact HB.out | apply below_alloc | apply pw_below_drewN | apply below_drew1) | exact HB.out)) hb); clear HB; have HO384 := n0_; have HB := n1_; clear n0_ n1_; clear hb ho8; obtain ⟨Ao9, co9, eo9⟩ := Kd.R_slice HO384.out; subst eo9))
      go_loopg [20] k (fun kq v20 w' => ∃ (x9_1 : List Int) (x20_1 : Int), v20 = .int .i64 x20_1 ∧ Aside0 (impl_firstFactors.l0 kq l0 l1 l2 a3 x9_1 (y382.length : Int) x20_1 = some r) ∧ Aside0 (kq ≤ k) ∧ Aside0 (Kd.R (Kd.int .i64) 3 w' w.heap.size (fun _ => True) (.slice Ao9 y382.length co9) x9_1) ∧ Aside0 (Below w.heap.size w w'))
      case atStart => exact ⟨(y382), (0), (by first | rfl | (simp; done) | (simp [*]; done)), H', ⟨Nat.le_refl _⟩, ⟨by (with_reducible repeat (first | apply Kd.R_alloc | apply Kd.R_drewN | apply Kd.R_drew)); exact HO384.out⟩, ⟨by repeat (first | (with_reducible first | exact HB.out | apply below_alloc | apply pw_below_drewN | apply below_drew1) | exact HB.out)⟩⟩
      case round =>
        clear H'
        try clear c1
        try clear c2
        try clear p2
        try clear c5
        try clear c5b0
        try clear c5b1
        try clear c6
        try clear c6b0
        try clear c6b1
        obtain ⟨x9_1, x20_1, rfl, HA, HK1, HO_9, HB⟩ := hrel
        have hl9_1 := (Kd.R_reads' HO_9.out).1
        rw [hl9_1] at HO_9
        (try simp only [hl9_1])
        cases gk with
        | zero => exact absurd HA.out (by simp [impl_firstFactors.l0])
        | succ k1 =>
          have H := HA.out
          clear HA
          simp only [impl_firstFactors.l0] at H
          by_cases c10 : x20_1 < (y382.length : Int)
          · rw [if_pos c10] at H
            have c10b0 : decide (x20_1 < (y382.length : Int)) = true := decide_eq_true c10
            (try (have c10b20 := c10b0; rw [hl9_1] at c10b20))
            clear c10
            by_cases c11 : 0 ≤ x20_1
            · rw [if_pos c11] at H
              have c11b0 : decide (0 ≤ x20_1) = true := decide_eq_true c11
              clear c11
              by_cases c12 : x20_1 < (x9_1.length : Int)
              · rw [if_pos c12] at H
                have c12b0 : decide (x20_1 < (x9_1.length : Int)) = true := decide_eq_true c12
                (try (have c12b20 := c12b0; rw [hl9_1] at c12b20))
                clear c12
                obtain ⟨y385, hy385⟩ : ∃ y_ : List Int, y_ = (x9_1.set (x20_1 : Int).toNat (-1)) := ⟨_, rfl⟩
                replace H : (impl_firstFactors.l0 k1 l0 l1 l2 a3 y385 (y382.length : Int) (wrap64 (x20_1 + 1))) = some r := by first | (rw [hy385]; with_reducible exact H) | (have H2_ := (Option.bind_some _ _).symm.trans H; rw [hy385]; with_reducible exact H2_) | (have H2_ := (Option.bind_some _ _).symm.trans H; with_reducible exact H2_) | with_reducible exact H | (rw [hy385]; exact H) | exact H
                have Ny385 := Aside0.mk hy385
                clear hy385
                have H' := Aside0.mk H
                clear H
                have p13 : 0 ≤ (x20_1 : Int) := of_decide_eq_true (by first | (with_reducible assumption) | assumption)
                have q13 : (x20_1 : Int) < ((x9_1.length : Int) : Int) := of_decide_eq_true (by first | (with_reducible assumption) | assumption)
                obtain ⟨go13, co13, eo13, gb13, gl13, cl13, HG13⟩ := Kd.R_form HO_9.out (by omega)
                (first | cases eo13 | (injection eo13 with ea_ en_ ec_; (first | subst ea_ | (injection ea_ with ea_; subst ea_)); subst ec_; clear en_))
                have GB13 := Aside0.mk gb13
                have GG13 := Aside0.mk HG13
                clear gb13 gl13 HG13
                obtain ⟨hx13_0, hf13_0⟩ := Kd.R_celln 0 HO_9.out (x20_1 : Int) p13 q13
                replace p13 := eq_true p13
                replace q13 := eq_true q13
                have HP14 := Kd.R_putg HO_9.out (x20_1 : Int) (-1)
                go_wp2_with (first | ((with_reducible refine gate_store (t := 3) (p := 25) rfl ?_); refine store_event (t := 3) (p := 25) (v := ?vo_w15) (w1 := (wr.setCell ⟨go13, (x20_1 : Int).toNat, none⟩ (.int .i64 (-1)))) ?hg ?ho ?hn ?hr ?_; (case ho => rfl); (case hg => rfl); (case hn => rfl); (case hr => first | (go_simp; done) | (go_simp; rfl)); intro w15 hw; have hg : wr.grownBy w15 (some go13) := (by rw [hw]; exact HP14.2); have hp_ : Kd.R (Kd.int .i64) 3 w15 w.heap.size (fun _ => True) (.slice (some ⟨go13, 0, none⟩) x9_1.length co9) y385 := (by rw [hw, Ny385.out]; exact HP14.1); clear HP14; have n0_ := Aside0.mk (hp_); have n1_ := Aside0.mk ((by rw [hw]; exact below_set (HB.out) GB13.out : Below w.heap.size w w15)); clear HO_9; clear HB; have HO_9 := n0_; have HB := n1_; clear n0_ n1_; clear hg hw hp_))
                (try simp only [← hl9_1])
                go_roundg k1
                case measure => have := HK1.out; omega
                case rel => exact ⟨(y385), (wrap64 (x20_1 + 1)), (by first | rfl | (simp; done) | (simp [*]; done)), H', ⟨by have := HK1.out; omega⟩, ⟨by (try simp only [hl9_1]); (with_reducible repeat (first | apply Kd.R_alloc | apply Kd.R_drewN | apply Kd.R_drew)); exact HO_9.out⟩, ⟨by repeat (first | (with_reducible first | exact HB.out | apply below_alloc | apply pw_below_drewN | apply below_drew1) | exact HB.out)⟩⟩
              · rw [if_neg c12] at H
                exact absurd H (by simp)
            · rw [if_neg c11] at H
              exact absurd H (by simp)
          · rw [if_neg c10] at H
            have c10b0 : decide (x20_1 < (y382.length : Int)) = false := decide_eq_false c10
            (try (have c10b20 := c10b0; rw [hl9_1] at c10b20))
            clear c10
            replace H := Option.bind_eq_some_iff.mp H
            obtain ⟨t386, A160, H⟩ := H
            replace H : (impl_firstFactors.l1 k1 x9_1 t386 (t386.length : Int) 0) = some r := H
            have A16 := Aside0.mk A160
            clear A160
            have H' := Aside0.mk H
            clear H
            go_wp2_with (first | ((with_reducible refine gate_callee (f := 51) rfl ?_); refine goesL_ (some 31) rfl rfl Try.func51 (by kernel_rfl) rfl #[.slice A0 l0.length c0, .slice A1 l1.length c1, .slice A2 l2.length c2, .int .i64 a3] rfl (by (try simp only [List.map_toArray, List.map_cons, List.map_nil]); first | done | rfl | (simp only [List.length_drop, List.length_take]; rfl)) ?_; (with_reducible refine (impl_pitsTo.calls k1 _ _ l0 _ _ l1 _ _ l2 a3 t386 _ ?side1 ?side2 ?side3 ?side4 ?side5 ?side6 A16.out).mono ?_); (case side1 => repeat (first | exact (Kd.C_below HR0.out HB.out) | (with_reducible refine Kd.C_alloc ?_ _) | (with_reducible refine Kd.C_drewN ?_ _) | (with_reducible refine Kd.C_drew ?_))); (case side2 => exact HC0.out); (case side3 => repeat (first | exact (Kd.C_below HR1.out HB.out) | (with_reducible refine Kd.C_alloc ?_ _) | (with_reducible refine Kd.C_drewN ?_ _) | (with_reducible refine Kd.C_drew ?_))); (case side4 => exact HC1.out); (case side5 => repeat (first | exact (Kd.C_below HR2.out HB.out) | (with_reducible refine Kd.C_alloc ?_ _) | (with_reducible refine Kd.C_drewN ?_ _) | (with_reducible refine Kd.C_drew ?_))); (case side6 => exact HC2.out); rintro e w17 ⟨v387, rfl, ho0, hb⟩; refine ⟨_, rfl, ?_⟩; have n0_ := Aside0.mk (Kd.R_below (by (with_reducible repeat (first | apply Kd.R_alloc | apply Kd.R_drewN | apply Kd.R_drew)); exact HO_9.out) hb); have n1_ := Aside0.mk (Kd.V_lower (Kd.V_mono (ok' := fun k_ => some k_ ≠ (.slice Ao9 x9_1.length co9 : Value).ownBlock) ho0 (fun k_ hk_ => (Kd.fresh' (Kd.R_lt (by (with_reducible repeat (first | apply Kd.R_alloc | apply Kd.R_drewN | apply Kd.R_drew)); exact HO_9.out)) k_ hk_))) (below_size (by repeat (first | (with_reducible first | exact HB.out | apply below_alloc | apply pw_below_drewN | apply below_drew1) | exact HB.out)))); have n2_ := Aside0.mk (below_step (by repeat (first | (with_reducible first | exact HB.out | apply below_alloc | apply pw_below_drewN | apply below_drew1) | exact HB.out)) hb); clear HO_9; clear HB; have HO_9 := n0_; have HO388 := n1_; have HB := n2_; clear n0_ n1_ n2_; (try clear hb); (try clear hb2); (try clear hk); (try clear hi); (try clear ho0); obtain ⟨Ao18, co18, eo18⟩ := Kd.V_slice HO388.out; subst eo18))
            go_loopg [33] k1 (fun kq v33 w' => ∃ (x9_2 : List Int) (x33_2 : Int), v33 = .int .i64 x33_2 ∧ Aside0 (impl_firstFactors.l1 kq x9_2 t386 (t386.length : Int) x33_2 = some r) ∧ Aside0 (kq ≤ k1) ∧ Aside0 (Kd.R (Kd.int .i64) 3 w' w.heap.size (fun _ => True) (.slice Ao9 x9_1.length co9) x9_2) ∧ Aside0 (Kd.V (Kd.slice 4 Kd.bool) 44 w' w.heap.size (fun k_ => some k_ ≠ ((.slice Ao9 x9_1.length co9) : Value).ownBlock) (.slice Ao18 t386.length co18) t386) ∧ Aside0 (Below w.heap.size w w'))
            case atStart => exact ⟨(x9_1), (0), (by first | rfl | (simp; done) | (simp [*]; done)), H', ⟨Nat.le_refl _⟩, ⟨by (try simp only [hl9_1]); (with_reducible repeat (first | apply Kd.R_alloc | apply Kd.R_drewN | apply Kd.R_drew)); exact HO_9.out⟩, ⟨by (try simp only [hl9_1]); (with_reducible repeat (first | apply Kd.V_alloc | apply Kd.V_drewN | apply Kd.V_drew)); exact HO388.out⟩, ⟨by repeat (first | (with_reducible first | exact HB.out | apply below_alloc | apply pw_below_drewN | apply below_drew1) | exact HB.out)⟩⟩
            case round =>
              clear H'
              try clear c1
              try clear p1
              try clear q1
              try clear hx1
              try clear c2
              try clear p2
              try clear c5
              try clear c5b0
              try clear c5b1
              try clear c6
              try clear c6b0
              try clear c6b1
              try clear p6
              try clear c10
              try clear c10b0
              try clear c11
              try clear c11b0
              try clear c12
              try clear c12b0
              try clear p13
              try clear q13
              try clear hx13
              try clear hf13
              try clear hx13_0
              try clear p13
              try clear p2
              try clear q13
              obtain ⟨x9_2, x33_2, rfl, HA, HK2, HO_9, HO_31, HB⟩ := hrel
              have hl9_2 := (Kd.R_reads' HO_9.out).1
              rw [hl9_2] at HO_9
              (try simp only [hl9_2])
              (try simp only [hl9_2] at HO_31)
              cases gk with
              | zero => exact absurd HA.out (by simp [impl_firstFactors.l1])
              | succ k2 =>
                have H := HA.out
                clear HA
                simp only [impl_firstFactors.l1] at H
                by_cases c19 : x33_2 < (t386.length : Int)
                · rw [if_pos c19] at H
                  have c19b0 : decide (x33_2 < (t386.length : Int)) = true := decide_eq_true c19
                  (try (have c19b20 := c19b0; rw [hl9_1] at c19b20))
                  (try (have c19b21 := c19b0; rw [hl9_2] at c19b21))
                  clear c19
                  by_cases c20 : 0 ≤ x33_2
                  · rw [if_pos c20] at H
                    have c20b0 : decide (0 ≤ x33_2) = true := decide_eq_true c20
                    clear c20
                    by_cases c21 : x33_2 < (t386.length : Int)
                    · rw [if_pos c21] at H
                      have c21b0 : decide (x33_2 < (t386.length : Int)) = true := decide_eq_true c21
                      (try (have c21b20 := c21b0; rw [hl9_1] at c21b20))
                      (try (have c21b21 := c21b0; rw [hl9_2] at c21b21))
                      clear c21
                      have H' := Aside0.mk H
                      clear H
                      have p389 : 0 ≤ (x33_2 : Int) := of_decide_eq_true (by first | (with_reducible assumption) | assumption)
                      have q389 : x33_2 < (t386.length : Int) := of_decide_eq_true (by first | (with_reducible assumption) | assumption)
                      obtain ⟨ad389, A389_0, c389_0, e389, hx389_0, hl389_0, hi389_0⟩ := at_L4 (Kd.V_reads' HO_31.out).2.2 x33_2 p389 q389
                      cases e389
                      obtain ⟨ce389, hce389, hMe389, hcc389⟩ := Kd.V_get HO_31.out [] x33_2 p389 (by first | exact q389 | exact of_decide_eq_true (by first | (with_reducible assumption) | assumption) | (have e_ := (Kd.V_reads' HO_31.out).1; omega))
                      obtain ⟨ua389_0, uc389_0, rfl, ul389_0, ge389_0⟩ := Kd.FK_slice_open hMe389
                      have hv389_0 := hcc389 0 _ rfl
                      rw [Nat.add_zero, show ((Kd.slice 4 Kd.bool)).sz = 1 from rfl, Nat.mul_one] at hv389_0
                      replace hv389_0 := Option.some.inj (hv389_0.symm.trans hx389_0)
                      injection hv389_0 with hva_ hvn_ hvc_
                      rw [hva_] at ge389_0
                      rw [hvc_] at ul389_0
                      have HL389_0 := Aside0.mk (show Kd.V Kd.bool 4 _ w.heap.size _ _ (rd_L4 t386 x33_2) from Kd.V_mk ul389_0 ge389_0)
                      clear hva_ hvn_ hvc_ ge389_0 ul389_0
                      clear hcc389 hce389
                      have HR389_0 := Aside0.mk hi389_0
                      have HC389_0 := Aside0.mk hl389_0
                      clear hi389_0 hl389_0
                      replace p389 := eq_true p389
                      replace q389 := eq_true q389
                      go_wp2
                      go_loopg [40] k2 (fun kq v40 w' => ∃ (x9_3 : List Int) (x40_3 : Int), v40 = .int .i64 x40_3 ∧ Aside0 (impl_firstFactors.l2 kq x9_3 x33_2 t386 (t386.length : Int) x33_2 (rd_L4 t386 x33_2) ((rd_L4 t386 x33_2).length : Int) x40_3 = some r) ∧ Aside0 (kq ≤ k2) ∧ Aside0 (Kd.R (Kd.int .i64) 3 w' w.heap.size (fun _ => True) (.slice Ao9 x9_2.length co9) x9_3) ∧ Aside0 (Kd.V (Kd.slice 4 Kd.bool) 44 w' w.heap.size (fun k_ => some k_ ≠ ((.slice Ao9 x9_2.length co9) : Value).ownBlock) (.slice (some ad389) t386.length co18) t386) ∧ Aside0 (Kd.V Kd.bool 4 w' w.heap.size (fun k_ => some k_ ≠ ((.slice Ao9 x9_2.length co9) : Value).ownBlock) (.slice A389_0 (rd_L4 t386 x33_2).length c389_0) (rd_L4 t386 x33_2)) ∧ Aside0 (Below w.heap.size w w'))
                      case atStart => exact ⟨(x9_2), (0), (by first | rfl | (simp; done) | (simp [*]; done)), H', ⟨Nat.le_refl _⟩, ⟨by (try simp only [hl9_1]); (try simp only [hl9_2]); (with_reducible repeat (first | apply Kd.R_alloc | apply Kd.R_drewN | apply Kd.R_drew)); exact HO_9.out⟩, ⟨by (try simp only [hl9_1]); (try simp only [hl9_2]); (with_reducible repeat (first | apply Kd.V_alloc | apply Kd.V_drewN | apply Kd.V_drew)); exact HO_31.out⟩, ⟨by (try simp only [hl9_1]); (try simp only [hl9_2]); (with_reducible repeat (first | apply Kd.V_alloc | apply Kd.V_drewN | apply Kd.V_drew)); exact HL389_0.out⟩, ⟨by repeat (first | (with_reducible first | exact HB.out | apply below_alloc | apply pw_below_drewN | apply below_drew1) | exact HB.out)⟩⟩
                      case round =>
                        clear H'
                        try clear c1
                        try clear p1
                        try clear q1
                        try clear hx1
                        try clear c2
                        try clear p2
                        try clear c3
                        try clear p3
                        try clear q3
                        try clear hx3
                        try clear c5
                        try clear c5b0
                        try clear c5b1
                        try clear c6
                        try clear c6b0
                        try clear c6b1
                        try clear p6
                        try clear c10
                        try clear c10b0
                        try clear c11
                        try clear c11b0
                        try clear c12
                        try clear c12b0
                        try clear p13
                        try clear q13
                        try clear hx13
                        try clear hf13
                        try clear c19
                        try clear c19b0
                        try clear c20
                        try clear c20b0
                        try clear c21
                        try clear c21b0
                        try clear hx13_0
                        try clear hx389_0
                        try clear p1
                        try clear p13
                        try clear p2
                        try clear p389
                        try clear p6
                        try clear q1
                        try clear q13
                        try clear q389
                        obtain ⟨x9_3, x40_3, rfl, HA, HK3, HO_9, HO_31, HL389_0, HB⟩ := hrel
                        have hl9_3 := (Kd.R_reads' HO_9.out).1
                        rw [hl9_3] at HO_9
                        (try simp only [hl9_3])
                        (try simp only [hl9_3] at HO_31); (try simp only [hl9_3] at HL389_0)
                        cases gk with
                        | zero => exact absurd HA.out (by simp [impl_firstFactors.l2])
                        | succ k3 =>
                          have H := HA.out
                          clear HA
                          simp only [impl_firstFactors.l2] at H
                          by_cases c22 : x40_3 < ((rd_L4 t386 x33_2).length : Int)
                          · rw [if_pos c22] at H
                            have c22b0 : decide (x40_3 < ((rd_L4 t386 x33_2).length : Int)) = true := decide_eq_true c22
                            clear c22
                            by_cases c23 : 0 ≤ x40_3
                            · rw [if_pos c23] at H
                              have c23b0 : decide (0 ≤ x40_3) = true := decide_eq_true c23
                              clear c23
                              by_cases c24 : x40_3 < ((rd_L4 t386 x33_2).length : Int)
                              · rw [if_pos c24] at H
                                have c24b0 : decide (x40_3 < ((rd_L4 t386 x33_2).length : Int)) = true := decide_eq_true c24
                                clear c24
                                obtain ⟨bq25, hbq25⟩ : ∃ b_ : Bool, b_ = (rdOf false (rd_L4 t386 x33_2) x40_3) := ⟨_, rfl⟩
                                replace H : (if bq25 = true then (if x40_3 < (x9_3.length : Int) then (if (rd x9_3 x40_3) < 0 then (impl_firstFactors.l2 k3 (x9_3.set (x40_3 : Int).toNat x33_2) x33_2 t386 (t386.length : Int) x33_2 (rd_L4 t386 x33_2) ((rd_L4 t386 x33_2).length : Int) (wrap64 (x40_3 + 1))) else (impl_firstFactors.l2 k3 x9_3 x33_2 t386 (t386.length : Int) x33_2 (rd_L4 t386 x33_2) ((rd_L4 t386 x33_2).length : Int) (wrap64 (x40_3 + 1)))) else (none)) else (impl_firstFactors.l2 k3 x9_3 x33_2 t386 (t386.length : Int) x33_2 (rd_L4 t386 x33_2) ((rd_L4 t386 x33_2).length : Int) (wrap64 (x40_3 + 1)))) = some r := by rw [← hbq25] at H; exact H
                                have Nbq25 := Aside0.mk hbq25
                                clear hbq25
                                by_cases c26 : bq25 = true
                                · subst c26
                                  have H1 : (if x40_3 < (x9_3.length : Int) then (if (rd x9_3 x40_3) < 0 then (impl_firstFactors.l2 k3 (x9_3.set (x40_3 : Int).toNat x33_2) x33_2 t386 (t386.length : Int) x33_2 (rd_L4 t386 x33_2) ((rd_L4 t386 x33_2).length : Int) (wrap64 (x40_3 + 1))) else (impl_firstFactors.l2 k3 x9_3 x33_2 t386 (t386.length : Int) x33_2 (rd_L4 t386 x33_2) ((rd_L4 t386 x33_2).length : Int) (wrap64 (x40_3 + 1)))) else (none)) = some r := by rw [if_pos rfl] at H; exact H
                                  clear H
                                  have H := H1
                                  clear H1
                                  by_cases c27 : x40_3 < (x9_3.length : Int)
                                  · rw [if_pos c27] at H
                                    have c27b0 : decide (x40_3 < (x9_3.length : Int)) = true := decide_eq_true c27
                                    (try (have c27b20 := c27b0; rw [hl9_1] at c27b20))
                                    (try (have c27b21 := c27b0; rw [hl9_2] at c27b21))
                                    (try (have c27b22 := c27b0; rw [hl9_3] at c27b22))
                                    clear c27
                                    by_cases c28 : (rd x9_3 x40_3) < 0
                                    · rw [if_pos c28] at H
                                      have c28b0 : decide ((rd x9_3 x40_3) < 0) = true := decide_eq_true c28
                                      clear c28
                                      obtain ⟨y392, hy392⟩ : ∃ y_ : List Int, y_ = (x9_3.set (x40_3 : Int).toNat x33_2) := ⟨_, rfl⟩
                                      replace H : (impl_firstFactors.l2 k3 y392 x33_2 t386 (t386.length : Int) x33_2 (rd_L4 t386 x33_2) ((rd_L4 t386 x33_2).length : Int) (wrap64 (x40_3 + 1))) = some r := by first | (rw [hy392]; with_reducible exact H) | (have H2_ := (Option.bind_some _ _).symm.trans H; rw [hy392]; with_reducible exact H2_) | (have H2_ := (Option.bind_some _ _).symm.trans H; with_reducible exact H2_) | with_reducible exact H | (rw [hy392]; exact H) | exact H
                                      have Ny392 := Aside0.mk hy392
                                      clear hy392
                                      have H' := Aside0.mk H
                                      clear H
                                      have p390 : 0 ≤ (x40_3 : Int) := of_decide_eq_true (by first | (with_reducible assumption) | assumption)
                                      have q390 : x40_3 < ((rd_L4 t386 x33_2).length : Int) := of_decide_eq_true (by first | (with_reducible assumption) | assumption)
                                      obtain ⟨ad390, e390, hx390_0⟩ := Kd.at_bool (Kd.V_reads' HL389_0.out).2.2 x40_3 p390 q390
                                      (try rw [← Nbq25.out] at hx390_0)
                                      cases e390
                                      skip
                                      replace p390 := eq_true p390
                                      replace q390 := eq_true q390
                                      have p391 : 0 ≤ (x40_3 : Int) := of_decide_eq_true (by first | (with_reducible assumption) | assumption)
                                      have q391 : x40_3 < (x9_3.length : Int) := of_decide_eq_true (by first | (with_reducible assumption) | assumption)
                                      obtain ⟨ad391, e391, hx391_0⟩ := Kd.at_int (Kd.R_reads' HO_9.out).2.2 x40_3 p391 q391
                                      cases e391
                                      replace p391 := eq_true p391
                                      replace q391 := eq_true q391
                                      have p29 : 0 ≤ (x40_3 : Int) := of_decide_eq_true (by first | (with_reducible assumption) | assumption)
                                      have q29 : (x40_3 : Int) < ((x9_3.length : Int) : Int) := of_decide_eq_true (by first | (with_reducible assumption) | assumption)
                                      obtain ⟨go29, co29, eo29, gb29, gl29, cl29, HG29⟩ := Kd.R_form HO_9.out (by omega)
                                      (first | cases eo29 | (injection eo29 with ea_ en_ ec_; (first | subst ea_ | (injection ea_ with ea_; subst ea_)); subst ec_; clear en_))
                                      have GB29 := Aside0.mk gb29
                                      have GG29 := Aside0.mk HG29
                                      clear gb29 gl29 HG29
                                      (first | simp only [add_plain] at hx391_0 | skip)
                                      obtain ⟨hx29_0, hf29_0⟩ := Kd.R_celln 0 HO_9.out (x40_3 : Int) p29 q29
                                      replace p29 := eq_true p29
                                      replace q29 := eq_true q29
                                      have HP30 := Kd.R_putg HO_9.out (x40_3 : Int) x33_2
                                      go_wp2_with (first | ((with_reducible refine gate_store (t := 3) (p := 56) rfl ?_); refine store_event (t := 3) (p := 56) (v := ?vo_w31) (w1 := (wr.setCell ⟨go29, (x40_3 : Int).toNat, none⟩ (.int .i64 x33_2))) ?hg ?ho ?hn ?hr ?_; (case ho => rfl); (case hg => rfl); (case hn => rfl); (case hr => first | (go_simp; done) | (go_simp; rfl)); intro w31 hw; have hg : wr.grownBy w31 (some go29) := (by rw [hw]; exact HP30.2); have hp_ : Kd.R (Kd.int .i64) 3 w31 w.heap.size (fun _ => True) (.slice (some ⟨go29, 0, none⟩) x9_3.length co9) y392 := (by rw [hw, Ny392.out]; exact HP30.1); clear HP30; have n0_ := Aside0.mk (hp_); have n1_ := Aside0.mk (Kd.V_afterv (v := (.slice (some ⟨go29, 0, none⟩) x9_3.length co9)) (v1 := (.slice (some ⟨go29, 0, none⟩) x9_3.length co9)) (ok := (fun _ => True)) (by (with_reducible repeat (first | apply Kd.V_alloc | apply Kd.V_drewN | apply Kd.V_drew)); exact Kd.V_mono HO_31.out (fun _ hk => ⟨trivial, hk⟩)) hg (.inl rfl)); have nL_ := Aside0.mk (Kd.V_afterv (v := (.slice (some ⟨go29, 0, none⟩) x9_3.length co9)) (v1 := (.slice (some ⟨go29, 0, none⟩) x9_3.length co9)) (ok := (fun _ => True)) (by (with_reducible repeat (first | apply Kd.V_alloc | apply Kd.V_drewN | apply Kd.V_drew)); exact Kd.V_mono HL389_0.out (fun _ hk => ⟨trivial, hk⟩)) hg (.inl rfl)); have n2_ := Aside0.mk ((by rw [hw]; exact below_set (HB.out) GB29.out : Below w.heap.size w w31)); clear HO_9; clear HO_31; clear HL389_0; clear HB; have HO_9 := n0_; have HO_31 := n1_; have HL389_0 := nL_; clear nL_; have HB := n2_; clear n0_ n1_ n2_; clear hg hw hp_))
                                      (try simp only [← hl9_3])
                                      go_roundg k3
                                      case measure => have := HK1.out; have := HK2.out; have := HK3.out; omega
                                      case rel => exact ⟨(y392), (wrap64 (x40_3 + 1)), (by first | rfl | (simp; done) | (simp [*]; done)), H', ⟨by have := HK1.out; have := HK2.out; have := HK3.out; omega⟩, ⟨by (try simp only [hl9_1]); (try simp only [hl9_2]); (try simp only [hl9_3]); (with_reducible repeat (first | apply Kd.R_alloc | apply Kd.R_drewN | apply Kd.R_drew)); exact HO_9.out⟩, ⟨by (try simp only [hl9_1]); (try simp only [hl9_2]); (try simp only [hl9_3]); (with_reducible repeat (first | apply Kd.V_alloc | apply Kd.V_drewN | apply Kd.V_drew)); exact Kd.V_mono HO_31.out (fun _ hk => hk.2)⟩, ⟨by (try simp only [hl9_1]); (try simp only [hl9_2]); (try simp only [hl9_3]); (with_reducible repeat (first | apply Kd.V_alloc | apply Kd.V_drewN | apply Kd.V_drew)); exact Kd.V_mono HL389_0.out (fun _ hk => hk.2)⟩, ⟨by repeat (first | (with_reducible first | exact HB.out | apply below_alloc | apply pw_below_drewN | apply below_drew1) | exact HB.out)⟩⟩
                                    · rw [if_neg c28] at H
                                      have c28b0 : decide ((rd x9_3 x40_3) < 0) = false := decide_eq_false c28
                                      clear c28
                                      have H' := Aside0.mk H
                                      clear H
                                      have p390 : 0 ≤ (x40_3 : Int) := of_decide_eq_true (by first | (with_reducible assumption) | assumption)
                                      have q390 : x40_3 < ((rd_L4 t386 x33_2).length : Int) := of_decide_eq_true (by first | (with_reducible assumption) | assumption)
                                      obtain ⟨ad390, e390, hx390_0⟩ := Kd.at_bool (Kd.V_reads' HL389_0.out).2.2 x40_3 p390 q390
                                      (try rw [← Nbq25.out] at hx390_0)
                                      cases e390
                                      skip
                                      replace p390 := eq_true p390
                                      replace q390 := eq_true q390
                                      have p391 : 0 ≤ (x40_3 : Int) := of_decide_eq_true (by first | (with_reducible assumption) | assumption)
                                      have q391 : x40_3 < (x9_3.length : Int) := of_decide_eq_true (by first | (with_reducible assumption) | assumption)
                                      obtain ⟨ad391, e391, hx391_0⟩ := Kd.at_int (Kd.R_reads' HO_9.out).2.2 x40_3 p391 q391
                                      cases e391
                                      replace p391 := eq_true p391
                                      replace q391 := eq_true q391
                                      go_wp2
                                      (try simp only [← hl9_3])
                                      go_roundg k3
                                      case measure => have := HK1.out; have := HK2.out; have := HK3.out; omega
                                      case rel => exact ⟨(x9_3), (wrap64 (x40_3 + 1)), (by first | rfl | (simp; done) | (simp [*]; done)), H', ⟨by have := HK1.out; have := HK2.out; have := HK3.out; omega⟩, ⟨by (try simp only [hl9_1]); (try simp only [hl9_2]); (try simp only [hl9_3]); (with_reducible repeat (first | apply Kd.R_alloc | apply Kd.R_drewN | apply Kd.R_drew)); exact HO_9.out⟩, ⟨by (try simp only [hl9_1]); (try simp only [hl9_2]); (try simp only [hl9_3]); (with_reducible repeat (first | apply Kd.V_alloc | apply Kd.V_drewN | apply Kd.V_drew)); exact HO_31.out⟩, ⟨by (try simp only [hl9_1]); (try simp only [hl9_2]); (try simp only [hl9_3]); (with_reducible repeat (first | apply Kd.V_alloc | apply Kd.V_drewN | apply Kd.V_drew)); exact HL389_0.out⟩, ⟨by repeat (first | (with_reducible first | exact HB.out | apply below_alloc | apply pw_below_drewN | apply below_drew1) | exact HB.out)⟩⟩
                                  · rw [if_neg c27] at H
                                    exact absurd H (by simp)
                                · replace c26 := Bool.eq_false_iff.mpr c26
                                  subst c26
                                  have H1 : (impl_firstFactors.l2 k3 x9_3 x33_2 t386 (t386.length : Int) x33_2 (rd_L4 t386 x33_2) ((rd_L4 t386 x33_2).length : Int) (wrap64 (x40_3 + 1))) = some r := by rw [if_neg (show ¬ (false = true) by decide)] at H; exact H
                                  clear H
                                  have H := H1
                                  clear H1
                                  have H' := Aside0.mk H
                                  clear H
                                  have p390 : 0 ≤ (x40_3 : Int) := of_decide_eq_true (by first | (with_reducible assumption) | assumption)
                                  have q390 : x40_3 < ((rd_L4 t386 x33_2).length : Int) := of_decide_eq_true (by first | (with_reducible assumption) | assumption)
                                  obtain ⟨ad390, e390, hx390_0⟩ := Kd.at_bool (Kd.V_reads' HL389_0.out).2.2 x40_3 p390 q390
                                  (try rw [← Nbq25.out] at hx390_0)
                                  cases e390
                                  skip
                                  replace p390 := eq_true p390
                                  replace q390 := eq_true q390
                                  go_wp2
                                  (try simp only [← hl9_3])
                                  go_roundg k3
                                  case measure => have := HK1.out; have := HK2.out; have := HK3.out; omega
                                  case rel => exact ⟨(x9_3), (wrap64 (x40_3 + 1)), (by first | rfl | (simp; done) | (simp [*]; done)), H', ⟨by have := HK1.out; have := HK2.out; have := HK3.out; omega⟩, ⟨by (try simp only [hl9_1]); (try simp only [hl9_2]); (try simp only [hl9_3]); (with_reducible repeat (first | apply Kd.R_alloc | apply Kd.R_drewN | apply Kd.R_drew)); exact HO_9.out⟩, ⟨by (try simp only [hl9_1]); (try simp only [hl9_2]); (try simp only [hl9_3]); (with_reducible repeat (first | apply Kd.V_alloc | apply Kd.V_drewN | apply Kd.V_drew)); exact HO_31.out⟩, ⟨by (try simp only [hl9_1]); (try simp only [hl9_2]); (try simp only [hl9_3]); (with_reducible repeat (first | apply Kd.V_alloc | apply Kd.V_drewN | apply Kd.V_drew)); exact HL389_0.out⟩, ⟨by repeat (first | (with_reducible first | exact HB.out | apply below_alloc | apply pw_below_drewN | apply below_drew1) | exact HB.out)⟩⟩
                              · rw [if_neg c24] at H
                                exact absurd H (by simp)
                            · rw [if_neg c23] at H
                              exact absurd H (by simp)
                          · rw [if_neg c22] at H
                            have c22b0 : decide (x40_3 < ((rd_L4 t386 x33_2).length : Int)) = false := decide_eq_false c22
                            clear c22
                            have H' := Aside0.mk H
                            clear H
                            go_wp2
                            (try simp only [← hl9_2, ← hl9_3])
                            go_roundg k3
                            case measure => have := HK1.out; have := HK2.out; have := HK3.out; omega
                            case rel => exact ⟨(x9_3), (wrap64 (x33_2 + 1)), (by first | rfl | (simp; done) | (simp [*]; done)), H', ⟨by have := HK1.out; have := HK2.out; have := HK3.out; omega⟩, ⟨by (try simp only [hl9_1]); (try simp only [hl9_2]); (try simp only [hl9_3]); (with_reducible repeat (first | apply Kd.R_alloc | apply Kd.R_drewN | apply Kd.R_drew)); exact HO_9.out⟩, ⟨by (try simp only [hl9_1]); (try simp only [hl9_2]); (try simp only [hl9_3]); (with_reducible repeat (first | apply Kd.V_alloc | apply Kd.V_drewN | apply Kd.V_drew)); exact HO_31.out⟩, ⟨by repeat (first | (with_reducible first | exact HB.out | apply below_alloc | apply pw_below_drewN | apply below_drew1) | exact HB.out)⟩⟩
                    · rw [if_neg c21] at H
                      exact absurd H (by simp)
                  · rw [if_neg c20] at H
                    exact absurd H (by simp)
                · rw [if_neg c19] at H
                  have c19b0 : decide (x33_2 < (t386.length : Int)) = false := decide_eq_false c19
                  (try (have c19b20 := c19b0; rw [hl9_1] at c19b20))
                  (try (have c19b21 := c19b0; rw [hl9_2] at c19b21))
                  (try (have c19b22 := c19b0; rw [hl9_3] at c19b22))
                  clear c19
                  obtain rfl := Option.some.inj H
                  go_wp2
                  go_ret
                  exact ⟨_, by first | rfl | (simp [errW_none, errW_some] <;> rfl) | (simp [*, errW_none, errW_some] <;> rfl), by (with_reducible repeat (first | apply Kd.R_alloc | apply Kd.R_drewN | apply Kd.R_drew)); exact HO_9.out, by repeat (first | (with_reducible first | exact HB.out | apply below_alloc | apply pw_below_drewN | apply below_drew1) | exact HB.out)⟩
    · rw [if_neg c6] at H
      exact absurd H (by simp)
  · rw [if_neg c5] at H
    exact absurd H (by simp)

/-! ### impl_ShellsOf: function 39 -/
def impl_ShellsOf.l0 : Nat → List (List Int) → List Int → Int → Int → Option ((List (List Int)) × Bool)
  | 0, _, _, _, _ => none
  | k + 1, x10, x26, x27, x28 => if x28 < x27 then (if 0 ≤ x28 then (if x28 < (x26.length : Int) then (if (rd x26 x28) ≥ 0 then (if 0 ≤ (rd x26 x28) then (if (rd x26 x28) < (x10.length : Int) then (if (rd_L1 x10 (rd x26 x28)).length < 17592186044416 then (impl_ShellsOf.l0 k (x10.set ((rd x26 x28) : Int).toNat ((rd_L1 x10 (rd x26 x28)) ++ [x28])) x26 x27 (wrap64 (x28 + 1))) else (none)) else (none)) else (none)) else (impl_ShellsOf.l0 k x10 x26 x27 (wrap64 (x28 + 1)))) else (none)) else (none)) else (some (x10, true))
def impl_ShellsOf.f (k : Nat) (l0 : List (List Int)) (l1 : List Int) (l2 : List Int) (a3 : Int) : Option ((List (List Int)) × Bool) := (impl_areNested.f k l0 l1 l2 a3).bind fun t393 => (if t393 = true then (if 0 ≤ (wrap64 (a3 + 1)) then (if (wrap64 (a3 + 1) : Int).toNat ≤ 11728124029610 then ((impl_firstFactors.f k l0 l1 l2 a3).bind fun t397 => (impl_ShellsOf.l0 k (List.replicate (wrap64 (a3 + 1) : Int).toNat []) t397 (t397.length : Int) 0)) else (none)) else (none)) else (some (([] : List (List Int)), false)))
theorem impl_ShellsOf.mono_l : ∀ k, (∀ y0 y1 y2 y3, LeO (impl_ShellsOf.l0 k y0 y1 y2 y3) (impl_ShellsOf.l0 (k + 1) y0 y1 y2 y3))
  | 0 => fun _ _ _ _ r h => by simp [impl_ShellsOf.l0] at h
  | k + 1 => by
    have ih0 := impl_ShellsOf.mono_l k
    · intro y0 y1 y2 y3
      unfold impl_ShellsOf.l0
      repeat' first
      | (with_reducible exact ih0 _ _ _ _)
      | (with_reducible exact impl_areNested.mono _ _ _ _ _)
      | (with_reducible exact impl_firstFactors.mono _ _ _ _ _)
      | (with_reducible exact LeO.refl _)
      | (with_reducible exact LeO.none _)
      | (with_reducible refine LeO.ite ?_ ?_)
      | (with_reducible refine LeO.bind ?_ (fun _ => ?_))
      | exact ih0 _ _ _ _
      | exact impl_areNested.mono _ _ _ _ _
      | exact impl_firstFactors.mono _ _ _ _ _
      | exact LeO.none _
      | refine LeO.ite ?_ ?_
      | refine LeO.bind ?_ (fun _ => ?_)
theorem impl_ShellsOf.mono : ∀ a0 a1 a2 a3 k, LeO (impl_ShellsOf.f k a0 a1 a2 a3) (impl_ShellsOf.f (k + 1) a0 a1 a2 a3) := by
  intro a0 a1 a2 a3 k
  have ih0 := impl_ShellsOf.mono_l k
  unfold impl_ShellsOf.f
  repeat' first
      | (with_reducible exact ih0 _ _ _ _)
      | (with_reducible exact impl_areNested.mono _ _ _ _ _)
      | (with_reducible exact impl_firstFactors.mono _ _ _ _ _)
      | (with_reducible exact LeO.refl _)
      | (with_reducible exact LeO.none _)
      | (with_reducible refine LeO.ite ?_ ?_)
      | (with_reducible refine LeO.bind ?_ (fun _ => ?_))
      | exact ih0 _ _ _ _
      | exact impl_areNested.mono _ _ _ _ _
      | exact impl_firstFactors.mono _ _ _ _ _
      | exact LeO.none _
      | refine LeO.ite ?_ ?_
      | refine LeO.bind ?_ (fun _ => ?_)
set_option maxHeartbeats 8000000 in
set_option maxRecDepth 100000 in
theorem impl_ShellsOf.calls (k : Nat) (A0 : Option Addr) (c0 : Nat) (l0 : List (List Int)) (A1 : Option Addr) (c1 : Nat) (l1 : List Int) (A2 : Option Addr) (c2 : Nat) (l2 : List Int) (a3 : Int) (r1 : List (List Int)) (r2 : Bool) (w : World) (hr0 : Kd.C (Kd.slice 3 (Kd.int .i64)) w A0 l0.length l0) (hc0 : l0.length ≤ c0) (hr1 : Kd.C (Kd.int .i64) w A1 l1.length l1) (hc1 : l1.length ≤ c1) (hr2 : Kd.C (Kd.int .i64) w A2 l2.length l2) (hc2 : l2.length ≤ c2) (h : impl_ShellsOf.f k l0 l1 l2 a3 = some (r1, r2)) :
    Calls Try.prog 39 #[.slice A0 l0.length c0, .slice A1 l1.length c1, .slice A2 l2.length c2, .int .i64 a3] w fun e w' => ∃ v0_ : Value, e = .returned (.tuple #[v0_, .bool r2]) ∧ Kd.S (Kd.slice 3 (Kd.int .i64)) 23 w' w.heap.size (fun _ => True) v0_ r1 ∧ Below w.heap.size w w' := by
  have HR0 := Aside0.mk hr0
  have HC0 := Aside0.mk hc0
  clear hr0 hc0
  have HR1 := Aside0.mk hr1
  have HC1 := Aside0.mk hc1
  clear hr1 hc1
  have HR2 := Aside0.mk hr2
  have HC2 := Aside0.mk hc2
  clear hr2 hc2
  have HB := Aside0.mk (Below.refl w.heap.size w)
  have H : ((impl_areNested.f k l0 l1 l2 a3).bind fun t393 => (if t393 = true then (if 0 ≤ (wrap64 (a3 + 1)) then (if (wrap64 (a3 + 1) : Int).toNat ≤ 11728124029610 then ((impl_firstFactors.f k l0 l1 l2 a3).bind fun t397 => (impl_ShellsOf.l0 k (List.replicate (wrap64 (a3 + 1) : Int).toNat []) t397 (t397.length : Int) 0)) else (none)) else (none)) else (some (([] : List (List Int)), false)))) = some (r1, r2) := h
  clear h
  replace H := Option.bind_eq_some_iff.mp H
  obtain ⟨t393, A50, H⟩ := H
  replace H : (if t393 = true then (if 0 ≤ (wrap64 (a3 + 1)) then (if (wrap64 (a3 + 1) : Int).toNat ≤ 11728124029610 then ((impl_firstFactors.f k l0 l1 l2 a3).bind fun t397 => (impl_ShellsOf.l0 k (List.replicate (wrap64 (a3 + 1) : Int).toNat []) t397 (t397.length : Int) 0)) else (none)) else (none)) else (some (([] : List (List Int)), false))) = some (r1, r2) := H
  have A5 := Aside0.mk A50
  clear A50
  by_cases c6 : t393 = true
  · subst c6
    have H1 : (if 0 ≤ (wrap64 (a3 + 1)) then (if (wrap64 (a3 + 1) : Int).toNat ≤ 11728124029610 then ((impl_firstFactors.f k l0 l1 l2 a3).bind fun t397 => (impl_ShellsOf.l0 k (List.replicate (wrap64 (a3 + 1) : Int).toNat []) t397 (t397.length : Int) 0)) else (none)) else (none)) = some (r1, r2) := by rw [if_pos rfl] at H; exact H
    clear H
    have H := H1
    clear H1
    obtain ⟨ji7, hji7⟩ : ∃ j_ : Int, (wrap64 (a3 + 1)) = j_ := ⟨_, rfl⟩
    replace H : (if 0 ≤ (ji7) then (if (ji7 : Int).toNat ≤ 11728124029610 then ((impl_firstFactors.f k l0 l1 l2 a3).bind fun t397 => (impl_ShellsOf.l0 k (List.replicate (ji7 : Int).toNat []) t397 (t397.length : Int) 0)) else (none)) else (none)) = some (r1, r2) := by first | (rw [hji7] at H; exact H) | (simp only [hji7] at H ⊢; exact H)
    (try rw [hji7] at A5)
    have hji7w : (IntKind.i64.wrap (a3 + 1)) = ji7 := (i64_w _).trans hji7
    by_cases c8 : 0 ≤ (ji7)
    · rw [if_pos c8] at H
      have c8b0 := eq_true c8
      have c8b1 : decide (0 ≤ (ji7)) = true := decide_eq_true c8
      clear c8
      by_cases c9 : (ji7 : Int).toNat ≤ 11728124029610
      · rw [if_pos c9] at H
        have c9b0 := eq_true c9
        have c9b1 : decide ((ji7 : Int).toNat ≤ 11728124029610) = true := decide_eq_true c9
        clear c9
        obtain ⟨y394, hy394⟩ : ∃ y_ : List (List Int), y_ = (List.replicate (ji7 : Int).toNat []) := ⟨_, rfl⟩
        replace H : ((impl_firstFactors.f k l0 l1 l2 a3).bind fun t397 => (impl_ShellsOf.l0 k y394 t397 (t397.length : Int) 0)) = some (r1, r2) := by first | (rw [hy394]; with_reducible exact H) | (have H2_ := (Option.bind_some _ _).symm.trans H; rw [hy394]; with_reducible exact H2_) | (have H2_ := (Option.bind_some _ _).symm.trans H; with_reducible exact H2_) | with_reducible exact H | (rw [hy394]; exact H) | exact H
        have Ny394 := Aside0.mk hy394
        clear hy394
        replace H := Option.bind_eq_some_iff.mp H
        obtain ⟨t397, A100, H⟩ := H
        replace H : (impl_ShellsOf.l0 k y394 t397 (t397.length : Int) 0) = some (r1, r2) := H
        have A10 := Aside0.mk A100
        clear A100
        have H' := Aside0.mk H
        clear H
        go_enter Try.func39, Try.ntmps39
        go_wp2_with (first | ((with_reducible refine gate_callee (f := 45) rfl ?_); refine goesL_ (some 17) rfl rfl Try.func45 (by kernel_rfl) rfl #[.slice A0 l0.length c0, .slice A1 l1.length c1, .slice A2 l2.length c2, .int .i64 a3] rfl (by (try simp only [List.map_toArray, List.map_cons, List.map_nil]); first | done | rfl | (simp only [List.length_drop, List.length_take]; rfl)) ?_; (with_reducible refine (impl_areNested.calls k _ _ l0 _ _ l1 _ _ l2 a3 true _ ?side1 ?side2 ?side3 ?side4 ?side5 ?side6 A5.out).mono ?_); (case side1 => repeat (first | exact HR0.out | (with_reducible refine Kd.C_alloc ?_ _) | (with_reducible refine Kd.C_drewN ?_ _) | (with_reducible refine Kd.C_drew ?_))); (case side2 => exact HC0.out); (case side3 => repeat (first | exact HR1.out | (with_reducible refine Kd.C_alloc ?_ _) | (with_reducible refine Kd.C_drewN ?_ _) | (with_reducible refine Kd.C_drew ?_))); (case side4 => exact HC1.out); (case side5 => repeat (first | exact HR2.out | (with_reducible refine Kd.C_alloc ?_ _) | (with_reducible refine Kd.C_drewN ?_ _) | (with_reducible refine Kd.C_drew ?_))); (case side6 => exact HC2.out); rintro e w' ⟨rfl, ⟨nd, rfl⟩⟩; refine ⟨_, rfl, ?_⟩) | ((with_reducible refine gate_dst (N := 21) rfl ?_); refine Kd.S_make (Kd.slice 3 (Kd.int .i64)) _ 23 rfl (N := 21) rfl 22 _ _ rfl ji7 rfl rfl Try.underlying22 (.slice none 0 0) 24 info23 rfl (by decide) (by omega) [] (ok := fun _ => True) (okp := fun _ => True) ⟨_, rfl, Kd.R_nil _ _ _ _ _⟩ (fun _ hk => hk) trivial (of_decide_eq_true (by first | (with_reducible assumption) | assumption)) (Nat.le_trans (Nat.mul_le_mul_right _ (of_decide_eq_true (by first | (with_reducible assumption) | assumption) : ji7.toNat ≤ 11728124029610)) (by omega)) (Below.refl _ _) (Nat.le_refl _) ?_; intro v395 w11 ho12 hb hg_ hnew_; clear hg_ hnew_; (first | rw [← Ny394.out] at ho12 | (simp only [Int.reduceToNat] at ho12; rw [← Ny394.out] at ho12)); have n0_ := Aside0.mk (Kd.S_lower ho12 (below_size (by repeat (first | (with_reducible first | exact HB.out | apply below_alloc | apply pw_below_drewN | apply below_drew1) | exact HB.out)))); have n1_ := Aside0.mk (below_step (by repeat (first | (with_reducible first | exact HB.out | apply below_alloc | apply pw_below_drewN | apply below_drew1) | exact HB.out)) hb); clear HB; have HO396 := n0_; have HB := n1_; clear n0_ n1_; clear hb ho12) | ((with_reducible refine gate_callee (f := 53) rfl ?_); refine goesL_ (some 26) rfl rfl Try.func53 (by kernel_rfl) rfl #[.slice A0 l0.length c0, .slice A1 l1.length c1, .slice A2 l2.length c2, .int .i64 a3] rfl (by (try simp only [List.map_toArray, List.map_cons, List.map_nil]); first | done | rfl | (simp only [List.length_drop, List.length_take]; rfl)) ?_; (with_reducible refine (impl_firstFactors.calls k _ _ l0 _ _ l1 _ _ l2 a3 t397 _ ?side1 ?side2 ?side3 ?side4 ?side5 ?side6 A10.out).mono ?_); (case side1 => repeat (first | exact (Kd.C_below HR0.out HB.out) | (with_reducible refine Kd.C_alloc ?_ _) | (with_reducible refine Kd.C_drewN ?_ _) | (with_reducible refine Kd.C_drew ?_))); (case side2 => exact HC0.out); (case side3 => repeat (first | exact (Kd.C_below HR1.out HB.out) | (with_reducible refine Kd.C_alloc ?_ _) | (with_reducible refine Kd.C_drewN ?_ _) | (with_reducible refine Kd.C_drew ?_))); (case side4 => exact HC1.out); (case side5 => repeat (first | exact (Kd.C_below HR2.out HB.out) | (with_reducible refine Kd.C_alloc ?_ _) | (with_reducible refine Kd.C_drewN ?_ _) | (with_reducible refine Kd.C_drew ?_))); (case side6 => exact HC2.out); rintro e w13 ⟨v398, rfl, ho0, hb⟩; refine ⟨_, rfl, ?_⟩; have n0_ := Aside0.mk (Kd.S_elder' (by (with_reducible repeat (first | apply Kd.S_alloc | apply Kd.S_drewN | apply Kd.S_drew)); exact HO396.out) (Kd.R_base ho0) hb); have n1_ := Aside0.mk (Kd.R_lower ho0 (below_size (by repeat (first | (with_reducible first | exact HB.out | apply below_alloc | apply pw_below_drewN | apply below_drew1) | exact HB.out)))); have n2_ := Aside0.mk (below_step (by repeat (first | (with_reducible first | exact HB.out | apply below_alloc | apply pw_below_drewN | apply below_drew1) | exact HB.out)) hb); clear HO396; clear HB; have HO396 := n0_; have HO399 := n1_; have HB := n2_; clear n0_ n1_ n2_; (try clear hb); (try clear hb2); (try clear hk); (try clear hi); (try clear ho0); obtain ⟨Ao14, co14, eo14⟩ := Kd.R_slice HO399.out; subst eo14))
        go_loopg [28] k (fun kq v28 w' => ∃ (x10_1 : List (List Int)) (x28_1 : Int), v28 = .int .i64 x28_1 ∧ Aside0 (impl_ShellsOf.l0 kq x10_1 t397 (t397.length : Int) x28_1 = some (r1, r2)) ∧ Aside0 (kq ≤ k) ∧ Aside0 (Kd.S (Kd.slice 3 (Kd.int .i64)) 23 w' w.heap.size (fun k_ => some k_ ≠ ((.slice Ao14 t397.length co14) : Value).ownBlock) v395 x10_1) ∧ Aside0 (Kd.R (Kd.int .i64) 3 w' w.heap.size (fun _ => True) (.slice Ao14 t397.length co14) t397) ∧ Aside0 (Below w.heap.size w w'))
        case atStart => exact ⟨(y394), (0), (by first | rfl | (simp; done) | (simp [*]; done)), H', ⟨Nat.le_refl _⟩, ⟨by (with_reducible repeat (first | apply Kd.S_alloc | apply Kd.S_drewN | apply Kd.S_drew)); exact Kd.S_mono HO396.out (fun _ hk => hk.2)⟩, ⟨by (with_reducible repeat (first | apply Kd.R_alloc | apply Kd.R_drewN | apply Kd.R_drew)); exact HO399.out⟩, ⟨by repeat (first | (with_reducible first | exact HB.out | apply below_alloc | apply pw_below_drewN | apply below_drew1) | exact HB.out)⟩⟩
        case round =>
          clear H'
          try clear c1
          try clear c2
          try clear p2
          try clear c3
          try clear c4
          try clear c5
          try clear c6
          try clear p6
          try clear c8
          try clear c8b0
          try clear c8b1
          try clear c9
          try clear c9b0
          try clear c9b1
          obtain ⟨x10_1, x28_1, rfl, HA, HK1, HO_10, HO_26, HB⟩ := hrel
          cases gk with
          | zero => exact absurd HA.out (by simp [impl_ShellsOf.l0])
          | succ k1 =>
            have H := HA.out
            clear HA
            simp only [impl_ShellsOf.l0] at H
            by_cases c15 : x28_1 < (t397.length : Int)
            · rw [if_pos c15] at H
              have c15b0 : decide (x28_1 < (t397.length : Int)) = true := decide_eq_true c15
              (try (have c15b20 := c15b0; rw [hl9_1] at c15b20))
              (try (have c15b21 := c15b0; rw [hl9_2] at c15b21))
              (try (have c15b22 := c15b0; rw [hl9_3] at c15b22))
              clear c15
              by_cases c16 : 0 ≤ x28_1
              · rw [if_pos c16] at H
                have c16b0 : decide (0 ≤ x28_1) = true := decide_eq_true c16
                clear c16
                by_cases c17 : x28_1 < (t397.length : Int)
                · rw [if_pos c17] at H
                  have c17b0 : decide (x28_1 < (t397.length : Int)) = true := decide_eq_true c17
                  (try (have c17b20 := c17b0; rw [hl9_1] at c17b20))
                  (try (have c17b21 := c17b0; rw [hl9_2] at c17b21))
                  (try (have c17b22 := c17b0; rw [hl9_3] at c17b22))
                  clear c17
                  by_cases c18 : (rd t397 x28_1) ≥ 0
                  · rw [if_pos c18] at H
                    have c18b0 : decide (0 ≤ (rd t397 x28_1)) = true := decide_eq_true c18
                    clear c18
                    by_cases c19 : 0 ≤ (rd t397 x28_1)
                    · rw [if_pos c19] at H
                      have c19b0 : decide (0 ≤ (rd t397 x28_1)) = true := decide_eq_true c19
                      clear c19
                      by_cases c20 : (rd t397 x28_1) < (x10_1.length : Int)
                      · rw [if_pos c20] at H
                        have c20b0 : decide ((rd t397 x28_1) < (x10_1.length : Int)) = true := decide_eq_true c20
                        clear c20
                        by_cases c21 : (rd_L1 x10_1 (rd t397 x28_1)).length < 17592186044416
                        · rw [if_pos c21] at H
                          have LMc21 := Aside0.mk c21
                          clear c21
                          obtain ⟨y402, hy402⟩ : ∃ y_ : List Int, y_ = ((rd_L1 x10_1 (rd t397 x28_1)) ++ [x28_1]) := ⟨_, rfl⟩
                          replace H : (impl_ShellsOf.l0 k1 (x10_1.set ((rd t397 x28_1) : Int).toNat y402) t397 (t397.length : Int) (wrap64 (x28_1 + 1))) = some (r1, r2) := by first | (rw [hy402]; with_reducible exact H) | (have H2_ := (Option.bind_some _ _).symm.trans H; rw [hy402]; with_reducible exact H2_) | (have H2_ := (Option.bind_some _ _).symm.trans H; with_reducible exact H2_) | with_reducible exact H | (rw [hy402]; exact H) | exact H
                          have Ny402 := Aside0.mk hy402
                          clear hy402
                          obtain ⟨y405, hy405⟩ : ∃ y_ : List (List Int), y_ = (x10_1.set ((rd t397 x28_1) : Int).toNat y402) := ⟨_, rfl⟩
                          replace H : (impl_ShellsOf.l0 k1 y405 t397 (t397.length : Int) (wrap64 (x28_1 + 1))) = some (r1, r2) := by first | (rw [hy405]; with_reducible exact H) | (have H2_ := (Option.bind_some _ _).symm.trans H; rw [hy405]; with_reducible exact H2_) | (have H2_ := (Option.bind_some _ _).symm.trans H; with_reducible exact H2_) | with_reducible exact H | (rw [hy405]; exact H) | exact H
                          have Ny405 := Aside0.mk hy405
                          clear hy405
                          have H' := Aside0.mk H
                          clear H
                          have p400 : 0 ≤ (x28_1 : Int) := of_decide_eq_true (by first | (with_reducible assumption) | assumption)
                          have q400 : x28_1 < (t397.length : Int) := of_decide_eq_true (by first | (with_reducible assumption) | assumption)
                          obtain ⟨ad400, e400, hx400_0⟩ := Kd.at_int (Kd.R_reads' HO_26.out).2.2 x28_1 p400 q400
                          cases e400
                          replace p400 := eq_true p400
                          replace q400 := eq_true q400
                          obtain ⟨Ao23, co23, eo23⟩ := Kd.S_slice HO_10.out
                          subst eo23
                          have p401 : 0 ≤ ((rd t397 x28_1) : Int) := of_decide_eq_true (by first | (with_reducible assumption) | assumption)
                          have q401 : (rd t397 x28_1) < (x10_1.length : Int) := of_decide_eq_true (by first | (with_reducible assumption) | assumption)
                          obtain ⟨ad401, A401_0, c401_0, e401, hx401_0, hl401_0, hi401_0⟩ := at_L1 (Kd.S_reads' HO_10.out).2.2 (rd t397 x28_1) p401 q401
                          cases e401
                          obtain ⟨ce401, hce401, hMe401, hcc401⟩ := Kd.S_get HO_10.out [] (rd t397 x28_1) p401 (by first | exact q401 | exact of_decide_eq_true (by first | (with_reducible assumption) | assumption) | (have e_ := (Kd.S_reads' HO_10.out).1; omega))
                          obtain ⟨ve401_0, rfl, ge401_0⟩ := hMe401
                          have hv401_0 := hcc401 0 _ rfl
                          rw [Nat.add_zero, show ((Kd.slice 3 (Kd.int .i64))).sz = 1 from rfl, Nat.mul_one] at hv401_0
                          replace hv401_0 := Option.some.inj (hv401_0.symm.trans hx401_0)
                          rw [hv401_0] at ge401_0
                          have HL401_0 := Aside0.mk (show Kd.R (Kd.int .i64) 3 _ _ _ _ (rd_L1 x10_1 (rd t397 x28_1)) from ge401_0)
                          clear hv401_0 ge401_0
                          have HX401_0 := Aside0.mk hx401_0
                          clear hcc401 hce401
                          have HR401_0 := Aside0.mk hi401_0
                          have HC401_0 := Aside0.mk hl401_0
                          clear hi401_0 hl401_0
                          replace p401 := eq_true p401
                          replace q401 := eq_true q401
                          obtain ⟨go24, co24, eo24, gb24, gl24, cl24, HG24⟩ := Kd.S_form HO_10.out (by have h_ : ((rd t397 x28_1) : Int) < ((x10_1.length : Int) : Int) := of_decide_eq_true (by first | (with_reducible assumption) | assumption); have h2_ : 0 ≤ ((rd t397 x28_1) : Int) := (of_decide_eq_true (by first | (with_reducible assumption) | assumption)); omega)
                          (first | cases eo24 | (injection eo24 with ea_ en_ ec_; (first | subst ea_ | (injection ea_ with ea_; subst ea_)); subst ec_; clear en_))
                          have GB24 := Aside0.mk gb24
                          have GG24 := Aside0.mk HG24
                          clear gb24 gl24 HG24
                          (first | simp only [add_plain] at hx401_0 | skip)
                          obtain ⟨oki24, ce24, hcl24, hM24, hcc24, _, _, hH24⟩ := Kd.S_elem HO_10.out [] ((rd t397 x28_1) : Int) (of_decide_eq_true (by first | (with_reducible assumption) | assumption)) (by have h_ : ((rd t397 x28_1) : Int) < ((x10_1.length : Int) : Int) := of_decide_eq_true (by first | (with_reducible assumption) | assumption); first | exact h_ | (have e_ := (Kd.S_reads' HO_10.out).1; omega) | simpa using h_)
                          obtain ⟨ve24_0, rfl, ge24_0⟩ := hM24
                          have hv24 := hcc24 0 _ rfl
                          have hX24 := HX401_0.out
                          (try simp only [add_plain] at hX24)
                          (try simp only [Nat.add_zero] at hv24)
                          (try rw [show ((Kd.slice 3 (Kd.int .i64))).sz = 1 from rfl, Nat.mul_one] at hv24)
                          replace hv24 := Option.some.inj (hv24.symm.trans hX24)
                          subst hv24
                          clear hX24 hcc24 hcl24
                          have UU24 := Aside0.mk (show Kd.R (Kd.int .i64) 3 _ w.heap.size oki24 (.slice A401_0 (rd_L1 x10_1 (rd t397 x28_1)).length c401_0) (rd_L1 x10_1 (rd t397 x28_1)) from ge24_0)
                          have HH24 := Aside0.mk hH24
                          have HN24 := Aside0.mk (Kd.S_reads' HO_10.out).1
                          clear hH24 ge24_0
                          go_wp2_with (first | ((with_reducible refine gate_builtin (b := .append) (xs := #[.tmp 40, .tmp 42]) rfl ?_); at_builtin; refine Kd.R_append (Kd.int .i64) (w0 := w) w.heap.size rfl (.tmp 40) (.tmp 42) 23 3 (.int .i64 0) 8 rfl Try.underlying23 info3 rfl (by decide) (by omega) (.slice A401_0 (rd_L1 x10_1 (rd t397 x28_1)).length c401_0) (rd_L1 x10_1 (rd t397 x28_1)) x28_1 [.int .i64 x28_1] (fun k_ => oki24 k_ ∨ ((fun k_ => some k_ ≠ (.slice (some ad400) t397.length co14 : Value).ownBlock)) k_ ∧ wr.heap.size ≤ k_) (fun _ => False) rfl rfl ?aP (fun _ hk => hk.elim) ?aF ?aO ?aB ?aS ?aL ?_; (case aP => exact rfl); (case aB => exact (by repeat (first | (with_reducible first | exact HB.out | apply below_alloc | apply pw_below_drewN | apply below_drew1) | exact HB.out))); (case aF => exact (fun k_ hk => .inr ⟨Kd.fresh' (Kd.R_lt (by (with_reducible repeat (first | apply Kd.R_alloc | apply Kd.R_drewN | apply Kd.R_drew)); exact HO_26.out)) k_ hk, hk⟩)); (case aO => exact (by (with_reducible repeat (first | apply Kd.R_alloc | apply Kd.R_drewN | apply Kd.R_drew)); exact Kd.R_mono UU24.out (fun _ hk => .inl hk))); (case aS => exact (below_size (by repeat (first | (with_reducible first | exact HB.out | apply below_alloc | apply pw_below_drewN | apply below_drew1) | exact HB.out)))); (case aL => have := LMc21.out; omega); intro v403 w25 ho hb hg hat; rw [← Ny402.out] at ho; have n0_ := Aside0.mk (Kd.R_grown2 (by (with_reducible repeat (first | apply Kd.R_alloc | apply Kd.R_drewN | apply Kd.R_drew)); exact HO_26.out) rfl hg (fun k_ e_ => (HL401_0.out.1 k_ e_).1)); have n1_ := Aside0.mk (hb); have n2_ := Aside0.mk (Kd.H_grown (Kd.H_widen (by repeat (first | exact HH24.out | refine Kd.H_alloc ?_ _ | refine Kd.H_drewN ?_ _ | refine Kd.H_drew ?_))) hg (fun k_ e_ => .inl (UU24.out.1 k_ e_))); have n3_ := Aside0.mk (ho); clear HO_26; clear HB; clear HH24; clear HO_10; clear UU24; clear HL401_0; have HO_26 := n0_; have HB := n1_; have HH24 := n2_; have HO404 := n3_; clear n0_ n1_ n2_ n3_; clear ho hb hg hat; have p22 : 0 ≤ ((rd t397 x28_1) : Int) := of_decide_eq_true (by first | (with_reducible assumption) | assumption); have q22 : ((rd t397 x28_1) : Int) < ((x10_1.length : Int) : Int) := of_decide_eq_true (by first | (with_reducible assumption) | assumption); replace p22 := eq_true p22; replace q22 := eq_true q22; obtain ⟨Ao28, co28, eo28⟩ := Kd.R_slice HO404.out; subst eo28; obtain ⟨_, _, hraw26, _, _, hcc26, _⟩ := Kd.H_raw HH24.out (of_decide_eq_true (by first | (with_reducible assumption) | assumption)) (by have h_ : ((rd t397 x28_1) : Int) < ((x10_1.length : Int) : Int) := of_decide_eq_true (by first | (with_reducible assumption) | assumption); first | exact h_ | (have e_ := (HN24.out); omega) | simpa using h_); obtain ⟨_, hfr26⟩ := Kd.H_at HH24.out (of_decide_eq_true (by first | (with_reducible assumption) | assumption)) (by have h_ : ((rd t397 x28_1) : Int) < ((x10_1.length : Int) : Int) := of_decide_eq_true (by first | (with_reducible assumption) | assumption); first | exact h_ | (have e_ := (HN24.out); omega) | simpa using h_); have hx26_0 := hcc26 0 _ rfl; have hf26_0 := hfr26 0; (try simp only [Nat.add_zero] at hx26_0 hf26_0); (try rw [show ((Kd.slice 3 (Kd.int .i64))).sz = 1 from rfl, Nat.mul_one] at hx26_0); (try rw [show ((Kd.slice 3 (Kd.int .i64))).sz = 1 from rfl, Nat.mul_one] at hf26_0); have HP26 := Kd.S_seg0 HH24.out (of_decide_eq_true (by first | (with_reducible assumption) | assumption)) (by have h_ : ((rd t397 x28_1) : Int) < ((x10_1.length : Int) : Int) := of_decide_eq_true (by first | (with_reducible assumption) | assumption); first | exact h_ | (have e_ := (HN24.out); omega) | simpa using h_) (seg := [.slice Ao28 y402.length co28]) (j := 0) (show 1 ≤ 1 from by decide) (x' := y402) (Kd.M_row HO404.out) (fun _ hk => hk); (try simp only [show ((Kd.slice 3 (Kd.int .i64))).sz = 1 from rfl, Nat.mul_one, Nat.add_zero] at HP26); clear hcc26 hfr26) | ((with_reducible refine gate_store (t := 23) (p := 44) rfl ?_); refine store_event (t := 23) (p := 44) (v := ?vo_w27) (w1 := (w25.setCell ⟨go24, ((rd t397 x28_1) : Int).toNat, none⟩ (.slice Ao28 y402.length co28))) ?hg ?ho ?hn ?hr ?_; (case ho => rfl); (case hg => rfl); (case hn => rfl); (case hr => first | (go_simp; done) | (go_simp; rfl)); intro w27 hw; have hg : w25.grownBy w27 (some go24) := (by rw [hw]; exact HP26.2); have hp_ : Kd.S (Kd.slice 3 (Kd.int .i64)) 23 w27 w.heap.size (fun k_ => some k_ ≠ (.slice (some ad400) t397.length co14 : Value).ownBlock) (.slice (some ⟨go24, 0, none⟩) x10_1.length co23) y405 := (by rw [hw, Ny405.out]; exact HP26.1); clear HP26; have n0_ := Aside0.mk (Kd.R_over' (v := (.slice (some ⟨go24, 0, none⟩) x10_1.length co23)) (by (with_reducible repeat (first | apply Kd.R_alloc | apply Kd.R_drewN | apply Kd.R_drew)); exact HO_26.out) (Kd.R_typed hraw26) (by decide) hg); have n1_ := Aside0.mk ((by rw [hw]; exact below_set HB.out GB24.out : Below w.heap.size w w27)); have n2_ := Aside0.mk (hp_); clear HO_26; clear HB; clear HO404; clear HH24; have HO_26 := n0_; have HB := n1_; have HO_10 := n2_; clear n0_ n1_ n2_; clear hg hw hp_ hraw26))
                          go_roundg k1
                          case measure => have := HK1.out; omega
                          case rel => exact ⟨(y405), (wrap64 (x28_1 + 1)), (by first | rfl | (simp; done) | (simp [*]; done)), H', ⟨by have := HK1.out; omega⟩, ⟨by (with_reducible repeat (first | apply Kd.S_alloc | apply Kd.S_drewN | apply Kd.S_drew)); exact HO_10.out⟩, ⟨by (with_reducible repeat (first | apply Kd.R_alloc | apply Kd.R_drewN | apply Kd.R_drew)); exact HO_26.out⟩, ⟨by repeat (first | (with_reducible first | exact HB.out | apply below_alloc | apply pw_below_drewN | apply below_drew1) | exact HB.out)⟩⟩
                        · rw [if_neg c21] at H
                          exact absurd H (by simp)
                      · rw [if_neg c20] at H
                        exact absurd H (by simp)
                    · rw [if_neg c19] at H
                      exact absurd H (by simp)
                  · rw [if_neg c18] at H
                    have c18b0 : decide (0 ≤ (rd t397 x28_1)) = false := decide_eq_false c18
                    clear c18
                    have H' := Aside0.mk H
                    clear H
                    have p400 : 0 ≤ (x28_1 : Int) := of_decide_eq_true (by first | (with_reducible assumption) | assumption)
                    have q400 : x28_1 < (t397.length : Int) := of_decide_eq_true (by first | (with_reducible assumption) | assumption)
                    obtain ⟨ad400, e400, hx400_0⟩ := Kd.at_int (Kd.R_reads' HO_26.out).2.2 x28_1 p400 q400
                    cases e400
                    replace p400 := eq_true p400
                    replace q400 := eq_true q400
                    go_wp2
                    go_roundg k1
                    case measure => have := HK1.out; omega
                    case rel => exact ⟨(x10_1), (wrap64 (x28_1 + 1)), (by first | rfl | (simp; done) | (simp [*]; done)), H', ⟨by have := HK1.out; omega⟩, ⟨by (with_reducible repeat (first | apply Kd.S_alloc | apply Kd.S_drewN | apply Kd.S_drew)); exact HO_10.out⟩, ⟨by (with_reducible repeat (first | apply Kd.R_alloc | apply Kd.R_drewN | apply Kd.R_drew)); exact HO_26.out⟩, ⟨by repeat (first | (with_reducible first | exact HB.out | apply below_alloc | apply pw_below_drewN | apply below_drew1) | exact HB.out)⟩⟩
                · rw [if_neg c17] at H
                  exact absurd H (by simp)
              · rw [if_neg c16] at H
                exact absurd H (by simp)
            · rw [if_neg c15] at H
              have c15b0 : decide (x28_1 < (t397.length : Int)) = false := decide_eq_false c15
              (try (have c15b20 := c15b0; rw [hl9_1] at c15b20))
              (try (have c15b21 := c15b0; rw [hl9_2] at c15b21))
              (try (have c15b22 := c15b0; rw [hl9_3] at c15b22))
              clear c15
              simp only [Option.some.injEq, Prod.mk.injEq] at H
              obtain ⟨rfl, rfl⟩ := H
              go_wp2
              go_ret2
              exact ⟨_, by first | rfl | (simp [errW_none, errW_some] <;> rfl) | (simp only [← hji7]; first | rfl | (simp [errW_none, errW_some] <;> rfl)) | (simp [*, errW_none, errW_some] <;> rfl), by (with_reducible repeat (first | apply Kd.S_alloc | apply Kd.S_drewN | apply Kd.S_drew)); exact Kd.S_mono HO_10.out (fun _ hk => trivial), by repeat (first | (with_reducible first | exact HB.out | apply below_alloc | apply pw_below_drewN | apply below_drew1) | exact HB.out)⟩
      · rw [if_neg c9] at H
        exact absurd H (by simp)
    · rw [if_neg c8] at H
      exact absurd H (by simp)
  · replace c6 := Bool.eq_false_iff.mpr c6
    subst c6
    have H1 : (some (([] : List (List Int)), false)) = some (r1, r2) := by rw [if_neg (show ¬ (false = true) by decide)] at H; exact H
    clear H
    have H := H1
    clear H1
    simp only [Option.some.injEq, Prod.mk.injEq] at H
    obtain ⟨rfl, rfl⟩ := H
    go_enter Try.func39, Try.ntmps39
    go_wp2_with (first | ((with_reducible refine gate_callee (f := 45) rfl ?_); refine goesL_ (some 17) rfl rfl Try.func45 (by kernel_rfl) rfl #[.slice A0 l0.length c0, .slice A1 l1.length c1, .slice A2 l2.length c2, .int .i64 a3] rfl (by (try simp only [List.map_toArray, List.map_cons, List.map_nil]); first | done | rfl | (simp only [List.length_drop, List.length_take]; rfl)) ?_; (with_reducible refine (impl_areNested.calls k _ _ l0 _ _ l1 _ _ l2 a3 false _ ?side1 ?side2 ?side3 ?side4 ?side5 ?side6 A5.out).mono ?_); (case side1 => repeat (first | exact HR0.out | (with_reducible refine Kd.C_alloc ?_ _) | (with_reducible refine Kd.C_drewN ?_ _) | (with_reducible refine Kd.C_drew ?_))); (case side2 => exact HC0.out); (case side3 => repeat (first | exact HR1.out | (with_reducible refine Kd.C_alloc ?_ _) | (with_reducible refine Kd.C_drewN ?_ _) | (with_reducible refine Kd.C_drew ?_))); (case side4 => exact HC1.out); (case side5 => repeat (first | exact HR2.out | (with_reducible refine Kd.C_alloc ?_ _) | (with_reducible refine Kd.C_drewN ?_ _) | (with_reducible refine Kd.C_drew ?_))); (case side6 => exact HC2.out); rintro e w' ⟨rfl, ⟨nd, rfl⟩⟩; refine ⟨_, rfl, ?_⟩))
    go_ret2
    exact ⟨_, by first | rfl | (simp [errW_none, errW_some] <;> rfl) | (simp [*, errW_none, errW_some] <;> rfl), by first | exact Kd.S_nil _ _ _ _ _ | exact Kd.N_nil _ _ _ _ _ | exact Kd.V_nil _ _ _ _ _ | exact Kd.Q_nil _ _ _ _ _ | exact Kd.R_nil _ _ _ _ _, by repeat (first | (with_reducible first | exact HB.out | apply below_alloc | apply pw_below_drewN | apply below_drew1) | exact HB.out)⟩

-- NOT PRINTED: function 11 (laws_FnExactShellsOf)

end Go.Proofs.Ytcbdglefkmpaeaa.PFnExactShellsOf

-- Printed by a changed copy of the printer; impl.bestPit and spec.paFind by contracts walked by hand
import Derived.Test.YtcbdglefkmpaeaaPFnExactLossWithoutx0
namespace Go.Proofs.Ytcbdglefkmpaeaa.PFnExactLossWithout
open Go.RowKit Go.Proofs.YtcbdglefkmpaeaaW.PrintWords Go.Proofs.YtcbdglefkmpaeaaW.PrintLast Go.Proofs.YtcbdglefkmpaeaaW.PrintMore
attribute [local go_sem] max2_int min2_int max_two min_two max_three min_three max_four min_four   -- for this text's walks alone
set_option linter.unusedVariables false
set_option linter.unusedSimpArgs false

/-! ### impl_bestPit: function 63 -/
/-- The marks of the best pit: of all blocks; without those of a list; with those of a list (walked by hand: FlG). -/
def impl_bestPit.f0 (l0 : List (List Int)) (l1 : List Int) : Option (List Bool) := if 1 ≤ l0.length ∧ l1.length = l0.length ∧ Go.Proofs.Ytcbdglefkmpaeaa.Flow.fitB l0 (Go.Proofs.Ytcbdglefkmpaeaa.Res.freeV l1 [] [] l0.length) = true then some (Go.Proofs.Ytcbdglefkmpaeaa.Res.resB l0 l1 [] []) else none
def impl_bestPit.fo (l0 : List (List Int)) (l1 : List Int) (l3 : List Bool) : Option (List Bool) := if 1 ≤ l0.length ∧ l1.length = l0.length ∧ l3.length = l0.length ∧ Go.Proofs.Ytcbdglefkmpaeaa.Flow.fitB l0 (Go.Proofs.Ytcbdglefkmpaeaa.Res.freeV l1 [] l3 l0.length) = true then some (Go.Proofs.Ytcbdglefkmpaeaa.Res.resB l0 l1 [] l3) else none
def impl_bestPit.fi (l0 : List (List Int)) (l1 : List Int) (l2 : List Bool) : Option (List Bool) := if 1 ≤ l0.length ∧ l1.length = l0.length ∧ l2.length = l0.length ∧ Go.Proofs.Ytcbdglefkmpaeaa.Flow.fitB l0 (Go.Proofs.Ytcbdglefkmpaeaa.Res.freeV l1 l2 [] l0.length) = true then some (Go.Proofs.Ytcbdglefkmpaeaa.Res.resB l0 l1 l2 []) else none
theorem impl_bestPit.arg {w : World} {n : Nat} {A : Option Addr} {c : Nat} {l : List Bool} (h : Kd.C Kd.bool w A l.length l) (hn : 1 ≤ n) (hl : l.length = n) : Go.Proofs.Ytcbdglefkmpaeaa.Res.MkArg w n (.slice A l.length c) l := by
  obtain ⟨ad, e, _⟩ := Kd.at_bool h 0 (Int.le_refl _) (by omega)
  subst e
  exact .inr ⟨ad, c, rfl, hl, h⟩
theorem impl_bestPit.calls_0 (A0 : Option Addr) (c0 : Nat) (l0 : List (List Int)) (A1 : Option Addr) (c1 : Nat) (l1 : List Int) (A2 : Option Addr) (c2 : Nat) (l2 : List Bool) (A3 : Option Addr) (c3 : Nat) (l3 : List Bool) (a4 : Bool) (r : List Bool) (w : World) (hr0 : Kd.C (Kd.slice 3 (Kd.int .i64)) w A0 l0.length l0) (hc0 : l0.length ≤ c0) (hr1 : Kd.C (Kd.int .i64) w A1 l1.length l1) (hc1 : l1.length ≤ c1) (hr2 : Kd.C Kd.bool w A2 l2.length l2) (hc2 : l2.length ≤ c2) (hr3 : Kd.C Kd.bool w A3 l3.length l3) (hc3 : l3.length ≤ c3) (h : impl_bestPit.f0 l0 l1 = some r) :
    Calls Try.prog 63 #[.slice A0 l0.length c0, .slice A1 l1.length c1, .slice none 0 0, .slice none 0 0, .bool false] w fun e w' => ∃ v0_ : Value, e = .returned (v0_) ∧ Kd.V Kd.bool 4 w' w.heap.size (fun k_ => (w.heap.size ≤ k_)) v0_ r ∧ Below w.heap.size w w' := by
  unfold impl_bestPit.f0 at h
  split at h
  · rename_i hf
    injection h with h
    subst h
    exact Go.Proofs.Ytcbdglefkmpaeaa.Res.bestPit_calls A0 c0 l0 A1 c1 l1 _ _ [] [] w hr0 hc0 hr1 hc1 (.inl ⟨rfl, rfl⟩) (.inl ⟨rfl, rfl⟩) hf.1 hf.2.1 (Go.Proofs.Ytcbdglefkmpaeaa.Flow.fitB_iff.1 hf.2.2)
  · cases h
theorem impl_bestPit.calls_o (A0 : Option Addr) (c0 : Nat) (l0 : List (List Int)) (A1 : Option Addr) (c1 : Nat) (l1 : List Int) (A2 : Option Addr) (c2 : Nat) (l2 : List Bool) (A3 : Option Addr) (c3 : Nat) (l3 : List Bool) (a4 : Bool) (r : List Bool) (w : World) (hr0 : Kd.C (Kd.slice 3 (Kd.int .i64)) w A0 l0.length l0) (hc0 : l0.length ≤ c0) (hr1 : Kd.C (Kd.int .i64) w A1 l1.length l1) (hc1 : l1.length ≤ c1) (hr2 : Kd.C Kd.bool w A2 l2.length l2) (hc2 : l2.length ≤ c2) (hr3 : Kd.C Kd.bool w A3 l3.length l3) (hc3 : l3.length ≤ c3) (h : impl_bestPit.fo l0 l1 l3 = some r) :
    Calls Try.prog 63 #[.slice A0 l0.length c0, .slice A1 l1.length c1, .slice none 0 0, .slice A3 l3.length c3, .bool false] w fun e w' => ∃ v0_ : Value, e = .returned (v0_) ∧ Kd.V Kd.bool 4 w' w.heap.size (fun k_ => (w.heap.size ≤ k_)) v0_ r ∧ Below w.heap.size w w' := by
  unfold impl_bestPit.fo at h
  split at h
  · rename_i hf
    injection h with h
    subst h
    exact Go.Proofs.Ytcbdglefkmpaeaa.Res.bestPit_calls A0 c0 l0 A1 c1 l1 _ _ [] l3 w hr0 hc0 hr1 hc1 (.inl ⟨rfl, rfl⟩) (impl_bestPit.arg hr3 hf.1 hf.2.2.1) hf.1 hf.2.1 (Go.Proofs.Ytcbdglefkmpaeaa.Flow.fitB_iff.1 hf.2.2.2)
  · cases h
theorem impl_bestPit.calls_i (A0 : Option Addr) (c0 : Nat) (l0 : List (List Int)) (A1 : Option Addr) (c1 : Nat) (l1 : List Int) (A2 : Option Addr) (c2 : Nat) (l2 : List Bool) (A3 : Option Addr) (c3 : Nat) (l3 : List Bool) (a4 : Bool) (r : List Bool) (w : World) (hr0 : Kd.C (Kd.slice 3 (Kd.int .i64)) w A0 l0.length l0) (hc0 : l0.length ≤ c0) (hr1 : Kd.C (Kd.int .i64) w A1 l1.length l1) (hc1 : l1.length ≤ c1) (hr2 : Kd.C Kd.bool w A2 l2.length l2) (hc2 : l2.length ≤ c2) (hr3 : Kd.C Kd.bool w A3 l3.length l3) (hc3 : l3.length ≤ c3) (h : impl_bestPit.fi l0 l1 l2 = some r) :
    Calls Try.prog 63 #[.slice A0 l0.length c0, .slice A1 l1.length c1, .slice A2 l2.length c2, .slice none 0 0, .bool false] w fun e w' => ∃ v0_ : Value, e = .returned (v0_) ∧ Kd.V Kd.bool 4 w' w.heap.size (fun k_ => (w.heap.size ≤ k_)) v0_ r ∧ Below w.heap.size w w' := by
  unfold impl_bestPit.fi at h
  split at h
  · rename_i hf
    injection h with h
    subst h
    exact Go.Proofs.Ytcbdglefkmpaeaa.Res.bestPit_calls A0 c0 l0 A1 c1 l1 _ _ l2 [] w hr0 hc0 hr1 hc1 (impl_bestPit.arg hr2 hf.1 hf.2.2.1) (.inl ⟨rfl, rfl⟩) hf.1 hf.2.1 (Go.Proofs.Ytcbdglefkmpaeaa.Flow.fitB_iff.1 hf.2.2.2)
  · cases h

/-! ### impl_markOf: function 94 -/
def impl_markOf.l0 : Nat → List Bool → List Int → Int → Int → Option (List Bool)
  | 0, _, _, _, _ => none
  | k + 1, x5, x10, x11, x12 => if x12 < x11 then (if 0 ≤ x12 then (if x12 < (x10.length : Int) then (if 0 ≤ (rd x10 x12) then (if (rd x10 x12) < (x5.length : Int) then (impl_markOf.l0 k (x5.set ((rd x10 x12) : Int).toNat true) x10 x11 (wrap64 (x12 + 1))) else (none)) else (none)) else (none)) else (none)) else (some x5)
def impl_markOf.f (k : Nat) (a0 : Int) (l1 : List Int) : Option (List Bool) := if 0 ≤ a0 then (if (a0 : Int).toNat ≤ 281474976710656 then (impl_markOf.l0 k (List.replicate (a0 : Int).toNat false) l1 (l1.length : Int) 0) else (none)) else (none)
theorem impl_markOf.mono_l : ∀ k, (∀ y0 y1 y2 y3, LeO (impl_markOf.l0 k y0 y1 y2 y3) (impl_markOf.l0 (k + 1) y0 y1 y2 y3))
  | 0 => fun _ _ _ _ r h => by simp [impl_markOf.l0] at h
  | k + 1 => by
    have ih0 := impl_markOf.mono_l k
    · intro y0 y1 y2 y3
      unfold impl_markOf.l0
      repeat' first
      | (with_reducible exact ih0 _ _ _ _)
      | (with_reducible exact LeO.refl _)
      | (with_reducible exact LeO.none _)
      | (with_reducible refine LeO.ite ?_ ?_)
      | (with_reducible refine LeO.bind ?_ (fun _ => ?_))
      | exact ih0 _ _ _ _
      | exact LeO.none _
      | refine LeO.ite ?_ ?_
      | refine LeO.bind ?_ (fun _ => ?_)
theorem impl_markOf.mono : ∀ a0 a1 k, LeO (impl_markOf.f k a0 a1) (impl_markOf.f (k + 1) a0 a1) := by
  intro a0 a1 k
  have ih0 := impl_markOf.mono_l k
  unfold impl_markOf.f
  repeat' first
      | (with_reducible exact ih0 _ _ _ _)
      | (with_reducible exact LeO.refl _)
      | (with_reducible exact LeO.none _)
      | (with_reducible refine LeO.ite ?_ ?_)
      | (with_reducible refine LeO.bind ?_ (fun _ => ?_))
      | exact ih0 _ _ _ _
      | exact LeO.none _
      | refine LeO.ite ?_ ?_
      | refine LeO.bind ?_ (fun _ => ?_)
set_option maxHeartbeats 8000000 in
set_option maxRecDepth 100000 in
theorem impl_markOf.calls (k : Nat) (a0 : Int) (A1 : Option Addr) (c1 : Nat) (l1 : List Int) (r : List Bool) (w : World) (hr1 : Kd.C (Kd.int .i64) w A1 l1.length l1) (hc1 : l1.length ≤ c1) (h : impl_markOf.f k a0 l1 = some r) :
    Calls Try.prog 94 #[.int .i64 a0, .slice A1 l1.length c1] w fun e w' => ∃ v0_ : Value, e = .returned (v0_) ∧ Kd.R Kd.bool 4 w' w.heap.size (fun _ => True) v0_ r ∧ Below w.heap.size w w' := by
  have HR1 := Aside0.mk hr1
  have HC1 := Aside0.mk hc1
  clear hr1 hc1
  have HB := Aside0.mk (Below.refl w.heap.size w)
  have H : (if 0 ≤ a0 then (if (a0 : Int).toNat ≤ 281474976710656 then (impl_markOf.l0 k (List.replicate (a0 : Int).toNat false) l1 (l1.length : Int) 0) else (none)) else (none)) = some r := h
  clear h
  by_cases c3 : 0 ≤ a0
  · rw [if_pos c3] at H
    have c3b0 := eq_true c3
    have c3b1 : decide (0 ≤ a0) = true := decide_eq_true c3
    clear c3
    by_cases c4 : (a0 : Int).toNat ≤ 281474976710656
    · rw [if_pos c4] at H
      have c4b0 := eq_true c4
      have c4b1 : decide ((a0 : Int).toNat ≤ 281474976710656) = true := decide_eq_true c4
      clear c4
      obtain ⟨y390, hy390⟩ : ∃ y_ : List Bool, y_ = (List.replicate (a0 : Int).toNat false) := ⟨_, rfl⟩
      replace H : (impl_markOf.l0 k y390 l1 (l1.length : Int) 0) = some r := by first | (rw [hy390]; with_reducible exact H) | (have H2_ := (Option.bind_some _ _).symm.trans H; rw [hy390]; with_reducible exact H2_) | (have H2_ := (Option.bind_some _ _).symm.trans H; with_reducible exact H2_) | with_reducible exact H | (rw [hy390]; exact H) | exact H
      have Ny390 := Aside0.mk hy390
      clear hy390
      have H' := Aside0.mk H
      clear H
      go_enter Try.func94, Try.ntmps94
      go_wp2_with (first | ((with_reducible refine gate_dst (N := 9) rfl ?_); refine Kd.R_make Kd.bool _ 4 rfl (N := 9) rfl 44 _ _ rfl a0 rfl rfl Try.underlying44 (.bool false) 1 info4 rfl (by decide) (by omega) false (ok := fun _ => True) (okp := fun _ => True) rfl (fun _ hk => hk) trivial (of_decide_eq_true (by first | (with_reducible assumption) | assumption)) (Nat.le_trans (Nat.mul_le_mul_right _ (of_decide_eq_true (by first | (with_reducible assumption) | assumption) : a0.toNat ≤ 281474976710656)) (by omega)) (Below.refl _ _) (Nat.le_refl _) ?_; intro v391 w5 ho6 hb hg_ hnew_; clear hg_ hnew_; (first | rw [← Ny390.out] at ho6 | (simp only [Int.reduceToNat] at ho6; rw [← Ny390.out] at ho6)); have n0_ := Aside0.mk (Kd.R_lower ho6 (below_size (by repeat (first | (with_reducible first | exact HB.out | apply below_alloc | apply pw_below_drewN | apply below_drew1) | exact HB.out)))); have n1_ := Aside0.mk (below_step (by repeat (first | (with_reducible first | exact HB.out | apply below_alloc | apply pw_below_drewN | apply below_drew1) | exact HB.out)) hb); clear HB; have HO392 := n0_; have HB := n1_; clear n0_ n1_; clear hb ho6))
      go_loopg [12] k (fun kq v12 w' => ∃ (x5_1 : List Bool) (x12_1 : Int), v12 = .int .i64 x12_1 ∧ Aside0 (impl_markOf.l0 kq x5_1 l1 (l1.length : Int) x12_1 = some r) ∧ Aside0 (kq ≤ k) ∧ Aside0 (Kd.R Kd.bool 4 w' w.heap.size (fun _ => True) v391 x5_1) ∧ Aside0 (Below w.heap.size w w'))
      case atStart => exact ⟨(y390), (0), (by first | rfl | (simp; done) | (simp [*]; done)), H', ⟨Nat.le_refl _⟩, ⟨by (with_reducible repeat (first | apply Kd.R_alloc | apply Kd.R_drewN | apply Kd.R_drew)); exact HO392.out⟩, ⟨by repeat (first | (with_reducible first | exact HB.out | apply below_alloc | apply pw_below_drewN | apply below_drew1) | exact HB.out)⟩⟩
      case round =>
        clear H'
        try clear c1
        try clear p2
        try clear c3
        try clear c3b0
        try clear c3b1
        try clear c4
        try clear c4b0
        try clear c4b1
        obtain ⟨x5_1, x12_1, rfl, HA, HK1, HO_5, HB⟩ := hrel
        cases gk with
        | zero => exact absurd HA.out (by simp [impl_markOf.l0])
        | succ k1 =>
          have H := HA.out
          clear HA
          simp only [impl_markOf.l0] at H
          by_cases c7 : x12_1 < (l1.length : Int)
          · rw [if_pos c7] at H
            have c7b0 : decide (x12_1 < (l1.length : Int)) = true := decide_eq_true c7
            clear c7
            by_cases c8 : 0 ≤ x12_1
            · rw [if_pos c8] at H
              have c8b0 : decide (0 ≤ x12_1) = true := decide_eq_true c8
              clear c8
              by_cases c9 : x12_1 < (l1.length : Int)
              · rw [if_pos c9] at H
                have c9b0 : decide (x12_1 < (l1.length : Int)) = true := decide_eq_true c9
                clear c9
                by_cases c10 : 0 ≤ (rd l1 x12_1)
                · rw [if_pos c10] at H
                  have c10b0 : decide (0 ≤ (rd l1 x12_1)) = true := decide_eq_true c10
                  clear c10
                  by_cases c11 : (rd l1 x12_1) < (x5_1.length : Int)
                  · rw [if_pos c11] at H
                    have c11b0 : decide ((rd l1 x12_1) < (x5_1.length : Int)) = true := decide_eq_true c11
                    clear c11
                    obtain ⟨y394, hy394⟩ : ∃ y_ : List Bool, y_ = (x5_1.set ((rd l1 x12_1) : Int).toNat true) := ⟨_, rfl⟩
                    replace H : (impl_markOf.l0 k1 y394 l1 (l1.length : Int) (wrap64 (x12_1 + 1))) = some r := by first | (rw [hy394]; with_reducible exact H) | (have H2_ := (Option.bind_some _ _).symm.trans H; rw [hy394]; with_reducible exact H2_) | (have H2_ := (Option.bind_some _ _).symm.trans H; with_reducible exact H2_) | with_reducible exact H | (rw [hy394]; exact H) | exact H
                    have Ny394 := Aside0.mk hy394
                    clear hy394
                    have H' := Aside0.mk H
                    clear H
                    have p393 : 0 ≤ (x12_1 : Int) := of_decide_eq_true (by first | (with_reducible assumption) | assumption)
                    have q393 : x12_1 < (l1.length : Int) := of_decide_eq_true (by first | (with_reducible assumption) | assumption)
                    obtain ⟨ad393, e393, hx393_0⟩ := Kd.at_int HR1.out x12_1 p393 q393
                    cases e393
                    replace hx393_0 := (HB.out.cell (World.block_lt_of_cell? w _ hx393_0)).trans hx393_0
                    replace p393 := eq_true p393
                    replace q393 := eq_true q393
                    have p12 : 0 ≤ ((rd l1 x12_1) : Int) := of_decide_eq_true (by first | (with_reducible assumption) | assumption)
                    have q12 : ((rd l1 x12_1) : Int) < ((x5_1.length : Int) : Int) := of_decide_eq_true (by first | (with_reducible assumption) | assumption)
                    obtain ⟨go12, co12, eo12, gb12, gl12, cl12, HG12⟩ := Kd.R_form HO_5.out (by omega)
                    (first | cases eo12 | (injection eo12 with ea_ en_ ec_; (first | subst ea_ | (injection ea_ with ea_; subst ea_)); subst ec_; clear en_))
                    have GB12 := Aside0.mk gb12
                    have GG12 := Aside0.mk HG12
                    clear gb12 gl12 HG12
                    obtain ⟨hx12_0, hf12_0⟩ := Kd.R_celln false HO_5.out ((rd l1 x12_1) : Int) p12 q12
                    replace p12 := eq_true p12
                    replace q12 := eq_true q12
                    have HP13 := Kd.R_putg HO_5.out ((rd l1 x12_1) : Int) true
                    go_wp2_with (first | ((with_reducible refine gate_store (t := 4) (p := 18) rfl ?_); refine store_event (t := 4) (p := 18) (v := ?vo_w14) (w1 := (wr.setCell ⟨go12, ((rd l1 x12_1) : Int).toNat, none⟩ (.bool true))) ?hg ?ho ?hn ?hr ?_; (case ho => rfl); (case hg => rfl); (case hn => rfl); (case hr => first | (go_simp; done) | (go_simp; rfl)); intro w14 hw; have hg : wr.grownBy w14 (some go12) := (by rw [hw]; exact HP13.2); have hp_ : Kd.R Kd.bool 4 w14 w.heap.size (fun _ => True) (.slice (some ⟨go12, 0, none⟩) x5_1.length co12) y394 := (by rw [hw, Ny394.out]; exact HP13.1); clear HP13; have n0_ := Aside0.mk (hp_); have n1_ := Aside0.mk ((by rw [hw]; exact below_set (HB.out) GB12.out : Below w.heap.size w w14)); clear HO_5; clear HB; have HO_5 := n0_; have HB := n1_; clear n0_ n1_; clear hg hw hp_))
                    go_roundg k1
                    case measure => have := HK1.out; omega
                    case rel => exact ⟨(y394), (wrap64 (x12_1 + 1)), (by first | rfl | (simp; done) | (simp [*]; done)), H', ⟨by have := HK1.out; omega⟩, ⟨by (with_reducible repeat (first | apply Kd.R_alloc | apply Kd.R_drewN | apply Kd.R_drew)); exact HO_5.out⟩, ⟨by repeat (first | (with_reducible first | exact HB.out | apply below_alloc | apply pw_below_drewN | apply below_drew1) | exact HB.out)⟩⟩
                  · rw [if_neg c11] at H
                    exact absurd H (by simp)
                · rw [if_neg c10] at H
                  exact absurd H (by simp)
              · rw [if_neg c9] at H
                exact absurd H (by simp)
            · rw [if_neg c8] at H
              exact absurd H (by simp)
          · rw [if_neg c7] at H
            have c7b0 : decide (x12_1 < (l1.length : Int)) = false := decide_eq_false c7
            clear c7
            obtain rfl := Option.some.inj H
            go_wp2
            go_ret
            exact ⟨_, by first | rfl | (simp [errW_none, errW_some] <;> rfl) | (simp [*, errW_none, errW_some] <;> rfl), by (with_reducible repeat (first | apply Kd.R_alloc | apply Kd.R_drewN | apply Kd.R_drew)); exact HO_5.out, by repeat (first | (with_reducible first | exact HB.out | apply below_alloc | apply pw_below_drewN | apply below_drew1) | exact HB.out)⟩
    · rw [if_neg c4] at H
      exact absurd H (by simp)
  · rw [if_neg c3] at H
    exact absurd H (by simp)

end Go.Proofs.Ytcbdglefkmpaeaa.PFnExactLossWithout

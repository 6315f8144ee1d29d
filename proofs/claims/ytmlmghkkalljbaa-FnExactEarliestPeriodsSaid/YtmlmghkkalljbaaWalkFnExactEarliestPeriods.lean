/- The walk of FnExactEarliestPeriods's own text: for all arguments it returns true, and nothing that lay in memory before has turned; over the contracts of what it calls; no further condition. -/
import Derived.Test.YtmlmghkkalljbaaPureFnExactEarliestPeriods
import Derived.Test.YtmlmghkkalljbaaLaw
namespace Go.Proofs.Ytmlmghkkalljbaa.WalkFnExactEarliestPeriods
open Go.RowKit Go.Proofs.YtmlmghkkalljbaaW.PrintWords Go.Proofs.YtmlmghkkalljbaaW.PrintLast Go.Proofs.YtmlmghkkalljbaaW.PrintMore Go.Proofs.Ytmlmghkkalljbaa.PFnExactEarliestPeriods Go.Proofs.Ytmlmghkkalljbaa.Gen Go.Proofs.Ytmlmghkkalljbaa.Pure Go.Proofs.Ytmlmghkkalljbaa.Law Go.Proofs.Ytmlmghkkalljbaa.Opn
set_option linter.unusedVariables false
set_option linter.unusedSimpArgs false
theorem markSS_calls (l0 : List (List Int)) (a1 : Int) (ha : 0 ≤ a1) (hb : a1 + (totL l0 : Int) < 1000000000000) (P0 : Nat → Prop) (u : Value) (w0 w : World) (hB : Below w0.heap.size w0 w) (ho : Kd.S (Kd.slice 3 (Kd.int .i64)) 23 w w0.heap.size P0 u l0) :
    Calls Try.prog 37 #[u, .int .i64 a1] w fun e w' => e = .returned (.int .i64 (a1 + (totL l0 : Int))) ∧ Kd.S (Kd.slice 3 (Kd.int .i64)) 23 w' w0.heap.size (fun k_ => P0 k_ ∨ w.heap.size ≤ k_) u (marksSS l0 a1) ∧ Below w0.heap.size w0 w' ∧ Kept w w' (fun k_ => P0 k_) := by
  have HO := Aside0.mk (Kd.S_mono ho (fun k_ hk => (Or.inl hk : P0 k_ ∨ w.heap.size ≤ k_)))
  have HK := Aside0.mk (Kept.refl w (fun k_ => P0 k_))
  have HB := Aside0.mk hB
  obtain ⟨A, c, rfl⟩ := Kd.S_slice ho
  have HL := (Kd.S_reads' ho).1
  have hmax : l0.length ≤ 9223372036854775807 := (Kd.S_reads' ho).2.2.2.1
  clear ho hB
  go_enter Try.func37, Try.ntmps37
  go_wp2
  go_loopg [1, 5] l0.length (fun kq v1 v5 w' => ∃ pre suf : List (List Int), pre ++ suf = l0 ∧ v5 = .int .i64 (pre.length : Int) ∧ v1 = .int .i64 (a1 + (totL pre : Int)) ∧ Aside0 (kq = suf.length) ∧ Aside0 (Kd.S (Kd.slice 3 (Kd.int .i64)) 23 w' w0.heap.size (fun k_ => P0 k_ ∨ w.heap.size ≤ k_) (.slice A l0.length c) (marksSS pre a1 ++ suf)) ∧ Aside0 (Below w0.heap.size w0 w') ∧ Aside0 (Kept w w' (fun k_ => P0 k_)))
  case atStart => exact ⟨[], l0, rfl, rfl, by simp [totL], ⟨rfl⟩, HO, HB, HK⟩
  case round =>
    obtain ⟨pre, suf, hl, rfl, rfl, HQ, HO, HB, HK⟩ := hrel
    cases suf with
    | nil =>
      have hpl : l0.length = pre.length := by rw [← hl]; simp
      have c1 : decide ((pre.length : Int) < (l0.length : Int)) = false := decide_eq_false (by omega)
      have c2 : decide (pre.length < l0.length) = false := decide_eq_false (by omega)
      have HP := Aside0.mk hpl
      have HE := Aside0.mk hl
      clear hl hpl
      go_wp2
      go_ret
      have e := HE.out
      rw [List.append_nil] at e
      subst e
      have o := HO.out
      rw [List.append_nil] at o
      exact ⟨rfl, o, HB.out, HK.out⟩
    | cons x suf =>
      have hpl : l0.length = pre.length + suf.length + 1 := by rw [← hl]; simp; omega
      have hlt : (pre.length : Int) < (l0.length : Int) := by omega
      have c1 : decide ((pre.length : Int) < (l0.length : Int)) = true := decide_eq_true hlt
      have c2 : decide (pre.length < l0.length) = true := decide_eq_true (by omega)
      have hcl : (marksSS pre a1 ++ x :: suf).length = l0.length := by rw [List.length_append, marksSS_len, List.length_cons]; omega
      obtain ⟨g, cap, eo, hg1, hg2, _⟩ := Kd.S_form HO.out (by rw [hcl]; omega)
      rw [hcl] at eo
      cases eo
      obtain ⟨oki, ce, hcel, hM, hcc, hfr, hoki, hH⟩ := Kd.S_elem HO.out [] (pre.length : Int) (Int.natCast_nonneg _) hlt
      obtain ⟨ve, rfl, hR⟩ := hM
      have hx := hcc 0 _ rfl
      simp only [show (Kd.slice 3 (Kd.int .i64)).sz = 1 from rfl, Nat.mul_one, Nat.add_zero, Int.toNat_natCast] at hx
      rw [Int.toNat_natCast, show (marksSS pre a1 ++ x :: suf).getD pre.length [] = x by rw [← marksSS_len pre a1]; simp] at hR
      have htot : totL l0 = totL pre + x.length + totL suf := by rw [← hl]; simp [totL]; omega
      obtain ⟨kk, hk⟩ := (markIntS_ev x (a1 + (totL pre : Int)) (by omega) (by omega)).rounds
      have HR := Aside0.mk hR
      have HH := Aside0.mk hH
      have HE := Aside0.mk hl
      have HP := Aside0.mk hpl
      have HT := Aside0.mk htot
      have HMK := Aside0.mk hk
      have HOK := Aside0.mk hoki
      have HC := Aside0.mk hcl
      clear hl hpl htot hk hoki hcl hcc hcel hfr hR hH
      go_wp2_with fail
      refine (laws_markIntS.calls kk oki ve x _ _ _ w0 wr HB.out HR.out HMK.out).mono ?_
      rintro e w2 ⟨rfl, hr2, hb2, hk2⟩
      have HS2 := Aside0.mk (show Kd.S (Kd.slice 3 (Kd.int .i64)) 23 w2 w0.heap.size (fun k_ => P0 k_ ∨ w.heap.size ≤ k_) (.slice (some ⟨g, 0, none⟩) l0.length c) (marksSS (pre ++ [x]) a1 ++ suf) from by
        have h1 := Kd.H_kept (Kd.H_widen HH.out) hk2 (fun k _ hn hk => hn (Or.inl hk))
        have h2 := Kd.H_back h1 (x' := markedI x.length (a1 + (totL pre : Int))) (okp := fun k_ => oki k_ ∨ wr.heap.size ≤ k_) ⟨ve, rfl, hr2⟩ (fun k hk => hk.elim (fun q => Or.inl q) (fun q => Or.inr ⟨Or.inr (Nat.le_trans HK.out.1 q), q⟩))
        rw [Int.toNat_natCast] at h2
        have e2 : (marksSS pre a1 ++ x :: suf).set pre.length (markedI x.length (a1 + (totL pre : Int))) = marksSS (pre ++ [x]) a1 ++ suf := by
          have s := set_mid (marksSS pre a1) x (markedI x.length (a1 + (totL pre : Int))) suf
          rw [marksSS_len, Int.toNat_natCast] at s
          rw [s, marksSS_snoc]
        rw [e2] at h2
        exact h2)
      have HB2 := Aside0.mk hb2
      have HK2 := Aside0.mk (Kept.then_ HK.out hk2 (fun k hk => (HOK.out k hk).1))
      clear hr2 hb2 hk2 HO HB HK HH HR
      have e3 : a1 + (totL pre : Int) + (x.length : Int) = a1 + (totL (pre ++ [x]) : Int) := by rw [totL_snoc]; omega
      rw [e3]
      clear e3
      go_wp2_with fail
      go_roundg suf.length
      case measure => have := HQ.out; rw [this, List.length_cons]; omega
      case rel => exact ⟨pre ++ [x], suf, by rw [List.append_assoc]; exact HE.out, by simp, rfl, ⟨rfl⟩, HS2, HB2, HK2⟩

theorem markJob_calls (l0 : List (List Int)) (l1 l2 : List Int) (b3 b4 b5 b6 b7 a1 : Int) (ha : 0 ≤ a1) (hb : a1 + (totL l0 : Int) + (l1.length : Int) + (l2.length : Int) < 1000000000000) (P0 P1 P2 : Nat → Prop) (u0 u1 u2 : Value) (w0 w : World) (hB : Below w0.heap.size w0 w)
    (ho0 : Kd.S (Kd.slice 3 (Kd.int .i64)) 23 w w0.heap.size P0 u0 l0) (ho1 : Kd.R (Kd.int .i64) 3 w w0.heap.size P1 u1 l1) (ho2 : Kd.R (Kd.int .i64) 3 w w0.heap.size P2 u2 l2)
    (h10 : ∀ k, P1 k → ¬ P0 k) (h20 : ∀ k, P2 k → ¬ P0 k) (h21 : ∀ k, P2 k → ¬ P1 k) :
    Calls Try.prog 31 #[.agg #[u0, u1, u2, .int .i64 b3, .int .i64 b4, .int .i64 b5, .int .i64 b6, .int .i64 b7], .int .i64 a1] w fun e w' => e = .returned (.int .i64 (a1 + (totL l0 : Int) + (l1.length : Int) + (l2.length : Int))) ∧ Below w0.heap.size w0 w' ∧ Kept w w' (fun k => P0 k ∨ P1 k ∨ P2 k) := by
  have hu_ := Try.underlying32
  obtain ⟨A0, c0, rfl⟩ := Kd.S_slice ho0
  obtain ⟨A1, c1, rfl⟩ := Kd.R_slice ho1
  obtain ⟨A2, c2, rfl⟩ := Kd.R_slice ho2
  have HB := Aside0.mk hB
  have HO0 := Aside0.mk (Kd.S_bound ho0)
  have HO1 := Aside0.mk (Kd.R_bound ho1)
  have HO2 := Aside0.mk (Kd.R_bound ho2)
  have H10 := Aside0.mk h10
  have H20 := Aside0.mk h20
  have H21 := Aside0.mk h21
  obtain ⟨k1, e1_⟩ := (markIntS_ev l1 (a1 + (totL l0 : Int)) (by omega) (by omega)).rounds
  obtain ⟨k2, e2_⟩ := (markIntS_ev l2 (a1 + (totL l0 : Int) + (l1.length : Int)) (by omega) (by omega)).rounds
  have HM1 := Aside0.mk e1_
  have HM2 := Aside0.mk e2_
  clear hB ho0 ho1 ho2 h10 h20 h21 e1_ e2_
  have HT := Aside0.mk hb
  clear hb
  go_enter Try.func31, Try.ntmps31
  go_wp2_with ((with_reducible refine gate_dst (N := 2) rfl ?_); refine box_event ?hg (N := 2) ?hd (cs := #[.slice A0 l0.length c0, .slice A1 l1.length c1, .slice A2 l2.length c2, .int .i64 b3, .int .i64 b4, .int .i64 b5, .int .i64 b6, .int .i64 b7]) (t := 32) ?hr ?_; (case hd => rfl); (case hg => rfl); (case hr => first | (go_simp; done) | (go_simp; rfl)); intro g hg w1 hbox hb1_; have HG := Aside0.mk hg; have HBK := Aside0.mk hbox; have HW := Aside0.mk hb1_; have hx1 : w1.cell? ⟨g, 0, none⟩ = some (.slice A0 l0.length c0) := (blk_cell hbox 0).trans rfl; have hx2 := blk_frozen hbox 0; clear hg hbox hb1_)
  refine (markSS_calls l0 a1 ha (by have := HT.out; omega) (fun k => P0 k ∧ w0.heap.size ≤ k ∧ k < w.heap.size ∧ True) _ w0 w1 (more HB.out HW.out) (Kd.S_mono (Kd.S_below HO0.out HW.out) (fun k hk => ⟨hk.1, hk.2.1, hk.2.2.1, trivial⟩))).mono ?_
  rintro e w2 ⟨rfl, _, hb1, hk1⟩
  have HB1 := Aside0.mk hb1
  have HK1 := Aside0.mk hk1
  have HBK1 := Aside0.mk (blk_kept HBK.out hk1 (fun h => by have := HG.out; omega))
  clear hb1 hk1 hx1 hx2 HBK
  have hx1 : w2.cell? ⟨g, 1, none⟩ = some (.slice A1 l1.length c1) := (blk_cell HBK1.out 1).trans rfl
  have hx2 := blk_frozen HBK1.out 1
  go_wp2_with fail
  refine (laws_markIntS.calls k1 (fun k => P1 k ∧ w0.heap.size ≤ k ∧ k < w.heap.size ∧ True) _ l1 _ _ _ w0 w2 HB1.out (Kd.R_kept (Kd.R_mono (Kd.R_below HO1.out HW.out) (fun k hk => ⟨hk.1, hk.2.1, hk.2.2.1, trivial⟩)) HK1.out (fun k h1 h2 => H10.out k h1.1 h2.1)) HM1.out).mono ?_
  rintro e w3 ⟨rfl, _, hb2, hk2⟩
  have HB2 := Aside0.mk hb2
  have HK2 := Aside0.mk hk2
  have HBK2 := Aside0.mk (blk_kept HBK1.out hk2 (fun h => by have := HG.out; omega))
  clear hb2 hk2 hx1 hx2 HBK1
  have hx1 : w3.cell? ⟨g, 2, none⟩ = some (.slice A2 l2.length c2) := (blk_cell HBK2.out 2).trans rfl
  have hx2 := blk_frozen HBK2.out 2
  go_wp2_with fail
  refine (laws_markIntS.calls k2 (fun k => P2 k ∧ w0.heap.size ≤ k ∧ k < w.heap.size ∧ True) _ l2 _ _ _ w0 w3 HB2.out (Kd.R_kept (Kd.R_kept (Kd.R_mono (Kd.R_below HO2.out HW.out) (fun k hk => ⟨hk.1, hk.2.1, hk.2.2.1, trivial⟩)) HK1.out (fun k h1 h2 => H20.out k h1.1 h2.1)) HK2.out (fun k h1 h2 => H21.out k h1.1 h2.1)) HM2.out).mono ?_
  rintro e w4 ⟨rfl, _, hb3, hk3⟩
  have HB3 := Aside0.mk hb3
  have HK3 := Aside0.mk hk3
  clear hb3 hk3 hx1 hx2
  go_wp2_with fail
  go_ret
  exact ⟨rfl, HB3.out, Kept.then_ (Kept.then_ (Kept.then_ (Kept.of_below HW.out _) HK1.out (fun k hk => Or.inl (Or.inl hk.1))) HK2.out (fun k hk => Or.inl (Or.inr (Or.inl hk.1)))) HK3.out (fun k hk => Or.inl (Or.inr (Or.inr hk.1)))⟩

set_option maxRecDepth 100000 in
set_option maxHeartbeats 40000000 in
theorem law (A_aj_0 : Option Addr) (c_aj_0 : Nat) (aj_0 : List (List Int)) (A_aj_1 : Option Addr) (c_aj_1 : Nat) (aj_1 : List Int) (A_aj_2 : Option Addr) (c_aj_2 : Nat) (aj_2 : List Int) (aj_3 : Int) (aj_4 : Int) (aj_5 : Int) (aj_6 : Int) (aj_7 : Int) (w : World) (hr_aj_0 : Kd.C (Kd.slice 3 (Kd.int .i64)) w A_aj_0 aj_0.length aj_0) (hc_aj_0 : aj_0.length ≤ c_aj_0) (hr_aj_1 : Kd.C (Kd.int .i64) w A_aj_1 aj_1.length aj_1) (hc_aj_1 : aj_1.length ≤ c_aj_1) (hr_aj_2 : Kd.C (Kd.int .i64) w A_aj_2 aj_2.length aj_2) (hc_aj_2 : aj_2.length ≤ c_aj_2) (hm_aj_0 : aj_0.length ≤ maxLen) (hi_aj_0 : ∀ z ∈ aj_0, z.length ≤ maxLen) (hw_aj_0 : ∀ z ∈ aj_0, okI .i64 z) (hm_aj_1 : aj_1.length ≤ maxLen) (hw_aj_1 : okI .i64 aj_1) (hm_aj_2 : aj_2.length ≤ maxLen) (hw_aj_2 : okI .i64 aj_2) (hw_aj_3 : (Lit.int .i64 aj_3).wf = true) (hw_aj_4 : (Lit.int .i64 aj_4).wf = true) (hw_aj_5 : (Lit.int .i64 aj_5).wf = true) (hw_aj_6 : (Lit.int .i64 aj_6).wf = true) (hw_aj_7 : (Lit.int .i64 aj_7).wf = true) :
    Calls Try.prog 14 #[.agg #[.slice A_aj_0 aj_0.length c_aj_0, .slice A_aj_1 aj_1.length c_aj_1, .slice A_aj_2 aj_2.length c_aj_2, .int .i64 aj_3, .int .i64 aj_4, .int .i64 aj_5, .int .i64 aj_6, .int .i64 aj_7]] w fun e w' => e = .returned (.bool true) ∧ Below w.heap.size w w' := by
  have HR_aj_0 := Aside0.mk hr_aj_0
  have HC_aj_0 := Aside0.mk hc_aj_0
  clear hr_aj_0 hc_aj_0
  have HR_aj_1 := Aside0.mk hr_aj_1
  have HC_aj_1 := Aside0.mk hc_aj_1
  clear hr_aj_1 hc_aj_1
  have HR_aj_2 := Aside0.mk hr_aj_2
  have HC_aj_2 := Aside0.mk hc_aj_2
  clear hr_aj_2 hc_aj_2
  have HB := Aside0.mk (Below.refl w.heap.size w)
  have hu27 := Try.underlying27
  have hu32 := Try.underlying32
  have HMI_aj_0 := Aside0.mk hi_aj_0
  clear hi_aj_0
  clear hw_aj_0
  clear hw_aj_1
  clear hw_aj_2
  have cl1_ : 0 ≤ (1048576 : Int) := by omega
  have cu1_ : (1048576 : Int) ≤ 1048576 := by omega
  obtain ⟨s1, hs_, hsa_, hsb_⟩ := szJob_ev aj_0 aj_1 aj_2 aj_3 aj_4 aj_5 aj_6 aj_7 1048576 cl1_ cu1_ hm_aj_0 HMI_aj_0.out hm_aj_1 hm_aj_2
  obtain ⟨ks_, hs_⟩ := hs_.rounds
  have HS1 := Aside0.mk hs_
  have HSB1 := Aside0.mk hsb_
  clear hs_ hsb_ cl1_ cu1_
  go_enter Try.func14, Try.ntmps14
  go_wp2_with (first | ((with_reducible refine gate_dst (N := 1) rfl ?_); refine box_event ?hg (N := 1) ?hd (cs := #[.slice A_aj_0 aj_0.length c_aj_0, .slice A_aj_1 aj_1.length c_aj_1, .slice A_aj_2 aj_2.length c_aj_2, .int .i64 aj_3, .int .i64 aj_4, .int .i64 aj_5, .int .i64 aj_6, .int .i64 aj_7]) (t := 27) ?hr ?_; (case hd => rfl); (case hg => rfl); (case hr => first | (go_simp; done) | (go_simp; rfl)); intro g_aj hg_ w1_ hbox_ hb_; have hp_ : Below w.heap.size w w1_ := below_step (by repeat (first | exact Below.refl _ _ | (with_reducible apply below_alloc) | (with_reducible apply pw_below_drewN) | (with_reducible apply below_drew1))) hb_; have hz_ : w.heap.size ≤ g_aj := Nat.le_trans (below_size (by repeat (first | exact Below.refl _ _ | (with_reducible apply below_alloc) | (with_reducible apply pw_below_drewN) | (with_reducible apply below_drew1)))) (Nat.le_of_eq hg_.symm); have HZ2 := Aside0.mk (⟨hz_, blk_lt hbox_, hp_.size⟩ : _ ∧ _ ∧ _); have HGW_aj := Aside0.mk (Nat.le_trans HB.out.size hz_ : w.heap.size ≤ g_aj); have HBn_ := Aside0.mk (more HB.out hp_); clear HB; have HB := HBn_; clear HBn_; have BK_aj := Aside0.mk hbox_; have hcz_aj_0 : w1_.cell? ⟨g_aj, 0, none⟩ = some (.slice A_aj_0 aj_0.length c_aj_0) := (blk_cell BK_aj.out 0).trans rfl; have hfz_aj_0 := blk_frozen BK_aj.out 0; have hcz_aj_1 : w1_.cell? ⟨g_aj, 1, none⟩ = some (.slice A_aj_1 aj_1.length c_aj_1) := (blk_cell BK_aj.out 1).trans rfl; have hfz_aj_1 := blk_frozen BK_aj.out 1; have hcz_aj_2 : w1_.cell? ⟨g_aj, 2, none⟩ = some (.slice A_aj_2 aj_2.length c_aj_2) := (blk_cell BK_aj.out 2).trans rfl; have hfz_aj_2 := blk_frozen BK_aj.out 2; have hcz_aj_3 : w1_.cell? ⟨g_aj, 3, none⟩ = some (.int .i64 aj_3) := (blk_cell BK_aj.out 3).trans rfl; have hfz_aj_3 := blk_frozen BK_aj.out 3; have hcz_aj_4 : w1_.cell? ⟨g_aj, 4, none⟩ = some (.int .i64 aj_4) := (blk_cell BK_aj.out 4).trans rfl; have hfz_aj_4 := blk_frozen BK_aj.out 4; have hcz_aj_5 : w1_.cell? ⟨g_aj, 5, none⟩ = some (.int .i64 aj_5) := (blk_cell BK_aj.out 5).trans rfl; have hfz_aj_5 := blk_frozen BK_aj.out 5; have hcz_aj_6 : w1_.cell? ⟨g_aj, 6, none⟩ = some (.int .i64 aj_6) := (blk_cell BK_aj.out 6).trans rfl; have hfz_aj_6 := blk_frozen BK_aj.out 6; have hcz_aj_7 : w1_.cell? ⟨g_aj, 7, none⟩ = some (.int .i64 aj_7) := (blk_cell BK_aj.out 7).trans rfl; have hfz_aj_7 := blk_frozen BK_aj.out 7; clear hg_ hbox_ hb_ hp_ hz_))
  refine (laws_szJob.calls ks_ _ _ aj_0 _ _ aj_1 _ _ aj_2 aj_3 aj_4 aj_5 aj_6 aj_7 1048576 s1 _ (by repeat (first | exact (Kd.C_below HR_aj_0.out HB.out) | (with_reducible refine Kd.C_alloc ?_ _) | (with_reducible refine Kd.C_drewN ?_ _) | (with_reducible refine Kd.C_drew ?_))) HC_aj_0.out (by repeat (first | exact (Kd.C_below HR_aj_1.out HB.out) | (with_reducible refine Kd.C_alloc ?_ _) | (with_reducible refine Kd.C_drewN ?_ _) | (with_reducible refine Kd.C_drew ?_))) HC_aj_1.out (by repeat (first | exact (Kd.C_below HR_aj_2.out HB.out) | (with_reducible refine Kd.C_alloc ?_ _) | (with_reducible refine Kd.C_drewN ?_ _) | (with_reducible refine Kd.C_drew ?_))) HC_aj_2.out HS1.out).mono ?_
  rintro e w2_ ⟨rfl, hd_⟩
  have hb_ := hd_
  clear hd_
  have hp_ : Below w1_.heap.size w1_ w2_ := below_step (by repeat (first | exact Below.refl _ _ | (with_reducible apply below_alloc) | (with_reducible apply pw_below_drewN) | (with_reducible apply below_drew1))) hb_
  have HZ3 := Aside0.mk hp_.size
  have HBn_ := Aside0.mk (more HB.out hp_)
  clear HB
  have HB := HBn_
  clear HBn_
  clear hcz_aj_0 hfz_aj_0 hcz_aj_1 hfz_aj_1 hcz_aj_2 hfz_aj_2 hcz_aj_3 hfz_aj_3 hcz_aj_4 hfz_aj_4 hcz_aj_5 hfz_aj_5 hcz_aj_6 hfz_aj_6 hcz_aj_7 hfz_aj_7
  have X_ := Aside0.mk (blk_below BK_aj.out hp_)
  clear BK_aj
  have BK_aj := X_
  clear X_
  have hcz_aj_0 : w2_.cell? ⟨g_aj, 0, none⟩ = some (.slice A_aj_0 aj_0.length c_aj_0) := (blk_cell BK_aj.out 0).trans rfl
  have hfz_aj_0 := blk_frozen BK_aj.out 0
  have hcz_aj_1 : w2_.cell? ⟨g_aj, 1, none⟩ = some (.slice A_aj_1 aj_1.length c_aj_1) := (blk_cell BK_aj.out 1).trans rfl
  have hfz_aj_1 := blk_frozen BK_aj.out 1
  have hcz_aj_2 : w2_.cell? ⟨g_aj, 2, none⟩ = some (.slice A_aj_2 aj_2.length c_aj_2) := (blk_cell BK_aj.out 2).trans rfl
  have hfz_aj_2 := blk_frozen BK_aj.out 2
  have hcz_aj_3 : w2_.cell? ⟨g_aj, 3, none⟩ = some (.int .i64 aj_3) := (blk_cell BK_aj.out 3).trans rfl
  have hfz_aj_3 := blk_frozen BK_aj.out 3
  have hcz_aj_4 : w2_.cell? ⟨g_aj, 4, none⟩ = some (.int .i64 aj_4) := (blk_cell BK_aj.out 4).trans rfl
  have hfz_aj_4 := blk_frozen BK_aj.out 4
  have hcz_aj_5 : w2_.cell? ⟨g_aj, 5, none⟩ = some (.int .i64 aj_5) := (blk_cell BK_aj.out 5).trans rfl
  have hfz_aj_5 := blk_frozen BK_aj.out 5
  have hcz_aj_6 : w2_.cell? ⟨g_aj, 6, none⟩ = some (.int .i64 aj_6) := (blk_cell BK_aj.out 6).trans rfl
  have hfz_aj_6 := blk_frozen BK_aj.out 6
  have hcz_aj_7 : w2_.cell? ⟨g_aj, 7, none⟩ = some (.int .i64 aj_7) := (blk_cell BK_aj.out 7).trans rfl
  have hfz_aj_7 := blk_frozen BK_aj.out 7
  clear hb_ hp_
  by_cases g_ : s1 < 0
  · have d_ : decide (s1 < 0) = true := decide_eq_true g_
    go_wp2_with fail
    go_ret
    exact ⟨rfl, by repeat (first | exact HB.out | (with_reducible apply below_alloc) | (with_reducible apply pw_below_drewN) | (with_reducible apply below_drew1))⟩
  have d1_ : decide (s1 < 0) = false := decide_eq_false g_
  have hb1_ := HSB1.out (by omega)
  clear HSB1
  have HQ1 := Aside0.mk hb1_
  have ga1 : 0 ≤ s1 := by omega
  clear hb1_ g_
  have b_aj_0 : aj_0.length ≤ 1048576 := by have := HQ1.out; omega
  have HBD_aj_0 := Aside0.mk b_aj_0
  have bi_aj_0 : ∀ z ∈ aj_0, z.length ≤ 1048576 := fun z hz => by have := tot_mem hz; have := HQ1.out; omega
  have HBI_aj_0 := Aside0.mk bi_aj_0
  have HTO_aj_0 : Aside0 (totL aj_0 ≤ 1048576) := ⟨by have := HQ1.out; omega⟩
  clear b_aj_0 bi_aj_0
  have b_aj_1 : aj_1.length ≤ 1048576 := by have := HQ1.out; omega
  have HBD_aj_1 := Aside0.mk b_aj_1
  clear b_aj_1
  have b_aj_2 : aj_2.length ≤ 1048576 := by have := HQ1.out; omega
  have HBD_aj_2 := Aside0.mk b_aj_2
  clear b_aj_2
  obtain ⟨r1v, r2v, es_, ei_, hl_r1⟩ := FnExactEarliestPeriods aj_0 aj_1 aj_2 aj_3 aj_4 aj_5 aj_6 aj_7 HBD_aj_0.out HBI_aj_0.out HBD_aj_1.out HBD_aj_2.out
  obtain ⟨kes_, h_⟩ := es_.rounds
  have HES := Aside0.mk h_
  clear h_ es_
  obtain ⟨kei_, h_⟩ := ei_.rounds
  have HEI := Aside0.mk h_
  clear h_ ei_
  have HL_r1 := Aside0.mk hl_r1
  clear hl_r1
  obtain ⟨kt_aJ, h_⟩ := (toJob_ev aj_0 aj_1 aj_2 aj_3 aj_4 aj_5 aj_6 aj_7 HBD_aj_0.out HBI_aj_0.out HBD_aj_1.out HBD_aj_2.out).rounds
  have Hkt_aJ := Aside0.mk h_
  clear h_
  obtain ⟨kq_aJ, h_⟩ := (eqJob_ev aj_0 aj_1 aj_2 aj_3 aj_4 aj_5 aj_6 aj_7 HBD_aj_0.out HBI_aj_0.out HBD_aj_1.out HBD_aj_2.out).rounds
  have Hkq_aJ := Aside0.mk h_
  clear h_
  obtain ⟨kgq, h_⟩ := (eqIntS_ev r1v r1v (by have := HL_r1.out; omega)).rounds
  rw [decide_eq_true rfl] at h_
  have Hkgq := Aside0.mk h_
  clear h_
  go_wp2_with fail
  refine (laws_toJob.calls kt_aJ _ _ aj_0 _ _ aj_1 _ _ aj_2 aj_3 aj_4 aj_5 aj_6 aj_7 aj_0 aj_1 aj_2 aj_3 aj_4 aj_5 aj_6 aj_7 _ (by repeat (first | exact (Kd.C_below HR_aj_0.out HB.out) | (with_reducible refine Kd.C_alloc ?_ _) | (with_reducible refine Kd.C_drewN ?_ _) | (with_reducible refine Kd.C_drew ?_))) HC_aj_0.out (by repeat (first | exact (Kd.C_below HR_aj_1.out HB.out) | (with_reducible refine Kd.C_alloc ?_ _) | (with_reducible refine Kd.C_drewN ?_ _) | (with_reducible refine Kd.C_drew ?_))) HC_aj_1.out (by repeat (first | exact (Kd.C_below HR_aj_2.out HB.out) | (with_reducible refine Kd.C_alloc ?_ _) | (with_reducible refine Kd.C_drewN ?_ _) | (with_reducible refine Kd.C_drew ?_))) HC_aj_2.out Hkt_aJ.out).mono ?_
  rintro e w3_ ⟨v0_n3, v1_n3, v2_n3, rfl, ho0_, ho1_, ho2_, hb_⟩
  have hp_ : Below w2_.heap.size w2_ w3_ := below_step (by repeat (first | exact Below.refl _ _ | (with_reducible apply below_alloc) | (with_reducible apply pw_below_drewN) | (with_reducible apply below_drew1))) hb_
  obtain ⟨B4, H4, eB_, eH_, hi1_, hi2_, hi3_⟩ := spot (W0 := w2_) (by repeat (first | exact Below.refl _ _ | (with_reducible apply below_alloc) | (with_reducible apply pw_below_drewN) | (with_reducible apply below_drew1))) hb_
  have HZ4 := Aside0.mk (⟨hi1_, hi2_, hi3_, hp_.size⟩ : _ ∧ _ ∧ _ ∧ _)
  have N4_0 := Aside0.mk (OwnS.new (W0 := w2_) (b := w.heap.size) (by repeat (first | exact Below.refl _ _ | (with_reducible apply below_alloc) | (with_reducible apply pw_below_drewN) | (with_reducible apply below_drew1))) ho0_ hb_ HB.out.size _ _ eB_ eH_)
  have N4_1 := Aside0.mk (Own.new (W0 := w2_) (b := w.heap.size) (by repeat (first | exact Below.refl _ _ | (with_reducible apply below_alloc) | (with_reducible apply pw_below_drewN) | (with_reducible apply below_drew1))) (tightRow rfl ho1_) hb_ HB.out.size _ _ eB_ eH_)
  have N4_2 := Aside0.mk (Own.new (W0 := w2_) (b := w.heap.size) (by repeat (first | exact Below.refl _ _ | (with_reducible apply below_alloc) | (with_reducible apply pw_below_drewN) | (with_reducible apply below_drew1))) (tightRow rfl ho2_) hb_ HB.out.size _ _ eB_ eH_)
  clear eB_ eH_ hi1_ hi2_ hi3_ ho0_ ho1_ ho2_
  have HBn_ := Aside0.mk (more HB.out hp_)
  clear HB
  have HB := HBn_
  clear HBn_
  clear hcz_aj_0 hfz_aj_0 hcz_aj_1 hfz_aj_1 hcz_aj_2 hfz_aj_2 hcz_aj_3 hfz_aj_3 hcz_aj_4 hfz_aj_4 hcz_aj_5 hfz_aj_5 hcz_aj_6 hfz_aj_6 hcz_aj_7 hfz_aj_7
  have X_ := Aside0.mk (blk_below BK_aj.out hp_)
  clear BK_aj
  have BK_aj := X_
  clear X_
  have hcz_aj_0 : w3_.cell? ⟨g_aj, 0, none⟩ = some (.slice A_aj_0 aj_0.length c_aj_0) := (blk_cell BK_aj.out 0).trans rfl
  have hfz_aj_0 := blk_frozen BK_aj.out 0
  have hcz_aj_1 : w3_.cell? ⟨g_aj, 1, none⟩ = some (.slice A_aj_1 aj_1.length c_aj_1) := (blk_cell BK_aj.out 1).trans rfl
  have hfz_aj_1 := blk_frozen BK_aj.out 1
  have hcz_aj_2 : w3_.cell? ⟨g_aj, 2, none⟩ = some (.slice A_aj_2 aj_2.length c_aj_2) := (blk_cell BK_aj.out 2).trans rfl
  have hfz_aj_2 := blk_frozen BK_aj.out 2
  have hcz_aj_3 : w3_.cell? ⟨g_aj, 3, none⟩ = some (.int .i64 aj_3) := (blk_cell BK_aj.out 3).trans rfl
  have hfz_aj_3 := blk_frozen BK_aj.out 3
  have hcz_aj_4 : w3_.cell? ⟨g_aj, 4, none⟩ = some (.int .i64 aj_4) := (blk_cell BK_aj.out 4).trans rfl
  have hfz_aj_4 := blk_frozen BK_aj.out 4
  have hcz_aj_5 : w3_.cell? ⟨g_aj, 5, none⟩ = some (.int .i64 aj_5) := (blk_cell BK_aj.out 5).trans rfl
  have hfz_aj_5 := blk_frozen BK_aj.out 5
  have hcz_aj_6 : w3_.cell? ⟨g_aj, 6, none⟩ = some (.int .i64 aj_6) := (blk_cell BK_aj.out 6).trans rfl
  have hfz_aj_6 := blk_frozen BK_aj.out 6
  have hcz_aj_7 : w3_.cell? ⟨g_aj, 7, none⟩ = some (.int .i64 aj_7) := (blk_cell BK_aj.out 7).trans rfl
  have hfz_aj_7 := blk_frozen BK_aj.out 7
  clear hb_ hp_
  have T4_0 := N4_0
  clear N4_0
  obtain ⟨AT4_0, cT4_0, rfl, hc_⟩ := T4_0.out.reads
  have HCT4_0 := Aside0.mk hc_
  clear hc_
  have T4_1 := N4_1
  clear N4_1
  obtain ⟨AT4_1, cT4_1, rfl, hc_⟩ := T4_1.out.reads
  have HCT4_1 := Aside0.mk hc_
  clear hc_
  have T4_2 := N4_2
  clear N4_2
  obtain ⟨AT4_2, cT4_2, rfl, hc_⟩ := T4_2.out.reads
  have HCT4_2 := Aside0.mk hc_
  clear hc_
  go_wp2_with fail
  refine (spec_EarliestPeriods.calls kes_ _ _ aj_0 _ _ aj_1 _ _ aj_2 aj_3 aj_4 aj_5 aj_6 aj_7 r1v r2v _ (by repeat (first | exact T4_0.out.C | (with_reducible refine Kd.C_alloc ?_ _) | (with_reducible refine Kd.C_drewN ?_ _) | (with_reducible refine Kd.C_drew ?_))) HCT4_0.out (by repeat (first | exact T4_1.out.C | (with_reducible refine Kd.C_alloc ?_ _) | (with_reducible refine Kd.C_drewN ?_ _) | (with_reducible refine Kd.C_drew ?_))) HCT4_1.out (by repeat (first | exact T4_2.out.C | (with_reducible refine Kd.C_alloc ?_ _) | (with_reducible refine Kd.C_drewN ?_ _) | (with_reducible refine Kd.C_drew ?_))) HCT4_2.out HES.out).mono ?_
  rintro e w4_ ⟨v0_n4, rfl, ho0_, hb_⟩
  have hp_ : Below w3_.heap.size w3_ w4_ := below_step (by repeat (first | exact Below.refl _ _ | (with_reducible apply below_alloc) | (with_reducible apply pw_below_drewN) | (with_reducible apply below_drew1))) hb_
  obtain ⟨B5, H5, eB_, eH_, hi1_, hi2_, hi3_⟩ := spot (W0 := w3_) (by repeat (first | exact Below.refl _ _ | (with_reducible apply below_alloc) | (with_reducible apply pw_below_drewN) | (with_reducible apply below_drew1))) hb_
  have HZ5 := Aside0.mk (⟨hi1_, hi2_, hi3_, hp_.size⟩ : _ ∧ _ ∧ _ ∧ _)
  have N5_0 := Aside0.mk (Own.new (W0 := w3_) (b := w.heap.size) (by repeat (first | exact Below.refl _ _ | (with_reducible apply below_alloc) | (with_reducible apply pw_below_drewN) | (with_reducible apply below_drew1))) ho0_ hb_ HB.out.size _ _ eB_ eH_)
  clear eB_ eH_ hi1_ hi2_ hi3_ ho0_
  have HBn_ := Aside0.mk (more HB.out hp_)
  clear HB
  have HB := HBn_
  clear HBn_
  have X_ := Aside0.mk (T4_0.out.step hp_)
  clear T4_0
  have T4_0 := X_
  clear X_
  have X_ := Aside0.mk (T4_1.out.step hp_)
  clear T4_1
  have T4_1 := X_
  clear X_
  have X_ := Aside0.mk (T4_2.out.step hp_)
  clear T4_2
  have T4_2 := X_
  clear X_
  clear hcz_aj_0 hfz_aj_0 hcz_aj_1 hfz_aj_1 hcz_aj_2 hfz_aj_2 hcz_aj_3 hfz_aj_3 hcz_aj_4 hfz_aj_4 hcz_aj_5 hfz_aj_5 hcz_aj_6 hfz_aj_6 hcz_aj_7 hfz_aj_7
  have X_ := Aside0.mk (blk_below BK_aj.out hp_)
  clear BK_aj
  have BK_aj := X_
  clear X_
  have hcz_aj_0 : w4_.cell? ⟨g_aj, 0, none⟩ = some (.slice A_aj_0 aj_0.length c_aj_0) := (blk_cell BK_aj.out 0).trans rfl
  have hfz_aj_0 := blk_frozen BK_aj.out 0
  have hcz_aj_1 : w4_.cell? ⟨g_aj, 1, none⟩ = some (.slice A_aj_1 aj_1.length c_aj_1) := (blk_cell BK_aj.out 1).trans rfl
  have hfz_aj_1 := blk_frozen BK_aj.out 1
  have hcz_aj_2 : w4_.cell? ⟨g_aj, 2, none⟩ = some (.slice A_aj_2 aj_2.length c_aj_2) := (blk_cell BK_aj.out 2).trans rfl
  have hfz_aj_2 := blk_frozen BK_aj.out 2
  have hcz_aj_3 : w4_.cell? ⟨g_aj, 3, none⟩ = some (.int .i64 aj_3) := (blk_cell BK_aj.out 3).trans rfl
  have hfz_aj_3 := blk_frozen BK_aj.out 3
  have hcz_aj_4 : w4_.cell? ⟨g_aj, 4, none⟩ = some (.int .i64 aj_4) := (blk_cell BK_aj.out 4).trans rfl
  have hfz_aj_4 := blk_frozen BK_aj.out 4
  have hcz_aj_5 : w4_.cell? ⟨g_aj, 5, none⟩ = some (.int .i64 aj_5) := (blk_cell BK_aj.out 5).trans rfl
  have hfz_aj_5 := blk_frozen BK_aj.out 5
  have hcz_aj_6 : w4_.cell? ⟨g_aj, 6, none⟩ = some (.int .i64 aj_6) := (blk_cell BK_aj.out 6).trans rfl
  have hfz_aj_6 := blk_frozen BK_aj.out 6
  have hcz_aj_7 : w4_.cell? ⟨g_aj, 7, none⟩ = some (.int .i64 aj_7) := (blk_cell BK_aj.out 7).trans rfl
  have hfz_aj_7 := blk_frozen BK_aj.out 7
  clear hb_ hp_
  have Vw0 := N5_0
  clear N5_0
  obtain ⟨AVw0, cVw0, rfl, hc_⟩ := Vw0.out.reads
  have HCVw0 := Aside0.mk hc_
  clear hc_
  clear T4_0 HCT4_0
  clear T4_1 HCT4_1
  clear T4_2 HCT4_2
  go_wp2_with fail
  refine (laws_toJob.calls kt_aJ _ _ aj_0 _ _ aj_1 _ _ aj_2 aj_3 aj_4 aj_5 aj_6 aj_7 aj_0 aj_1 aj_2 aj_3 aj_4 aj_5 aj_6 aj_7 _ (by repeat (first | exact (Kd.C_below HR_aj_0.out HB.out) | (with_reducible refine Kd.C_alloc ?_ _) | (with_reducible refine Kd.C_drewN ?_ _) | (with_reducible refine Kd.C_drew ?_))) HC_aj_0.out (by repeat (first | exact (Kd.C_below HR_aj_1.out HB.out) | (with_reducible refine Kd.C_alloc ?_ _) | (with_reducible refine Kd.C_drewN ?_ _) | (with_reducible refine Kd.C_drew ?_))) HC_aj_1.out (by repeat (first | exact (Kd.C_below HR_aj_2.out HB.out) | (with_reducible refine Kd.C_alloc ?_ _) | (with_reducible refine Kd.C_drewN ?_ _) | (with_reducible refine Kd.C_drew ?_))) HC_aj_2.out Hkt_aJ.out).mono ?_
  rintro e w5_ ⟨v0_n5, v1_n5, v2_n5, rfl, ho0_, ho1_, ho2_, hb_⟩
  have hp_ : Below w4_.heap.size w4_ w5_ := below_step (by repeat (first | exact Below.refl _ _ | (with_reducible apply below_alloc) | (with_reducible apply pw_below_drewN) | (with_reducible apply below_drew1))) hb_
  obtain ⟨B6, H6, eB_, eH_, hi1_, hi2_, hi3_⟩ := spot (W0 := w4_) (by repeat (first | exact Below.refl _ _ | (with_reducible apply below_alloc) | (with_reducible apply pw_below_drewN) | (with_reducible apply below_drew1))) hb_
  have HZ6 := Aside0.mk (⟨hi1_, hi2_, hi3_, hp_.size⟩ : _ ∧ _ ∧ _ ∧ _)
  have N6_0 := Aside0.mk (OwnS.new (W0 := w4_) (b := w.heap.size) (by repeat (first | exact Below.refl _ _ | (with_reducible apply below_alloc) | (with_reducible apply pw_below_drewN) | (with_reducible apply below_drew1))) ho0_ hb_ HB.out.size _ _ eB_ eH_)
  have N6_1 := Aside0.mk (Own.new (W0 := w4_) (b := w.heap.size) (by repeat (first | exact Below.refl _ _ | (with_reducible apply below_alloc) | (with_reducible apply pw_below_drewN) | (with_reducible apply below_drew1))) (tightRow rfl ho1_) hb_ HB.out.size _ _ eB_ eH_)
  have N6_2 := Aside0.mk (Own.new (W0 := w4_) (b := w.heap.size) (by repeat (first | exact Below.refl _ _ | (with_reducible apply below_alloc) | (with_reducible apply pw_below_drewN) | (with_reducible apply below_drew1))) (tightRow rfl ho2_) hb_ HB.out.size _ _ eB_ eH_)
  clear eB_ eH_ hi1_ hi2_ hi3_ ho0_ ho1_ ho2_
  have HBn_ := Aside0.mk (more HB.out hp_)
  clear HB
  have HB := HBn_
  clear HBn_
  have X_ := Aside0.mk (Vw0.out.step hp_)
  clear Vw0
  have Vw0 := X_
  clear X_
  clear hcz_aj_0 hfz_aj_0 hcz_aj_1 hfz_aj_1 hcz_aj_2 hfz_aj_2 hcz_aj_3 hfz_aj_3 hcz_aj_4 hfz_aj_4 hcz_aj_5 hfz_aj_5 hcz_aj_6 hfz_aj_6 hcz_aj_7 hfz_aj_7
  have X_ := Aside0.mk (blk_below BK_aj.out hp_)
  clear BK_aj
  have BK_aj := X_
  clear X_
  have hcz_aj_0 : w5_.cell? ⟨g_aj, 0, none⟩ = some (.slice A_aj_0 aj_0.length c_aj_0) := (blk_cell BK_aj.out 0).trans rfl
  have hfz_aj_0 := blk_frozen BK_aj.out 0
  have hcz_aj_1 : w5_.cell? ⟨g_aj, 1, none⟩ = some (.slice A_aj_1 aj_1.length c_aj_1) := (blk_cell BK_aj.out 1).trans rfl
  have hfz_aj_1 := blk_frozen BK_aj.out 1
  have hcz_aj_2 : w5_.cell? ⟨g_aj, 2, none⟩ = some (.slice A_aj_2 aj_2.length c_aj_2) := (blk_cell BK_aj.out 2).trans rfl
  have hfz_aj_2 := blk_frozen BK_aj.out 2
  have hcz_aj_3 : w5_.cell? ⟨g_aj, 3, none⟩ = some (.int .i64 aj_3) := (blk_cell BK_aj.out 3).trans rfl
  have hfz_aj_3 := blk_frozen BK_aj.out 3
  have hcz_aj_4 : w5_.cell? ⟨g_aj, 4, none⟩ = some (.int .i64 aj_4) := (blk_cell BK_aj.out 4).trans rfl
  have hfz_aj_4 := blk_frozen BK_aj.out 4
  have hcz_aj_5 : w5_.cell? ⟨g_aj, 5, none⟩ = some (.int .i64 aj_5) := (blk_cell BK_aj.out 5).trans rfl
  have hfz_aj_5 := blk_frozen BK_aj.out 5
  have hcz_aj_6 : w5_.cell? ⟨g_aj, 6, none⟩ = some (.int .i64 aj_6) := (blk_cell BK_aj.out 6).trans rfl
  have hfz_aj_6 := blk_frozen BK_aj.out 6
  have hcz_aj_7 : w5_.cell? ⟨g_aj, 7, none⟩ = some (.int .i64 aj_7) := (blk_cell BK_aj.out 7).trans rfl
  have hfz_aj_7 := blk_frozen BK_aj.out 7
  clear hb_ hp_
  have Vx00 := N6_0
  clear N6_0
  obtain ⟨AVx00, cVx00, rfl, hc_⟩ := Vx00.out.reads
  have HCVx00 := Aside0.mk hc_
  clear hc_
  have Vx01 := N6_1
  clear N6_1
  obtain ⟨AVx01, cVx01, rfl, hc_⟩ := Vx01.out.reads
  have HCVx01 := Aside0.mk hc_
  clear hc_
  have Vx02 := N6_2
  clear N6_2
  obtain ⟨AVx02, cVx02, rfl, hc_⟩ := Vx02.out.reads
  have HCVx02 := Aside0.mk hc_
  clear hc_
  go_wp2_with (first | ((with_reducible refine gate_dst (N := 6) rfl ?_); refine box_event ?hg (N := 6) ?hd (cs := #[.slice none 0 0, .slice none 0 0, .slice none 0 0, .int .i64 0, .int .i64 0, .int .i64 0, .int .i64 0, .int .i64 0]) (t := 32) ?hr ?_; (case hd => rfl); (case hg => rfl); (case hr => first | (go_simp; done) | (go_simp; rfl)); intro g_x0 hg_ w6_ hbox_ hb_; have hp_ : Below w5_.heap.size w5_ w6_ := below_step (by repeat (first | exact Below.refl _ _ | (with_reducible apply below_alloc) | (with_reducible apply pw_below_drewN) | (with_reducible apply below_drew1))) hb_; have hz_ : w5_.heap.size ≤ g_x0 := Nat.le_trans (below_size (by repeat (first | exact Below.refl _ _ | (with_reducible apply below_alloc) | (with_reducible apply pw_below_drewN) | (with_reducible apply below_drew1)))) (Nat.le_of_eq hg_.symm); have HZ7 := Aside0.mk (⟨hz_, blk_lt hbox_, hp_.size⟩ : _ ∧ _ ∧ _); have HGW_x0 := Aside0.mk (Nat.le_trans HB.out.size hz_ : w.heap.size ≤ g_x0); have hnb_x0_aj : g_x0 ≠ g_aj := Nat.ne_of_gt (Nat.lt_of_lt_of_le (blk_lt BK_aj.out) hz_); have hnb_aj_x0 : g_aj ≠ g_x0 := hnb_x0_aj.symm; have HBn_ := Aside0.mk (more HB.out hp_); clear HB; have HB := HBn_; clear HBn_; have X_ := Aside0.mk (Vw0.out.step hp_); clear Vw0; have Vw0 := X_; clear X_; have X_ := Aside0.mk (Vx00.out.step hp_); clear Vx00; have Vx00 := X_; clear X_; have X_ := Aside0.mk (Vx01.out.step hp_); clear Vx01; have Vx01 := X_; clear X_; have X_ := Aside0.mk (Vx02.out.step hp_); clear Vx02; have Vx02 := X_; clear X_; clear hcz_aj_0 hfz_aj_0 hcz_aj_1 hfz_aj_1 hcz_aj_2 hfz_aj_2 hcz_aj_3 hfz_aj_3 hcz_aj_4 hfz_aj_4 hcz_aj_5 hfz_aj_5 hcz_aj_6 hfz_aj_6 hcz_aj_7 hfz_aj_7; have X_ := Aside0.mk (blk_below BK_aj.out hp_); clear BK_aj; have BK_aj := X_; clear X_; have hcz_aj_0 : w6_.cell? ⟨g_aj, 0, none⟩ = some (.slice A_aj_0 aj_0.length c_aj_0) := (blk_cell BK_aj.out 0).trans rfl; have hfz_aj_0 := blk_frozen BK_aj.out 0; have hcz_aj_1 : w6_.cell? ⟨g_aj, 1, none⟩ = some (.slice A_aj_1 aj_1.length c_aj_1) := (blk_cell BK_aj.out 1).trans rfl; have hfz_aj_1 := blk_frozen BK_aj.out 1; have hcz_aj_2 : w6_.cell? ⟨g_aj, 2, none⟩ = some (.slice A_aj_2 aj_2.length c_aj_2) := (blk_cell BK_aj.out 2).trans rfl; have hfz_aj_2 := blk_frozen BK_aj.out 2; have hcz_aj_3 : w6_.cell? ⟨g_aj, 3, none⟩ = some (.int .i64 aj_3) := (blk_cell BK_aj.out 3).trans rfl; have hfz_aj_3 := blk_frozen BK_aj.out 3; have hcz_aj_4 : w6_.cell? ⟨g_aj, 4, none⟩ = some (.int .i64 aj_4) := (blk_cell BK_aj.out 4).trans rfl; have hfz_aj_4 := blk_frozen BK_aj.out 4; have hcz_aj_5 : w6_.cell? ⟨g_aj, 5, none⟩ = some (.int .i64 aj_5) := (blk_cell BK_aj.out 5).trans rfl; have hfz_aj_5 := blk_frozen BK_aj.out 5; have hcz_aj_6 : w6_.cell? ⟨g_aj, 6, none⟩ = some (.int .i64 aj_6) := (blk_cell BK_aj.out 6).trans rfl; have hfz_aj_6 := blk_frozen BK_aj.out 6; have hcz_aj_7 : w6_.cell? ⟨g_aj, 7, none⟩ = some (.int .i64 aj_7) := (blk_cell BK_aj.out 7).trans rfl; have hfz_aj_7 := blk_frozen BK_aj.out 7; have BK_x0 := Aside0.mk hbox_; have hcz_x0_0 : w6_.cell? ⟨g_x0, 0, none⟩ = some (.slice none 0 0) := (blk_cell BK_x0.out 0).trans rfl; have hfz_x0_0 := blk_frozen BK_x0.out 0; have hcz_x0_1 : w6_.cell? ⟨g_x0, 1, none⟩ = some (.slice none 0 0) := (blk_cell BK_x0.out 1).trans rfl; have hfz_x0_1 := blk_frozen BK_x0.out 1; have hcz_x0_2 : w6_.cell? ⟨g_x0, 2, none⟩ = some (.slice none 0 0) := (blk_cell BK_x0.out 2).trans rfl; have hfz_x0_2 := blk_frozen BK_x0.out 2; have hcz_x0_3 : w6_.cell? ⟨g_x0, 3, none⟩ = some (.int .i64 0) := (blk_cell BK_x0.out 3).trans rfl; have hfz_x0_3 := blk_frozen BK_x0.out 3; have hcz_x0_4 : w6_.cell? ⟨g_x0, 4, none⟩ = some (.int .i64 0) := (blk_cell BK_x0.out 4).trans rfl; have hfz_x0_4 := blk_frozen BK_x0.out 4; have hcz_x0_5 : w6_.cell? ⟨g_x0, 5, none⟩ = some (.int .i64 0) := (blk_cell BK_x0.out 5).trans rfl; have hfz_x0_5 := blk_frozen BK_x0.out 5; have hcz_x0_6 : w6_.cell? ⟨g_x0, 6, none⟩ = some (.int .i64 0) := (blk_cell BK_x0.out 6).trans rfl; have hfz_x0_6 := blk_frozen BK_x0.out 6; have hcz_x0_7 : w6_.cell? ⟨g_x0, 7, none⟩ = some (.int .i64 0) := (blk_cell BK_x0.out 7).trans rfl; have hfz_x0_7 := blk_frozen BK_x0.out 7; clear hg_ hbox_ hb_ hp_ hz_))
  obtain ⟨w7_, ew_⟩ : ∃ w_ : World, w_ = (World.setCell (World.setCell (World.setCell (World.setCell (World.setCell (World.setCell (World.setCell (World.setCell w6_ ⟨g_x0, 0, none⟩ (.slice AVx00 aj_0.length cVx00)) ⟨g_x0, 1, none⟩ (.slice AVx01 aj_1.length cVx01)) ⟨g_x0, 2, none⟩ (.slice AVx02 aj_2.length cVx02)) ⟨g_x0, 3, none⟩ (.int .i64 aj_3)) ⟨g_x0, 4, none⟩ (.int .i64 aj_4)) ⟨g_x0, 5, none⟩ (.int .i64 aj_5)) ⟨g_x0, 6, none⟩ (.int .i64 aj_6)) ⟨g_x0, 7, none⟩ (.int .i64 aj_7)) := ⟨_, rfl⟩
  rw [← ew_]
  have hbk_ : w7_.heap[g_x0]? = some (.cells #[.slice AVx00 aj_0.length cVx00, .slice AVx01 aj_1.length cVx01, .slice AVx02 aj_2.length cVx02, .int .i64 aj_3, .int .i64 aj_4, .int .i64 aj_5, .int .i64 aj_6, .int .i64 aj_7] 32 (0, 0)) := by rw [ew_]; exact blk_set (blk_set (blk_set (blk_set (blk_set (blk_set (blk_set (blk_set (BK_x0.out) 0 (.slice AVx00 aj_0.length cVx00)) 1 (.slice AVx01 aj_1.length cVx01)) 2 (.slice AVx02 aj_2.length cVx02)) 3 (.int .i64 aj_3)) 4 (.int .i64 aj_4)) 5 (.int .i64 aj_5)) 6 (.int .i64 aj_6)) 7 (.int .i64 aj_7)
  have hk_ : Kept w6_ w7_ (fun k_ => k_ = g_x0) := by rw [ew_]; exact Kept.setCell (Kept.setCell (Kept.setCell (Kept.setCell (Kept.setCell (Kept.setCell (Kept.setCell (Kept.setCell (Kept.refl _ (fun k_ => k_ = g_x0)) (Or.inl rfl) (.slice AVx00 aj_0.length cVx00)) (Or.inl rfl) (.slice AVx01 aj_1.length cVx01)) (Or.inl rfl) (.slice AVx02 aj_2.length cVx02)) (Or.inl rfl) (.int .i64 aj_3)) (Or.inl rfl) (.int .i64 aj_4)) (Or.inl rfl) (.int .i64 aj_5)) (Or.inl rfl) (.int .i64 aj_6)) (Or.inl rfl) (.int .i64 aj_7)
  have hb_ : Below w.heap.size w w7_ := by rw [ew_]; exact below_set (below_set (below_set (below_set (below_set (below_set (below_set (below_set (HB.out) HGW_x0.out) HGW_x0.out) HGW_x0.out) HGW_x0.out) HGW_x0.out) HGW_x0.out) HGW_x0.out) HGW_x0.out
  have HZ8 := Aside0.mk hk_.1
  clear ew_ HB
  have HB := Aside0.mk hb_
  have X_ := Aside0.mk (Vw0.out.kept hk_ (fun k h1_ h2_ h3_ => by have z0 := HZ2.out; have z1 := HZ3.out; have z2 := HZ4.out; have z3 := HZ5.out; have z4 := HZ6.out; have z5 := HZ7.out; have z6 := HZ8.out; omega))
  clear Vw0
  have Vw0 := X_
  clear X_
  have X_ := Aside0.mk (Vx00.out.kept hk_ (fun k h1_ h2_ h3_ => by have z0 := HZ2.out; have z1 := HZ3.out; have z2 := HZ4.out; have z3 := HZ5.out; have z4 := HZ6.out; have z5 := HZ7.out; have z6 := HZ8.out; omega))
  clear Vx00
  have Vx00 := X_
  clear X_
  have X_ := Aside0.mk (Vx01.out.kept hk_ (fun k h1_ h2_ h3_ => by have z0 := HZ2.out; have z1 := HZ3.out; have z2 := HZ4.out; have z3 := HZ5.out; have z4 := HZ6.out; have z5 := HZ7.out; have z6 := HZ8.out; omega))
  clear Vx01
  have Vx01 := X_
  clear X_
  have X_ := Aside0.mk (Vx02.out.kept hk_ (fun k h1_ h2_ h3_ => by have z0 := HZ2.out; have z1 := HZ3.out; have z2 := HZ4.out; have z3 := HZ5.out; have z4 := HZ6.out; have z5 := HZ7.out; have z6 := HZ8.out; omega))
  clear Vx02
  have Vx02 := X_
  clear X_
  clear hcz_x0_0 hfz_x0_0 hcz_x0_1 hfz_x0_1 hcz_x0_2 hfz_x0_2 hcz_x0_3 hfz_x0_3 hcz_x0_4 hfz_x0_4 hcz_x0_5 hfz_x0_5 hcz_x0_6 hfz_x0_6 hcz_x0_7 hfz_x0_7
  clear hcz_aj_0 hfz_aj_0 hcz_aj_1 hfz_aj_1 hcz_aj_2 hfz_aj_2 hcz_aj_3 hfz_aj_3 hcz_aj_4 hfz_aj_4 hcz_aj_5 hfz_aj_5 hcz_aj_6 hfz_aj_6 hcz_aj_7 hfz_aj_7
  have X_ := Aside0.mk (blk_kept BK_aj.out hk_ (fun h3_ => by have z0 := HZ2.out; have z1 := HZ3.out; have z2 := HZ4.out; have z3 := HZ5.out; have z4 := HZ6.out; have z5 := HZ7.out; have z6 := HZ8.out; omega))
  clear BK_aj
  have BK_aj := X_
  clear X_
  have hcz_aj_0 : w7_.cell? ⟨g_aj, 0, none⟩ = some (.slice A_aj_0 aj_0.length c_aj_0) := (blk_cell BK_aj.out 0).trans rfl
  have hfz_aj_0 := blk_frozen BK_aj.out 0
  have hcz_aj_1 : w7_.cell? ⟨g_aj, 1, none⟩ = some (.slice A_aj_1 aj_1.length c_aj_1) := (blk_cell BK_aj.out 1).trans rfl
  have hfz_aj_1 := blk_frozen BK_aj.out 1
  have hcz_aj_2 : w7_.cell? ⟨g_aj, 2, none⟩ = some (.slice A_aj_2 aj_2.length c_aj_2) := (blk_cell BK_aj.out 2).trans rfl
  have hfz_aj_2 := blk_frozen BK_aj.out 2
  have hcz_aj_3 : w7_.cell? ⟨g_aj, 3, none⟩ = some (.int .i64 aj_3) := (blk_cell BK_aj.out 3).trans rfl
  have hfz_aj_3 := blk_frozen BK_aj.out 3
  have hcz_aj_4 : w7_.cell? ⟨g_aj, 4, none⟩ = some (.int .i64 aj_4) := (blk_cell BK_aj.out 4).trans rfl
  have hfz_aj_4 := blk_frozen BK_aj.out 4
  have hcz_aj_5 : w7_.cell? ⟨g_aj, 5, none⟩ = some (.int .i64 aj_5) := (blk_cell BK_aj.out 5).trans rfl
  have hfz_aj_5 := blk_frozen BK_aj.out 5
  have hcz_aj_6 : w7_.cell? ⟨g_aj, 6, none⟩ = some (.int .i64 aj_6) := (blk_cell BK_aj.out 6).trans rfl
  have hfz_aj_6 := blk_frozen BK_aj.out 6
  have hcz_aj_7 : w7_.cell? ⟨g_aj, 7, none⟩ = some (.int .i64 aj_7) := (blk_cell BK_aj.out 7).trans rfl
  have hfz_aj_7 := blk_frozen BK_aj.out 7
  clear BK_x0
  have BK_x0 := Aside0.mk hbk_
  have hcz_x0_0 : w7_.cell? ⟨g_x0, 0, none⟩ = some (.slice AVx00 aj_0.length cVx00) := (blk_cell BK_x0.out 0).trans rfl
  have hfz_x0_0 := blk_frozen BK_x0.out 0
  have hcz_x0_1 : w7_.cell? ⟨g_x0, 1, none⟩ = some (.slice AVx01 aj_1.length cVx01) := (blk_cell BK_x0.out 1).trans rfl
  have hfz_x0_1 := blk_frozen BK_x0.out 1
  have hcz_x0_2 : w7_.cell? ⟨g_x0, 2, none⟩ = some (.slice AVx02 aj_2.length cVx02) := (blk_cell BK_x0.out 2).trans rfl
  have hfz_x0_2 := blk_frozen BK_x0.out 2
  have hcz_x0_3 : w7_.cell? ⟨g_x0, 3, none⟩ = some (.int .i64 aj_3) := (blk_cell BK_x0.out 3).trans rfl
  have hfz_x0_3 := blk_frozen BK_x0.out 3
  have hcz_x0_4 : w7_.cell? ⟨g_x0, 4, none⟩ = some (.int .i64 aj_4) := (blk_cell BK_x0.out 4).trans rfl
  have hfz_x0_4 := blk_frozen BK_x0.out 4
  have hcz_x0_5 : w7_.cell? ⟨g_x0, 5, none⟩ = some (.int .i64 aj_5) := (blk_cell BK_x0.out 5).trans rfl
  have hfz_x0_5 := blk_frozen BK_x0.out 5
  have hcz_x0_6 : w7_.cell? ⟨g_x0, 6, none⟩ = some (.int .i64 aj_6) := (blk_cell BK_x0.out 6).trans rfl
  have hfz_x0_6 := blk_frozen BK_x0.out 6
  have hcz_x0_7 : w7_.cell? ⟨g_x0, 7, none⟩ = some (.int .i64 aj_7) := (blk_cell BK_x0.out 7).trans rfl
  have hfz_x0_7 := blk_frozen BK_x0.out 7
  clear hbk_ hk_ hb_
  refine (impl_EarliestPeriods.calls kei_ _ _ aj_0 _ _ aj_1 _ _ aj_2 aj_3 aj_4 aj_5 aj_6 aj_7 r1v r2v _ (by repeat (first | exact Vx00.out.C | (with_reducible refine Kd.C_alloc ?_ _) | (with_reducible refine Kd.C_drewN ?_ _) | (with_reducible refine Kd.C_drew ?_))) HCVx00.out (by repeat (first | exact Vx01.out.C | (with_reducible refine Kd.C_alloc ?_ _) | (with_reducible refine Kd.C_drewN ?_ _) | (with_reducible refine Kd.C_drew ?_))) HCVx01.out (by repeat (first | exact Vx02.out.C | (with_reducible refine Kd.C_alloc ?_ _) | (with_reducible refine Kd.C_drewN ?_ _) | (with_reducible refine Kd.C_drew ?_))) HCVx02.out HEI.out).mono ?_
  rintro e w8_ ⟨v0_n8, rfl, ho0_, hb_⟩
  have hp_ : Below w7_.heap.size w7_ w8_ := below_step (by repeat (first | exact Below.refl _ _ | (with_reducible apply below_alloc) | (with_reducible apply pw_below_drewN) | (with_reducible apply below_drew1))) hb_
  obtain ⟨B9, H9, eB_, eH_, hi1_, hi2_, hi3_⟩ := spot (W0 := w7_) (by repeat (first | exact Below.refl _ _ | (with_reducible apply below_alloc) | (with_reducible apply pw_below_drewN) | (with_reducible apply below_drew1))) hb_
  have HZ9 := Aside0.mk (⟨hi1_, hi2_, hi3_, hp_.size⟩ : _ ∧ _ ∧ _ ∧ _)
  have N9_0 := Aside0.mk (Own.new (W0 := w7_) (b := w.heap.size) (by repeat (first | exact Below.refl _ _ | (with_reducible apply below_alloc) | (with_reducible apply pw_below_drewN) | (with_reducible apply below_drew1))) ho0_ hb_ HB.out.size _ _ eB_ eH_)
  clear eB_ eH_ hi1_ hi2_ hi3_ ho0_
  have HBn_ := Aside0.mk (more HB.out hp_)
  clear HB
  have HB := HBn_
  clear HBn_
  have X_ := Aside0.mk (Vw0.out.step hp_)
  clear Vw0
  have Vw0 := X_
  clear X_
  have X_ := Aside0.mk (Vx00.out.step hp_)
  clear Vx00
  have Vx00 := X_
  clear X_
  have X_ := Aside0.mk (Vx01.out.step hp_)
  clear Vx01
  have Vx01 := X_
  clear X_
  have X_ := Aside0.mk (Vx02.out.step hp_)
  clear Vx02
  have Vx02 := X_
  clear X_
  clear hcz_aj_0 hfz_aj_0 hcz_aj_1 hfz_aj_1 hcz_aj_2 hfz_aj_2 hcz_aj_3 hfz_aj_3 hcz_aj_4 hfz_aj_4 hcz_aj_5 hfz_aj_5 hcz_aj_6 hfz_aj_6 hcz_aj_7 hfz_aj_7
  have X_ := Aside0.mk (blk_below BK_aj.out hp_)
  clear BK_aj
  have BK_aj := X_
  clear X_
  have hcz_aj_0 : w8_.cell? ⟨g_aj, 0, none⟩ = some (.slice A_aj_0 aj_0.length c_aj_0) := (blk_cell BK_aj.out 0).trans rfl
  have hfz_aj_0 := blk_frozen BK_aj.out 0
  have hcz_aj_1 : w8_.cell? ⟨g_aj, 1, none⟩ = some (.slice A_aj_1 aj_1.length c_aj_1) := (blk_cell BK_aj.out 1).trans rfl
  have hfz_aj_1 := blk_frozen BK_aj.out 1
  have hcz_aj_2 : w8_.cell? ⟨g_aj, 2, none⟩ = some (.slice A_aj_2 aj_2.length c_aj_2) := (blk_cell BK_aj.out 2).trans rfl
  have hfz_aj_2 := blk_frozen BK_aj.out 2
  have hcz_aj_3 : w8_.cell? ⟨g_aj, 3, none⟩ = some (.int .i64 aj_3) := (blk_cell BK_aj.out 3).trans rfl
  have hfz_aj_3 := blk_frozen BK_aj.out 3
  have hcz_aj_4 : w8_.cell? ⟨g_aj, 4, none⟩ = some (.int .i64 aj_4) := (blk_cell BK_aj.out 4).trans rfl
  have hfz_aj_4 := blk_frozen BK_aj.out 4
  have hcz_aj_5 : w8_.cell? ⟨g_aj, 5, none⟩ = some (.int .i64 aj_5) := (blk_cell BK_aj.out 5).trans rfl
  have hfz_aj_5 := blk_frozen BK_aj.out 5
  have hcz_aj_6 : w8_.cell? ⟨g_aj, 6, none⟩ = some (.int .i64 aj_6) := (blk_cell BK_aj.out 6).trans rfl
  have hfz_aj_6 := blk_frozen BK_aj.out 6
  have hcz_aj_7 : w8_.cell? ⟨g_aj, 7, none⟩ = some (.int .i64 aj_7) := (blk_cell BK_aj.out 7).trans rfl
  have hfz_aj_7 := blk_frozen BK_aj.out 7
  clear hcz_x0_0 hfz_x0_0 hcz_x0_1 hfz_x0_1 hcz_x0_2 hfz_x0_2 hcz_x0_3 hfz_x0_3 hcz_x0_4 hfz_x0_4 hcz_x0_5 hfz_x0_5 hcz_x0_6 hfz_x0_6 hcz_x0_7 hfz_x0_7
  have X_ := Aside0.mk (blk_below BK_x0.out hp_)
  clear BK_x0
  have BK_x0 := X_
  clear X_
  have hcz_x0_0 : w8_.cell? ⟨g_x0, 0, none⟩ = some (.slice AVx00 aj_0.length cVx00) := (blk_cell BK_x0.out 0).trans rfl
  have hfz_x0_0 := blk_frozen BK_x0.out 0
  have hcz_x0_1 : w8_.cell? ⟨g_x0, 1, none⟩ = some (.slice AVx01 aj_1.length cVx01) := (blk_cell BK_x0.out 1).trans rfl
  have hfz_x0_1 := blk_frozen BK_x0.out 1
  have hcz_x0_2 : w8_.cell? ⟨g_x0, 2, none⟩ = some (.slice AVx02 aj_2.length cVx02) := (blk_cell BK_x0.out 2).trans rfl
  have hfz_x0_2 := blk_frozen BK_x0.out 2
  have hcz_x0_3 : w8_.cell? ⟨g_x0, 3, none⟩ = some (.int .i64 aj_3) := (blk_cell BK_x0.out 3).trans rfl
  have hfz_x0_3 := blk_frozen BK_x0.out 3
  have hcz_x0_4 : w8_.cell? ⟨g_x0, 4, none⟩ = some (.int .i64 aj_4) := (blk_cell BK_x0.out 4).trans rfl
  have hfz_x0_4 := blk_frozen BK_x0.out 4
  have hcz_x0_5 : w8_.cell? ⟨g_x0, 5, none⟩ = some (.int .i64 aj_5) := (blk_cell BK_x0.out 5).trans rfl
  have hfz_x0_5 := blk_frozen BK_x0.out 5
  have hcz_x0_6 : w8_.cell? ⟨g_x0, 6, none⟩ = some (.int .i64 aj_6) := (blk_cell BK_x0.out 6).trans rfl
  have hfz_x0_6 := blk_frozen BK_x0.out 6
  have hcz_x0_7 : w8_.cell? ⟨g_x0, 7, none⟩ = some (.int .i64 aj_7) := (blk_cell BK_x0.out 7).trans rfl
  have hfz_x0_7 := blk_frozen BK_x0.out 7
  clear hb_ hp_
  have Vg0 := N9_0
  clear N9_0
  obtain ⟨AVg0, cVg0, rfl, hc_⟩ := Vg0.out.reads
  have HCVg0 := Aside0.mk hc_
  clear hc_
  go_wp2_with fail
  refine (laws_eqIntS.calls kgq _ _ r1v _ _ r1v true _ (by repeat (first | exact Vg0.out.C | (with_reducible refine Kd.C_alloc ?_ _) | (with_reducible refine Kd.C_drewN ?_ _) | (with_reducible refine Kd.C_drew ?_))) HCVg0.out (by repeat (first | exact Vw0.out.C | (with_reducible refine Kd.C_alloc ?_ _) | (with_reducible refine Kd.C_drewN ?_ _) | (with_reducible refine Kd.C_drew ?_))) HCVw0.out Hkgq.out).mono ?_
  rintro e w9_ ⟨rfl, hd_⟩
  have hb_ := drawn_below hd_
  clear hd_
  have hp_ : Below w8_.heap.size w8_ w9_ := below_step (by repeat (first | exact Below.refl _ _ | (with_reducible apply below_alloc) | (with_reducible apply pw_below_drewN) | (with_reducible apply below_drew1))) hb_
  have HZ10 := Aside0.mk hp_.size
  have HBn_ := Aside0.mk (more HB.out hp_)
  clear HB
  have HB := HBn_
  clear HBn_
  have X_ := Aside0.mk (Vw0.out.step hp_)
  clear Vw0
  have Vw0 := X_
  clear X_
  have X_ := Aside0.mk (Vx00.out.step hp_)
  clear Vx00
  have Vx00 := X_
  clear X_
  have X_ := Aside0.mk (Vx01.out.step hp_)
  clear Vx01
  have Vx01 := X_
  clear X_
  have X_ := Aside0.mk (Vx02.out.step hp_)
  clear Vx02
  have Vx02 := X_
  clear X_
  have X_ := Aside0.mk (Vg0.out.step hp_)
  clear Vg0
  have Vg0 := X_
  clear X_
  clear hcz_aj_0 hfz_aj_0 hcz_aj_1 hfz_aj_1 hcz_aj_2 hfz_aj_2 hcz_aj_3 hfz_aj_3 hcz_aj_4 hfz_aj_4 hcz_aj_5 hfz_aj_5 hcz_aj_6 hfz_aj_6 hcz_aj_7 hfz_aj_7
  have X_ := Aside0.mk (blk_below BK_aj.out hp_)
  clear BK_aj
  have BK_aj := X_
  clear X_
  have hcz_aj_0 : w9_.cell? ⟨g_aj, 0, none⟩ = some (.slice A_aj_0 aj_0.length c_aj_0) := (blk_cell BK_aj.out 0).trans rfl
  have hfz_aj_0 := blk_frozen BK_aj.out 0
  have hcz_aj_1 : w9_.cell? ⟨g_aj, 1, none⟩ = some (.slice A_aj_1 aj_1.length c_aj_1) := (blk_cell BK_aj.out 1).trans rfl
  have hfz_aj_1 := blk_frozen BK_aj.out 1
  have hcz_aj_2 : w9_.cell? ⟨g_aj, 2, none⟩ = some (.slice A_aj_2 aj_2.length c_aj_2) := (blk_cell BK_aj.out 2).trans rfl
  have hfz_aj_2 := blk_frozen BK_aj.out 2
  have hcz_aj_3 : w9_.cell? ⟨g_aj, 3, none⟩ = some (.int .i64 aj_3) := (blk_cell BK_aj.out 3).trans rfl
  have hfz_aj_3 := blk_frozen BK_aj.out 3
  have hcz_aj_4 : w9_.cell? ⟨g_aj, 4, none⟩ = some (.int .i64 aj_4) := (blk_cell BK_aj.out 4).trans rfl
  have hfz_aj_4 := blk_frozen BK_aj.out 4
  have hcz_aj_5 : w9_.cell? ⟨g_aj, 5, none⟩ = some (.int .i64 aj_5) := (blk_cell BK_aj.out 5).trans rfl
  have hfz_aj_5 := blk_frozen BK_aj.out 5
  have hcz_aj_6 : w9_.cell? ⟨g_aj, 6, none⟩ = some (.int .i64 aj_6) := (blk_cell BK_aj.out 6).trans rfl
  have hfz_aj_6 := blk_frozen BK_aj.out 6
  have hcz_aj_7 : w9_.cell? ⟨g_aj, 7, none⟩ = some (.int .i64 aj_7) := (blk_cell BK_aj.out 7).trans rfl
  have hfz_aj_7 := blk_frozen BK_aj.out 7
  clear hcz_x0_0 hfz_x0_0 hcz_x0_1 hfz_x0_1 hcz_x0_2 hfz_x0_2 hcz_x0_3 hfz_x0_3 hcz_x0_4 hfz_x0_4 hcz_x0_5 hfz_x0_5 hcz_x0_6 hfz_x0_6 hcz_x0_7 hfz_x0_7
  have X_ := Aside0.mk (blk_below BK_x0.out hp_)
  clear BK_x0
  have BK_x0 := X_
  clear X_
  have hcz_x0_0 : w9_.cell? ⟨g_x0, 0, none⟩ = some (.slice AVx00 aj_0.length cVx00) := (blk_cell BK_x0.out 0).trans rfl
  have hfz_x0_0 := blk_frozen BK_x0.out 0
  have hcz_x0_1 : w9_.cell? ⟨g_x0, 1, none⟩ = some (.slice AVx01 aj_1.length cVx01) := (blk_cell BK_x0.out 1).trans rfl
  have hfz_x0_1 := blk_frozen BK_x0.out 1
  have hcz_x0_2 : w9_.cell? ⟨g_x0, 2, none⟩ = some (.slice AVx02 aj_2.length cVx02) := (blk_cell BK_x0.out 2).trans rfl
  have hfz_x0_2 := blk_frozen BK_x0.out 2
  have hcz_x0_3 : w9_.cell? ⟨g_x0, 3, none⟩ = some (.int .i64 aj_3) := (blk_cell BK_x0.out 3).trans rfl
  have hfz_x0_3 := blk_frozen BK_x0.out 3
  have hcz_x0_4 : w9_.cell? ⟨g_x0, 4, none⟩ = some (.int .i64 aj_4) := (blk_cell BK_x0.out 4).trans rfl
  have hfz_x0_4 := blk_frozen BK_x0.out 4
  have hcz_x0_5 : w9_.cell? ⟨g_x0, 5, none⟩ = some (.int .i64 aj_5) := (blk_cell BK_x0.out 5).trans rfl
  have hfz_x0_5 := blk_frozen BK_x0.out 5
  have hcz_x0_6 : w9_.cell? ⟨g_x0, 6, none⟩ = some (.int .i64 aj_6) := (blk_cell BK_x0.out 6).trans rfl
  have hfz_x0_6 := blk_frozen BK_x0.out 6
  have hcz_x0_7 : w9_.cell? ⟨g_x0, 7, none⟩ = some (.int .i64 aj_7) := (blk_cell BK_x0.out 7).trans rfl
  have hfz_x0_7 := blk_frozen BK_x0.out 7
  clear hb_ hp_
  go_wp2_with fail
  have hp_ : Below w9_.heap.size w9_ w9_.drew := below_drew1 (Below.refl _ _)
  have HBn_ := Aside0.mk (more HB.out hp_)
  clear HB
  have HB := HBn_
  clear HBn_
  have X_ := Aside0.mk (Vw0.out.step hp_)
  clear Vw0
  have Vw0 := X_
  clear X_
  have X_ := Aside0.mk (Vx00.out.step hp_)
  clear Vx00
  have Vx00 := X_
  clear X_
  have X_ := Aside0.mk (Vx01.out.step hp_)
  clear Vx01
  have Vx01 := X_
  clear X_
  have X_ := Aside0.mk (Vx02.out.step hp_)
  clear Vx02
  have Vx02 := X_
  clear X_
  have X_ := Aside0.mk (Vg0.out.step hp_)
  clear Vg0
  have Vg0 := X_
  clear X_
  clear hcz_aj_0 hfz_aj_0 hcz_aj_1 hfz_aj_1 hcz_aj_2 hfz_aj_2 hcz_aj_3 hfz_aj_3 hcz_aj_4 hfz_aj_4 hcz_aj_5 hfz_aj_5 hcz_aj_6 hfz_aj_6 hcz_aj_7 hfz_aj_7
  have X_ := Aside0.mk (blk_below BK_aj.out hp_)
  clear BK_aj
  have BK_aj := X_
  clear X_
  clear hcz_x0_0 hfz_x0_0 hcz_x0_1 hfz_x0_1 hcz_x0_2 hfz_x0_2 hcz_x0_3 hfz_x0_3 hcz_x0_4 hfz_x0_4 hcz_x0_5 hfz_x0_5 hcz_x0_6 hfz_x0_6 hcz_x0_7 hfz_x0_7
  have X_ := Aside0.mk (blk_below BK_x0.out hp_)
  clear BK_x0
  have BK_x0 := X_
  clear X_
  have HZ11 := Aside0.mk hp_.size
  clear hp_
  refine start_ (n := 5) (S := fun w' => w'.cell? ⟨g_aj, 0, none⟩ = some (.slice A_aj_0 aj_0.length c_aj_0) ∧ w'.cell? ⟨g_aj, 1, none⟩ = some (.slice A_aj_1 aj_1.length c_aj_1) ∧ w'.cell? ⟨g_aj, 2, none⟩ = some (.slice A_aj_2 aj_2.length c_aj_2) ∧ w'.cell? ⟨g_aj, 3, none⟩ = some (.int .i64 aj_3) ∧ w'.cell? ⟨g_aj, 4, none⟩ = some (.int .i64 aj_4) ∧ w'.cell? ⟨g_aj, 5, none⟩ = some (.int .i64 aj_5) ∧ w'.cell? ⟨g_aj, 6, none⟩ = some (.int .i64 aj_6) ∧ w'.cell? ⟨g_aj, 7, none⟩ = some (.int .i64 aj_7) ∧ w'.cell? ⟨g_x0, 0, none⟩ = some (.slice AVx00 aj_0.length cVx00) ∧ w'.cell? ⟨g_x0, 1, none⟩ = some (.slice AVx01 aj_1.length cVx01) ∧ w'.cell? ⟨g_x0, 2, none⟩ = some (.slice AVx02 aj_2.length cVx02) ∧ w'.cell? ⟨g_x0, 3, none⟩ = some (.int .i64 aj_3) ∧ w'.cell? ⟨g_x0, 4, none⟩ = some (.int .i64 aj_4) ∧ w'.cell? ⟨g_x0, 5, none⟩ = some (.int .i64 aj_5) ∧ w'.cell? ⟨g_x0, 6, none⟩ = some (.int .i64 aj_6) ∧ w'.cell? ⟨g_x0, 7, none⟩ = some (.int .i64 aj_7)) (ds := []) #[false, false, false, false, false] (by kernel_rfl) rfl rfl ⟨(blk_cell BK_aj.out 0).trans rfl, (blk_cell BK_aj.out 1).trans rfl, (blk_cell BK_aj.out 2).trans rfl, (blk_cell BK_aj.out 3).trans rfl, (blk_cell BK_aj.out 4).trans rfl, (blk_cell BK_aj.out 5).trans rfl, (blk_cell BK_aj.out 6).trans rfl, (blk_cell BK_aj.out 7).trans rfl, (blk_cell BK_x0.out 0).trans rfl, (blk_cell BK_x0.out 1).trans rfl, (blk_cell BK_x0.out 2).trans rfl, (blk_cell BK_x0.out 3).trans rfl, (blk_cell BK_x0.out 4).trans rfl, (blk_cell BK_x0.out 5).trans rfl, (blk_cell BK_x0.out 6).trans rfl, (blk_cell BK_x0.out 7).trans rfl⟩ (fun hHeld => ?_)
  generalize w9_.drew = w10_ at HB HZ11 Vw0 Vx00 Vx01 Vx02 Vg0 BK_aj BK_x0 hHeld ⊢
  refine take_ (i := 0) (N := some 41) (v := ?_) (a' := ?_) #[true, false, false, false, false] rfl rfl (by kernel_rfl) (fun _ _ _ h => h) (Or.inl ⟨by rfl, ?_⟩) hHeld ?_ ?_
  rotate_left
  · rintro w' ⟨s0, s1, s2, s3, s4, s5, s6, s7, s8, s9, s10, s11, s12, s13, s14, s15⟩
    go_simp
    with_reducible rfl
  rotate_left
  · simp only [Act.put, List.setIfInBounds_toArray, List.set_cons_zero, List.set_cons_succ, i64_w, i32_w]
    rfl
  refine take_ (i := 1) (N := some 42) (v := ?_) (a' := ?_) #[true, true, false, false, false] rfl rfl (by kernel_rfl) (fun _ _ _ h => h) (Or.inl ⟨by rfl, ?_⟩) hHeld ?_ ?_
  rotate_left
  · rintro w' ⟨s0, s1, s2, s3, s4, s5, s6, s7, s8, s9, s10, s11, s12, s13, s14, s15⟩
    go_simp
    with_reducible rfl
  rotate_left
  · simp only [Act.put, List.setIfInBounds_toArray, List.set_cons_zero, List.set_cons_succ, i64_w, i32_w]
    rfl
  refine one_ (i := 2) (N := some 43) #[true, true, true, false, false] rfl rfl (by kernel_rfl) (by decide) (fun K hK => ?_)
  refine goes_ Try.func17 (by kernel_rfl) rfl #[.agg #[.slice A_aj_0 aj_0.length c_aj_0, .slice A_aj_1 aj_1.length c_aj_1, .slice A_aj_2 aj_2.length c_aj_2, .int .i64 (aj_3), .int .i64 (aj_4), .int .i64 (aj_5), .int .i64 (aj_6), .int .i64 (aj_7)]] (by rfl) rfl rfl (by (try simp only [List.map_toArray, List.map_cons, List.map_nil]); first | done | rfl | (simp only [List.length_drop, List.length_take]; rfl)) ?_
  refine (laws_toJob.calls kt_aJ _ _ aj_0 _ _ aj_1 _ _ aj_2 aj_3 aj_4 aj_5 aj_6 aj_7 aj_0 aj_1 aj_2 aj_3 aj_4 aj_5 aj_6 aj_7 _ (by repeat (first | exact (Kd.C_below HR_aj_0.out HB.out) | (with_reducible refine Kd.C_alloc ?_ _) | (with_reducible refine Kd.C_drewN ?_ _) | (with_reducible refine Kd.C_drew ?_))) HC_aj_0.out (by repeat (first | exact (Kd.C_below HR_aj_1.out HB.out) | (with_reducible refine Kd.C_alloc ?_ _) | (with_reducible refine Kd.C_drewN ?_ _) | (with_reducible refine Kd.C_drew ?_))) HC_aj_1.out (by repeat (first | exact (Kd.C_below HR_aj_2.out HB.out) | (with_reducible refine Kd.C_alloc ?_ _) | (with_reducible refine Kd.C_drewN ?_ _) | (with_reducible refine Kd.C_drew ?_))) HC_aj_2.out Hkt_aJ.out).mono ?_
  rintro e w11_ ⟨v0_n11, v1_n11, v2_n11, rfl, ho0_, ho1_, ho2_, hb_⟩
  refine ⟨_, rfl, ?_⟩
  have hp_ : Below w10_.heap.size w10_ w11_ := below_step (by repeat (first | exact Below.refl _ _ | (with_reducible apply below_alloc) | (with_reducible apply pw_below_drewN) | (with_reducible apply below_drew1))) hb_
  obtain ⟨B12, H12, eB_, eH_, hi1_, hi2_, hi3_⟩ := spot (W0 := w10_) (by repeat (first | exact Below.refl _ _ | (with_reducible apply below_alloc) | (with_reducible apply pw_below_drewN) | (with_reducible apply below_drew1))) hb_
  have HZ12 := Aside0.mk (⟨hi1_, hi2_, hi3_, hp_.size⟩ : _ ∧ _ ∧ _ ∧ _)
  have N12_0 := Aside0.mk (OwnS.new (W0 := w10_) (b := w.heap.size) (by repeat (first | exact Below.refl _ _ | (with_reducible apply below_alloc) | (with_reducible apply pw_below_drewN) | (with_reducible apply below_drew1))) ho0_ hb_ HB.out.size _ _ eB_ eH_)
  have N12_1 := Aside0.mk (Own.new (W0 := w10_) (b := w.heap.size) (by repeat (first | exact Below.refl _ _ | (with_reducible apply below_alloc) | (with_reducible apply pw_below_drewN) | (with_reducible apply below_drew1))) (tightRow rfl ho1_) hb_ HB.out.size _ _ eB_ eH_)
  have N12_2 := Aside0.mk (Own.new (W0 := w10_) (b := w.heap.size) (by repeat (first | exact Below.refl _ _ | (with_reducible apply below_alloc) | (with_reducible apply pw_below_drewN) | (with_reducible apply below_drew1))) (tightRow rfl ho2_) hb_ HB.out.size _ _ eB_ eH_)
  clear eB_ eH_ hi1_ hi2_ hi3_ ho0_ ho1_ ho2_
  have HBn_ := Aside0.mk (more HB.out hp_)
  clear HB
  have HB := HBn_
  clear HBn_
  have X_ := Aside0.mk (Vw0.out.step hp_)
  clear Vw0
  have Vw0 := X_
  clear X_
  have X_ := Aside0.mk (Vx00.out.step hp_)
  clear Vx00
  have Vx00 := X_
  clear X_
  have X_ := Aside0.mk (Vx01.out.step hp_)
  clear Vx01
  have Vx01 := X_
  clear X_
  have X_ := Aside0.mk (Vx02.out.step hp_)
  clear Vx02
  have Vx02 := X_
  clear X_
  have X_ := Aside0.mk (Vg0.out.step hp_)
  clear Vg0
  have Vg0 := X_
  clear X_
  have X_ := Aside0.mk (blk_below BK_aj.out hp_)
  clear BK_aj
  have BK_aj := X_
  clear X_
  have X_ := Aside0.mk (blk_below BK_x0.out hp_)
  clear BK_x0
  have BK_x0 := X_
  clear X_
  clear hb_ hp_
  have T12_0 := N12_0
  clear N12_0
  obtain ⟨AT12_0, cT12_0, rfl, hc_⟩ := T12_0.out.reads
  have HCT12_0 := Aside0.mk hc_
  clear hc_
  have T12_1 := N12_1
  clear N12_1
  obtain ⟨AT12_1, cT12_1, rfl, hc_⟩ := T12_1.out.reads
  have HCT12_1 := Aside0.mk hc_
  clear hc_
  have T12_2 := N12_2
  clear N12_2
  obtain ⟨AT12_2, cT12_2, rfl, hc_⟩ := T12_2.out.reads
  have HCT12_2 := Aside0.mk hc_
  clear hc_
  refine hK.out _ _ ⟨(blk_cell BK_aj.out 0).trans rfl, (blk_cell BK_aj.out 1).trans rfl, (blk_cell BK_aj.out 2).trans rfl, (blk_cell BK_aj.out 3).trans rfl, (blk_cell BK_aj.out 4).trans rfl, (blk_cell BK_aj.out 5).trans rfl, (blk_cell BK_aj.out 6).trans rfl, (blk_cell BK_aj.out 7).trans rfl, (blk_cell BK_x0.out 0).trans rfl, (blk_cell BK_x0.out 1).trans rfl, (blk_cell BK_x0.out 2).trans rfl, (blk_cell BK_x0.out 3).trans rfl, (blk_cell BK_x0.out 4).trans rfl, (blk_cell BK_x0.out 5).trans rfl, (blk_cell BK_x0.out 6).trans rfl, (blk_cell BK_x0.out 7).trans rfl⟩ (fun hHeld => ?_)
  clear hK K
  refine norm_ (a' := ?_) ?_ ?_
  rotate_left
  · show Act.put _ (some 43) _ = _
    simp only [Act.put, List.setIfInBounds_toArray, List.set_cons_zero, List.set_cons_succ, i64_w, i32_w]
    rfl
  refine one_ (i := 3) (N := some 44) #[true, true, true, true, false] rfl rfl (by kernel_rfl) (by decide) (fun K hK => ?_)
  refine goes_ Try.func19 (by kernel_rfl) rfl #[.agg #[.slice AVx00 aj_0.length cVx00, .slice AVx01 aj_1.length cVx01, .slice AVx02 aj_2.length cVx02, .int .i64 (aj_3), .int .i64 (aj_4), .int .i64 (aj_5), .int .i64 (aj_6), .int .i64 (aj_7)], .agg #[.slice AT12_0 aj_0.length cT12_0, .slice AT12_1 aj_1.length cT12_1, .slice AT12_2 aj_2.length cT12_2, .int .i64 (aj_3), .int .i64 (aj_4), .int .i64 (aj_5), .int .i64 (aj_6), .int .i64 (aj_7)]] (by rfl) rfl rfl (by (try simp only [List.map_toArray, List.map_cons, List.map_nil]); first | done | rfl | (simp only [List.length_drop, List.length_take]; rfl)) ?_
  refine (laws_eqJob.calls kq_aJ _ _ aj_0 _ _ aj_1 _ _ aj_2 aj_3 aj_4 aj_5 aj_6 aj_7 _ _ aj_0 _ _ aj_1 _ _ aj_2 aj_3 aj_4 aj_5 aj_6 aj_7 true _ (by repeat (first | exact Vx00.out.C | (with_reducible refine Kd.C_alloc ?_ _) | (with_reducible refine Kd.C_drewN ?_ _) | (with_reducible refine Kd.C_drew ?_))) HCVx00.out (by repeat (first | exact Vx01.out.C | (with_reducible refine Kd.C_alloc ?_ _) | (with_reducible refine Kd.C_drewN ?_ _) | (with_reducible refine Kd.C_drew ?_))) HCVx01.out (by repeat (first | exact Vx02.out.C | (with_reducible refine Kd.C_alloc ?_ _) | (with_reducible refine Kd.C_drewN ?_ _) | (with_reducible refine Kd.C_drew ?_))) HCVx02.out (by repeat (first | exact T12_0.out.C | (with_reducible refine Kd.C_alloc ?_ _) | (with_reducible refine Kd.C_drewN ?_ _) | (with_reducible refine Kd.C_drew ?_))) HCT12_0.out (by repeat (first | exact T12_1.out.C | (with_reducible refine Kd.C_alloc ?_ _) | (with_reducible refine Kd.C_drewN ?_ _) | (with_reducible refine Kd.C_drew ?_))) HCT12_1.out (by repeat (first | exact T12_2.out.C | (with_reducible refine Kd.C_alloc ?_ _) | (with_reducible refine Kd.C_drewN ?_ _) | (with_reducible refine Kd.C_drew ?_))) HCT12_2.out Hkq_aJ.out).mono ?_
  rintro e w12_ ⟨rfl, hd_⟩
  refine ⟨_, rfl, ?_⟩
  have hb_ := hd_
  clear hd_
  have hp_ : Below w11_.heap.size w11_ w12_ := below_step (by repeat (first | exact Below.refl _ _ | (with_reducible apply below_alloc) | (with_reducible apply pw_below_drewN) | (with_reducible apply below_drew1))) hb_
  have HZ13 := Aside0.mk hp_.size
  have HBn_ := Aside0.mk (more HB.out hp_)
  clear HB
  have HB := HBn_
  clear HBn_
  have X_ := Aside0.mk (Vw0.out.step hp_)
  clear Vw0
  have Vw0 := X_
  clear X_
  have X_ := Aside0.mk (Vx00.out.step hp_)
  clear Vx00
  have Vx00 := X_
  clear X_
  have X_ := Aside0.mk (Vx01.out.step hp_)
  clear Vx01
  have Vx01 := X_
  clear X_
  have X_ := Aside0.mk (Vx02.out.step hp_)
  clear Vx02
  have Vx02 := X_
  clear X_
  have X_ := Aside0.mk (Vg0.out.step hp_)
  clear Vg0
  have Vg0 := X_
  clear X_
  have X_ := Aside0.mk (T12_0.out.step hp_)
  clear T12_0
  have T12_0 := X_
  clear X_
  have X_ := Aside0.mk (T12_1.out.step hp_)
  clear T12_1
  have T12_1 := X_
  clear X_
  have X_ := Aside0.mk (T12_2.out.step hp_)
  clear T12_2
  have T12_2 := X_
  clear X_
  have X_ := Aside0.mk (blk_below BK_aj.out hp_)
  clear BK_aj
  have BK_aj := X_
  clear X_
  have X_ := Aside0.mk (blk_below BK_x0.out hp_)
  clear BK_x0
  have BK_x0 := X_
  clear X_
  clear hb_ hp_
  refine hK.out _ _ ⟨(blk_cell BK_aj.out 0).trans rfl, (blk_cell BK_aj.out 1).trans rfl, (blk_cell BK_aj.out 2).trans rfl, (blk_cell BK_aj.out 3).trans rfl, (blk_cell BK_aj.out 4).trans rfl, (blk_cell BK_aj.out 5).trans rfl, (blk_cell BK_aj.out 6).trans rfl, (blk_cell BK_aj.out 7).trans rfl, (blk_cell BK_x0.out 0).trans rfl, (blk_cell BK_x0.out 1).trans rfl, (blk_cell BK_x0.out 2).trans rfl, (blk_cell BK_x0.out 3).trans rfl, (blk_cell BK_x0.out 4).trans rfl, (blk_cell BK_x0.out 5).trans rfl, (blk_cell BK_x0.out 6).trans rfl, (blk_cell BK_x0.out 7).trans rfl⟩ (fun hHeld => ?_)
  clear hK K
  refine norm_ (a' := ?_) ?_ ?_
  rotate_left
  · show Act.put _ (some 44) _ = _
    simp only [Act.put, List.setIfInBounds_toArray, List.set_cons_zero, List.set_cons_succ, i64_w, i32_w]
    rfl
  refine pure_ (i := 4) (N := some 45) (v := ?_) (a' := ?_) #[true, true, true, true, true] rfl rfl (by kernel_rfl) (fun _ _ _ h => h) (Or.inl ⟨by rfl, ?_⟩) ?_ ?_
  rotate_left
  · intro w'
    go_simp
    with_reducible rfl
  rotate_left
  · simp only [Act.put, List.setIfInBounds_toArray, List.set_cons_zero, List.set_cons_succ, i64_w, i32_w]
    rfl
  refine done_ (by kernel_rfl) ?_
  have hcz_aj_0 : w12_.cell? ⟨g_aj, 0, none⟩ = some (.slice A_aj_0 aj_0.length c_aj_0) := (blk_cell BK_aj.out 0).trans rfl
  have hfz_aj_0 := blk_frozen BK_aj.out 0
  have hcz_aj_1 : w12_.cell? ⟨g_aj, 1, none⟩ = some (.slice A_aj_1 aj_1.length c_aj_1) := (blk_cell BK_aj.out 1).trans rfl
  have hfz_aj_1 := blk_frozen BK_aj.out 1
  have hcz_aj_2 : w12_.cell? ⟨g_aj, 2, none⟩ = some (.slice A_aj_2 aj_2.length c_aj_2) := (blk_cell BK_aj.out 2).trans rfl
  have hfz_aj_2 := blk_frozen BK_aj.out 2
  have hcz_aj_3 : w12_.cell? ⟨g_aj, 3, none⟩ = some (.int .i64 aj_3) := (blk_cell BK_aj.out 3).trans rfl
  have hfz_aj_3 := blk_frozen BK_aj.out 3
  have hcz_aj_4 : w12_.cell? ⟨g_aj, 4, none⟩ = some (.int .i64 aj_4) := (blk_cell BK_aj.out 4).trans rfl
  have hfz_aj_4 := blk_frozen BK_aj.out 4
  have hcz_aj_5 : w12_.cell? ⟨g_aj, 5, none⟩ = some (.int .i64 aj_5) := (blk_cell BK_aj.out 5).trans rfl
  have hfz_aj_5 := blk_frozen BK_aj.out 5
  have hcz_aj_6 : w12_.cell? ⟨g_aj, 6, none⟩ = some (.int .i64 aj_6) := (blk_cell BK_aj.out 6).trans rfl
  have hfz_aj_6 := blk_frozen BK_aj.out 6
  have hcz_aj_7 : w12_.cell? ⟨g_aj, 7, none⟩ = some (.int .i64 aj_7) := (blk_cell BK_aj.out 7).trans rfl
  have hfz_aj_7 := blk_frozen BK_aj.out 7
  have hcz_x0_0 : w12_.cell? ⟨g_x0, 0, none⟩ = some (.slice AVx00 aj_0.length cVx00) := (blk_cell BK_x0.out 0).trans rfl
  have hfz_x0_0 := blk_frozen BK_x0.out 0
  have hcz_x0_1 : w12_.cell? ⟨g_x0, 1, none⟩ = some (.slice AVx01 aj_1.length cVx01) := (blk_cell BK_x0.out 1).trans rfl
  have hfz_x0_1 := blk_frozen BK_x0.out 1
  have hcz_x0_2 : w12_.cell? ⟨g_x0, 2, none⟩ = some (.slice AVx02 aj_2.length cVx02) := (blk_cell BK_x0.out 2).trans rfl
  have hfz_x0_2 := blk_frozen BK_x0.out 2
  have hcz_x0_3 : w12_.cell? ⟨g_x0, 3, none⟩ = some (.int .i64 aj_3) := (blk_cell BK_x0.out 3).trans rfl
  have hfz_x0_3 := blk_frozen BK_x0.out 3
  have hcz_x0_4 : w12_.cell? ⟨g_x0, 4, none⟩ = some (.int .i64 aj_4) := (blk_cell BK_x0.out 4).trans rfl
  have hfz_x0_4 := blk_frozen BK_x0.out 4
  have hcz_x0_5 : w12_.cell? ⟨g_x0, 5, none⟩ = some (.int .i64 aj_5) := (blk_cell BK_x0.out 5).trans rfl
  have hfz_x0_5 := blk_frozen BK_x0.out 5
  have hcz_x0_6 : w12_.cell? ⟨g_x0, 6, none⟩ = some (.int .i64 aj_6) := (blk_cell BK_x0.out 6).trans rfl
  have hfz_x0_6 := blk_frozen BK_x0.out 6
  have hcz_x0_7 : w12_.cell? ⟨g_x0, 7, none⟩ = some (.int .i64 aj_7) := (blk_cell BK_x0.out 7).trans rfl
  have hfz_x0_7 := blk_frozen BK_x0.out 7
  clear T12_0 HCT12_0
  clear T12_1 HCT12_1
  clear T12_2 HCT12_2
  have hlaj_0_ := HTO_aj_0.out
  have hlaj_1_ := HBD_aj_1.out
  have hlaj_2_ := HBD_aj_2.out
  have hs_ : 1 + (totL aj_0 : Int) + (aj_1.length : Int) + (aj_2.length : Int) < 1000000000000 := by omega
  have HSM14 := Aside0.mk hs_
  clear hs_ hlaj_0_ hlaj_1_ hlaj_2_
  go_wp2_with fail
  refine (markJob_calls aj_0 aj_1 aj_2 aj_3 aj_4 aj_5 aj_6 aj_7 1 (by omega) HSM14.out _ _ _ _ _ _ w _ (more HB.out (by repeat (first | exact Below.refl _ _ | (with_reducible apply below_alloc) | (with_reducible apply pw_below_drewN) | (with_reducible apply below_drew1)))) (by have q_ := Vx00.out.r; repeat (first | exact q_ | (with_reducible refine Kd.R_alloc ?_ _) | (with_reducible refine Kd.S_alloc ?_ _))) (by have q_ := Vx01.out.r; repeat (first | exact q_ | (with_reducible refine Kd.R_alloc ?_ _) | (with_reducible refine Kd.S_alloc ?_ _))) (by have q_ := Vx02.out.r; repeat (first | exact q_ | (with_reducible refine Kd.R_alloc ?_ _) | (with_reducible refine Kd.S_alloc ?_ _))) (fun k h1_ h2_ => by have q1_ := h1_.2; have q2_ := h2_.2; first | exact q2_.1 q1_.2 | exact q2_.2 q1_.2 | exact q2_.1.1 q1_.2 | exact q2_.1.2 q1_.2 | exact q1_.1 q2_.2 | exact q1_.2 q2_.2 | exact q1_.1.1 q2_.2 | exact q1_.1.2 q2_.2) (fun k h1_ h2_ => by have q1_ := h1_.2; have q2_ := h2_.2; first | exact q2_.1 q1_.2 | exact q2_.2 q1_.2 | exact q2_.1.1 q1_.2 | exact q2_.1.2 q1_.2 | exact q1_.1 q2_.2 | exact q1_.2 q2_.2 | exact q1_.1.1 q2_.2 | exact q1_.1.2 q2_.2) (fun k h1_ h2_ => by have q1_ := h1_.2; have q2_ := h2_.2; first | exact q2_.1 q1_.2 | exact q2_.2 q1_.2 | exact q2_.1.1 q1_.2 | exact q2_.1.2 q1_.2 | exact q1_.1 q2_.2 | exact q1_.2 q2_.2 | exact q1_.1.1 q2_.2 | exact q1_.1.2 q2_.2)).mono ?_
  rintro e w13_ ⟨rfl, hb_, hk0_⟩
  have hk_ := Kept.then_ (w := w12_) (Kept.of_below (by repeat (first | exact Below.refl _ _ | (with_reducible apply below_alloc) | (with_reducible apply pw_below_drewN) | (with_reducible apply below_drew1))) _) hk0_ (fun _ h_ => Or.inl h_)
  have HZ15 := Aside0.mk hk_.1
  clear HB
  have HB := Aside0.mk hb_
  have X_ := Aside0.mk (Vw0.out.kept hk_ (fun k h1_ h2_ h3_ => by rcases h3_ with h3_ | h3_ | h3_ <;> (have h4_ := h3_.1; have z0 := HZ2.out; have z1 := HZ3.out; have z2 := HZ4.out; have z3 := HZ5.out; have z4 := HZ6.out; have z5 := HZ7.out; have z6 := HZ8.out; have z7 := HZ9.out; have z8 := HZ10.out; have z9 := HZ11.out; have z10 := HZ12.out; have z11 := HZ13.out; have z12 := HZ15.out; omega)))
  clear Vw0
  have Vw0 := X_
  clear X_
  have X_ := Aside0.mk (Vg0.out.kept hk_ (fun k h1_ h2_ h3_ => by rcases h3_ with h3_ | h3_ | h3_ <;> (have h4_ := h3_.1; have z0 := HZ2.out; have z1 := HZ3.out; have z2 := HZ4.out; have z3 := HZ5.out; have z4 := HZ6.out; have z5 := HZ7.out; have z6 := HZ8.out; have z7 := HZ9.out; have z8 := HZ10.out; have z9 := HZ11.out; have z10 := HZ12.out; have z11 := HZ13.out; have z12 := HZ15.out; omega)))
  clear Vg0
  have Vg0 := X_
  clear X_
  clear hcz_aj_0 hfz_aj_0 hcz_aj_1 hfz_aj_1 hcz_aj_2 hfz_aj_2 hcz_aj_3 hfz_aj_3 hcz_aj_4 hfz_aj_4 hcz_aj_5 hfz_aj_5 hcz_aj_6 hfz_aj_6 hcz_aj_7 hfz_aj_7
  have X_ := Aside0.mk (blk_kept BK_aj.out hk_ (fun h3_ => by rcases h3_ with h3_ | h3_ | h3_ <;> (have h4_ := h3_.1; have z0 := HZ2.out; have z1 := HZ3.out; have z2 := HZ4.out; have z3 := HZ5.out; have z4 := HZ6.out; have z5 := HZ7.out; have z6 := HZ8.out; have z7 := HZ9.out; have z8 := HZ10.out; have z9 := HZ11.out; have z10 := HZ12.out; have z11 := HZ13.out; have z12 := HZ15.out; omega)))
  clear BK_aj
  have BK_aj := X_
  clear X_
  have hcz_aj_0 : w13_.cell? ⟨g_aj, 0, none⟩ = some (.slice A_aj_0 aj_0.length c_aj_0) := (blk_cell BK_aj.out 0).trans rfl
  have hfz_aj_0 := blk_frozen BK_aj.out 0
  have hcz_aj_1 : w13_.cell? ⟨g_aj, 1, none⟩ = some (.slice A_aj_1 aj_1.length c_aj_1) := (blk_cell BK_aj.out 1).trans rfl
  have hfz_aj_1 := blk_frozen BK_aj.out 1
  have hcz_aj_2 : w13_.cell? ⟨g_aj, 2, none⟩ = some (.slice A_aj_2 aj_2.length c_aj_2) := (blk_cell BK_aj.out 2).trans rfl
  have hfz_aj_2 := blk_frozen BK_aj.out 2
  have hcz_aj_3 : w13_.cell? ⟨g_aj, 3, none⟩ = some (.int .i64 aj_3) := (blk_cell BK_aj.out 3).trans rfl
  have hfz_aj_3 := blk_frozen BK_aj.out 3
  have hcz_aj_4 : w13_.cell? ⟨g_aj, 4, none⟩ = some (.int .i64 aj_4) := (blk_cell BK_aj.out 4).trans rfl
  have hfz_aj_4 := blk_frozen BK_aj.out 4
  have hcz_aj_5 : w13_.cell? ⟨g_aj, 5, none⟩ = some (.int .i64 aj_5) := (blk_cell BK_aj.out 5).trans rfl
  have hfz_aj_5 := blk_frozen BK_aj.out 5
  have hcz_aj_6 : w13_.cell? ⟨g_aj, 6, none⟩ = some (.int .i64 aj_6) := (blk_cell BK_aj.out 6).trans rfl
  have hfz_aj_6 := blk_frozen BK_aj.out 6
  have hcz_aj_7 : w13_.cell? ⟨g_aj, 7, none⟩ = some (.int .i64 aj_7) := (blk_cell BK_aj.out 7).trans rfl
  have hfz_aj_7 := blk_frozen BK_aj.out 7
  clear hcz_x0_0 hfz_x0_0 hcz_x0_1 hfz_x0_1 hcz_x0_2 hfz_x0_2 hcz_x0_3 hfz_x0_3 hcz_x0_4 hfz_x0_4 hcz_x0_5 hfz_x0_5 hcz_x0_6 hfz_x0_6 hcz_x0_7 hfz_x0_7
  have X_ := Aside0.mk (blk_kept BK_x0.out hk_ (fun h3_ => by rcases h3_ with h3_ | h3_ | h3_ <;> (have h4_ := h3_.1; have z0 := HZ2.out; have z1 := HZ3.out; have z2 := HZ4.out; have z3 := HZ5.out; have z4 := HZ6.out; have z5 := HZ7.out; have z6 := HZ8.out; have z7 := HZ9.out; have z8 := HZ10.out; have z9 := HZ11.out; have z10 := HZ12.out; have z11 := HZ13.out; have z12 := HZ15.out; omega)))
  clear BK_x0
  have BK_x0 := X_
  clear X_
  have hcz_x0_0 : w13_.cell? ⟨g_x0, 0, none⟩ = some (.slice AVx00 aj_0.length cVx00) := (blk_cell BK_x0.out 0).trans rfl
  have hfz_x0_0 := blk_frozen BK_x0.out 0
  have hcz_x0_1 : w13_.cell? ⟨g_x0, 1, none⟩ = some (.slice AVx01 aj_1.length cVx01) := (blk_cell BK_x0.out 1).trans rfl
  have hfz_x0_1 := blk_frozen BK_x0.out 1
  have hcz_x0_2 : w13_.cell? ⟨g_x0, 2, none⟩ = some (.slice AVx02 aj_2.length cVx02) := (blk_cell BK_x0.out 2).trans rfl
  have hfz_x0_2 := blk_frozen BK_x0.out 2
  have hcz_x0_3 : w13_.cell? ⟨g_x0, 3, none⟩ = some (.int .i64 aj_3) := (blk_cell BK_x0.out 3).trans rfl
  have hfz_x0_3 := blk_frozen BK_x0.out 3
  have hcz_x0_4 : w13_.cell? ⟨g_x0, 4, none⟩ = some (.int .i64 aj_4) := (blk_cell BK_x0.out 4).trans rfl
  have hfz_x0_4 := blk_frozen BK_x0.out 4
  have hcz_x0_5 : w13_.cell? ⟨g_x0, 5, none⟩ = some (.int .i64 aj_5) := (blk_cell BK_x0.out 5).trans rfl
  have hfz_x0_5 := blk_frozen BK_x0.out 5
  have hcz_x0_6 : w13_.cell? ⟨g_x0, 6, none⟩ = some (.int .i64 aj_6) := (blk_cell BK_x0.out 6).trans rfl
  have hfz_x0_6 := blk_frozen BK_x0.out 6
  have hcz_x0_7 : w13_.cell? ⟨g_x0, 7, none⟩ = some (.int .i64 aj_7) := (blk_cell BK_x0.out 7).trans rfl
  have hfz_x0_7 := blk_frozen BK_x0.out 7
  clear Vx00
  clear Vx01
  clear Vx02
  clear hb_ hk_ hk0_
  obtain ⟨a16, ea_⟩ : ∃ a_ : Int, a_ = 1 + (totL aj_0 : Int) + (aj_1.length : Int) + (aj_2.length : Int) := ⟨_, rfl⟩
  rw [← ea_]
  have ha16 : 1 ≤ a16 ∧ a16 ≤ 1 + 3145728 := by have := HTO_aj_0.out; have := HBD_aj_1.out; have := HBD_aj_2.out; omega
  clear ea_
  have dk_ : decide (a16 < 0) = false := decide_eq_false (by omega)
  go_wp2_with fail
  refine (laws_eqIntS.calls kgq _ _ r1v _ _ r1v true _ (by repeat (first | exact Vg0.out.C | (with_reducible refine Kd.C_alloc ?_ _) | (with_reducible refine Kd.C_drewN ?_ _) | (with_reducible refine Kd.C_drew ?_))) HCVg0.out (by repeat (first | exact Vw0.out.C | (with_reducible refine Kd.C_alloc ?_ _) | (with_reducible refine Kd.C_drewN ?_ _) | (with_reducible refine Kd.C_drew ?_))) HCVw0.out Hkgq.out).mono ?_
  rintro e w14_ ⟨rfl, hd_⟩
  have hb_ := drawn_below hd_
  clear hd_
  have hp_ : Below w13_.heap.size w13_ w14_ := below_step (by repeat (first | exact Below.refl _ _ | (with_reducible apply below_alloc) | (with_reducible apply pw_below_drewN) | (with_reducible apply below_drew1))) hb_
  have HZ17 := Aside0.mk hp_.size
  have HBn_ := Aside0.mk (more HB.out hp_)
  clear HB
  have HB := HBn_
  clear HBn_
  have X_ := Aside0.mk (Vw0.out.step hp_)
  clear Vw0
  have Vw0 := X_
  clear X_
  have X_ := Aside0.mk (Vg0.out.step hp_)
  clear Vg0
  have Vg0 := X_
  clear X_
  clear hcz_aj_0 hfz_aj_0 hcz_aj_1 hfz_aj_1 hcz_aj_2 hfz_aj_2 hcz_aj_3 hfz_aj_3 hcz_aj_4 hfz_aj_4 hcz_aj_5 hfz_aj_5 hcz_aj_6 hfz_aj_6 hcz_aj_7 hfz_aj_7
  have X_ := Aside0.mk (blk_below BK_aj.out hp_)
  clear BK_aj
  have BK_aj := X_
  clear X_
  have hcz_aj_0 : w14_.cell? ⟨g_aj, 0, none⟩ = some (.slice A_aj_0 aj_0.length c_aj_0) := (blk_cell BK_aj.out 0).trans rfl
  have hfz_aj_0 := blk_frozen BK_aj.out 0
  have hcz_aj_1 : w14_.cell? ⟨g_aj, 1, none⟩ = some (.slice A_aj_1 aj_1.length c_aj_1) := (blk_cell BK_aj.out 1).trans rfl
  have hfz_aj_1 := blk_frozen BK_aj.out 1
  have hcz_aj_2 : w14_.cell? ⟨g_aj, 2, none⟩ = some (.slice A_aj_2 aj_2.length c_aj_2) := (blk_cell BK_aj.out 2).trans rfl
  have hfz_aj_2 := blk_frozen BK_aj.out 2
  have hcz_aj_3 : w14_.cell? ⟨g_aj, 3, none⟩ = some (.int .i64 aj_3) := (blk_cell BK_aj.out 3).trans rfl
  have hfz_aj_3 := blk_frozen BK_aj.out 3
  have hcz_aj_4 : w14_.cell? ⟨g_aj, 4, none⟩ = some (.int .i64 aj_4) := (blk_cell BK_aj.out 4).trans rfl
  have hfz_aj_4 := blk_frozen BK_aj.out 4
  have hcz_aj_5 : w14_.cell? ⟨g_aj, 5, none⟩ = some (.int .i64 aj_5) := (blk_cell BK_aj.out 5).trans rfl
  have hfz_aj_5 := blk_frozen BK_aj.out 5
  have hcz_aj_6 : w14_.cell? ⟨g_aj, 6, none⟩ = some (.int .i64 aj_6) := (blk_cell BK_aj.out 6).trans rfl
  have hfz_aj_6 := blk_frozen BK_aj.out 6
  have hcz_aj_7 : w14_.cell? ⟨g_aj, 7, none⟩ = some (.int .i64 aj_7) := (blk_cell BK_aj.out 7).trans rfl
  have hfz_aj_7 := blk_frozen BK_aj.out 7
  clear hcz_x0_0 hfz_x0_0 hcz_x0_1 hfz_x0_1 hcz_x0_2 hfz_x0_2 hcz_x0_3 hfz_x0_3 hcz_x0_4 hfz_x0_4 hcz_x0_5 hfz_x0_5 hcz_x0_6 hfz_x0_6 hcz_x0_7 hfz_x0_7
  have X_ := Aside0.mk (blk_below BK_x0.out hp_)
  clear BK_x0
  have BK_x0 := X_
  clear X_
  have hcz_x0_0 : w14_.cell? ⟨g_x0, 0, none⟩ = some (.slice AVx00 aj_0.length cVx00) := (blk_cell BK_x0.out 0).trans rfl
  have hfz_x0_0 := blk_frozen BK_x0.out 0
  have hcz_x0_1 : w14_.cell? ⟨g_x0, 1, none⟩ = some (.slice AVx01 aj_1.length cVx01) := (blk_cell BK_x0.out 1).trans rfl
  have hfz_x0_1 := blk_frozen BK_x0.out 1
  have hcz_x0_2 : w14_.cell? ⟨g_x0, 2, none⟩ = some (.slice AVx02 aj_2.length cVx02) := (blk_cell BK_x0.out 2).trans rfl
  have hfz_x0_2 := blk_frozen BK_x0.out 2
  have hcz_x0_3 : w14_.cell? ⟨g_x0, 3, none⟩ = some (.int .i64 aj_3) := (blk_cell BK_x0.out 3).trans rfl
  have hfz_x0_3 := blk_frozen BK_x0.out 3
  have hcz_x0_4 : w14_.cell? ⟨g_x0, 4, none⟩ = some (.int .i64 aj_4) := (blk_cell BK_x0.out 4).trans rfl
  have hfz_x0_4 := blk_frozen BK_x0.out 4
  have hcz_x0_5 : w14_.cell? ⟨g_x0, 5, none⟩ = some (.int .i64 aj_5) := (blk_cell BK_x0.out 5).trans rfl
  have hfz_x0_5 := blk_frozen BK_x0.out 5
  have hcz_x0_6 : w14_.cell? ⟨g_x0, 6, none⟩ = some (.int .i64 aj_6) := (blk_cell BK_x0.out 6).trans rfl
  have hfz_x0_6 := blk_frozen BK_x0.out 6
  have hcz_x0_7 : w14_.cell? ⟨g_x0, 7, none⟩ = some (.int .i64 aj_7) := (blk_cell BK_x0.out 7).trans rfl
  have hfz_x0_7 := blk_frozen BK_x0.out 7
  clear hb_ hp_
  have hl_ := HL_r1.out
  obtain ⟨km18, h_⟩ := (markIntS_ev r1v 1 (by omega) (by omega)).rounds
  have HM18 := Aside0.mk h_
  clear h_
  obtain ⟨kh18, h_⟩ := (heldIntS_ev r1v.length 1 (by omega) (by omega)).rounds
  have HH18 := Aside0.mk h_
  clear h_ hl_
  go_wp2_with fail
  refine (laws_markIntS.calls km18 _ _ r1v 1 _ _ w _ (more HB.out (by repeat (first | exact Below.refl _ _ | (with_reducible apply below_alloc) | (with_reducible apply pw_below_drewN) | (with_reducible apply below_drew1)))) (by have q_ := Vg0.out.r; repeat (first | exact q_ | (with_reducible refine Kd.R_alloc ?_ _) | (with_reducible refine Kd.S_alloc ?_ _))) HM18.out).mono ?_
  rintro e w15_ ⟨rfl, hr_, hb_, hk0_⟩
  have hk_ := Kept.then_ (w := w14_) (Kept.of_below (by repeat (first | exact Below.refl _ _ | (with_reducible apply below_alloc) | (with_reducible apply pw_below_drewN) | (with_reducible apply below_drew1))) _) hk0_ (fun _ h_ => Or.inl h_)
  have HZ19 := Aside0.mk hk_.1
  clear HB
  have HB := Aside0.mk hb_
  have X_ := Aside0.mk (Vw0.out.kept hk_ (fun k h1_ h2_ h3_ => by have h4_ := h3_.1; have z0 := HZ2.out; have z1 := HZ3.out; have z2 := HZ4.out; have z3 := HZ5.out; have z4 := HZ6.out; have z5 := HZ7.out; have z6 := HZ8.out; have z7 := HZ9.out; have z8 := HZ10.out; have z9 := HZ11.out; have z10 := HZ12.out; have z11 := HZ13.out; have z12 := HZ15.out; have z13 := HZ17.out; have z14 := HZ19.out; omega))
  clear Vw0
  have Vw0 := X_
  clear X_
  clear hcz_aj_0 hfz_aj_0 hcz_aj_1 hfz_aj_1 hcz_aj_2 hfz_aj_2 hcz_aj_3 hfz_aj_3 hcz_aj_4 hfz_aj_4 hcz_aj_5 hfz_aj_5 hcz_aj_6 hfz_aj_6 hcz_aj_7 hfz_aj_7
  have X_ := Aside0.mk (blk_kept BK_aj.out hk_ (fun h3_ => by have h4_ := h3_.1; have z0 := HZ2.out; have z1 := HZ3.out; have z2 := HZ4.out; have z3 := HZ5.out; have z4 := HZ6.out; have z5 := HZ7.out; have z6 := HZ8.out; have z7 := HZ9.out; have z8 := HZ10.out; have z9 := HZ11.out; have z10 := HZ12.out; have z11 := HZ13.out; have z12 := HZ15.out; have z13 := HZ17.out; have z14 := HZ19.out; omega))
  clear BK_aj
  have BK_aj := X_
  clear X_
  have hcz_aj_0 : w15_.cell? ⟨g_aj, 0, none⟩ = some (.slice A_aj_0 aj_0.length c_aj_0) := (blk_cell BK_aj.out 0).trans rfl
  have hfz_aj_0 := blk_frozen BK_aj.out 0
  have hcz_aj_1 : w15_.cell? ⟨g_aj, 1, none⟩ = some (.slice A_aj_1 aj_1.length c_aj_1) := (blk_cell BK_aj.out 1).trans rfl
  have hfz_aj_1 := blk_frozen BK_aj.out 1
  have hcz_aj_2 : w15_.cell? ⟨g_aj, 2, none⟩ = some (.slice A_aj_2 aj_2.length c_aj_2) := (blk_cell BK_aj.out 2).trans rfl
  have hfz_aj_2 := blk_frozen BK_aj.out 2
  have hcz_aj_3 : w15_.cell? ⟨g_aj, 3, none⟩ = some (.int .i64 aj_3) := (blk_cell BK_aj.out 3).trans rfl
  have hfz_aj_3 := blk_frozen BK_aj.out 3
  have hcz_aj_4 : w15_.cell? ⟨g_aj, 4, none⟩ = some (.int .i64 aj_4) := (blk_cell BK_aj.out 4).trans rfl
  have hfz_aj_4 := blk_frozen BK_aj.out 4
  have hcz_aj_5 : w15_.cell? ⟨g_aj, 5, none⟩ = some (.int .i64 aj_5) := (blk_cell BK_aj.out 5).trans rfl
  have hfz_aj_5 := blk_frozen BK_aj.out 5
  have hcz_aj_6 : w15_.cell? ⟨g_aj, 6, none⟩ = some (.int .i64 aj_6) := (blk_cell BK_aj.out 6).trans rfl
  have hfz_aj_6 := blk_frozen BK_aj.out 6
  have hcz_aj_7 : w15_.cell? ⟨g_aj, 7, none⟩ = some (.int .i64 aj_7) := (blk_cell BK_aj.out 7).trans rfl
  have hfz_aj_7 := blk_frozen BK_aj.out 7
  clear hcz_x0_0 hfz_x0_0 hcz_x0_1 hfz_x0_1 hcz_x0_2 hfz_x0_2 hcz_x0_3 hfz_x0_3 hcz_x0_4 hfz_x0_4 hcz_x0_5 hfz_x0_5 hcz_x0_6 hfz_x0_6 hcz_x0_7 hfz_x0_7
  have X_ := Aside0.mk (blk_kept BK_x0.out hk_ (fun h3_ => by have h4_ := h3_.1; have z0 := HZ2.out; have z1 := HZ3.out; have z2 := HZ4.out; have z3 := HZ5.out; have z4 := HZ6.out; have z5 := HZ7.out; have z6 := HZ8.out; have z7 := HZ9.out; have z8 := HZ10.out; have z9 := HZ11.out; have z10 := HZ12.out; have z11 := HZ13.out; have z12 := HZ15.out; have z13 := HZ17.out; have z14 := HZ19.out; omega))
  clear BK_x0
  have BK_x0 := X_
  clear X_
  have hcz_x0_0 : w15_.cell? ⟨g_x0, 0, none⟩ = some (.slice AVx00 aj_0.length cVx00) := (blk_cell BK_x0.out 0).trans rfl
  have hfz_x0_0 := blk_frozen BK_x0.out 0
  have hcz_x0_1 : w15_.cell? ⟨g_x0, 1, none⟩ = some (.slice AVx01 aj_1.length cVx01) := (blk_cell BK_x0.out 1).trans rfl
  have hfz_x0_1 := blk_frozen BK_x0.out 1
  have hcz_x0_2 : w15_.cell? ⟨g_x0, 2, none⟩ = some (.slice AVx02 aj_2.length cVx02) := (blk_cell BK_x0.out 2).trans rfl
  have hfz_x0_2 := blk_frozen BK_x0.out 2
  have hcz_x0_3 : w15_.cell? ⟨g_x0, 3, none⟩ = some (.int .i64 aj_3) := (blk_cell BK_x0.out 3).trans rfl
  have hfz_x0_3 := blk_frozen BK_x0.out 3
  have hcz_x0_4 : w15_.cell? ⟨g_x0, 4, none⟩ = some (.int .i64 aj_4) := (blk_cell BK_x0.out 4).trans rfl
  have hfz_x0_4 := blk_frozen BK_x0.out 4
  have hcz_x0_5 : w15_.cell? ⟨g_x0, 5, none⟩ = some (.int .i64 aj_5) := (blk_cell BK_x0.out 5).trans rfl
  have hfz_x0_5 := blk_frozen BK_x0.out 5
  have hcz_x0_6 : w15_.cell? ⟨g_x0, 6, none⟩ = some (.int .i64 aj_6) := (blk_cell BK_x0.out 6).trans rfl
  have hfz_x0_6 := blk_frozen BK_x0.out 6
  have hcz_x0_7 : w15_.cell? ⟨g_x0, 7, none⟩ = some (.int .i64 aj_7) := (blk_cell BK_x0.out 7).trans rfl
  have hfz_x0_7 := blk_frozen BK_x0.out 7
  have X_ := Aside0.mk (Vg0.out.marked hr_ hk_)
  clear Vg0
  have Vg0 := X_
  clear X_
  clear hr_ hb_ hk_ hk0_
  have hml_ : (markedI r1v.length 1).length = r1v.length := by simp [markedI]
  have HML := Aside0.mk hml_
  clear hml_
  obtain ⟨mt, em_⟩ : ∃ m_ : Int, m_ = (1 + (r1v.length : Int)) := ⟨_, rfl⟩
  have EM := Aside0.mk em_
  rw [← em_]
  have HH18' := Aside0.mk (show _ = some mt from em_ ▸ HH18.out)
  have hmt : 0 ≤ mt := by omega
  have dm_ : decide (mt < 0) = false := decide_eq_false (by omega)
  clear em_ hmt
  have HCm := Aside0.mk (show (markedI r1v.length 1).length ≤ cVg0 from by rw [HML.out]; exact HCVg0.out)
  go_wp2_with fail
  try rw [show (Value.slice AVg0 r1v.length cVg0) = .slice AVg0 (markedI r1v.length 1).length cVg0 from by rw [HML.out]]
  refine (laws_heldIntS.calls kh18 _ _ (markedI r1v.length 1) 1 mt _ (by repeat (first | exact Vg0.out.C | (with_reducible refine Kd.C_alloc ?_ _) | (with_reducible refine Kd.C_drewN ?_ _) | (with_reducible refine Kd.C_drew ?_))) HCm.out HH18'.out).mono ?_
  rintro e w16_ ⟨rfl, hd_⟩
  have hp_ : Below w15_.heap.size w15_ w16_ := below_step (by repeat (first | exact Below.refl _ _ | (with_reducible apply below_alloc) | (with_reducible apply pw_below_drewN) | (with_reducible apply below_drew1))) (drawn_below hd_)
  have HZ20 := Aside0.mk hp_.size
  have HBn_ := Aside0.mk (more HB.out hp_)
  clear HB
  have HB := HBn_
  clear HBn_
  have X_ := Aside0.mk (Vw0.out.step hp_)
  clear Vw0
  have Vw0 := X_
  clear X_
  have X_ := Aside0.mk (Vg0.out.step hp_)
  clear Vg0
  have Vg0 := X_
  clear X_
  clear hcz_aj_0 hfz_aj_0 hcz_aj_1 hfz_aj_1 hcz_aj_2 hfz_aj_2 hcz_aj_3 hfz_aj_3 hcz_aj_4 hfz_aj_4 hcz_aj_5 hfz_aj_5 hcz_aj_6 hfz_aj_6 hcz_aj_7 hfz_aj_7
  have X_ := Aside0.mk (blk_below BK_aj.out hp_)
  clear BK_aj
  have BK_aj := X_
  clear X_
  have hcz_aj_0 : w16_.cell? ⟨g_aj, 0, none⟩ = some (.slice A_aj_0 aj_0.length c_aj_0) := (blk_cell BK_aj.out 0).trans rfl
  have hfz_aj_0 := blk_frozen BK_aj.out 0
  have hcz_aj_1 : w16_.cell? ⟨g_aj, 1, none⟩ = some (.slice A_aj_1 aj_1.length c_aj_1) := (blk_cell BK_aj.out 1).trans rfl
  have hfz_aj_1 := blk_frozen BK_aj.out 1
  have hcz_aj_2 : w16_.cell? ⟨g_aj, 2, none⟩ = some (.slice A_aj_2 aj_2.length c_aj_2) := (blk_cell BK_aj.out 2).trans rfl
  have hfz_aj_2 := blk_frozen BK_aj.out 2
  have hcz_aj_3 : w16_.cell? ⟨g_aj, 3, none⟩ = some (.int .i64 aj_3) := (blk_cell BK_aj.out 3).trans rfl
  have hfz_aj_3 := blk_frozen BK_aj.out 3
  have hcz_aj_4 : w16_.cell? ⟨g_aj, 4, none⟩ = some (.int .i64 aj_4) := (blk_cell BK_aj.out 4).trans rfl
  have hfz_aj_4 := blk_frozen BK_aj.out 4
  have hcz_aj_5 : w16_.cell? ⟨g_aj, 5, none⟩ = some (.int .i64 aj_5) := (blk_cell BK_aj.out 5).trans rfl
  have hfz_aj_5 := blk_frozen BK_aj.out 5
  have hcz_aj_6 : w16_.cell? ⟨g_aj, 6, none⟩ = some (.int .i64 aj_6) := (blk_cell BK_aj.out 6).trans rfl
  have hfz_aj_6 := blk_frozen BK_aj.out 6
  have hcz_aj_7 : w16_.cell? ⟨g_aj, 7, none⟩ = some (.int .i64 aj_7) := (blk_cell BK_aj.out 7).trans rfl
  have hfz_aj_7 := blk_frozen BK_aj.out 7
  clear hcz_x0_0 hfz_x0_0 hcz_x0_1 hfz_x0_1 hcz_x0_2 hfz_x0_2 hcz_x0_3 hfz_x0_3 hcz_x0_4 hfz_x0_4 hcz_x0_5 hfz_x0_5 hcz_x0_6 hfz_x0_6 hcz_x0_7 hfz_x0_7
  have X_ := Aside0.mk (blk_below BK_x0.out hp_)
  clear BK_x0
  have BK_x0 := X_
  clear X_
  have hcz_x0_0 : w16_.cell? ⟨g_x0, 0, none⟩ = some (.slice AVx00 aj_0.length cVx00) := (blk_cell BK_x0.out 0).trans rfl
  have hfz_x0_0 := blk_frozen BK_x0.out 0
  have hcz_x0_1 : w16_.cell? ⟨g_x0, 1, none⟩ = some (.slice AVx01 aj_1.length cVx01) := (blk_cell BK_x0.out 1).trans rfl
  have hfz_x0_1 := blk_frozen BK_x0.out 1
  have hcz_x0_2 : w16_.cell? ⟨g_x0, 2, none⟩ = some (.slice AVx02 aj_2.length cVx02) := (blk_cell BK_x0.out 2).trans rfl
  have hfz_x0_2 := blk_frozen BK_x0.out 2
  have hcz_x0_3 : w16_.cell? ⟨g_x0, 3, none⟩ = some (.int .i64 aj_3) := (blk_cell BK_x0.out 3).trans rfl
  have hfz_x0_3 := blk_frozen BK_x0.out 3
  have hcz_x0_4 : w16_.cell? ⟨g_x0, 4, none⟩ = some (.int .i64 aj_4) := (blk_cell BK_x0.out 4).trans rfl
  have hfz_x0_4 := blk_frozen BK_x0.out 4
  have hcz_x0_5 : w16_.cell? ⟨g_x0, 5, none⟩ = some (.int .i64 aj_5) := (blk_cell BK_x0.out 5).trans rfl
  have hfz_x0_5 := blk_frozen BK_x0.out 5
  have hcz_x0_6 : w16_.cell? ⟨g_x0, 6, none⟩ = some (.int .i64 aj_6) := (blk_cell BK_x0.out 6).trans rfl
  have hfz_x0_6 := blk_frozen BK_x0.out 6
  have hcz_x0_7 : w16_.cell? ⟨g_x0, 7, none⟩ = some (.int .i64 aj_7) := (blk_cell BK_x0.out 7).trans rfl
  have hfz_x0_7 := blk_frozen BK_x0.out 7
  clear hd_ hp_
  go_wp2_with fail
  refine (laws_toJob.calls kt_aJ _ _ aj_0 _ _ aj_1 _ _ aj_2 aj_3 aj_4 aj_5 aj_6 aj_7 aj_0 aj_1 aj_2 aj_3 aj_4 aj_5 aj_6 aj_7 _ (by repeat (first | exact (Kd.C_below HR_aj_0.out HB.out) | (with_reducible refine Kd.C_alloc ?_ _) | (with_reducible refine Kd.C_drewN ?_ _) | (with_reducible refine Kd.C_drew ?_))) HC_aj_0.out (by repeat (first | exact (Kd.C_below HR_aj_1.out HB.out) | (with_reducible refine Kd.C_alloc ?_ _) | (with_reducible refine Kd.C_drewN ?_ _) | (with_reducible refine Kd.C_drew ?_))) HC_aj_1.out (by repeat (first | exact (Kd.C_below HR_aj_2.out HB.out) | (with_reducible refine Kd.C_alloc ?_ _) | (with_reducible refine Kd.C_drewN ?_ _) | (with_reducible refine Kd.C_drew ?_))) HC_aj_2.out Hkt_aJ.out).mono ?_
  rintro e w17_ ⟨v0_n17, v1_n17, v2_n17, rfl, ho0_, ho1_, ho2_, hb_⟩
  have hp_ : Below w16_.heap.size w16_ w17_ := below_step (by repeat (first | exact Below.refl _ _ | (with_reducible apply below_alloc) | (with_reducible apply pw_below_drewN) | (with_reducible apply below_drew1))) hb_
  obtain ⟨B21, H21, eB_, eH_, hi1_, hi2_, hi3_⟩ := spot (W0 := w16_) (by repeat (first | exact Below.refl _ _ | (with_reducible apply below_alloc) | (with_reducible apply pw_below_drewN) | (with_reducible apply below_drew1))) hb_
  have HZ21 := Aside0.mk (⟨hi1_, hi2_, hi3_, hp_.size⟩ : _ ∧ _ ∧ _ ∧ _)
  have N21_0 := Aside0.mk (OwnS.new (W0 := w16_) (b := w.heap.size) (by repeat (first | exact Below.refl _ _ | (with_reducible apply below_alloc) | (with_reducible apply pw_below_drewN) | (with_reducible apply below_drew1))) ho0_ hb_ HB.out.size _ _ eB_ eH_)
  have N21_1 := Aside0.mk (Own.new (W0 := w16_) (b := w.heap.size) (by repeat (first | exact Below.refl _ _ | (with_reducible apply below_alloc) | (with_reducible apply pw_below_drewN) | (with_reducible apply below_drew1))) (tightRow rfl ho1_) hb_ HB.out.size _ _ eB_ eH_)
  have N21_2 := Aside0.mk (Own.new (W0 := w16_) (b := w.heap.size) (by repeat (first | exact Below.refl _ _ | (with_reducible apply below_alloc) | (with_reducible apply pw_below_drewN) | (with_reducible apply below_drew1))) (tightRow rfl ho2_) hb_ HB.out.size _ _ eB_ eH_)
  clear eB_ eH_ hi1_ hi2_ hi3_ ho0_ ho1_ ho2_
  have HBn_ := Aside0.mk (more HB.out hp_)
  clear HB
  have HB := HBn_
  clear HBn_
  have X_ := Aside0.mk (Vw0.out.step hp_)
  clear Vw0
  have Vw0 := X_
  clear X_
  have X_ := Aside0.mk (Vg0.out.step hp_)
  clear Vg0
  have Vg0 := X_
  clear X_
  clear hcz_aj_0 hfz_aj_0 hcz_aj_1 hfz_aj_1 hcz_aj_2 hfz_aj_2 hcz_aj_3 hfz_aj_3 hcz_aj_4 hfz_aj_4 hcz_aj_5 hfz_aj_5 hcz_aj_6 hfz_aj_6 hcz_aj_7 hfz_aj_7
  have X_ := Aside0.mk (blk_below BK_aj.out hp_)
  clear BK_aj
  have BK_aj := X_
  clear X_
  have hcz_aj_0 : w17_.cell? ⟨g_aj, 0, none⟩ = some (.slice A_aj_0 aj_0.length c_aj_0) := (blk_cell BK_aj.out 0).trans rfl
  have hfz_aj_0 := blk_frozen BK_aj.out 0
  have hcz_aj_1 : w17_.cell? ⟨g_aj, 1, none⟩ = some (.slice A_aj_1 aj_1.length c_aj_1) := (blk_cell BK_aj.out 1).trans rfl
  have hfz_aj_1 := blk_frozen BK_aj.out 1
  have hcz_aj_2 : w17_.cell? ⟨g_aj, 2, none⟩ = some (.slice A_aj_2 aj_2.length c_aj_2) := (blk_cell BK_aj.out 2).trans rfl
  have hfz_aj_2 := blk_frozen BK_aj.out 2
  have hcz_aj_3 : w17_.cell? ⟨g_aj, 3, none⟩ = some (.int .i64 aj_3) := (blk_cell BK_aj.out 3).trans rfl
  have hfz_aj_3 := blk_frozen BK_aj.out 3
  have hcz_aj_4 : w17_.cell? ⟨g_aj, 4, none⟩ = some (.int .i64 aj_4) := (blk_cell BK_aj.out 4).trans rfl
  have hfz_aj_4 := blk_frozen BK_aj.out 4
  have hcz_aj_5 : w17_.cell? ⟨g_aj, 5, none⟩ = some (.int .i64 aj_5) := (blk_cell BK_aj.out 5).trans rfl
  have hfz_aj_5 := blk_frozen BK_aj.out 5
  have hcz_aj_6 : w17_.cell? ⟨g_aj, 6, none⟩ = some (.int .i64 aj_6) := (blk_cell BK_aj.out 6).trans rfl
  have hfz_aj_6 := blk_frozen BK_aj.out 6
  have hcz_aj_7 : w17_.cell? ⟨g_aj, 7, none⟩ = some (.int .i64 aj_7) := (blk_cell BK_aj.out 7).trans rfl
  have hfz_aj_7 := blk_frozen BK_aj.out 7
  clear hcz_x0_0 hfz_x0_0 hcz_x0_1 hfz_x0_1 hcz_x0_2 hfz_x0_2 hcz_x0_3 hfz_x0_3 hcz_x0_4 hfz_x0_4 hcz_x0_5 hfz_x0_5 hcz_x0_6 hfz_x0_6 hcz_x0_7 hfz_x0_7
  have X_ := Aside0.mk (blk_below BK_x0.out hp_)
  clear BK_x0
  have BK_x0 := X_
  clear X_
  have hcz_x0_0 : w17_.cell? ⟨g_x0, 0, none⟩ = some (.slice AVx00 aj_0.length cVx00) := (blk_cell BK_x0.out 0).trans rfl
  have hfz_x0_0 := blk_frozen BK_x0.out 0
  have hcz_x0_1 : w17_.cell? ⟨g_x0, 1, none⟩ = some (.slice AVx01 aj_1.length cVx01) := (blk_cell BK_x0.out 1).trans rfl
  have hfz_x0_1 := blk_frozen BK_x0.out 1
  have hcz_x0_2 : w17_.cell? ⟨g_x0, 2, none⟩ = some (.slice AVx02 aj_2.length cVx02) := (blk_cell BK_x0.out 2).trans rfl
  have hfz_x0_2 := blk_frozen BK_x0.out 2
  have hcz_x0_3 : w17_.cell? ⟨g_x0, 3, none⟩ = some (.int .i64 aj_3) := (blk_cell BK_x0.out 3).trans rfl
  have hfz_x0_3 := blk_frozen BK_x0.out 3
  have hcz_x0_4 : w17_.cell? ⟨g_x0, 4, none⟩ = some (.int .i64 aj_4) := (blk_cell BK_x0.out 4).trans rfl
  have hfz_x0_4 := blk_frozen BK_x0.out 4
  have hcz_x0_5 : w17_.cell? ⟨g_x0, 5, none⟩ = some (.int .i64 aj_5) := (blk_cell BK_x0.out 5).trans rfl
  have hfz_x0_5 := blk_frozen BK_x0.out 5
  have hcz_x0_6 : w17_.cell? ⟨g_x0, 6, none⟩ = some (.int .i64 aj_6) := (blk_cell BK_x0.out 6).trans rfl
  have hfz_x0_6 := blk_frozen BK_x0.out 6
  have hcz_x0_7 : w17_.cell? ⟨g_x0, 7, none⟩ = some (.int .i64 aj_7) := (blk_cell BK_x0.out 7).trans rfl
  have hfz_x0_7 := blk_frozen BK_x0.out 7
  clear hb_ hp_
  have T21_0 := N21_0
  clear N21_0
  obtain ⟨AT21_0, cT21_0, rfl, hc_⟩ := T21_0.out.reads
  have HCT21_0 := Aside0.mk hc_
  clear hc_
  have T21_1 := N21_1
  clear N21_1
  obtain ⟨AT21_1, cT21_1, rfl, hc_⟩ := T21_1.out.reads
  have HCT21_1 := Aside0.mk hc_
  clear hc_
  have T21_2 := N21_2
  clear N21_2
  obtain ⟨AT21_2, cT21_2, rfl, hc_⟩ := T21_2.out.reads
  have HCT21_2 := Aside0.mk hc_
  clear hc_
  go_wp2_with fail
  refine (impl_EarliestPeriods.calls kei_ _ _ aj_0 _ _ aj_1 _ _ aj_2 aj_3 aj_4 aj_5 aj_6 aj_7 r1v r2v _ (by repeat (first | exact T21_0.out.C | (with_reducible refine Kd.C_alloc ?_ _) | (with_reducible refine Kd.C_drewN ?_ _) | (with_reducible refine Kd.C_drew ?_))) HCT21_0.out (by repeat (first | exact T21_1.out.C | (with_reducible refine Kd.C_alloc ?_ _) | (with_reducible refine Kd.C_drewN ?_ _) | (with_reducible refine Kd.C_drew ?_))) HCT21_1.out (by repeat (first | exact T21_2.out.C | (with_reducible refine Kd.C_alloc ?_ _) | (with_reducible refine Kd.C_drewN ?_ _) | (with_reducible refine Kd.C_drew ?_))) HCT21_2.out HEI.out).mono ?_
  rintro e w18_ ⟨v0_n18, rfl, ho0_, hb_⟩
  have hp_ : Below w17_.heap.size w17_ w18_ := below_step (by repeat (first | exact Below.refl _ _ | (with_reducible apply below_alloc) | (with_reducible apply pw_below_drewN) | (with_reducible apply below_drew1))) hb_
  obtain ⟨B22, H22, eB_, eH_, hi1_, hi2_, hi3_⟩ := spot (W0 := w17_) (by repeat (first | exact Below.refl _ _ | (with_reducible apply below_alloc) | (with_reducible apply pw_below_drewN) | (with_reducible apply below_drew1))) hb_
  have HZ22 := Aside0.mk (⟨hi1_, hi2_, hi3_, hp_.size⟩ : _ ∧ _ ∧ _ ∧ _)
  have N22_0 := Aside0.mk (Own.new (W0 := w17_) (b := w.heap.size) (by repeat (first | exact Below.refl _ _ | (with_reducible apply below_alloc) | (with_reducible apply pw_below_drewN) | (with_reducible apply below_drew1))) ho0_ hb_ HB.out.size _ _ eB_ eH_)
  clear eB_ eH_ hi1_ hi2_ hi3_ ho0_
  have HBn_ := Aside0.mk (more HB.out hp_)
  clear HB
  have HB := HBn_
  clear HBn_
  have X_ := Aside0.mk (Vw0.out.step hp_)
  clear Vw0
  have Vw0 := X_
  clear X_
  have X_ := Aside0.mk (Vg0.out.step hp_)
  clear Vg0
  have Vg0 := X_
  clear X_
  have X_ := Aside0.mk (T21_0.out.step hp_)
  clear T21_0
  have T21_0 := X_
  clear X_
  have X_ := Aside0.mk (T21_1.out.step hp_)
  clear T21_1
  have T21_1 := X_
  clear X_
  have X_ := Aside0.mk (T21_2.out.step hp_)
  clear T21_2
  have T21_2 := X_
  clear X_
  clear hcz_aj_0 hfz_aj_0 hcz_aj_1 hfz_aj_1 hcz_aj_2 hfz_aj_2 hcz_aj_3 hfz_aj_3 hcz_aj_4 hfz_aj_4 hcz_aj_5 hfz_aj_5 hcz_aj_6 hfz_aj_6 hcz_aj_7 hfz_aj_7
  have X_ := Aside0.mk (blk_below BK_aj.out hp_)
  clear BK_aj
  have BK_aj := X_
  clear X_
  have hcz_aj_0 : w18_.cell? ⟨g_aj, 0, none⟩ = some (.slice A_aj_0 aj_0.length c_aj_0) := (blk_cell BK_aj.out 0).trans rfl
  have hfz_aj_0 := blk_frozen BK_aj.out 0
  have hcz_aj_1 : w18_.cell? ⟨g_aj, 1, none⟩ = some (.slice A_aj_1 aj_1.length c_aj_1) := (blk_cell BK_aj.out 1).trans rfl
  have hfz_aj_1 := blk_frozen BK_aj.out 1
  have hcz_aj_2 : w18_.cell? ⟨g_aj, 2, none⟩ = some (.slice A_aj_2 aj_2.length c_aj_2) := (blk_cell BK_aj.out 2).trans rfl
  have hfz_aj_2 := blk_frozen BK_aj.out 2
  have hcz_aj_3 : w18_.cell? ⟨g_aj, 3, none⟩ = some (.int .i64 aj_3) := (blk_cell BK_aj.out 3).trans rfl
  have hfz_aj_3 := blk_frozen BK_aj.out 3
  have hcz_aj_4 : w18_.cell? ⟨g_aj, 4, none⟩ = some (.int .i64 aj_4) := (blk_cell BK_aj.out 4).trans rfl
  have hfz_aj_4 := blk_frozen BK_aj.out 4
  have hcz_aj_5 : w18_.cell? ⟨g_aj, 5, none⟩ = some (.int .i64 aj_5) := (blk_cell BK_aj.out 5).trans rfl
  have hfz_aj_5 := blk_frozen BK_aj.out 5
  have hcz_aj_6 : w18_.cell? ⟨g_aj, 6, none⟩ = some (.int .i64 aj_6) := (blk_cell BK_aj.out 6).trans rfl
  have hfz_aj_6 := blk_frozen BK_aj.out 6
  have hcz_aj_7 : w18_.cell? ⟨g_aj, 7, none⟩ = some (.int .i64 aj_7) := (blk_cell BK_aj.out 7).trans rfl
  have hfz_aj_7 := blk_frozen BK_aj.out 7
  clear hcz_x0_0 hfz_x0_0 hcz_x0_1 hfz_x0_1 hcz_x0_2 hfz_x0_2 hcz_x0_3 hfz_x0_3 hcz_x0_4 hfz_x0_4 hcz_x0_5 hfz_x0_5 hcz_x0_6 hfz_x0_6 hcz_x0_7 hfz_x0_7
  have X_ := Aside0.mk (blk_below BK_x0.out hp_)
  clear BK_x0
  have BK_x0 := X_
  clear X_
  have hcz_x0_0 : w18_.cell? ⟨g_x0, 0, none⟩ = some (.slice AVx00 aj_0.length cVx00) := (blk_cell BK_x0.out 0).trans rfl
  have hfz_x0_0 := blk_frozen BK_x0.out 0
  have hcz_x0_1 : w18_.cell? ⟨g_x0, 1, none⟩ = some (.slice AVx01 aj_1.length cVx01) := (blk_cell BK_x0.out 1).trans rfl
  have hfz_x0_1 := blk_frozen BK_x0.out 1
  have hcz_x0_2 : w18_.cell? ⟨g_x0, 2, none⟩ = some (.slice AVx02 aj_2.length cVx02) := (blk_cell BK_x0.out 2).trans rfl
  have hfz_x0_2 := blk_frozen BK_x0.out 2
  have hcz_x0_3 : w18_.cell? ⟨g_x0, 3, none⟩ = some (.int .i64 aj_3) := (blk_cell BK_x0.out 3).trans rfl
  have hfz_x0_3 := blk_frozen BK_x0.out 3
  have hcz_x0_4 : w18_.cell? ⟨g_x0, 4, none⟩ = some (.int .i64 aj_4) := (blk_cell BK_x0.out 4).trans rfl
  have hfz_x0_4 := blk_frozen BK_x0.out 4
  have hcz_x0_5 : w18_.cell? ⟨g_x0, 5, none⟩ = some (.int .i64 aj_5) := (blk_cell BK_x0.out 5).trans rfl
  have hfz_x0_5 := blk_frozen BK_x0.out 5
  have hcz_x0_6 : w18_.cell? ⟨g_x0, 6, none⟩ = some (.int .i64 aj_6) := (blk_cell BK_x0.out 6).trans rfl
  have hfz_x0_6 := blk_frozen BK_x0.out 6
  have hcz_x0_7 : w18_.cell? ⟨g_x0, 7, none⟩ = some (.int .i64 aj_7) := (blk_cell BK_x0.out 7).trans rfl
  have hfz_x0_7 := blk_frozen BK_x0.out 7
  clear hb_ hp_
  have Vh0 := N22_0
  clear N22_0
  obtain ⟨AVh0, cVh0, rfl, hc_⟩ := Vh0.out.reads
  have HCVh0 := Aside0.mk hc_
  clear hc_
  clear T21_0 HCT21_0
  clear T21_1 HCT21_1
  clear T21_2 HCT21_2
  go_wp2_with fail
  refine (laws_eqIntS.calls kgq _ _ r1v _ _ r1v true _ (by repeat (first | exact Vh0.out.C | (with_reducible refine Kd.C_alloc ?_ _) | (with_reducible refine Kd.C_drewN ?_ _) | (with_reducible refine Kd.C_drew ?_))) HCVh0.out (by repeat (first | exact Vw0.out.C | (with_reducible refine Kd.C_alloc ?_ _) | (with_reducible refine Kd.C_drewN ?_ _) | (with_reducible refine Kd.C_drew ?_))) HCVw0.out Hkgq.out).mono ?_
  rintro e w19_ ⟨rfl, hd_⟩
  have hb_ := drawn_below hd_
  clear hd_
  have hp_ : Below w18_.heap.size w18_ w19_ := below_step (by repeat (first | exact Below.refl _ _ | (with_reducible apply below_alloc) | (with_reducible apply pw_below_drewN) | (with_reducible apply below_drew1))) hb_
  have HZ23 := Aside0.mk hp_.size
  have HBn_ := Aside0.mk (more HB.out hp_)
  clear HB
  have HB := HBn_
  clear HBn_
  have X_ := Aside0.mk (Vw0.out.step hp_)
  clear Vw0
  have Vw0 := X_
  clear X_
  have X_ := Aside0.mk (Vg0.out.step hp_)
  clear Vg0
  have Vg0 := X_
  clear X_
  have X_ := Aside0.mk (Vh0.out.step hp_)
  clear Vh0
  have Vh0 := X_
  clear X_
  clear hcz_aj_0 hfz_aj_0 hcz_aj_1 hfz_aj_1 hcz_aj_2 hfz_aj_2 hcz_aj_3 hfz_aj_3 hcz_aj_4 hfz_aj_4 hcz_aj_5 hfz_aj_5 hcz_aj_6 hfz_aj_6 hcz_aj_7 hfz_aj_7
  have X_ := Aside0.mk (blk_below BK_aj.out hp_)
  clear BK_aj
  have BK_aj := X_
  clear X_
  have hcz_aj_0 : w19_.cell? ⟨g_aj, 0, none⟩ = some (.slice A_aj_0 aj_0.length c_aj_0) := (blk_cell BK_aj.out 0).trans rfl
  have hfz_aj_0 := blk_frozen BK_aj.out 0
  have hcz_aj_1 : w19_.cell? ⟨g_aj, 1, none⟩ = some (.slice A_aj_1 aj_1.length c_aj_1) := (blk_cell BK_aj.out 1).trans rfl
  have hfz_aj_1 := blk_frozen BK_aj.out 1
  have hcz_aj_2 : w19_.cell? ⟨g_aj, 2, none⟩ = some (.slice A_aj_2 aj_2.length c_aj_2) := (blk_cell BK_aj.out 2).trans rfl
  have hfz_aj_2 := blk_frozen BK_aj.out 2
  have hcz_aj_3 : w19_.cell? ⟨g_aj, 3, none⟩ = some (.int .i64 aj_3) := (blk_cell BK_aj.out 3).trans rfl
  have hfz_aj_3 := blk_frozen BK_aj.out 3
  have hcz_aj_4 : w19_.cell? ⟨g_aj, 4, none⟩ = some (.int .i64 aj_4) := (blk_cell BK_aj.out 4).trans rfl
  have hfz_aj_4 := blk_frozen BK_aj.out 4
  have hcz_aj_5 : w19_.cell? ⟨g_aj, 5, none⟩ = some (.int .i64 aj_5) := (blk_cell BK_aj.out 5).trans rfl
  have hfz_aj_5 := blk_frozen BK_aj.out 5
  have hcz_aj_6 : w19_.cell? ⟨g_aj, 6, none⟩ = some (.int .i64 aj_6) := (blk_cell BK_aj.out 6).trans rfl
  have hfz_aj_6 := blk_frozen BK_aj.out 6
  have hcz_aj_7 : w19_.cell? ⟨g_aj, 7, none⟩ = some (.int .i64 aj_7) := (blk_cell BK_aj.out 7).trans rfl
  have hfz_aj_7 := blk_frozen BK_aj.out 7
  clear hcz_x0_0 hfz_x0_0 hcz_x0_1 hfz_x0_1 hcz_x0_2 hfz_x0_2 hcz_x0_3 hfz_x0_3 hcz_x0_4 hfz_x0_4 hcz_x0_5 hfz_x0_5 hcz_x0_6 hfz_x0_6 hcz_x0_7 hfz_x0_7
  have X_ := Aside0.mk (blk_below BK_x0.out hp_)
  clear BK_x0
  have BK_x0 := X_
  clear X_
  have hcz_x0_0 : w19_.cell? ⟨g_x0, 0, none⟩ = some (.slice AVx00 aj_0.length cVx00) := (blk_cell BK_x0.out 0).trans rfl
  have hfz_x0_0 := blk_frozen BK_x0.out 0
  have hcz_x0_1 : w19_.cell? ⟨g_x0, 1, none⟩ = some (.slice AVx01 aj_1.length cVx01) := (blk_cell BK_x0.out 1).trans rfl
  have hfz_x0_1 := blk_frozen BK_x0.out 1
  have hcz_x0_2 : w19_.cell? ⟨g_x0, 2, none⟩ = some (.slice AVx02 aj_2.length cVx02) := (blk_cell BK_x0.out 2).trans rfl
  have hfz_x0_2 := blk_frozen BK_x0.out 2
  have hcz_x0_3 : w19_.cell? ⟨g_x0, 3, none⟩ = some (.int .i64 aj_3) := (blk_cell BK_x0.out 3).trans rfl
  have hfz_x0_3 := blk_frozen BK_x0.out 3
  have hcz_x0_4 : w19_.cell? ⟨g_x0, 4, none⟩ = some (.int .i64 aj_4) := (blk_cell BK_x0.out 4).trans rfl
  have hfz_x0_4 := blk_frozen BK_x0.out 4
  have hcz_x0_5 : w19_.cell? ⟨g_x0, 5, none⟩ = some (.int .i64 aj_5) := (blk_cell BK_x0.out 5).trans rfl
  have hfz_x0_5 := blk_frozen BK_x0.out 5
  have hcz_x0_6 : w19_.cell? ⟨g_x0, 6, none⟩ = some (.int .i64 aj_6) := (blk_cell BK_x0.out 6).trans rfl
  have hfz_x0_6 := blk_frozen BK_x0.out 6
  have hcz_x0_7 : w19_.cell? ⟨g_x0, 7, none⟩ = some (.int .i64 aj_7) := (blk_cell BK_x0.out 7).trans rfl
  have hfz_x0_7 := blk_frozen BK_x0.out 7
  clear hb_ hp_
  go_wp2_with fail
  try rw [show (Value.slice AVg0 r1v.length cVg0) = .slice AVg0 (markedI r1v.length 1).length cVg0 from by rw [HML.out]]
  refine (laws_heldIntS.calls kh18 _ _ (markedI r1v.length 1) 1 mt _ (by repeat (first | exact Vg0.out.C | (with_reducible refine Kd.C_alloc ?_ _) | (with_reducible refine Kd.C_drewN ?_ _) | (with_reducible refine Kd.C_drew ?_))) HCm.out HH18'.out).mono ?_
  rintro e w20_ ⟨rfl, hd_⟩
  have hp_ : Below w19_.heap.size w19_ w20_ := below_step (by repeat (first | exact Below.refl _ _ | (with_reducible apply below_alloc) | (with_reducible apply pw_below_drewN) | (with_reducible apply below_drew1))) (drawn_below hd_)
  have HZ24 := Aside0.mk hp_.size
  have HBn_ := Aside0.mk (more HB.out hp_)
  clear HB
  have HB := HBn_
  clear HBn_
  have X_ := Aside0.mk (Vw0.out.step hp_)
  clear Vw0
  have Vw0 := X_
  clear X_
  have X_ := Aside0.mk (Vg0.out.step hp_)
  clear Vg0
  have Vg0 := X_
  clear X_
  have X_ := Aside0.mk (Vh0.out.step hp_)
  clear Vh0
  have Vh0 := X_
  clear X_
  clear hcz_aj_0 hfz_aj_0 hcz_aj_1 hfz_aj_1 hcz_aj_2 hfz_aj_2 hcz_aj_3 hfz_aj_3 hcz_aj_4 hfz_aj_4 hcz_aj_5 hfz_aj_5 hcz_aj_6 hfz_aj_6 hcz_aj_7 hfz_aj_7
  have X_ := Aside0.mk (blk_below BK_aj.out hp_)
  clear BK_aj
  have BK_aj := X_
  clear X_
  have hcz_aj_0 : w20_.cell? ⟨g_aj, 0, none⟩ = some (.slice A_aj_0 aj_0.length c_aj_0) := (blk_cell BK_aj.out 0).trans rfl
  have hfz_aj_0 := blk_frozen BK_aj.out 0
  have hcz_aj_1 : w20_.cell? ⟨g_aj, 1, none⟩ = some (.slice A_aj_1 aj_1.length c_aj_1) := (blk_cell BK_aj.out 1).trans rfl
  have hfz_aj_1 := blk_frozen BK_aj.out 1
  have hcz_aj_2 : w20_.cell? ⟨g_aj, 2, none⟩ = some (.slice A_aj_2 aj_2.length c_aj_2) := (blk_cell BK_aj.out 2).trans rfl
  have hfz_aj_2 := blk_frozen BK_aj.out 2
  have hcz_aj_3 : w20_.cell? ⟨g_aj, 3, none⟩ = some (.int .i64 aj_3) := (blk_cell BK_aj.out 3).trans rfl
  have hfz_aj_3 := blk_frozen BK_aj.out 3
  have hcz_aj_4 : w20_.cell? ⟨g_aj, 4, none⟩ = some (.int .i64 aj_4) := (blk_cell BK_aj.out 4).trans rfl
  have hfz_aj_4 := blk_frozen BK_aj.out 4
  have hcz_aj_5 : w20_.cell? ⟨g_aj, 5, none⟩ = some (.int .i64 aj_5) := (blk_cell BK_aj.out 5).trans rfl
  have hfz_aj_5 := blk_frozen BK_aj.out 5
  have hcz_aj_6 : w20_.cell? ⟨g_aj, 6, none⟩ = some (.int .i64 aj_6) := (blk_cell BK_aj.out 6).trans rfl
  have hfz_aj_6 := blk_frozen BK_aj.out 6
  have hcz_aj_7 : w20_.cell? ⟨g_aj, 7, none⟩ = some (.int .i64 aj_7) := (blk_cell BK_aj.out 7).trans rfl
  have hfz_aj_7 := blk_frozen BK_aj.out 7
  clear hcz_x0_0 hfz_x0_0 hcz_x0_1 hfz_x0_1 hcz_x0_2 hfz_x0_2 hcz_x0_3 hfz_x0_3 hcz_x0_4 hfz_x0_4 hcz_x0_5 hfz_x0_5 hcz_x0_6 hfz_x0_6 hcz_x0_7 hfz_x0_7
  have X_ := Aside0.mk (blk_below BK_x0.out hp_)
  clear BK_x0
  have BK_x0 := X_
  clear X_
  have hcz_x0_0 : w20_.cell? ⟨g_x0, 0, none⟩ = some (.slice AVx00 aj_0.length cVx00) := (blk_cell BK_x0.out 0).trans rfl
  have hfz_x0_0 := blk_frozen BK_x0.out 0
  have hcz_x0_1 : w20_.cell? ⟨g_x0, 1, none⟩ = some (.slice AVx01 aj_1.length cVx01) := (blk_cell BK_x0.out 1).trans rfl
  have hfz_x0_1 := blk_frozen BK_x0.out 1
  have hcz_x0_2 : w20_.cell? ⟨g_x0, 2, none⟩ = some (.slice AVx02 aj_2.length cVx02) := (blk_cell BK_x0.out 2).trans rfl
  have hfz_x0_2 := blk_frozen BK_x0.out 2
  have hcz_x0_3 : w20_.cell? ⟨g_x0, 3, none⟩ = some (.int .i64 aj_3) := (blk_cell BK_x0.out 3).trans rfl
  have hfz_x0_3 := blk_frozen BK_x0.out 3
  have hcz_x0_4 : w20_.cell? ⟨g_x0, 4, none⟩ = some (.int .i64 aj_4) := (blk_cell BK_x0.out 4).trans rfl
  have hfz_x0_4 := blk_frozen BK_x0.out 4
  have hcz_x0_5 : w20_.cell? ⟨g_x0, 5, none⟩ = some (.int .i64 aj_5) := (blk_cell BK_x0.out 5).trans rfl
  have hfz_x0_5 := blk_frozen BK_x0.out 5
  have hcz_x0_6 : w20_.cell? ⟨g_x0, 6, none⟩ = some (.int .i64 aj_6) := (blk_cell BK_x0.out 6).trans rfl
  have hfz_x0_6 := blk_frozen BK_x0.out 6
  have hcz_x0_7 : w20_.cell? ⟨g_x0, 7, none⟩ = some (.int .i64 aj_7) := (blk_cell BK_x0.out 7).trans rfl
  have hfz_x0_7 := blk_frozen BK_x0.out 7
  clear hd_ hp_
  go_wp2_with fail
  go_ret
  exact ⟨rfl, by repeat (first | exact HB.out | (with_reducible apply below_alloc) | (with_reducible apply pw_below_drewN) | (with_reducible apply below_drew1))⟩
end Go.Proofs.Ytmlmghkkalljbaa.WalkFnExactEarliestPeriods

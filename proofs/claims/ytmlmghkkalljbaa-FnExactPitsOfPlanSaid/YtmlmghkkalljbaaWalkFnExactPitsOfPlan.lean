/- The walk of FnExactPitsOfPlan's own text: for all arguments it returns true, and nothing that lay in memory before has turned; over the contracts of what it calls; no further condition. -/
import Derived.Test.YtmlmghkkalljbaaPureFnExactPitsOfPlan
import Derived.Test.YtmlmghkkalljbaaLaw
namespace Go.Proofs.Ytmlmghkkalljbaa.WalkFnExactPitsOfPlan
open Go.RowKit Go.Proofs.YtmlmghkkalljbaaW.PrintWords Go.Proofs.YtmlmghkkalljbaaW.PrintLast Go.Proofs.YtmlmghkkalljbaaW.PrintMore Go.Proofs.Ytmlmghkkalljbaa.PFnExactPitsOfPlan Go.Proofs.Ytmlmghkkalljbaa.Gen Go.Proofs.Ytmlmghkkalljbaa.Pure Go.Proofs.Ytmlmghkkalljbaa.Law Go.Proofs.Ytmlmghkkalljbaa.Opn
set_option linter.unusedVariables false
set_option linter.unusedSimpArgs false
theorem markSS_calls (l0 : List (List Int)) (a1 : Int) (ha : 0 ≤ a1) (hb : a1 + (totL l0 : Int) < 1000000000000) (P0 : Nat → Prop) (u : Value) (w0 w : World) (hB : Below w0.heap.size w0 w) (ho : Kd.S (Kd.slice 3 (Kd.int .i64)) 23 w w0.heap.size P0 u l0) :
    Calls Try.prog 37 #[u, .int .i64 a1] w fun e w' => e = .returned (.int .i64 (a1 + (totL l0 : Int))) ∧ Kd.S (Kd.slice 3 (Kd.int .i64)) 23 w' w0.heap.size (fun k_ => P0 k_ ∨ w.heap.size ≤ k_) u (marksSS l0 a1) ∧ Below w0.heap.size w0 w' ∧ Kept w w' (fun k_ => P0 k_) := by
  have HO := Aside0.mk (Kd.S_mono ho (fun k_ hk => (Or.inl hk : P0 k_ ∨ w.heap.size ≤ k_)))
  have HK := Aside0.mk (Kept.refl w (fun k_ => P0 k_))
  have HB := Aside0.mk hB
  obtain ⟨A, c, rfl⟩ := Kd.S_slice ho
  have HL := (Kd.S_reads' ho).1
  have hmax : l0.length ≤ 9223372036854775807 := (Kd.S_reads' ho).2.2.2.1
  clear ho hB
  go_enter Try.func37, Try.ntmps37
  go_wp2
  go_loopg [1, 5] l0.length (fun kq v1 v5 w' => ∃ pre suf : List (List Int), pre ++ suf = l0 ∧ v5 = .int .i64 (pre.length : Int) ∧ v1 = .int .i64 (a1 + (totL pre : Int)) ∧ Aside0 (kq = suf.length) ∧ Aside0 (Kd.S (Kd.slice 3 (Kd.int .i64)) 23 w' w0.heap.size (fun k_ => P0 k_ ∨ w.heap.size ≤ k_) (.slice A l0.length c) (marksSS pre a1 ++ suf)) ∧ Aside0 (Below w0.heap.size w0 w') ∧ Aside0 (Kept w w' (fun k_ => P0 k_)))
  case atStart => exact ⟨[], l0, rfl, rfl, by simp [totL], ⟨rfl⟩, HO, HB, HK⟩
  case round =>
    obtain ⟨pre, suf, hl, rfl, rfl, HQ, HO, HB, HK⟩ := hrel
    cases suf with
    | nil =>
      have hpl : l0.length = pre.length := by rw [← hl]; simp
      have c1 : decide ((pre.length : Int) < (l0.length : Int)) = false := decide_eq_false (by omega)
      have c2 : decide (pre.length < l0.length) = false := decide_eq_false (by omega)
      have HP := Aside0.mk hpl
      have HE := Aside0.mk hl
      clear hl hpl
      go_wp2
      go_ret
      have e := HE.out
      rw [List.append_nil] at e
      subst e
      have o := HO.out
      rw [List.append_nil] at o
      exact ⟨rfl, o, HB.out, HK.out⟩
    | cons x suf =>
      have hpl : l0.length = pre.length + suf.length + 1 := by rw [← hl]; simp; omega
      have hlt : (pre.length : Int) < (l0.length : Int) := by omega
      have c1 : decide ((pre.length : Int) < (l0.length : Int)) = true := decide_eq_true hlt
      have c2 : decide (pre.length < l0.length) = true := decide_eq_true (by omega)
      have hcl : (marksSS pre a1 ++ x :: suf).length = l0.length := by rw [List.length_append, marksSS_len, List.length_cons]; omega
      obtain ⟨g, cap, eo, hg1, hg2, _⟩ := Kd.S_form HO.out (by rw [hcl]; omega)
      rw [hcl] at eo
      cases eo
      obtain ⟨oki, ce, hcel, hM, hcc, hfr, hoki, hH⟩ := Kd.S_elem HO.out [] (pre.length : Int) (Int.natCast_nonneg _) hlt
      obtain ⟨ve, rfl, hR⟩ := hM
      have hx := hcc 0 _ rfl
      simp only [show (Kd.slice 3 (Kd.int .i64)).sz = 1 from rfl, Nat.mul_one, Nat.add_zero, Int.toNat_natCast] at hx
      rw [Int.toNat_natCast, show (marksSS pre a1 ++ x :: suf).getD pre.length [] = x by rw [← marksSS_len pre a1]; simp] at hR
      have htot : totL l0 = totL pre + x.length + totL suf := by rw [← hl]; simp [totL]; omega
      obtain ⟨kk, hk⟩ := (markIntS_ev x (a1 + (totL pre : Int)) (by omega) (by omega)).rounds
      have HR := Aside0.mk hR
      have HH := Aside0.mk hH
      have HE := Aside0.mk hl
      have HP := Aside0.mk hpl
      have HT := Aside0.mk htot
      have HMK := Aside0.mk hk
      have HOK := Aside0.mk hoki
      have HC := Aside0.mk hcl
      clear hl hpl htot hk hoki hcl hcc hcel hfr hR hH
      go_wp2_with fail
      refine (laws_markIntS.calls kk oki ve x _ _ _ w0 wr HB.out HR.out HMK.out).mono ?_
      rintro e w2 ⟨rfl, hr2, hb2, hk2⟩
      have HS2 := Aside0.mk (show Kd.S (Kd.slice 3 (Kd.int .i64)) 23 w2 w0.heap.size (fun k_ => P0 k_ ∨ w.heap.size ≤ k_) (.slice (some ⟨g, 0, none⟩) l0.length c) (marksSS (pre ++ [x]) a1 ++ suf) from by
        have h1 := Kd.H_kept (Kd.H_widen HH.out) hk2 (fun k _ hn hk => hn (Or.inl hk))
        have h2 := Kd.H_back h1 (x' := markedI x.length (a1 + (totL pre : Int))) (okp := fun k_ => oki k_ ∨ wr.heap.size ≤ k_) ⟨ve, rfl, hr2⟩ (fun k hk => hk.elim (fun q => Or.inl q) (fun q => Or.inr ⟨Or.inr (Nat.le_trans HK.out.1 q), q⟩))
        rw [Int.toNat_natCast] at h2
        have e2 : (marksSS pre a1 ++ x :: suf).set pre.length (markedI x.length (a1 + (totL pre : Int))) = marksSS (pre ++ [x]) a1 ++ suf := by
          have s := set_mid (marksSS pre a1) x (markedI x.length (a1 + (totL pre : Int))) suf
          rw [marksSS_len, Int.toNat_natCast] at s
          rw [s, marksSS_snoc]
        rw [e2] at h2
        exact h2)
      have HB2 := Aside0.mk hb2
      have HK2 := Aside0.mk (Kept.then_ HK.out hk2 (fun k hk => (HOK.out k hk).1))
      clear hr2 hb2 hk2 HO HB HK HH HR
      have e3 : a1 + (totL pre : Int) + (x.length : Int) = a1 + (totL (pre ++ [x]) : Int) := by rw [totL_snoc]; omega
      rw [e3]
      clear e3
      go_wp2_with fail
      go_roundg suf.length
      case measure => have := HQ.out; rw [this, List.length_cons]; omega
      case rel => exact ⟨pre ++ [x], suf, by rw [List.append_assoc]; exact HE.out, by simp, rfl, ⟨rfl⟩, HS2, HB2, HK2⟩

theorem markJob_calls (l0 : List (List Int)) (l1 l2 : List Int) (b3 b4 b5 b6 b7 a1 : Int) (ha : 0 ≤ a1) (hb : a1 + (totL l0 : Int) + (l1.length : Int) + (l2.length : Int) < 1000000000000) (P0 P1 P2 : Nat → Prop) (u0 u1 u2 : Value) (w0 w : World) (hB : Below w0.heap.size w0 w)
    (ho0 : Kd.S (Kd.slice 3 (Kd.int .i64)) 23 w w0.heap.size P0 u0 l0) (ho1 : Kd.R (Kd.int .i64) 3 w w0.heap.size P1 u1 l1) (ho2 : Kd.R (Kd.int .i64) 3 w w0.heap.size P2 u2 l2)
    (h10 : ∀ k, P1 k → ¬ P0 k) (h20 : ∀ k, P2 k → ¬ P0 k) (h21 : ∀ k, P2 k → ¬ P1 k) :
    Calls Try.prog 31 #[.agg #[u0, u1, u2, .int .i64 b3, .int .i64 b4, .int .i64 b5, .int .i64 b6, .int .i64 b7], .int .i64 a1] w fun e w' => e = .returned (.int .i64 (a1 + (totL l0 : Int) + (l1.length : Int) + (l2.length : Int))) ∧ Below w0.heap.size w0 w' ∧ Kept w w' (fun k => P0 k ∨ P1 k ∨ P2 k) := by
  have hu_ := Try.underlying32
  obtain ⟨A0, c0, rfl⟩ := Kd.S_slice ho0
  obtain ⟨A1, c1, rfl⟩ := Kd.R_slice ho1
  obtain ⟨A2, c2, rfl⟩ := Kd.R_slice ho2
  have HB := Aside0.mk hB
  have HO0 := Aside0.mk (Kd.S_bound ho0)
  have HO1 := Aside0.mk (Kd.R_bound ho1)
  have HO2 := Aside0.mk (Kd.R_bound ho2)
  have H10 := Aside0.mk h10
  have H20 := Aside0.mk h20
  have H21 := Aside0.mk h21
  obtain ⟨k1, e1_⟩ := (markIntS_ev l1 (a1 + (totL l0 : Int)) (by omega) (by omega)).rounds
  obtain ⟨k2, e2_⟩ := (markIntS_ev l2 (a1 + (totL l0 : Int) + (l1.length : Int)) (by omega) (by omega)).rounds
  have HM1 := Aside0.mk e1_
  have HM2 := Aside0.mk e2_
  clear hB ho0 ho1 ho2 h10 h20 h21 e1_ e2_
  have HT := Aside0.mk hb
  clear hb
  go_enter Try.func31, Try.ntmps31
  go_wp2_with ((with_reducible refine gate_dst (N := 2) rfl ?_); refine box_event ?hg (N := 2) ?hd (cs := #[.slice A0 l0.length c0, .slice A1 l1.length c1, .slice A2 l2.length c2, .int .i64 b3, .int .i64 b4, .int .i64 b5, .int .i64 b6, .int .i64 b7]) (t := 32) ?hr ?_; (case hd => rfl); (case hg => rfl); (case hr => first | (go_simp; done) | (go_simp; rfl)); intro g hg w1 hbox hb1_; have HG := Aside0.mk hg; have HBK := Aside0.mk hbox; have HW := Aside0.mk hb1_; have hx1 : w1.cell? ⟨g, 0, none⟩ = some (.slice A0 l0.length c0) := (blk_cell hbox 0).trans rfl; have hx2 := blk_frozen hbox 0; clear hg hbox hb1_)
  refine (markSS_calls l0 a1 ha (by have := HT.out; omega) (fun k => P0 k ∧ w0.heap.size ≤ k ∧ k < w.heap.size ∧ True) _ w0 w1 (more HB.out HW.out) (Kd.S_mono (Kd.S_below HO0.out HW.out) (fun k hk => ⟨hk.1, hk.2.1, hk.2.2.1, trivial⟩))).mono ?_
  rintro e w2 ⟨rfl, _, hb1, hk1⟩
  have HB1 := Aside0.mk hb1
  have HK1 := Aside0.mk hk1
  have HBK1 := Aside0.mk (blk_kept HBK.out hk1 (fun h => by have := HG.out; omega))
  clear hb1 hk1 hx1 hx2 HBK
  have hx1 : w2.cell? ⟨g, 1, none⟩ = some (.slice A1 l1.length c1) := (blk_cell HBK1.out 1).trans rfl
  have hx2 := blk_frozen HBK1.out 1
  go_wp2_with fail
  refine (laws_markIntS.calls k1 (fun k => P1 k ∧ w0.heap.size ≤ k ∧ k < w.heap.size ∧ True) _ l1 _ _ _ w0 w2 HB1.out (Kd.R_kept (Kd.R_mono (Kd.R_below HO1.out HW.out) (fun k hk => ⟨hk.1, hk.2.1, hk.2.2.1, trivial⟩)) HK1.out (fun k h1 h2 => H10.out k h1.1 h2.1)) HM1.out).mono ?_
  rintro e w3 ⟨rfl, _, hb2, hk2⟩
  have HB2 := Aside0.mk hb2
  have HK2 := Aside0.mk hk2
  have HBK2 := Aside0.mk (blk_kept HBK1.out hk2 (fun h => by have := HG.out; omega))
  clear hb2 hk2 hx1 hx2 HBK1
  have hx1 : w3.cell? ⟨g, 2, none⟩ = some (.slice A2 l2.length c2) := (blk_cell HBK2.out 2).trans rfl
  have hx2 := blk_frozen HBK2.out 2
  go_wp2_with fail
  refine (laws_markIntS.calls k2 (fun k => P2 k ∧ w0.heap.size ≤ k ∧ k < w.heap.size ∧ True) _ l2 _ _ _ w0 w3 HB2.out (Kd.R_kept (Kd.R_kept (Kd.R_mono (Kd.R_below HO2.out HW.out) (fun k hk => ⟨hk.1, hk.2.1, hk.2.2.1, trivial⟩)) HK1.out (fun k h1 h2 => H20.out k h1.1 h2.1)) HK2.out (fun k h1 h2 => H21.out k h1.1 h2.1)) HM2.out).mono ?_
  rintro e w4 ⟨rfl, _, hb3, hk3⟩
  have HB3 := Aside0.mk hb3
  have HK3 := Aside0.mk hk3
  clear hb3 hk3 hx1 hx2
  go_wp2_with fail
  go_ret
  exact ⟨rfl, HB3.out, Kept.then_ (Kept.then_ (Kept.then_ (Kept.of_below HW.out _) HK1.out (fun k hk => Or.inl (Or.inl hk.1))) HK2.out (fun k hk => Or.inl (Or.inr (Or.inl hk.1)))) HK3.out (fun k hk => Or.inl (Or.inr (Or.inr hk.1)))⟩

set_option maxRecDepth 100000 in
set_option maxHeartbeats 40000000 in
theorem law (A_aj_0 : Option Addr) (c_aj_0 : Nat) (aj_0 : List (List Int)) (A_aj_1 : Option Addr) (c_aj_1 : Nat) (aj_1 : List Int) (A_aj_2 : Option Addr) (c_aj_2 : Nat) (aj_2 : List Int) (aj_3 : Int) (aj_4 : Int) (aj_5 : Int) (aj_6 : Int) (aj_7 : Int) (ap_0 : Int) (A_ap_1 : Option Addr) (c_ap_1 : Nat) (ap_1 : List Int) (w : World) (hr_aj_0 : Kd.C (Kd.slice 3 (Kd.int .i64)) w A_aj_0 aj_0.length aj_0) (hc_aj_0 : aj_0.length ≤ c_aj_0) (hr_aj_1 : Kd.C (Kd.int .i64) w A_aj_1 aj_1.length aj_1) (hc_aj_1 : aj_1.length ≤ c_aj_1) (hr_aj_2 : Kd.C (Kd.int .i64) w A_aj_2 aj_2.length aj_2) (hc_aj_2 : aj_2.length ≤ c_aj_2) (hr_ap_1 : Kd.C (Kd.int .i64) w A_ap_1 ap_1.length ap_1) (hc_ap_1 : ap_1.length ≤ c_ap_1) (hm_aj_0 : aj_0.length ≤ maxLen) (hi_aj_0 : ∀ z ∈ aj_0, z.length ≤ maxLen) (hw_aj_0 : ∀ z ∈ aj_0, okI .i64 z) (hm_aj_1 : aj_1.length ≤ maxLen) (hw_aj_1 : okI .i64 aj_1) (hm_aj_2 : aj_2.length ≤ maxLen) (hw_aj_2 : okI .i64 aj_2) (hw_aj_3 : (Lit.int .i64 aj_3).wf = true) (hw_aj_4 : (Lit.int .i64 aj_4).wf = true) (hw_aj_5 : (Lit.int .i64 aj_5).wf = true) (hw_aj_6 : (Lit.int .i64 aj_6).wf = true) (hw_aj_7 : (Lit.int .i64 aj_7).wf = true) (hw_ap_0 : (Lit.int .i64 ap_0).wf = true) (hm_ap_1 : ap_1.length ≤ maxLen) (hw_ap_1 : okI .i64 ap_1) :
    Calls Try.prog 8 #[.agg #[.slice A_aj_0 aj_0.length c_aj_0, .slice A_aj_1 aj_1.length c_aj_1, .slice A_aj_2 aj_2.length c_aj_2, .int .i64 aj_3, .int .i64 aj_4, .int .i64 aj_5, .int .i64 aj_6, .int .i64 aj_7], .agg #[.int .i64 ap_0, .slice A_ap_1 ap_1.length c_ap_1]] w fun e w' => e = .returned (.bool true) ∧ Below w.heap.size w w' := by
  have HR_aj_0 := Aside0.mk hr_aj_0
  have HC_aj_0 := Aside0.mk hc_aj_0
  clear hr_aj_0 hc_aj_0
  have HR_aj_1 := Aside0.mk hr_aj_1
  have HC_aj_1 := Aside0.mk hc_aj_1
  clear hr_aj_1 hc_aj_1
  have HR_aj_2 := Aside0.mk hr_aj_2
  have HC_aj_2 := Aside0.mk hc_aj_2
  clear hr_aj_2 hc_aj_2
  have HR_ap_1 := Aside0.mk hr_ap_1
  have HC_ap_1 := Aside0.mk hc_ap_1
  clear hr_ap_1 hc_ap_1
  have HB := Aside0.mk (Below.refl w.heap.size w)
  have hu27 := Try.underlying27
  have hu32 := Try.underlying32
  have hu37 := Try.underlying37
  have hu41 := Try.underlying41
  have HMI_aj_0 := Aside0.mk hi_aj_0
  clear hi_aj_0
  clear hw_aj_0
  clear hw_aj_1
  clear hw_aj_2
  clear hw_ap_1
  have cl1_ : 0 ≤ (1048576 : Int) := by omega
  have cu1_ : (1048576 : Int) ≤ 1048576 := by omega
  obtain ⟨s1, hs_, hsa_, hsb_⟩ := szJob_ev aj_0 aj_1 aj_2 aj_3 aj_4 aj_5 aj_6 aj_7 1048576 cl1_ cu1_ hm_aj_0 HMI_aj_0.out hm_aj_1 hm_aj_2
  obtain ⟨ks_, hs_⟩ := hs_.rounds
  have HS1 := Aside0.mk hs_
  have HSB1 := Aside0.mk hsb_
  clear hs_ hsb_ cl1_ cu1_
  go_enter Try.func8, Try.ntmps8
  go_wp2_with (first | ((with_reducible refine gate_dst (N := 2) rfl ?_); refine box_event ?hg (N := 2) ?hd (cs := #[.slice A_aj_0 aj_0.length c_aj_0, .slice A_aj_1 aj_1.length c_aj_1, .slice A_aj_2 aj_2.length c_aj_2, .int .i64 aj_3, .int .i64 aj_4, .int .i64 aj_5, .int .i64 aj_6, .int .i64 aj_7]) (t := 27) ?hr ?_; (case hd => rfl); (case hg => rfl); (case hr => first | (go_simp; done) | (go_simp; rfl)); intro g_aj hg_ w1_ hbox_ hb_; have hp_ : Below w.heap.size w w1_ := below_step (by repeat (first | exact Below.refl _ _ | (with_reducible apply below_alloc) | (with_reducible apply pw_below_drewN) | (with_reducible apply below_drew1))) hb_; have hz_ : w.heap.size ≤ g_aj := Nat.le_trans (below_size (by repeat (first | exact Below.refl _ _ | (with_reducible apply below_alloc) | (with_reducible apply pw_below_drewN) | (with_reducible apply below_drew1)))) (Nat.le_of_eq hg_.symm); have HZ2 := Aside0.mk (⟨hz_, blk_lt hbox_, hp_.size⟩ : _ ∧ _ ∧ _); have HGW_aj := Aside0.mk (Nat.le_trans HB.out.size hz_ : w.heap.size ≤ g_aj); have HBn_ := Aside0.mk (more HB.out hp_); clear HB; have HB := HBn_; clear HBn_; have BK_aj := Aside0.mk hbox_; have hcz_aj_0 : w1_.cell? ⟨g_aj, 0, none⟩ = some (.slice A_aj_0 aj_0.length c_aj_0) := (blk_cell BK_aj.out 0).trans rfl; have hfz_aj_0 := blk_frozen BK_aj.out 0; have hcz_aj_1 : w1_.cell? ⟨g_aj, 1, none⟩ = some (.slice A_aj_1 aj_1.length c_aj_1) := (blk_cell BK_aj.out 1).trans rfl; have hfz_aj_1 := blk_frozen BK_aj.out 1; have hcz_aj_2 : w1_.cell? ⟨g_aj, 2, none⟩ = some (.slice A_aj_2 aj_2.length c_aj_2) := (blk_cell BK_aj.out 2).trans rfl; have hfz_aj_2 := blk_frozen BK_aj.out 2; have hcz_aj_3 : w1_.cell? ⟨g_aj, 3, none⟩ = some (.int .i64 aj_3) := (blk_cell BK_aj.out 3).trans rfl; have hfz_aj_3 := blk_frozen BK_aj.out 3; have hcz_aj_4 : w1_.cell? ⟨g_aj, 4, none⟩ = some (.int .i64 aj_4) := (blk_cell BK_aj.out 4).trans rfl; have hfz_aj_4 := blk_frozen BK_aj.out 4; have hcz_aj_5 : w1_.cell? ⟨g_aj, 5, none⟩ = some (.int .i64 aj_5) := (blk_cell BK_aj.out 5).trans rfl; have hfz_aj_5 := blk_frozen BK_aj.out 5; have hcz_aj_6 : w1_.cell? ⟨g_aj, 6, none⟩ = some (.int .i64 aj_6) := (blk_cell BK_aj.out 6).trans rfl; have hfz_aj_6 := blk_frozen BK_aj.out 6; have hcz_aj_7 : w1_.cell? ⟨g_aj, 7, none⟩ = some (.int .i64 aj_7) := (blk_cell BK_aj.out 7).trans rfl; have hfz_aj_7 := blk_frozen BK_aj.out 7; clear hg_ hbox_ hb_ hp_ hz_) | ((with_reducible refine gate_dst (N := 3) rfl ?_); refine box_event ?hg (N := 3) ?hd (cs := #[.int .i64 ap_0, .slice A_ap_1 ap_1.length c_ap_1]) (t := 37) ?hr ?_; (case hd => rfl); (case hg => rfl); (case hr => first | (go_simp; done) | (go_simp; rfl)); intro g_ap hg_ w2_ hbox_ hb_; have hp_ : Below w1_.heap.size w1_ w2_ := below_step (by repeat (first | exact Below.refl _ _ | (with_reducible apply below_alloc) | (with_reducible apply pw_below_drewN) | (with_reducible apply below_drew1))) hb_; have hz_ : w1_.heap.size ≤ g_ap := Nat.le_trans (below_size (by repeat (first | exact Below.refl _ _ | (with_reducible apply below_alloc) | (with_reducible apply pw_below_drewN) | (with_reducible apply below_drew1)))) (Nat.le_of_eq hg_.symm); have HZ3 := Aside0.mk (⟨hz_, blk_lt hbox_, hp_.size⟩ : _ ∧ _ ∧ _); have HGW_ap := Aside0.mk (Nat.le_trans HB.out.size hz_ : w.heap.size ≤ g_ap); have hnb_ap_aj : g_ap ≠ g_aj := Nat.ne_of_gt (Nat.lt_of_lt_of_le (blk_lt BK_aj.out) hz_); have hnb_aj_ap : g_aj ≠ g_ap := hnb_ap_aj.symm; have HBn_ := Aside0.mk (more HB.out hp_); clear HB; have HB := HBn_; clear HBn_; clear hcz_aj_0 hfz_aj_0 hcz_aj_1 hfz_aj_1 hcz_aj_2 hfz_aj_2 hcz_aj_3 hfz_aj_3 hcz_aj_4 hfz_aj_4 hcz_aj_5 hfz_aj_5 hcz_aj_6 hfz_aj_6 hcz_aj_7 hfz_aj_7; have X_ := Aside0.mk (blk_below BK_aj.out hp_); clear BK_aj; have BK_aj := X_; clear X_; have hcz_aj_0 : w2_.cell? ⟨g_aj, 0, none⟩ = some (.slice A_aj_0 aj_0.length c_aj_0) := (blk_cell BK_aj.out 0).trans rfl; have hfz_aj_0 := blk_frozen BK_aj.out 0; have hcz_aj_1 : w2_.cell? ⟨g_aj, 1, none⟩ = some (.slice A_aj_1 aj_1.length c_aj_1) := (blk_cell BK_aj.out 1).trans rfl; have hfz_aj_1 := blk_frozen BK_aj.out 1; have hcz_aj_2 : w2_.cell? ⟨g_aj, 2, none⟩ = some (.slice A_aj_2 aj_2.length c_aj_2) := (blk_cell BK_aj.out 2).trans rfl; have hfz_aj_2 := blk_frozen BK_aj.out 2; have hcz_aj_3 : w2_.cell? ⟨g_aj, 3, none⟩ = some (.int .i64 aj_3) := (blk_cell BK_aj.out 3).trans rfl; have hfz_aj_3 := blk_frozen BK_aj.out 3; have hcz_aj_4 : w2_.cell? ⟨g_aj, 4, none⟩ = some (.int .i64 aj_4) := (blk_cell BK_aj.out 4).trans rfl; have hfz_aj_4 := blk_frozen BK_aj.out 4; have hcz_aj_5 : w2_.cell? ⟨g_aj, 5, none⟩ = some (.int .i64 aj_5) := (blk_cell BK_aj.out 5).trans rfl; have hfz_aj_5 := blk_frozen BK_aj.out 5; have hcz_aj_6 : w2_.cell? ⟨g_aj, 6, none⟩ = some (.int .i64 aj_6) := (blk_cell BK_aj.out 6).trans rfl; have hfz_aj_6 := blk_frozen BK_aj.out 6; have hcz_aj_7 : w2_.cell? ⟨g_aj, 7, none⟩ = some (.int .i64 aj_7) := (blk_cell BK_aj.out 7).trans rfl; have hfz_aj_7 := blk_frozen BK_aj.out 7; have BK_ap := Aside0.mk hbox_; have hcz_ap_0 : w2_.cell? ⟨g_ap, 0, none⟩ = some (.int .i64 ap_0) := (blk_cell BK_ap.out 0).trans rfl; have hfz_ap_0 := blk_frozen BK_ap.out 0; have hcz_ap_1 : w2_.cell? ⟨g_ap, 1, none⟩ = some (.slice A_ap_1 ap_1.length c_ap_1) := (blk_cell BK_ap.out 1).trans rfl; have hfz_ap_1 := blk_frozen BK_ap.out 1; clear hg_ hbox_ hb_ hp_ hz_))
  refine (laws_szJob.calls ks_ _ _ aj_0 _ _ aj_1 _ _ aj_2 aj_3 aj_4 aj_5 aj_6 aj_7 1048576 s1 _ (by repeat (first | exact (Kd.C_below HR_aj_0.out HB.out) | (with_reducible refine Kd.C_alloc ?_ _) | (with_reducible refine Kd.C_drewN ?_ _) | (with_reducible refine Kd.C_drew ?_))) HC_aj_0.out (by repeat (first | exact (Kd.C_below HR_aj_1.out HB.out) | (with_reducible refine Kd.C_alloc ?_ _) | (with_reducible refine Kd.C_drewN ?_ _) | (with_reducible refine Kd.C_drew ?_))) HC_aj_1.out (by repeat (first | exact (Kd.C_below HR_aj_2.out HB.out) | (with_reducible refine Kd.C_alloc ?_ _) | (with_reducible refine Kd.C_drewN ?_ _) | (with_reducible refine Kd.C_drew ?_))) HC_aj_2.out HS1.out).mono ?_
  rintro e w3_ ⟨rfl, hd_⟩
  have hb_ := hd_
  clear hd_
  have hp_ : Below w2_.heap.size w2_ w3_ := below_step (by repeat (first | exact Below.refl _ _ | (with_reducible apply below_alloc) | (with_reducible apply pw_below_drewN) | (with_reducible apply below_drew1))) hb_
  have HZ4 := Aside0.mk hp_.size
  have HBn_ := Aside0.mk (more HB.out hp_)
  clear HB
  have HB := HBn_
  clear HBn_
  clear hcz_aj_0 hfz_aj_0 hcz_aj_1 hfz_aj_1 hcz_aj_2 hfz_aj_2 hcz_aj_3 hfz_aj_3 hcz_aj_4 hfz_aj_4 hcz_aj_5 hfz_aj_5 hcz_aj_6 hfz_aj_6 hcz_aj_7 hfz_aj_7
  have X_ := Aside0.mk (blk_below BK_aj.out hp_)
  clear BK_aj
  have BK_aj := X_
  clear X_
  have hcz_aj_0 : w3_.cell? ⟨g_aj, 0, none⟩ = some (.slice A_aj_0 aj_0.length c_aj_0) := (blk_cell BK_aj.out 0).trans rfl
  have hfz_aj_0 := blk_frozen BK_aj.out 0
  have hcz_aj_1 : w3_.cell? ⟨g_aj, 1, none⟩ = some (.slice A_aj_1 aj_1.length c_aj_1) := (blk_cell BK_aj.out 1).trans rfl
  have hfz_aj_1 := blk_frozen BK_aj.out 1
  have hcz_aj_2 : w3_.cell? ⟨g_aj, 2, none⟩ = some (.slice A_aj_2 aj_2.length c_aj_2) := (blk_cell BK_aj.out 2).trans rfl
  have hfz_aj_2 := blk_frozen BK_aj.out 2
  have hcz_aj_3 : w3_.cell? ⟨g_aj, 3, none⟩ = some (.int .i64 aj_3) := (blk_cell BK_aj.out 3).trans rfl
  have hfz_aj_3 := blk_frozen BK_aj.out 3
  have hcz_aj_4 : w3_.cell? ⟨g_aj, 4, none⟩ = some (.int .i64 aj_4) := (blk_cell BK_aj.out 4).trans rfl
  have hfz_aj_4 := blk_frozen BK_aj.out 4
  have hcz_aj_5 : w3_.cell? ⟨g_aj, 5, none⟩ = some (.int .i64 aj_5) := (blk_cell BK_aj.out 5).trans rfl
  have hfz_aj_5 := blk_frozen BK_aj.out 5
  have hcz_aj_6 : w3_.cell? ⟨g_aj, 6, none⟩ = some (.int .i64 aj_6) := (blk_cell BK_aj.out 6).trans rfl
  have hfz_aj_6 := blk_frozen BK_aj.out 6
  have hcz_aj_7 : w3_.cell? ⟨g_aj, 7, none⟩ = some (.int .i64 aj_7) := (blk_cell BK_aj.out 7).trans rfl
  have hfz_aj_7 := blk_frozen BK_aj.out 7
  clear hcz_ap_0 hfz_ap_0 hcz_ap_1 hfz_ap_1
  have X_ := Aside0.mk (blk_below BK_ap.out hp_)
  clear BK_ap
  have BK_ap := X_
  clear X_
  have hcz_ap_0 : w3_.cell? ⟨g_ap, 0, none⟩ = some (.int .i64 ap_0) := (blk_cell BK_ap.out 0).trans rfl
  have hfz_ap_0 := blk_frozen BK_ap.out 0
  have hcz_ap_1 : w3_.cell? ⟨g_ap, 1, none⟩ = some (.slice A_ap_1 ap_1.length c_ap_1) := (blk_cell BK_ap.out 1).trans rfl
  have hfz_ap_1 := blk_frozen BK_ap.out 1
  clear hb_ hp_
  by_cases g_ : s1 < 0
  · have d_ : decide (s1 < 0) = true := decide_eq_true g_
    go_wp2_with fail
    go_ret
    exact ⟨rfl, by repeat (first | exact HB.out | (with_reducible apply below_alloc) | (with_reducible apply pw_below_drewN) | (with_reducible apply below_drew1))⟩
  have d1_ : decide (s1 < 0) = false := decide_eq_false g_
  have hb1_ := HSB1.out (by omega)
  clear HSB1
  have HQ1 := Aside0.mk hb1_
  have ga1 : 0 ≤ s1 := by omega
  clear hb1_ g_
  have b_aj_0 : aj_0.length ≤ 1048576 := by have := HQ1.out; omega
  have HBD_aj_0 := Aside0.mk b_aj_0
  have bi_aj_0 : ∀ z ∈ aj_0, z.length ≤ 1048576 := fun z hz => by have := tot_mem hz; have := HQ1.out; omega
  have HBI_aj_0 := Aside0.mk bi_aj_0
  have HTO_aj_0 : Aside0 (totL aj_0 ≤ 1048576) := ⟨by have := HQ1.out; omega⟩
  clear b_aj_0 bi_aj_0
  have b_aj_1 : aj_1.length ≤ 1048576 := by have := HQ1.out; omega
  have HBD_aj_1 := Aside0.mk b_aj_1
  clear b_aj_1
  have b_aj_2 : aj_2.length ≤ 1048576 := by have := HQ1.out; omega
  have HBD_aj_2 := Aside0.mk b_aj_2
  clear b_aj_2
  have cl5_ : 0 ≤ (s1 : Int) := by omega
  have cu5_ : (s1 : Int) ≤ 1048576 := by omega
  obtain ⟨s5, hs_, hsa_, hsb_⟩ := szPlan_eq ap_0 ap_1 s1 cl5_ cu5_ hm_ap_1
  have HS5 := Aside0.mk hs_
  have HSB5 := Aside0.mk hsb_
  clear hs_ hsb_ cl5_ cu5_
  go_wp2_with fail
  refine (laws_szPlan.calls ap_0 _ _ ap_1 s1 s5 _ (by repeat (first | exact (Kd.C_below HR_ap_1.out HB.out) | (with_reducible refine Kd.C_alloc ?_ _) | (with_reducible refine Kd.C_drewN ?_ _) | (with_reducible refine Kd.C_drew ?_))) HC_ap_1.out HS5.out).mono ?_
  rintro e w4_ ⟨rfl, hd_⟩
  have hb_ := hd_
  clear hd_
  have hp_ : Below w3_.heap.size w3_ w4_ := below_step (by repeat (first | exact Below.refl _ _ | (with_reducible apply below_alloc) | (with_reducible apply pw_below_drewN) | (with_reducible apply below_drew1))) hb_
  have HZ6 := Aside0.mk hp_.size
  have HBn_ := Aside0.mk (more HB.out hp_)
  clear HB
  have HB := HBn_
  clear HBn_
  clear hcz_aj_0 hfz_aj_0 hcz_aj_1 hfz_aj_1 hcz_aj_2 hfz_aj_2 hcz_aj_3 hfz_aj_3 hcz_aj_4 hfz_aj_4 hcz_aj_5 hfz_aj_5 hcz_aj_6 hfz_aj_6 hcz_aj_7 hfz_aj_7
  have X_ := Aside0.mk (blk_below BK_aj.out hp_)
  clear BK_aj
  have BK_aj := X_
  clear X_
  have hcz_aj_0 : w4_.cell? ⟨g_aj, 0, none⟩ = some (.slice A_aj_0 aj_0.length c_aj_0) := (blk_cell BK_aj.out 0).trans rfl
  have hfz_aj_0 := blk_frozen BK_aj.out 0
  have hcz_aj_1 : w4_.cell? ⟨g_aj, 1, none⟩ = some (.slice A_aj_1 aj_1.length c_aj_1) := (blk_cell BK_aj.out 1).trans rfl
  have hfz_aj_1 := blk_frozen BK_aj.out 1
  have hcz_aj_2 : w4_.cell? ⟨g_aj, 2, none⟩ = some (.slice A_aj_2 aj_2.length c_aj_2) := (blk_cell BK_aj.out 2).trans rfl
  have hfz_aj_2 := blk_frozen BK_aj.out 2
  have hcz_aj_3 : w4_.cell? ⟨g_aj, 3, none⟩ = some (.int .i64 aj_3) := (blk_cell BK_aj.out 3).trans rfl
  have hfz_aj_3 := blk_frozen BK_aj.out 3
  have hcz_aj_4 : w4_.cell? ⟨g_aj, 4, none⟩ = some (.int .i64 aj_4) := (blk_cell BK_aj.out 4).trans rfl
  have hfz_aj_4 := blk_frozen BK_aj.out 4
  have hcz_aj_5 : w4_.cell? ⟨g_aj, 5, none⟩ = some (.int .i64 aj_5) := (blk_cell BK_aj.out 5).trans rfl
  have hfz_aj_5 := blk_frozen BK_aj.out 5
  have hcz_aj_6 : w4_.cell? ⟨g_aj, 6, none⟩ = some (.int .i64 aj_6) := (blk_cell BK_aj.out 6).trans rfl
  have hfz_aj_6 := blk_frozen BK_aj.out 6
  have hcz_aj_7 : w4_.cell? ⟨g_aj, 7, none⟩ = some (.int .i64 aj_7) := (blk_cell BK_aj.out 7).trans rfl
  have hfz_aj_7 := blk_frozen BK_aj.out 7
  clear hcz_ap_0 hfz_ap_0 hcz_ap_1 hfz_ap_1
  have X_ := Aside0.mk (blk_below BK_ap.out hp_)
  clear BK_ap
  have BK_ap := X_
  clear X_
  have hcz_ap_0 : w4_.cell? ⟨g_ap, 0, none⟩ = some (.int .i64 ap_0) := (blk_cell BK_ap.out 0).trans rfl
  have hfz_ap_0 := blk_frozen BK_ap.out 0
  have hcz_ap_1 : w4_.cell? ⟨g_ap, 1, none⟩ = some (.slice A_ap_1 ap_1.length c_ap_1) := (blk_cell BK_ap.out 1).trans rfl
  have hfz_ap_1 := blk_frozen BK_ap.out 1
  clear hb_ hp_
  by_cases g_ : s5 < 0
  · have d_ : decide (s5 < 0) = true := decide_eq_true g_
    go_wp2_with fail
    go_ret
    exact ⟨rfl, by repeat (first | exact HB.out | (with_reducible apply below_alloc) | (with_reducible apply pw_below_drewN) | (with_reducible apply below_drew1))⟩
  have d5_ : decide (s5 < 0) = false := decide_eq_false g_
  have hb5_ := HSB5.out (by omega)
  clear HSB5
  have HQ5 := Aside0.mk hb5_
  have ga5 : 0 ≤ s5 := by omega
  clear hb5_ g_
  have b_ap_1 : ap_1.length ≤ 1048576 := by have := HQ5.out; omega
  have HBD_ap_1 := Aside0.mk b_ap_1
  clear b_ap_1
  obtain ⟨r1v, r2v, es_, ei_, hl_r1, hn_r1⟩ := FnExactPitsOfPlan aj_0 aj_1 aj_2 aj_3 aj_4 aj_5 aj_6 aj_7 ap_0 ap_1 HBD_aj_0.out HBI_aj_0.out HBD_aj_1.out HBD_aj_2.out HBD_ap_1.out
  obtain ⟨kes_, h_⟩ := es_.rounds
  have HES := Aside0.mk h_
  clear h_ es_
  obtain ⟨kei_, h_⟩ := ei_.rounds
  have HEI := Aside0.mk h_
  clear h_ ei_
  have HL_r1 := Aside0.mk hl_r1
  clear hl_r1
  have HN_r1 := Aside0.mk hn_r1
  clear hn_r1
  obtain ⟨kt_aJ, h_⟩ := (toJob_ev aj_0 aj_1 aj_2 aj_3 aj_4 aj_5 aj_6 aj_7 HBD_aj_0.out HBI_aj_0.out HBD_aj_1.out HBD_aj_2.out).rounds
  have Hkt_aJ := Aside0.mk h_
  clear h_
  obtain ⟨kq_aJ, h_⟩ := (eqJob_ev aj_0 aj_1 aj_2 aj_3 aj_4 aj_5 aj_6 aj_7 HBD_aj_0.out HBI_aj_0.out HBD_aj_1.out HBD_aj_2.out).rounds
  have Hkq_aJ := Aside0.mk h_
  clear h_
  obtain ⟨kt_aP, h_⟩ := (toPlan_ev ap_0 ap_1 HBD_ap_1.out).rounds
  have Hkt_aP := Aside0.mk h_
  clear h_
  obtain ⟨kq_aP, h_⟩ := (eqPlan_ev ap_0 ap_1 HBD_ap_1.out).rounds
  have Hkq_aP := Aside0.mk h_
  clear h_
  obtain ⟨kgq, h_⟩ := (eqIntSS_ev r1v HL_r1.out HN_r1.out.1).rounds
  have Hkgq := Aside0.mk h_
  clear h_
  go_wp2_with fail
  have hp_ : Below w4_.heap.size w4_ w4_.drew := below_drew1 (Below.refl _ _)
  have HBn_ := Aside0.mk (more HB.out hp_)
  clear HB
  have HB := HBn_
  clear HBn_
  clear hcz_aj_0 hfz_aj_0 hcz_aj_1 hfz_aj_1 hcz_aj_2 hfz_aj_2 hcz_aj_3 hfz_aj_3 hcz_aj_4 hfz_aj_4 hcz_aj_5 hfz_aj_5 hcz_aj_6 hfz_aj_6 hcz_aj_7 hfz_aj_7
  have X_ := Aside0.mk (blk_below BK_aj.out hp_)
  clear BK_aj
  have BK_aj := X_
  clear X_
  clear hcz_ap_0 hfz_ap_0 hcz_ap_1 hfz_ap_1
  have X_ := Aside0.mk (blk_below BK_ap.out hp_)
  clear BK_ap
  have BK_ap := X_
  clear X_
  have HZ7 := Aside0.mk hp_.size
  clear hp_
  refine start_ (n := 10) (S := fun w' => w'.cell? ⟨g_aj, 0, none⟩ = some (.slice A_aj_0 aj_0.length c_aj_0) ∧ w'.cell? ⟨g_aj, 1, none⟩ = some (.slice A_aj_1 aj_1.length c_aj_1) ∧ w'.cell? ⟨g_aj, 2, none⟩ = some (.slice A_aj_2 aj_2.length c_aj_2) ∧ w'.cell? ⟨g_aj, 3, none⟩ = some (.int .i64 aj_3) ∧ w'.cell? ⟨g_aj, 4, none⟩ = some (.int .i64 aj_4) ∧ w'.cell? ⟨g_aj, 5, none⟩ = some (.int .i64 aj_5) ∧ w'.cell? ⟨g_aj, 6, none⟩ = some (.int .i64 aj_6) ∧ w'.cell? ⟨g_aj, 7, none⟩ = some (.int .i64 aj_7) ∧ w'.cell? ⟨g_ap, 0, none⟩ = some (.int .i64 ap_0) ∧ w'.cell? ⟨g_ap, 1, none⟩ = some (.slice A_ap_1 ap_1.length c_ap_1)) (ds := []) #[false, false, false, false, false, false, false, false, false, false] (by kernel_rfl) rfl rfl ⟨(blk_cell BK_aj.out 0).trans rfl, (blk_cell BK_aj.out 1).trans rfl, (blk_cell BK_aj.out 2).trans rfl, (blk_cell BK_aj.out 3).trans rfl, (blk_cell BK_aj.out 4).trans rfl, (blk_cell BK_aj.out 5).trans rfl, (blk_cell BK_aj.out 6).trans rfl, (blk_cell BK_aj.out 7).trans rfl, (blk_cell BK_ap.out 0).trans rfl, (blk_cell BK_ap.out 1).trans rfl⟩ (fun hHeld => ?_)
  generalize w4_.drew = w5_ at HB HZ7 BK_aj BK_ap hHeld ⊢
  refine take_ (i := 0) (N := some 28) (v := ?_) (a' := ?_) #[true, false, false, false, false, false, false, false, false, false] rfl rfl (by kernel_rfl) (fun _ _ _ h => h) (Or.inl ⟨by rfl, ?_⟩) hHeld ?_ ?_
  rotate_left
  · rintro w' ⟨s0, s1, s2, s3, s4, s5, s6, s7, s8, s9⟩
    go_simp
    with_reducible rfl
  rotate_left
  · simp only [Act.put, List.setIfInBounds_toArray, List.set_cons_zero, List.set_cons_succ, i64_w, i32_w]
    rfl
  refine take_ (i := 2) (N := some 30) (v := ?_) (a' := ?_) #[true, false, true, false, false, false, false, false, false, false] rfl rfl (by kernel_rfl) (fun _ _ _ h => h) (Or.inl ⟨by rfl, ?_⟩) hHeld ?_ ?_
  rotate_left
  · rintro w' ⟨s0, s1, s2, s3, s4, s5, s6, s7, s8, s9⟩
    go_simp
    with_reducible rfl
  rotate_left
  · simp only [Act.put, List.setIfInBounds_toArray, List.set_cons_zero, List.set_cons_succ, i64_w, i32_w]
    rfl
  refine one_ (i := 1) (N := some 29) #[true, true, true, false, false, false, false, false, false, false] rfl rfl (by kernel_rfl) (by decide) (fun K hK => ?_)
  refine goes_ Try.func17 (by kernel_rfl) rfl #[.agg #[.slice A_aj_0 aj_0.length c_aj_0, .slice A_aj_1 aj_1.length c_aj_1, .slice A_aj_2 aj_2.length c_aj_2, .int .i64 (aj_3), .int .i64 (aj_4), .int .i64 (aj_5), .int .i64 (aj_6), .int .i64 (aj_7)]] (by rfl) rfl rfl (by (try simp only [List.map_toArray, List.map_cons, List.map_nil]); first | done | rfl | (simp only [List.length_drop, List.length_take]; rfl)) ?_
  refine (laws_toJob.calls kt_aJ _ _ aj_0 _ _ aj_1 _ _ aj_2 aj_3 aj_4 aj_5 aj_6 aj_7 aj_0 aj_1 aj_2 aj_3 aj_4 aj_5 aj_6 aj_7 _ (by repeat (first | exact (Kd.C_below HR_aj_0.out HB.out) | (with_reducible refine Kd.C_alloc ?_ _) | (with_reducible refine Kd.C_drewN ?_ _) | (with_reducible refine Kd.C_drew ?_))) HC_aj_0.out (by repeat (first | exact (Kd.C_below HR_aj_1.out HB.out) | (with_reducible refine Kd.C_alloc ?_ _) | (with_reducible refine Kd.C_drewN ?_ _) | (with_reducible refine Kd.C_drew ?_))) HC_aj_1.out (by repeat (first | exact (Kd.C_below HR_aj_2.out HB.out) | (with_reducible refine Kd.C_alloc ?_ _) | (with_reducible refine Kd.C_drewN ?_ _) | (with_reducible refine Kd.C_drew ?_))) HC_aj_2.out Hkt_aJ.out).mono ?_
  rintro e w6_ ⟨v0_n6, v1_n6, v2_n6, rfl, ho0_, ho1_, ho2_, hb_⟩
  refine ⟨_, rfl, ?_⟩
  have hp_ : Below w5_.heap.size w5_ w6_ := below_step (by repeat (first | exact Below.refl _ _ | (with_reducible apply below_alloc) | (with_reducible apply pw_below_drewN) | (with_reducible apply below_drew1))) hb_
  obtain ⟨B8, H8, eB_, eH_, hi1_, hi2_, hi3_⟩ := spot (W0 := w5_) (by repeat (first | exact Below.refl _ _ | (with_reducible apply below_alloc) | (with_reducible apply pw_below_drewN) | (with_reducible apply below_drew1))) hb_
  have HZ8 := Aside0.mk (⟨hi1_, hi2_, hi3_, hp_.size⟩ : _ ∧ _ ∧ _ ∧ _)
  have N8_0 := Aside0.mk (OwnS.new (W0 := w5_) (b := w.heap.size) (by repeat (first | exact Below.refl _ _ | (with_reducible apply below_alloc) | (with_reducible apply pw_below_drewN) | (with_reducible apply below_drew1))) ho0_ hb_ HB.out.size _ _ eB_ eH_)
  have N8_1 := Aside0.mk (Own.new (W0 := w5_) (b := w.heap.size) (by repeat (first | exact Below.refl _ _ | (with_reducible apply below_alloc) | (with_reducible apply pw_below_drewN) | (with_reducible apply below_drew1))) (tightRow rfl ho1_) hb_ HB.out.size _ _ eB_ eH_)
  have N8_2 := Aside0.mk (Own.new (W0 := w5_) (b := w.heap.size) (by repeat (first | exact Below.refl _ _ | (with_reducible apply below_alloc) | (with_reducible apply pw_below_drewN) | (with_reducible apply below_drew1))) (tightRow rfl ho2_) hb_ HB.out.size _ _ eB_ eH_)
  clear eB_ eH_ hi1_ hi2_ hi3_ ho0_ ho1_ ho2_
  have HBn_ := Aside0.mk (more HB.out hp_)
  clear HB
  have HB := HBn_
  clear HBn_
  have X_ := Aside0.mk (blk_below BK_aj.out hp_)
  clear BK_aj
  have BK_aj := X_
  clear X_
  have X_ := Aside0.mk (blk_below BK_ap.out hp_)
  clear BK_ap
  have BK_ap := X_
  clear X_
  clear hb_ hp_
  have T8_0 := N8_0
  clear N8_0
  obtain ⟨AT8_0, cT8_0, rfl, hc_⟩ := T8_0.out.reads
  have HCT8_0 := Aside0.mk hc_
  clear hc_
  have T8_1 := N8_1
  clear N8_1
  obtain ⟨AT8_1, cT8_1, rfl, hc_⟩ := T8_1.out.reads
  have HCT8_1 := Aside0.mk hc_
  clear hc_
  have T8_2 := N8_2
  clear N8_2
  obtain ⟨AT8_2, cT8_2, rfl, hc_⟩ := T8_2.out.reads
  have HCT8_2 := Aside0.mk hc_
  clear hc_
  refine hK.out _ _ ⟨(blk_cell BK_aj.out 0).trans rfl, (blk_cell BK_aj.out 1).trans rfl, (blk_cell BK_aj.out 2).trans rfl, (blk_cell BK_aj.out 3).trans rfl, (blk_cell BK_aj.out 4).trans rfl, (blk_cell BK_aj.out 5).trans rfl, (blk_cell BK_aj.out 6).trans rfl, (blk_cell BK_aj.out 7).trans rfl, (blk_cell BK_ap.out 0).trans rfl, (blk_cell BK_ap.out 1).trans rfl⟩ (fun hHeld => ?_)
  clear hK K
  refine norm_ (a' := ?_) ?_ ?_
  rotate_left
  · show Act.put _ (some 29) _ = _
    simp only [Act.put, List.setIfInBounds_toArray, List.set_cons_zero, List.set_cons_succ, i64_w, i32_w]
    rfl
  refine one_ (i := 3) (N := some 31) #[true, true, true, true, false, false, false, false, false, false] rfl rfl (by kernel_rfl) (by decide) (fun K hK => ?_)
  refine goes_ Try.func22 (by kernel_rfl) rfl #[.agg #[.int .i64 (ap_0), .slice A_ap_1 ap_1.length c_ap_1]] (by rfl) rfl rfl (by (try simp only [List.map_toArray, List.map_cons, List.map_nil]); first | done | rfl | (simp only [List.length_drop, List.length_take]; rfl)) ?_
  refine (laws_toPlan.calls kt_aP ap_0 _ _ ap_1 ap_0 ap_1 _ (by repeat (first | exact (Kd.C_below HR_ap_1.out HB.out) | (with_reducible refine Kd.C_alloc ?_ _) | (with_reducible refine Kd.C_drewN ?_ _) | (with_reducible refine Kd.C_drew ?_))) HC_ap_1.out Hkt_aP.out).mono ?_
  rintro e w7_ ⟨v1_n7, rfl, ho0_, hb_⟩
  refine ⟨_, rfl, ?_⟩
  have hp_ : Below w6_.heap.size w6_ w7_ := below_step (by repeat (first | exact Below.refl _ _ | (with_reducible apply below_alloc) | (with_reducible apply pw_below_drewN) | (with_reducible apply below_drew1))) hb_
  obtain ⟨B9, H9, eB_, eH_, hi1_, hi2_, hi3_⟩ := spot (W0 := w6_) (by repeat (first | exact Below.refl _ _ | (with_reducible apply below_alloc) | (with_reducible apply pw_below_drewN) | (with_reducible apply below_drew1))) hb_
  have HZ9 := Aside0.mk (⟨hi1_, hi2_, hi3_, hp_.size⟩ : _ ∧ _ ∧ _ ∧ _)
  have N9_0 := Aside0.mk (Own.new (W0 := w6_) (b := w.heap.size) (by repeat (first | exact Below.refl _ _ | (with_reducible apply below_alloc) | (with_reducible apply pw_below_drewN) | (with_reducible apply below_drew1))) ho0_ hb_ HB.out.size _ _ eB_ eH_)
  clear eB_ eH_ hi1_ hi2_ hi3_ ho0_
  have HBn_ := Aside0.mk (more HB.out hp_)
  clear HB
  have HB := HBn_
  clear HBn_
  have X_ := Aside0.mk (T8_0.out.step hp_)
  clear T8_0
  have T8_0 := X_
  clear X_
  have X_ := Aside0.mk (T8_1.out.step hp_)
  clear T8_1
  have T8_1 := X_
  clear X_
  have X_ := Aside0.mk (T8_2.out.step hp_)
  clear T8_2
  have T8_2 := X_
  clear X_
  have X_ := Aside0.mk (blk_below BK_aj.out hp_)
  clear BK_aj
  have BK_aj := X_
  clear X_
  have X_ := Aside0.mk (blk_below BK_ap.out hp_)
  clear BK_ap
  have BK_ap := X_
  clear X_
  clear hb_ hp_
  have T9_0 := N9_0
  clear N9_0
  obtain ⟨AT9_0, cT9_0, rfl, hc_⟩ := T9_0.out.reads
  have HCT9_0 := Aside0.mk hc_
  clear hc_
  refine hK.out _ _ ⟨(blk_cell BK_aj.out 0).trans rfl, (blk_cell BK_aj.out 1).trans rfl, (blk_cell BK_aj.out 2).trans rfl, (blk_cell BK_aj.out 3).trans rfl, (blk_cell BK_aj.out 4).trans rfl, (blk_cell BK_aj.out 5).trans rfl, (blk_cell BK_aj.out 6).trans rfl, (blk_cell BK_aj.out 7).trans rfl, (blk_cell BK_ap.out 0).trans rfl, (blk_cell BK_ap.out 1).trans rfl⟩ (fun hHeld => ?_)
  clear hK K
  refine norm_ (a' := ?_) ?_ ?_
  rotate_left
  · show Act.put _ (some 31) _ = _
    simp only [Act.put, List.setIfInBounds_toArray, List.set_cons_zero, List.set_cons_succ, i64_w, i32_w]
    rfl
  refine one_ (i := 4) (N := some 32) #[true, true, true, true, true, false, false, false, false, false] rfl rfl (by kernel_rfl) (by decide) (fun K hK => ?_)
  refine goes_ Try.func34 (by kernel_rfl) rfl #[.agg #[.slice AT8_0 aj_0.length cT8_0, .slice AT8_1 aj_1.length cT8_1, .slice AT8_2 aj_2.length cT8_2, .int .i64 (aj_3), .int .i64 (aj_4), .int .i64 (aj_5), .int .i64 (aj_6), .int .i64 (aj_7)], .agg #[.int .i64 (ap_0), .slice AT9_0 ap_1.length cT9_0]] (by rfl) rfl rfl (by (try simp only [List.map_toArray, List.map_cons, List.map_nil]); first | done | rfl | (simp only [List.length_drop, List.length_take]; rfl)) ?_
  refine (spec_PitsOfPlan.calls kes_ _ _ aj_0 _ _ aj_1 _ _ aj_2 aj_3 aj_4 aj_5 aj_6 aj_7 ap_0 _ _ ap_1 r1v r2v _ (by repeat (first | exact T8_0.out.C | (with_reducible refine Kd.C_alloc ?_ _) | (with_reducible refine Kd.C_drewN ?_ _) | (with_reducible refine Kd.C_drew ?_))) HCT8_0.out (by repeat (first | exact T8_1.out.C | (with_reducible refine Kd.C_alloc ?_ _) | (with_reducible refine Kd.C_drewN ?_ _) | (with_reducible refine Kd.C_drew ?_))) HCT8_1.out (by repeat (first | exact T8_2.out.C | (with_reducible refine Kd.C_alloc ?_ _) | (with_reducible refine Kd.C_drewN ?_ _) | (with_reducible refine Kd.C_drew ?_))) HCT8_2.out (by repeat (first | exact T9_0.out.C | (with_reducible refine Kd.C_alloc ?_ _) | (with_reducible refine Kd.C_drewN ?_ _) | (with_reducible refine Kd.C_drew ?_))) HCT9_0.out HES.out).mono ?_
  rintro e w8_ ⟨v0_n8, rfl, ho0_, hb_⟩
  refine ⟨_, rfl, ?_⟩
  have hp_ : Below w7_.heap.size w7_ w8_ := below_step (by repeat (first | exact Below.refl _ _ | (with_reducible apply below_alloc) | (with_reducible apply pw_below_drewN) | (with_reducible apply below_drew1))) hb_
  obtain ⟨B10, H10, eB_, eH_, hi1_, hi2_, hi3_⟩ := spot (W0 := w7_) (by repeat (first | exact Below.refl _ _ | (with_reducible apply below_alloc) | (with_reducible apply pw_below_drewN) | (with_reducible apply below_drew1))) hb_
  have HZ10 := Aside0.mk (⟨hi1_, hi2_, hi3_, hp_.size⟩ : _ ∧ _ ∧ _ ∧ _)
  have N10_0 := Aside0.mk (OwnS.new (W0 := w7_) (b := w.heap.size) (by repeat (first | exact Below.refl _ _ | (with_reducible apply below_alloc) | (with_reducible apply pw_below_drewN) | (with_reducible apply below_drew1))) ho0_ hb_ HB.out.size _ _ eB_ eH_)
  clear eB_ eH_ hi1_ hi2_ hi3_ ho0_
  have HBn_ := Aside0.mk (more HB.out hp_)
  clear HB
  have HB := HBn_
  clear HBn_
  have X_ := Aside0.mk (T8_0.out.step hp_)
  clear T8_0
  have T8_0 := X_
  clear X_
  have X_ := Aside0.mk (T8_1.out.step hp_)
  clear T8_1
  have T8_1 := X_
  clear X_
  have X_ := Aside0.mk (T8_2.out.step hp_)
  clear T8_2
  have T8_2 := X_
  clear X_
  have X_ := Aside0.mk (T9_0.out.step hp_)
  clear T9_0
  have T9_0 := X_
  clear X_
  have X_ := Aside0.mk (blk_below BK_aj.out hp_)
  clear BK_aj
  have BK_aj := X_
  clear X_
  have X_ := Aside0.mk (blk_below BK_ap.out hp_)
  clear BK_ap
  have BK_ap := X_
  clear X_
  clear hb_ hp_
  have Vw0 := N10_0
  clear N10_0
  obtain ⟨AVw0, cVw0, rfl, hc_⟩ := Vw0.out.reads
  have HCVw0 := Aside0.mk hc_
  clear hc_
  refine hK.out _ _ ⟨(blk_cell BK_aj.out 0).trans rfl, (blk_cell BK_aj.out 1).trans rfl, (blk_cell BK_aj.out 2).trans rfl, (blk_cell BK_aj.out 3).trans rfl, (blk_cell BK_aj.out 4).trans rfl, (blk_cell BK_aj.out 5).trans rfl, (blk_cell BK_aj.out 6).trans rfl, (blk_cell BK_aj.out 7).trans rfl, (blk_cell BK_ap.out 0).trans rfl, (blk_cell BK_ap.out 1).trans rfl⟩ (fun hHeld => ?_)
  clear hK K
  refine norm_ (a' := ?_) ?_ ?_
  rotate_left
  · show Act.put _ (some 32) _ = _
    simp only [Act.put, List.setIfInBounds_toArray, List.set_cons_zero, List.set_cons_succ, i64_w, i32_w]
    rfl
  refine pure_ (i := 5) (N := some 27) (v := ?_) (a' := ?_) #[true, true, true, true, true, true, false, false, false, false] rfl rfl (by kernel_rfl) (fun _ _ _ h => h) (Or.inl ⟨by rfl, ?_⟩) ?_ ?_
  rotate_left
  · intro w'
    go_simp
    with_reducible rfl
  rotate_left
  · simp only [Act.put, List.setIfInBounds_toArray, List.set_cons_zero, List.set_cons_succ, i64_w, i32_w]
    rfl
  refine pure_ (i := 6) (N := some 33) (v := ?_) (a' := ?_) #[true, true, true, true, true, true, true, false, false, false] rfl rfl (by kernel_rfl) (fun _ _ _ h => h) (Or.inl ⟨by rfl, ?_⟩) ?_ ?_
  rotate_left
  · intro w'
    go_simp
    with_reducible rfl
  rotate_left
  · simp only [Act.put, List.setIfInBounds_toArray, List.set_cons_zero, List.set_cons_succ, i64_w, i32_w]
    rfl
  refine pure_ (i := 7) (N := some 34) (v := ?_) (a' := ?_) #[true, true, true, true, true, true, true, true, false, false] rfl rfl (by kernel_rfl) (fun _ _ _ h => h) (Or.inl ⟨by rfl, ?_⟩) ?_ ?_
  rotate_left
  · intro w'
    go_simp
    with_reducible rfl
  rotate_left
  · simp only [Act.put, List.setIfInBounds_toArray, List.set_cons_zero, List.set_cons_succ, i64_w, i32_w]
    rfl
  refine pure_ (i := 8) (N := some 6) (v := ?_) (a' := ?_) #[true, true, true, true, true, true, true, true, true, false] rfl rfl (by kernel_rfl) (fun _ _ _ h => h) (Or.inl ⟨by rfl, ?_⟩) ?_ ?_
  rotate_left
  · intro w'
    go_simp
    with_reducible rfl
  rotate_left
  · simp only [Act.put, List.setIfInBounds_toArray, List.set_cons_zero, List.set_cons_succ, i64_w, i32_w]
    rfl
  refine pure_ (i := 9) (N := some 7) (v := ?_) (a' := ?_) #[true, true, true, true, true, true, true, true, true, true] rfl rfl (by kernel_rfl) (fun _ _ _ h => h) (Or.inl ⟨by rfl, ?_⟩) ?_ ?_
  rotate_left
  · intro w'
    go_simp
    with_reducible rfl
  rotate_left
  · simp only [Act.put, List.setIfInBounds_toArray, List.set_cons_zero, List.set_cons_succ, i64_w, i32_w]
    rfl
  refine done_ (by kernel_rfl) ?_
  have hcz_aj_0 : w8_.cell? ⟨g_aj, 0, none⟩ = some (.slice A_aj_0 aj_0.length c_aj_0) := (blk_cell BK_aj.out 0).trans rfl
  have hfz_aj_0 := blk_frozen BK_aj.out 0
  have hcz_aj_1 : w8_.cell? ⟨g_aj, 1, none⟩ = some (.slice A_aj_1 aj_1.length c_aj_1) := (blk_cell BK_aj.out 1).trans rfl
  have hfz_aj_1 := blk_frozen BK_aj.out 1
  have hcz_aj_2 : w8_.cell? ⟨g_aj, 2, none⟩ = some (.slice A_aj_2 aj_2.length c_aj_2) := (blk_cell BK_aj.out 2).trans rfl
  have hfz_aj_2 := blk_frozen BK_aj.out 2
  have hcz_aj_3 : w8_.cell? ⟨g_aj, 3, none⟩ = some (.int .i64 aj_3) := (blk_cell BK_aj.out 3).trans rfl
  have hfz_aj_3 := blk_frozen BK_aj.out 3
  have hcz_aj_4 : w8_.cell? ⟨g_aj, 4, none⟩ = some (.int .i64 aj_4) := (blk_cell BK_aj.out 4).trans rfl
  have hfz_aj_4 := blk_frozen BK_aj.out 4
  have hcz_aj_5 : w8_.cell? ⟨g_aj, 5, none⟩ = some (.int .i64 aj_5) := (blk_cell BK_aj.out 5).trans rfl
  have hfz_aj_5 := blk_frozen BK_aj.out 5
  have hcz_aj_6 : w8_.cell? ⟨g_aj, 6, none⟩ = some (.int .i64 aj_6) := (blk_cell BK_aj.out 6).trans rfl
  have hfz_aj_6 := blk_frozen BK_aj.out 6
  have hcz_aj_7 : w8_.cell? ⟨g_aj, 7, none⟩ = some (.int .i64 aj_7) := (blk_cell BK_aj.out 7).trans rfl
  have hfz_aj_7 := blk_frozen BK_aj.out 7
  have hcz_ap_0 : w8_.cell? ⟨g_ap, 0, none⟩ = some (.int .i64 ap_0) := (blk_cell BK_ap.out 0).trans rfl
  have hfz_ap_0 := blk_frozen BK_ap.out 0
  have hcz_ap_1 : w8_.cell? ⟨g_ap, 1, none⟩ = some (.slice A_ap_1 ap_1.length c_ap_1) := (blk_cell BK_ap.out 1).trans rfl
  have hfz_ap_1 := blk_frozen BK_ap.out 1
  clear T8_0 HCT8_0
  clear T8_1 HCT8_1
  clear T8_2 HCT8_2
  clear T9_0 HCT9_0
  go_wp2_with fail
  refine (laws_toJob.calls kt_aJ _ _ aj_0 _ _ aj_1 _ _ aj_2 aj_3 aj_4 aj_5 aj_6 aj_7 aj_0 aj_1 aj_2 aj_3 aj_4 aj_5 aj_6 aj_7 _ (by repeat (first | exact (Kd.C_below HR_aj_0.out HB.out) | (with_reducible refine Kd.C_alloc ?_ _) | (with_reducible refine Kd.C_drewN ?_ _) | (with_reducible refine Kd.C_drew ?_))) HC_aj_0.out (by repeat (first | exact (Kd.C_below HR_aj_1.out HB.out) | (with_reducible refine Kd.C_alloc ?_ _) | (with_reducible refine Kd.C_drewN ?_ _) | (with_reducible refine Kd.C_drew ?_))) HC_aj_1.out (by repeat (first | exact (Kd.C_below HR_aj_2.out HB.out) | (with_reducible refine Kd.C_alloc ?_ _) | (with_reducible refine Kd.C_drewN ?_ _) | (with_reducible refine Kd.C_drew ?_))) HC_aj_2.out Hkt_aJ.out).mono ?_
  rintro e w9_ ⟨v0_n9, v1_n9, v2_n9, rfl, ho0_, ho1_, ho2_, hb_⟩
  have hp_ : Below w8_.heap.size w8_ w9_ := below_step (by repeat (first | exact Below.refl _ _ | (with_reducible apply below_alloc) | (with_reducible apply pw_below_drewN) | (with_reducible apply below_drew1))) hb_
  obtain ⟨B11, H11, eB_, eH_, hi1_, hi2_, hi3_⟩ := spot (W0 := w8_) (by repeat (first | exact Below.refl _ _ | (with_reducible apply below_alloc) | (with_reducible apply pw_below_drewN) | (with_reducible apply below_drew1))) hb_
  have HZ11 := Aside0.mk (⟨hi1_, hi2_, hi3_, hp_.size⟩ : _ ∧ _ ∧ _ ∧ _)
  have N11_0 := Aside0.mk (OwnS.new (W0 := w8_) (b := w.heap.size) (by repeat (first | exact Below.refl _ _ | (with_reducible apply below_alloc) | (with_reducible apply pw_below_drewN) | (with_reducible apply below_drew1))) ho0_ hb_ HB.out.size _ _ eB_ eH_)
  have N11_1 := Aside0.mk (Own.new (W0 := w8_) (b := w.heap.size) (by repeat (first | exact Below.refl _ _ | (with_reducible apply below_alloc) | (with_reducible apply pw_below_drewN) | (with_reducible apply below_drew1))) (tightRow rfl ho1_) hb_ HB.out.size _ _ eB_ eH_)
  have N11_2 := Aside0.mk (Own.new (W0 := w8_) (b := w.heap.size) (by repeat (first | exact Below.refl _ _ | (with_reducible apply below_alloc) | (with_reducible apply pw_below_drewN) | (with_reducible apply below_drew1))) (tightRow rfl ho2_) hb_ HB.out.size _ _ eB_ eH_)
  clear eB_ eH_ hi1_ hi2_ hi3_ ho0_ ho1_ ho2_
  have HBn_ := Aside0.mk (more HB.out hp_)
  clear HB
  have HB := HBn_
  clear HBn_
  have X_ := Aside0.mk (Vw0.out.step hp_)
  clear Vw0
  have Vw0 := X_
  clear X_
  clear hcz_aj_0 hfz_aj_0 hcz_aj_1 hfz_aj_1 hcz_aj_2 hfz_aj_2 hcz_aj_3 hfz_aj_3 hcz_aj_4 hfz_aj_4 hcz_aj_5 hfz_aj_5 hcz_aj_6 hfz_aj_6 hcz_aj_7 hfz_aj_7
  have X_ := Aside0.mk (blk_below BK_aj.out hp_)
  clear BK_aj
  have BK_aj := X_
  clear X_
  have hcz_aj_0 : w9_.cell? ⟨g_aj, 0, none⟩ = some (.slice A_aj_0 aj_0.length c_aj_0) := (blk_cell BK_aj.out 0).trans rfl
  have hfz_aj_0 := blk_frozen BK_aj.out 0
  have hcz_aj_1 : w9_.cell? ⟨g_aj, 1, none⟩ = some (.slice A_aj_1 aj_1.length c_aj_1) := (blk_cell BK_aj.out 1).trans rfl
  have hfz_aj_1 := blk_frozen BK_aj.out 1
  have hcz_aj_2 : w9_.cell? ⟨g_aj, 2, none⟩ = some (.slice A_aj_2 aj_2.length c_aj_2) := (blk_cell BK_aj.out 2).trans rfl
  have hfz_aj_2 := blk_frozen BK_aj.out 2
  have hcz_aj_3 : w9_.cell? ⟨g_aj, 3, none⟩ = some (.int .i64 aj_3) := (blk_cell BK_aj.out 3).trans rfl
  have hfz_aj_3 := blk_frozen BK_aj.out 3
  have hcz_aj_4 : w9_.cell? ⟨g_aj, 4, none⟩ = some (.int .i64 aj_4) := (blk_cell BK_aj.out 4).trans rfl
  have hfz_aj_4 := blk_frozen BK_aj.out 4
  have hcz_aj_5 : w9_.cell? ⟨g_aj, 5, none⟩ = some (.int .i64 aj_5) := (blk_cell BK_aj.out 5).trans rfl
  have hfz_aj_5 := blk_frozen BK_aj.out 5
  have hcz_aj_6 : w9_.cell? ⟨g_aj, 6, none⟩ = some (.int .i64 aj_6) := (blk_cell BK_aj.out 6).trans rfl
  have hfz_aj_6 := blk_frozen BK_aj.out 6
  have hcz_aj_7 : w9_.cell? ⟨g_aj, 7, none⟩ = some (.int .i64 aj_7) := (blk_cell BK_aj.out 7).trans rfl
  have hfz_aj_7 := blk_frozen BK_aj.out 7
  clear hcz_ap_0 hfz_ap_0 hcz_ap_1 hfz_ap_1
  have X_ := Aside0.mk (blk_below BK_ap.out hp_)
  clear BK_ap
  have BK_ap := X_
  clear X_
  have hcz_ap_0 : w9_.cell? ⟨g_ap, 0, none⟩ = some (.int .i64 ap_0) := (blk_cell BK_ap.out 0).trans rfl
  have hfz_ap_0 := blk_frozen BK_ap.out 0
  have hcz_ap_1 : w9_.cell? ⟨g_ap, 1, none⟩ = some (.slice A_ap_1 ap_1.length c_ap_1) := (blk_cell BK_ap.out 1).trans rfl
  have hfz_ap_1 := blk_frozen BK_ap.out 1
  clear hb_ hp_
  have Vx00 := N11_0
  clear N11_0
  obtain ⟨AVx00, cVx00, rfl, hc_⟩ := Vx00.out.reads
  have HCVx00 := Aside0.mk hc_
  clear hc_
  have Vx01 := N11_1
  clear N11_1
  obtain ⟨AVx01, cVx01, rfl, hc_⟩ := Vx01.out.reads
  have HCVx01 := Aside0.mk hc_
  clear hc_
  have Vx02 := N11_2
  clear N11_2
  obtain ⟨AVx02, cVx02, rfl, hc_⟩ := Vx02.out.reads
  have HCVx02 := Aside0.mk hc_
  clear hc_
  go_wp2_with (first | ((with_reducible refine gate_dst (N := 8) rfl ?_); refine box_event ?hg (N := 8) ?hd (cs := #[.slice none 0 0, .slice none 0 0, .slice none 0 0, .int .i64 0, .int .i64 0, .int .i64 0, .int .i64 0, .int .i64 0]) (t := 32) ?hr ?_; (case hd => rfl); (case hg => rfl); (case hr => first | (go_simp; done) | (go_simp; rfl)); intro g_x0 hg_ w10_ hbox_ hb_; have hp_ : Below w9_.heap.size w9_ w10_ := below_step (by repeat (first | exact Below.refl _ _ | (with_reducible apply below_alloc) | (with_reducible apply pw_below_drewN) | (with_reducible apply below_drew1))) hb_; have hz_ : w9_.heap.size ≤ g_x0 := Nat.le_trans (below_size (by repeat (first | exact Below.refl _ _ | (with_reducible apply below_alloc) | (with_reducible apply pw_below_drewN) | (with_reducible apply below_drew1)))) (Nat.le_of_eq hg_.symm); have HZ12 := Aside0.mk (⟨hz_, blk_lt hbox_, hp_.size⟩ : _ ∧ _ ∧ _); have HGW_x0 := Aside0.mk (Nat.le_trans HB.out.size hz_ : w.heap.size ≤ g_x0); have hnb_x0_aj : g_x0 ≠ g_aj := Nat.ne_of_gt (Nat.lt_of_lt_of_le (blk_lt BK_aj.out) hz_); have hnb_aj_x0 : g_aj ≠ g_x0 := hnb_x0_aj.symm; have hnb_x0_ap : g_x0 ≠ g_ap := Nat.ne_of_gt (Nat.lt_of_lt_of_le (blk_lt BK_ap.out) hz_); have hnb_ap_x0 : g_ap ≠ g_x0 := hnb_x0_ap.symm; have HBn_ := Aside0.mk (more HB.out hp_); clear HB; have HB := HBn_; clear HBn_; have X_ := Aside0.mk (Vw0.out.step hp_); clear Vw0; have Vw0 := X_; clear X_; have X_ := Aside0.mk (Vx00.out.step hp_); clear Vx00; have Vx00 := X_; clear X_; have X_ := Aside0.mk (Vx01.out.step hp_); clear Vx01; have Vx01 := X_; clear X_; have X_ := Aside0.mk (Vx02.out.step hp_); clear Vx02; have Vx02 := X_; clear X_; clear hcz_aj_0 hfz_aj_0 hcz_aj_1 hfz_aj_1 hcz_aj_2 hfz_aj_2 hcz_aj_3 hfz_aj_3 hcz_aj_4 hfz_aj_4 hcz_aj_5 hfz_aj_5 hcz_aj_6 hfz_aj_6 hcz_aj_7 hfz_aj_7; have X_ := Aside0.mk (blk_below BK_aj.out hp_); clear BK_aj; have BK_aj := X_; clear X_; have hcz_aj_0 : w10_.cell? ⟨g_aj, 0, none⟩ = some (.slice A_aj_0 aj_0.length c_aj_0) := (blk_cell BK_aj.out 0).trans rfl; have hfz_aj_0 := blk_frozen BK_aj.out 0; have hcz_aj_1 : w10_.cell? ⟨g_aj, 1, none⟩ = some (.slice A_aj_1 aj_1.length c_aj_1) := (blk_cell BK_aj.out 1).trans rfl; have hfz_aj_1 := blk_frozen BK_aj.out 1; have hcz_aj_2 : w10_.cell? ⟨g_aj, 2, none⟩ = some (.slice A_aj_2 aj_2.length c_aj_2) := (blk_cell BK_aj.out 2).trans rfl; have hfz_aj_2 := blk_frozen BK_aj.out 2; have hcz_aj_3 : w10_.cell? ⟨g_aj, 3, none⟩ = some (.int .i64 aj_3) := (blk_cell BK_aj.out 3).trans rfl; have hfz_aj_3 := blk_frozen BK_aj.out 3; have hcz_aj_4 : w10_.cell? ⟨g_aj, 4, none⟩ = some (.int .i64 aj_4) := (blk_cell BK_aj.out 4).trans rfl; have hfz_aj_4 := blk_frozen BK_aj.out 4; have hcz_aj_5 : w10_.cell? ⟨g_aj, 5, none⟩ = some (.int .i64 aj_5) := (blk_cell BK_aj.out 5).trans rfl; have hfz_aj_5 := blk_frozen BK_aj.out 5; have hcz_aj_6 : w10_.cell? ⟨g_aj, 6, none⟩ = some (.int .i64 aj_6) := (blk_cell BK_aj.out 6).trans rfl; have hfz_aj_6 := blk_frozen BK_aj.out 6; have hcz_aj_7 : w10_.cell? ⟨g_aj, 7, none⟩ = some (.int .i64 aj_7) := (blk_cell BK_aj.out 7).trans rfl; have hfz_aj_7 := blk_frozen BK_aj.out 7; clear hcz_ap_0 hfz_ap_0 hcz_ap_1 hfz_ap_1; have X_ := Aside0.mk (blk_below BK_ap.out hp_); clear BK_ap; have BK_ap := X_; clear X_; have hcz_ap_0 : w10_.cell? ⟨g_ap, 0, none⟩ = some (.int .i64 ap_0) := (blk_cell BK_ap.out 0).trans rfl; have hfz_ap_0 := blk_frozen BK_ap.out 0; have hcz_ap_1 : w10_.cell? ⟨g_ap, 1, none⟩ = some (.slice A_ap_1 ap_1.length c_ap_1) := (blk_cell BK_ap.out 1).trans rfl; have hfz_ap_1 := blk_frozen BK_ap.out 1; have BK_x0 := Aside0.mk hbox_; have hcz_x0_0 : w10_.cell? ⟨g_x0, 0, none⟩ = some (.slice none 0 0) := (blk_cell BK_x0.out 0).trans rfl; have hfz_x0_0 := blk_frozen BK_x0.out 0; have hcz_x0_1 : w10_.cell? ⟨g_x0, 1, none⟩ = some (.slice none 0 0) := (blk_cell BK_x0.out 1).trans rfl; have hfz_x0_1 := blk_frozen BK_x0.out 1; have hcz_x0_2 : w10_.cell? ⟨g_x0, 2, none⟩ = some (.slice none 0 0) := (blk_cell BK_x0.out 2).trans rfl; have hfz_x0_2 := blk_frozen BK_x0.out 2; have hcz_x0_3 : w10_.cell? ⟨g_x0, 3, none⟩ = some (.int .i64 0) := (blk_cell BK_x0.out 3).trans rfl; have hfz_x0_3 := blk_frozen BK_x0.out 3; have hcz_x0_4 : w10_.cell? ⟨g_x0, 4, none⟩ = some (.int .i64 0) := (blk_cell BK_x0.out 4).trans rfl; have hfz_x0_4 := blk_frozen BK_x0.out 4; have hcz_x0_5 : w10_.cell? ⟨g_x0, 5, none⟩ = some (.int .i64 0) := (blk_cell BK_x0.out 5).trans rfl; have hfz_x0_5 := blk_frozen BK_x0.out 5; have hcz_x0_6 : w10_.cell? ⟨g_x0, 6, none⟩ = some (.int .i64 0) := (blk_cell BK_x0.out 6).trans rfl; have hfz_x0_6 := blk_frozen BK_x0.out 6; have hcz_x0_7 : w10_.cell? ⟨g_x0, 7, none⟩ = some (.int .i64 0) := (blk_cell BK_x0.out 7).trans rfl; have hfz_x0_7 := blk_frozen BK_x0.out 7; clear hg_ hbox_ hb_ hp_ hz_))
  obtain ⟨w11_, ew_⟩ : ∃ w_ : World, w_ = (World.setCell (World.setCell (World.setCell (World.setCell (World.setCell (World.setCell (World.setCell (World.setCell w10_ ⟨g_x0, 0, none⟩ (.slice AVx00 aj_0.length cVx00)) ⟨g_x0, 1, none⟩ (.slice AVx01 aj_1.length cVx01)) ⟨g_x0, 2, none⟩ (.slice AVx02 aj_2.length cVx02)) ⟨g_x0, 3, none⟩ (.int .i64 aj_3)) ⟨g_x0, 4, none⟩ (.int .i64 aj_4)) ⟨g_x0, 5, none⟩ (.int .i64 aj_5)) ⟨g_x0, 6, none⟩ (.int .i64 aj_6)) ⟨g_x0, 7, none⟩ (.int .i64 aj_7)) := ⟨_, rfl⟩
  rw [← ew_]
  have hbk_ : w11_.heap[g_x0]? = some (.cells #[.slice AVx00 aj_0.length cVx00, .slice AVx01 aj_1.length cVx01, .slice AVx02 aj_2.length cVx02, .int .i64 aj_3, .int .i64 aj_4, .int .i64 aj_5, .int .i64 aj_6, .int .i64 aj_7] 32 (0, 0)) := by rw [ew_]; exact blk_set (blk_set (blk_set (blk_set (blk_set (blk_set (blk_set (blk_set (BK_x0.out) 0 (.slice AVx00 aj_0.length cVx00)) 1 (.slice AVx01 aj_1.length cVx01)) 2 (.slice AVx02 aj_2.length cVx02)) 3 (.int .i64 aj_3)) 4 (.int .i64 aj_4)) 5 (.int .i64 aj_5)) 6 (.int .i64 aj_6)) 7 (.int .i64 aj_7)
  have hk_ : Kept w10_ w11_ (fun k_ => k_ = g_x0) := by rw [ew_]; exact Kept.setCell (Kept.setCell (Kept.setCell (Kept.setCell (Kept.setCell (Kept.setCell (Kept.setCell (Kept.setCell (Kept.refl _ (fun k_ => k_ = g_x0)) (Or.inl rfl) (.slice AVx00 aj_0.length cVx00)) (Or.inl rfl) (.slice AVx01 aj_1.length cVx01)) (Or.inl rfl) (.slice AVx02 aj_2.length cVx02)) (Or.inl rfl) (.int .i64 aj_3)) (Or.inl rfl) (.int .i64 aj_4)) (Or.inl rfl) (.int .i64 aj_5)) (Or.inl rfl) (.int .i64 aj_6)) (Or.inl rfl) (.int .i64 aj_7)
  have hb_ : Below w.heap.size w w11_ := by rw [ew_]; exact below_set (below_set (below_set (below_set (below_set (below_set (below_set (below_set (HB.out) HGW_x0.out) HGW_x0.out) HGW_x0.out) HGW_x0.out) HGW_x0.out) HGW_x0.out) HGW_x0.out) HGW_x0.out
  have HZ13 := Aside0.mk hk_.1
  clear ew_ HB
  have HB := Aside0.mk hb_
  have X_ := Aside0.mk (Vw0.out.kept hk_ (fun k h1_ h2_ h3_ => by have z0 := HZ2.out; have z1 := HZ3.out; have z2 := HZ4.out; have z3 := HZ6.out; have z4 := HZ7.out; have z5 := HZ8.out; have z6 := HZ9.out; have z7 := HZ10.out; have z8 := HZ11.out; have z9 := HZ12.out; have z10 := HZ13.out; omega))
  clear Vw0
  have Vw0 := X_
  clear X_
  have X_ := Aside0.mk (Vx00.out.kept hk_ (fun k h1_ h2_ h3_ => by have z0 := HZ2.out; have z1 := HZ3.out; have z2 := HZ4.out; have z3 := HZ6.out; have z4 := HZ7.out; have z5 := HZ8.out; have z6 := HZ9.out; have z7 := HZ10.out; have z8 := HZ11.out; have z9 := HZ12.out; have z10 := HZ13.out; omega))
  clear Vx00
  have Vx00 := X_
  clear X_
  have X_ := Aside0.mk (Vx01.out.kept hk_ (fun k h1_ h2_ h3_ => by have z0 := HZ2.out; have z1 := HZ3.out; have z2 := HZ4.out; have z3 := HZ6.out; have z4 := HZ7.out; have z5 := HZ8.out; have z6 := HZ9.out; have z7 := HZ10.out; have z8 := HZ11.out; have z9 := HZ12.out; have z10 := HZ13.out; omega))
  clear Vx01
  have Vx01 := X_
  clear X_
  have X_ := Aside0.mk (Vx02.out.kept hk_ (fun k h1_ h2_ h3_ => by have z0 := HZ2.out; have z1 := HZ3.out; have z2 := HZ4.out; have z3 := HZ6.out; have z4 := HZ7.out; have z5 := HZ8.out; have z6 := HZ9.out; have z7 := HZ10.out; have z8 := HZ11.out; have z9 := HZ12.out; have z10 := HZ13.out; omega))
  clear Vx02
  have Vx02 := X_
  clear X_
  clear hcz_x0_0 hfz_x0_0 hcz_x0_1 hfz_x0_1 hcz_x0_2 hfz_x0_2 hcz_x0_3 hfz_x0_3 hcz_x0_4 hfz_x0_4 hcz_x0_5 hfz_x0_5 hcz_x0_6 hfz_x0_6 hcz_x0_7 hfz_x0_7
  clear hcz_aj_0 hfz_aj_0 hcz_aj_1 hfz_aj_1 hcz_aj_2 hfz_aj_2 hcz_aj_3 hfz_aj_3 hcz_aj_4 hfz_aj_4 hcz_aj_5 hfz_aj_5 hcz_aj_6 hfz_aj_6 hcz_aj_7 hfz_aj_7
  have X_ := Aside0.mk (blk_kept BK_aj.out hk_ (fun h3_ => by have z0 := HZ2.out; have z1 := HZ3.out; have z2 := HZ4.out; have z3 := HZ6.out; have z4 := HZ7.out; have z5 := HZ8.out; have z6 := HZ9.out; have z7 := HZ10.out; have z8 := HZ11.out; have z9 := HZ12.out; have z10 := HZ13.out; omega))
  clear BK_aj
  have BK_aj := X_
  clear X_
  have hcz_aj_0 : w11_.cell? ⟨g_aj, 0, none⟩ = some (.slice A_aj_0 aj_0.length c_aj_0) := (blk_cell BK_aj.out 0).trans rfl
  have hfz_aj_0 := blk_frozen BK_aj.out 0
  have hcz_aj_1 : w11_.cell? ⟨g_aj, 1, none⟩ = some (.slice A_aj_1 aj_1.length c_aj_1) := (blk_cell BK_aj.out 1).trans rfl
  have hfz_aj_1 := blk_frozen BK_aj.out 1
  have hcz_aj_2 : w11_.cell? ⟨g_aj, 2, none⟩ = some (.slice A_aj_2 aj_2.length c_aj_2) := (blk_cell BK_aj.out 2).trans rfl
  have hfz_aj_2 := blk_frozen BK_aj.out 2
  have hcz_aj_3 : w11_.cell? ⟨g_aj, 3, none⟩ = some (.int .i64 aj_3) := (blk_cell BK_aj.out 3).trans rfl
  have hfz_aj_3 := blk_frozen BK_aj.out 3
  have hcz_aj_4 : w11_.cell? ⟨g_aj, 4, none⟩ = some (.int .i64 aj_4) := (blk_cell BK_aj.out 4).trans rfl
  have hfz_aj_4 := blk_frozen BK_aj.out 4
  have hcz_aj_5 : w11_.cell? ⟨g_aj, 5, none⟩ = some (.int .i64 aj_5) := (blk_cell BK_aj.out 5).trans rfl
  have hfz_aj_5 := blk_frozen BK_aj.out 5
  have hcz_aj_6 : w11_.cell? ⟨g_aj, 6, none⟩ = some (.int .i64 aj_6) := (blk_cell BK_aj.out 6).trans rfl
  have hfz_aj_6 := blk_frozen BK_aj.out 6
  have hcz_aj_7 : w11_.cell? ⟨g_aj, 7, none⟩ = some (.int .i64 aj_7) := (blk_cell BK_aj.out 7).trans rfl
  have hfz_aj_7 := blk_frozen BK_aj.out 7
  clear hcz_ap_0 hfz_ap_0 hcz_ap_1 hfz_ap_1
  have X_ := Aside0.mk (blk_kept BK_ap.out hk_ (fun h3_ => by have z0 := HZ2.out; have z1 := HZ3.out; have z2 := HZ4.out; have z3 := HZ6.out; have z4 := HZ7.out; have z5 := HZ8.out; have z6 := HZ9.out; have z7 := HZ10.out; have z8 := HZ11.out; have z9 := HZ12.out; have z10 := HZ13.out; omega))
  clear BK_ap
  have BK_ap := X_
  clear X_
  have hcz_ap_0 : w11_.cell? ⟨g_ap, 0, none⟩ = some (.int .i64 ap_0) := (blk_cell BK_ap.out 0).trans rfl
  have hfz_ap_0 := blk_frozen BK_ap.out 0
  have hcz_ap_1 : w11_.cell? ⟨g_ap, 1, none⟩ = some (.slice A_ap_1 ap_1.length c_ap_1) := (blk_cell BK_ap.out 1).trans rfl
  have hfz_ap_1 := blk_frozen BK_ap.out 1
  clear BK_x0
  have BK_x0 := Aside0.mk hbk_
  have hcz_x0_0 : w11_.cell? ⟨g_x0, 0, none⟩ = some (.slice AVx00 aj_0.length cVx00) := (blk_cell BK_x0.out 0).trans rfl
  have hfz_x0_0 := blk_frozen BK_x0.out 0
  have hcz_x0_1 : w11_.cell? ⟨g_x0, 1, none⟩ = some (.slice AVx01 aj_1.length cVx01) := (blk_cell BK_x0.out 1).trans rfl
  have hfz_x0_1 := blk_frozen BK_x0.out 1
  have hcz_x0_2 : w11_.cell? ⟨g_x0, 2, none⟩ = some (.slice AVx02 aj_2.length cVx02) := (blk_cell BK_x0.out 2).trans rfl
  have hfz_x0_2 := blk_frozen BK_x0.out 2
  have hcz_x0_3 : w11_.cell? ⟨g_x0, 3, none⟩ = some (.int .i64 aj_3) := (blk_cell BK_x0.out 3).trans rfl
  have hfz_x0_3 := blk_frozen BK_x0.out 3
  have hcz_x0_4 : w11_.cell? ⟨g_x0, 4, none⟩ = some (.int .i64 aj_4) := (blk_cell BK_x0.out 4).trans rfl
  have hfz_x0_4 := blk_frozen BK_x0.out 4
  have hcz_x0_5 : w11_.cell? ⟨g_x0, 5, none⟩ = some (.int .i64 aj_5) := (blk_cell BK_x0.out 5).trans rfl
  have hfz_x0_5 := blk_frozen BK_x0.out 5
  have hcz_x0_6 : w11_.cell? ⟨g_x0, 6, none⟩ = some (.int .i64 aj_6) := (blk_cell BK_x0.out 6).trans rfl
  have hfz_x0_6 := blk_frozen BK_x0.out 6
  have hcz_x0_7 : w11_.cell? ⟨g_x0, 7, none⟩ = some (.int .i64 aj_7) := (blk_cell BK_x0.out 7).trans rfl
  have hfz_x0_7 := blk_frozen BK_x0.out 7
  clear hbk_ hk_ hb_
  refine (laws_toPlan.calls kt_aP ap_0 _ _ ap_1 ap_0 ap_1 _ (by repeat (first | exact (Kd.C_below HR_ap_1.out HB.out) | (with_reducible refine Kd.C_alloc ?_ _) | (with_reducible refine Kd.C_drewN ?_ _) | (with_reducible refine Kd.C_drew ?_))) HC_ap_1.out Hkt_aP.out).mono ?_
  rintro e w12_ ⟨v1_n12, rfl, ho0_, hb_⟩
  have hp_ : Below w11_.heap.size w11_ w12_ := below_step (by repeat (first | exact Below.refl _ _ | (with_reducible apply below_alloc) | (with_reducible apply pw_below_drewN) | (with_reducible apply below_drew1))) hb_
  obtain ⟨B14, H14, eB_, eH_, hi1_, hi2_, hi3_⟩ := spot (W0 := w11_) (by repeat (first | exact Below.refl _ _ | (with_reducible apply below_alloc) | (with_reducible apply pw_below_drewN) | (with_reducible apply below_drew1))) hb_
  have HZ14 := Aside0.mk (⟨hi1_, hi2_, hi3_, hp_.size⟩ : _ ∧ _ ∧ _ ∧ _)
  have N14_0 := Aside0.mk (Own.new (W0 := w11_) (b := w.heap.size) (by repeat (first | exact Below.refl _ _ | (with_reducible apply below_alloc) | (with_reducible apply pw_below_drewN) | (with_reducible apply below_drew1))) ho0_ hb_ HB.out.size _ _ eB_ eH_)
  clear eB_ eH_ hi1_ hi2_ hi3_ ho0_
  have HBn_ := Aside0.mk (more HB.out hp_)
  clear HB
  have HB := HBn_
  clear HBn_
  have X_ := Aside0.mk (Vw0.out.step hp_)
  clear Vw0
  have Vw0 := X_
  clear X_
  have X_ := Aside0.mk (Vx00.out.step hp_)
  clear Vx00
  have Vx00 := X_
  clear X_
  have X_ := Aside0.mk (Vx01.out.step hp_)
  clear Vx01
  have Vx01 := X_
  clear X_
  have X_ := Aside0.mk (Vx02.out.step hp_)
  clear Vx02
  have Vx02 := X_
  clear X_
  clear hcz_aj_0 hfz_aj_0 hcz_aj_1 hfz_aj_1 hcz_aj_2 hfz_aj_2 hcz_aj_3 hfz_aj_3 hcz_aj_4 hfz_aj_4 hcz_aj_5 hfz_aj_5 hcz_aj_6 hfz_aj_6 hcz_aj_7 hfz_aj_7
  have X_ := Aside0.mk (blk_below BK_aj.out hp_)
  clear BK_aj
  have BK_aj := X_
  clear X_
  have hcz_aj_0 : w12_.cell? ⟨g_aj, 0, none⟩ = some (.slice A_aj_0 aj_0.length c_aj_0) := (blk_cell BK_aj.out 0).trans rfl
  have hfz_aj_0 := blk_frozen BK_aj.out 0
  have hcz_aj_1 : w12_.cell? ⟨g_aj, 1, none⟩ = some (.slice A_aj_1 aj_1.length c_aj_1) := (blk_cell BK_aj.out 1).trans rfl
  have hfz_aj_1 := blk_frozen BK_aj.out 1
  have hcz_aj_2 : w12_.cell? ⟨g_aj, 2, none⟩ = some (.slice A_aj_2 aj_2.length c_aj_2) := (blk_cell BK_aj.out 2).trans rfl
  have hfz_aj_2 := blk_frozen BK_aj.out 2
  have hcz_aj_3 : w12_.cell? ⟨g_aj, 3, none⟩ = some (.int .i64 aj_3) := (blk_cell BK_aj.out 3).trans rfl
  have hfz_aj_3 := blk_frozen BK_aj.out 3
  have hcz_aj_4 : w12_.cell? ⟨g_aj, 4, none⟩ = some (.int .i64 aj_4) := (blk_cell BK_aj.out 4).trans rfl
  have hfz_aj_4 := blk_frozen BK_aj.out 4
  have hcz_aj_5 : w12_.cell? ⟨g_aj, 5, none⟩ = some (.int .i64 aj_5) := (blk_cell BK_aj.out 5).trans rfl
  have hfz_aj_5 := blk_frozen BK_aj.out 5
  have hcz_aj_6 : w12_.cell? ⟨g_aj, 6, none⟩ = some (.int .i64 aj_6) := (blk_cell BK_aj.out 6).trans rfl
  have hfz_aj_6 := blk_frozen BK_aj.out 6
  have hcz_aj_7 : w12_.cell? ⟨g_aj, 7, none⟩ = some (.int .i64 aj_7) := (blk_cell BK_aj.out 7).trans rfl
  have hfz_aj_7 := blk_frozen BK_aj.out 7
  clear hcz_ap_0 hfz_ap_0 hcz_ap_1 hfz_ap_1
  have X_ := Aside0.mk (blk_below BK_ap.out hp_)
  clear BK_ap
  have BK_ap := X_
  clear X_
  have hcz_ap_0 : w12_.cell? ⟨g_ap, 0, none⟩ = some (.int .i64 ap_0) := (blk_cell BK_ap.out 0).trans rfl
  have hfz_ap_0 := blk_frozen BK_ap.out 0
  have hcz_ap_1 : w12_.cell? ⟨g_ap, 1, none⟩ = some (.slice A_ap_1 ap_1.length c_ap_1) := (blk_cell BK_ap.out 1).trans rfl
  have hfz_ap_1 := blk_frozen BK_ap.out 1
  clear hcz_x0_0 hfz_x0_0 hcz_x0_1 hfz_x0_1 hcz_x0_2 hfz_x0_2 hcz_x0_3 hfz_x0_3 hcz_x0_4 hfz_x0_4 hcz_x0_5 hfz_x0_5 hcz_x0_6 hfz_x0_6 hcz_x0_7 hfz_x0_7
  have X_ := Aside0.mk (blk_below BK_x0.out hp_)
  clear BK_x0
  have BK_x0 := X_
  clear X_
  have hcz_x0_0 : w12_.cell? ⟨g_x0, 0, none⟩ = some (.slice AVx00 aj_0.length cVx00) := (blk_cell BK_x0.out 0).trans rfl
  have hfz_x0_0 := blk_frozen BK_x0.out 0
  have hcz_x0_1 : w12_.cell? ⟨g_x0, 1, none⟩ = some (.slice AVx01 aj_1.length cVx01) := (blk_cell BK_x0.out 1).trans rfl
  have hfz_x0_1 := blk_frozen BK_x0.out 1
  have hcz_x0_2 : w12_.cell? ⟨g_x0, 2, none⟩ = some (.slice AVx02 aj_2.length cVx02) := (blk_cell BK_x0.out 2).trans rfl
  have hfz_x0_2 := blk_frozen BK_x0.out 2
  have hcz_x0_3 : w12_.cell? ⟨g_x0, 3, none⟩ = some (.int .i64 aj_3) := (blk_cell BK_x0.out 3).trans rfl
  have hfz_x0_3 := blk_frozen BK_x0.out 3
  have hcz_x0_4 : w12_.cell? ⟨g_x0, 4, none⟩ = some (.int .i64 aj_4) := (blk_cell BK_x0.out 4).trans rfl
  have hfz_x0_4 := blk_frozen BK_x0.out 4
  have hcz_x0_5 : w12_.cell? ⟨g_x0, 5, none⟩ = some (.int .i64 aj_5) := (blk_cell BK_x0.out 5).trans rfl
  have hfz_x0_5 := blk_frozen BK_x0.out 5
  have hcz_x0_6 : w12_.cell? ⟨g_x0, 6, none⟩ = some (.int .i64 aj_6) := (blk_cell BK_x0.out 6).trans rfl
  have hfz_x0_6 := blk_frozen BK_x0.out 6
  have hcz_x0_7 : w12_.cell? ⟨g_x0, 7, none⟩ = some (.int .i64 aj_7) := (blk_cell BK_x0.out 7).trans rfl
  have hfz_x0_7 := blk_frozen BK_x0.out 7
  clear hb_ hp_
  have Vx10 := N14_0
  clear N14_0
  obtain ⟨AVx10, cVx10, rfl, hc_⟩ := Vx10.out.reads
  have HCVx10 := Aside0.mk hc_
  clear hc_
  go_wp2_with (first | ((with_reducible refine gate_dst (N := 9) rfl ?_); refine box_event ?hg (N := 9) ?hd (cs := #[.int .i64 0, .slice none 0 0]) (t := 41) ?hr ?_; (case hd => rfl); (case hg => rfl); (case hr => first | (go_simp; done) | (go_simp; rfl)); intro g_x1 hg_ w13_ hbox_ hb_; have hp_ : Below w12_.heap.size w12_ w13_ := below_step (by repeat (first | exact Below.refl _ _ | (with_reducible apply below_alloc) | (with_reducible apply pw_below_drewN) | (with_reducible apply below_drew1))) hb_; have hz_ : w12_.heap.size ≤ g_x1 := Nat.le_trans (below_size (by repeat (first | exact Below.refl _ _ | (with_reducible apply below_alloc) | (with_reducible apply pw_below_drewN) | (with_reducible apply below_drew1)))) (Nat.le_of_eq hg_.symm); have HZ15 := Aside0.mk (⟨hz_, blk_lt hbox_, hp_.size⟩ : _ ∧ _ ∧ _); have HGW_x1 := Aside0.mk (Nat.le_trans HB.out.size hz_ : w.heap.size ≤ g_x1); have hnb_x1_aj : g_x1 ≠ g_aj := Nat.ne_of_gt (Nat.lt_of_lt_of_le (blk_lt BK_aj.out) hz_); have hnb_aj_x1 : g_aj ≠ g_x1 := hnb_x1_aj.symm; have hnb_x1_ap : g_x1 ≠ g_ap := Nat.ne_of_gt (Nat.lt_of_lt_of_le (blk_lt BK_ap.out) hz_); have hnb_ap_x1 : g_ap ≠ g_x1 := hnb_x1_ap.symm; have hnb_x1_x0 : g_x1 ≠ g_x0 := Nat.ne_of_gt (Nat.lt_of_lt_of_le (blk_lt BK_x0.out) hz_); have hnb_x0_x1 : g_x0 ≠ g_x1 := hnb_x1_x0.symm; have HBn_ := Aside0.mk (more HB.out hp_); clear HB; have HB := HBn_; clear HBn_; have X_ := Aside0.mk (Vw0.out.step hp_); clear Vw0; have Vw0 := X_; clear X_; have X_ := Aside0.mk (Vx00.out.step hp_); clear Vx00; have Vx00 := X_; clear X_; have X_ := Aside0.mk (Vx01.out.step hp_); clear Vx01; have Vx01 := X_; clear X_; have X_ := Aside0.mk (Vx02.out.step hp_); clear Vx02; have Vx02 := X_; clear X_; have X_ := Aside0.mk (Vx10.out.step hp_); clear Vx10; have Vx10 := X_; clear X_; clear hcz_aj_0 hfz_aj_0 hcz_aj_1 hfz_aj_1 hcz_aj_2 hfz_aj_2 hcz_aj_3 hfz_aj_3 hcz_aj_4 hfz_aj_4 hcz_aj_5 hfz_aj_5 hcz_aj_6 hfz_aj_6 hcz_aj_7 hfz_aj_7; have X_ := Aside0.mk (blk_below BK_aj.out hp_); clear BK_aj; have BK_aj := X_; clear X_; have hcz_aj_0 : w13_.cell? ⟨g_aj, 0, none⟩ = some (.slice A_aj_0 aj_0.length c_aj_0) := (blk_cell BK_aj.out 0).trans rfl; have hfz_aj_0 := blk_frozen BK_aj.out 0; have hcz_aj_1 : w13_.cell? ⟨g_aj, 1, none⟩ = some (.slice A_aj_1 aj_1.length c_aj_1) := (blk_cell BK_aj.out 1).trans rfl; have hfz_aj_1 := blk_frozen BK_aj.out 1; have hcz_aj_2 : w13_.cell? ⟨g_aj, 2, none⟩ = some (.slice A_aj_2 aj_2.length c_aj_2) := (blk_cell BK_aj.out 2).trans rfl; have hfz_aj_2 := blk_frozen BK_aj.out 2; have hcz_aj_3 : w13_.cell? ⟨g_aj, 3, none⟩ = some (.int .i64 aj_3) := (blk_cell BK_aj.out 3).trans rfl; have hfz_aj_3 := blk_frozen BK_aj.out 3; have hcz_aj_4 : w13_.cell? ⟨g_aj, 4, none⟩ = some (.int .i64 aj_4) := (blk_cell BK_aj.out 4).trans rfl; have hfz_aj_4 := blk_frozen BK_aj.out 4; have hcz_aj_5 : w13_.cell? ⟨g_aj, 5, none⟩ = some (.int .i64 aj_5) := (blk_cell BK_aj.out 5).trans rfl; have hfz_aj_5 := blk_frozen BK_aj.out 5; have hcz_aj_6 : w13_.cell? ⟨g_aj, 6, none⟩ = some (.int .i64 aj_6) := (blk_cell BK_aj.out 6).trans rfl; have hfz_aj_6 := blk_frozen BK_aj.out 6; have hcz_aj_7 : w13_.cell? ⟨g_aj, 7, none⟩ = some (.int .i64 aj_7) := (blk_cell BK_aj.out 7).trans rfl; have hfz_aj_7 := blk_frozen BK_aj.out 7; clear hcz_ap_0 hfz_ap_0 hcz_ap_1 hfz_ap_1; have X_ := Aside0.mk (blk_below BK_ap.out hp_); clear BK_ap; have BK_ap := X_; clear X_; have hcz_ap_0 : w13_.cell? ⟨g_ap, 0, none⟩ = some (.int .i64 ap_0) := (blk_cell BK_ap.out 0).trans rfl; have hfz_ap_0 := blk_frozen BK_ap.out 0; have hcz_ap_1 : w13_.cell? ⟨g_ap, 1, none⟩ = some (.slice A_ap_1 ap_1.length c_ap_1) := (blk_cell BK_ap.out 1).trans rfl; have hfz_ap_1 := blk_frozen BK_ap.out 1; clear hcz_x0_0 hfz_x0_0 hcz_x0_1 hfz_x0_1 hcz_x0_2 hfz_x0_2 hcz_x0_3 hfz_x0_3 hcz_x0_4 hfz_x0_4 hcz_x0_5 hfz_x0_5 hcz_x0_6 hfz_x0_6 hcz_x0_7 hfz_x0_7; have X_ := Aside0.mk (blk_below BK_x0.out hp_); clear BK_x0; have BK_x0 := X_; clear X_; have hcz_x0_0 : w13_.cell? ⟨g_x0, 0, none⟩ = some (.slice AVx00 aj_0.length cVx00) := (blk_cell BK_x0.out 0).trans rfl; have hfz_x0_0 := blk_frozen BK_x0.out 0; have hcz_x0_1 : w13_.cell? ⟨g_x0, 1, none⟩ = some (.slice AVx01 aj_1.length cVx01) := (blk_cell BK_x0.out 1).trans rfl; have hfz_x0_1 := blk_frozen BK_x0.out 1; have hcz_x0_2 : w13_.cell? ⟨g_x0, 2, none⟩ = some (.slice AVx02 aj_2.length cVx02) := (blk_cell BK_x0.out 2).trans rfl; have hfz_x0_2 := blk_frozen BK_x0.out 2; have hcz_x0_3 : w13_.cell? ⟨g_x0, 3, none⟩ = some (.int .i64 aj_3) := (blk_cell BK_x0.out 3).trans rfl; have hfz_x0_3 := blk_frozen BK_x0.out 3; have hcz_x0_4 : w13_.cell? ⟨g_x0, 4, none⟩ = some (.int .i64 aj_4) := (blk_cell BK_x0.out 4).trans rfl; have hfz_x0_4 := blk_frozen BK_x0.out 4; have hcz_x0_5 : w13_.cell? ⟨g_x0, 5, none⟩ = some (.int .i64 aj_5) := (blk_cell BK_x0.out 5).trans rfl; have hfz_x0_5 := blk_frozen BK_x0.out 5; have hcz_x0_6 : w13_.cell? ⟨g_x0, 6, none⟩ = some (.int .i64 aj_6) := (blk_cell BK_x0.out 6).trans rfl; have hfz_x0_6 := blk_frozen BK_x0.out 6; have hcz_x0_7 : w13_.cell? ⟨g_x0, 7, none⟩ = some (.int .i64 aj_7) := (blk_cell BK_x0.out 7).trans rfl; have hfz_x0_7 := blk_frozen BK_x0.out 7; have BK_x1 := Aside0.mk hbox_; have hcz_x1_0 : w13_.cell? ⟨g_x1, 0, none⟩ = some (.int .i64 0) := (blk_cell BK_x1.out 0).trans rfl; have hfz_x1_0 := blk_frozen BK_x1.out 0; have hcz_x1_1 : w13_.cell? ⟨g_x1, 1, none⟩ = some (.slice none 0 0) := (blk_cell BK_x1.out 1).trans rfl; have hfz_x1_1 := blk_frozen BK_x1.out 1; clear hg_ hbox_ hb_ hp_ hz_))
  obtain ⟨w14_, ew_⟩ : ∃ w_ : World, w_ = (World.setCell (World.setCell w13_ ⟨g_x1, 0, none⟩ (.int .i64 ap_0)) ⟨g_x1, 1, none⟩ (.slice AVx10 ap_1.length cVx10)) := ⟨_, rfl⟩
  rw [← ew_]
  have hbk_ : w14_.heap[g_x1]? = some (.cells #[.int .i64 ap_0, .slice AVx10 ap_1.length cVx10] 41 (0, 0)) := by rw [ew_]; exact blk_set (blk_set (BK_x1.out) 0 (.int .i64 ap_0)) 1 (.slice AVx10 ap_1.length cVx10)
  have hk_ : Kept w13_ w14_ (fun k_ => k_ = g_x1) := by rw [ew_]; exact Kept.setCell (Kept.setCell (Kept.refl _ (fun k_ => k_ = g_x1)) (Or.inl rfl) (.int .i64 ap_0)) (Or.inl rfl) (.slice AVx10 ap_1.length cVx10)
  have hb_ : Below w.heap.size w w14_ := by rw [ew_]; exact below_set (below_set (HB.out) HGW_x1.out) HGW_x1.out
  have HZ16 := Aside0.mk hk_.1
  clear ew_ HB
  have HB := Aside0.mk hb_
  have X_ := Aside0.mk (Vw0.out.kept hk_ (fun k h1_ h2_ h3_ => by have z0 := HZ2.out; have z1 := HZ3.out; have z2 := HZ4.out; have z3 := HZ6.out; have z4 := HZ7.out; have z5 := HZ8.out; have z6 := HZ9.out; have z7 := HZ10.out; have z8 := HZ11.out; have z9 := HZ12.out; have z10 := HZ13.out; have z11 := HZ14.out; have z12 := HZ15.out; have z13 := HZ16.out; omega))
  clear Vw0
  have Vw0 := X_
  clear X_
  have X_ := Aside0.mk (Vx00.out.kept hk_ (fun k h1_ h2_ h3_ => by have z0 := HZ2.out; have z1 := HZ3.out; have z2 := HZ4.out; have z3 := HZ6.out; have z4 := HZ7.out; have z5 := HZ8.out; have z6 := HZ9.out; have z7 := HZ10.out; have z8 := HZ11.out; have z9 := HZ12.out; have z10 := HZ13.out; have z11 := HZ14.out; have z12 := HZ15.out; have z13 := HZ16.out; omega))
  clear Vx00
  have Vx00 := X_
  clear X_
  have X_ := Aside0.mk (Vx01.out.kept hk_ (fun k h1_ h2_ h3_ => by have z0 := HZ2.out; have z1 := HZ3.out; have z2 := HZ4.out; have z3 := HZ6.out; have z4 := HZ7.out; have z5 := HZ8.out; have z6 := HZ9.out; have z7 := HZ10.out; have z8 := HZ11.out; have z9 := HZ12.out; have z10 := HZ13.out; have z11 := HZ14.out; have z12 := HZ15.out; have z13 := HZ16.out; omega))
  clear Vx01
  have Vx01 := X_
  clear X_
  have X_ := Aside0.mk (Vx02.out.kept hk_ (fun k h1_ h2_ h3_ => by have z0 := HZ2.out; have z1 := HZ3.out; have z2 := HZ4.out; have z3 := HZ6.out; have z4 := HZ7.out; have z5 := HZ8.out; have z6 := HZ9.out; have z7 := HZ10.out; have z8 := HZ11.out; have z9 := HZ12.out; have z10 := HZ13.out; have z11 := HZ14.out; have z12 := HZ15.out; have z13 := HZ16.out; omega))
  clear Vx02
  have Vx02 := X_
  clear X_
  have X_ := Aside0.mk (Vx10.out.kept hk_ (fun k h1_ h2_ h3_ => by have z0 := HZ2.out; have z1 := HZ3.out; have z2 := HZ4.out; have z3 := HZ6.out; have z4 := HZ7.out; have z5 := HZ8.out; have z6 := HZ9.out; have z7 := HZ10.out; have z8 := HZ11.out; have z9 := HZ12.out; have z10 := HZ13.out; have z11 := HZ14.out; have z12 := HZ15.out; have z13 := HZ16.out; omega))
  clear Vx10
  have Vx10 := X_
  clear X_
  clear hcz_x1_0 hfz_x1_0 hcz_x1_1 hfz_x1_1
  clear hcz_aj_0 hfz_aj_0 hcz_aj_1 hfz_aj_1 hcz_aj_2 hfz_aj_2 hcz_aj_3 hfz_aj_3 hcz_aj_4 hfz_aj_4 hcz_aj_5 hfz_aj_5 hcz_aj_6 hfz_aj_6 hcz_aj_7 hfz_aj_7
  have X_ := Aside0.mk (blk_kept BK_aj.out hk_ (fun h3_ => by have z0 := HZ2.out; have z1 := HZ3.out; have z2 := HZ4.out; have z3 := HZ6.out; have z4 := HZ7.out; have z5 := HZ8.out; have z6 := HZ9.out; have z7 := HZ10.out; have z8 := HZ11.out; have z9 := HZ12.out; have z10 := HZ13.out; have z11 := HZ14.out; have z12 := HZ15.out; have z13 := HZ16.out; omega))
  clear BK_aj
  have BK_aj := X_
  clear X_
  have hcz_aj_0 : w14_.cell? ⟨g_aj, 0, none⟩ = some (.slice A_aj_0 aj_0.length c_aj_0) := (blk_cell BK_aj.out 0).trans rfl
  have hfz_aj_0 := blk_frozen BK_aj.out 0
  have hcz_aj_1 : w14_.cell? ⟨g_aj, 1, none⟩ = some (.slice A_aj_1 aj_1.length c_aj_1) := (blk_cell BK_aj.out 1).trans rfl
  have hfz_aj_1 := blk_frozen BK_aj.out 1
  have hcz_aj_2 : w14_.cell? ⟨g_aj, 2, none⟩ = some (.slice A_aj_2 aj_2.length c_aj_2) := (blk_cell BK_aj.out 2).trans rfl
  have hfz_aj_2 := blk_frozen BK_aj.out 2
  have hcz_aj_3 : w14_.cell? ⟨g_aj, 3, none⟩ = some (.int .i64 aj_3) := (blk_cell BK_aj.out 3).trans rfl
  have hfz_aj_3 := blk_frozen BK_aj.out 3
  have hcz_aj_4 : w14_.cell? ⟨g_aj, 4, none⟩ = some (.int .i64 aj_4) := (blk_cell BK_aj.out 4).trans rfl
  have hfz_aj_4 := blk_frozen BK_aj.out 4
  have hcz_aj_5 : w14_.cell? ⟨g_aj, 5, none⟩ = some (.int .i64 aj_5) := (blk_cell BK_aj.out 5).trans rfl
  have hfz_aj_5 := blk_frozen BK_aj.out 5
  have hcz_aj_6 : w14_.cell? ⟨g_aj, 6, none⟩ = some (.int .i64 aj_6) := (blk_cell BK_aj.out 6).trans rfl
  have hfz_aj_6 := blk_frozen BK_aj.out 6
  have hcz_aj_7 : w14_.cell? ⟨g_aj, 7, none⟩ = some (.int .i64 aj_7) := (blk_cell BK_aj.out 7).trans rfl
  have hfz_aj_7 := blk_frozen BK_aj.out 7
  clear hcz_ap_0 hfz_ap_0 hcz_ap_1 hfz_ap_1
  have X_ := Aside0.mk (blk_kept BK_ap.out hk_ (fun h3_ => by have z0 := HZ2.out; have z1 := HZ3.out; have z2 := HZ4.out; have z3 := HZ6.out; have z4 := HZ7.out; have z5 := HZ8.out; have z6 := HZ9.out; have z7 := HZ10.out; have z8 := HZ11.out; have z9 := HZ12.out; have z10 := HZ13.out; have z11 := HZ14.out; have z12 := HZ15.out; have z13 := HZ16.out; omega))
  clear BK_ap
  have BK_ap := X_
  clear X_
  have hcz_ap_0 : w14_.cell? ⟨g_ap, 0, none⟩ = some (.int .i64 ap_0) := (blk_cell BK_ap.out 0).trans rfl
  have hfz_ap_0 := blk_frozen BK_ap.out 0
  have hcz_ap_1 : w14_.cell? ⟨g_ap, 1, none⟩ = some (.slice A_ap_1 ap_1.length c_ap_1) := (blk_cell BK_ap.out 1).trans rfl
  have hfz_ap_1 := blk_frozen BK_ap.out 1
  clear hcz_x0_0 hfz_x0_0 hcz_x0_1 hfz_x0_1 hcz_x0_2 hfz_x0_2 hcz_x0_3 hfz_x0_3 hcz_x0_4 hfz_x0_4 hcz_x0_5 hfz_x0_5 hcz_x0_6 hfz_x0_6 hcz_x0_7 hfz_x0_7
  have X_ := Aside0.mk (blk_kept BK_x0.out hk_ (fun h3_ => by have z0 := HZ2.out; have z1 := HZ3.out; have z2 := HZ4.out; have z3 := HZ6.out; have z4 := HZ7.out; have z5 := HZ8.out; have z6 := HZ9.out; have z7 := HZ10.out; have z8 := HZ11.out; have z9 := HZ12.out; have z10 := HZ13.out; have z11 := HZ14.out; have z12 := HZ15.out; have z13 := HZ16.out; omega))
  clear BK_x0
  have BK_x0 := X_
  clear X_
  have hcz_x0_0 : w14_.cell? ⟨g_x0, 0, none⟩ = some (.slice AVx00 aj_0.length cVx00) := (blk_cell BK_x0.out 0).trans rfl
  have hfz_x0_0 := blk_frozen BK_x0.out 0
  have hcz_x0_1 : w14_.cell? ⟨g_x0, 1, none⟩ = some (.slice AVx01 aj_1.length cVx01) := (blk_cell BK_x0.out 1).trans rfl
  have hfz_x0_1 := blk_frozen BK_x0.out 1
  have hcz_x0_2 : w14_.cell? ⟨g_x0, 2, none⟩ = some (.slice AVx02 aj_2.length cVx02) := (blk_cell BK_x0.out 2).trans rfl
  have hfz_x0_2 := blk_frozen BK_x0.out 2
  have hcz_x0_3 : w14_.cell? ⟨g_x0, 3, none⟩ = some (.int .i64 aj_3) := (blk_cell BK_x0.out 3).trans rfl
  have hfz_x0_3 := blk_frozen BK_x0.out 3
  have hcz_x0_4 : w14_.cell? ⟨g_x0, 4, none⟩ = some (.int .i64 aj_4) := (blk_cell BK_x0.out 4).trans rfl
  have hfz_x0_4 := blk_frozen BK_x0.out 4
  have hcz_x0_5 : w14_.cell? ⟨g_x0, 5, none⟩ = some (.int .i64 aj_5) := (blk_cell BK_x0.out 5).trans rfl
  have hfz_x0_5 := blk_frozen BK_x0.out 5
  have hcz_x0_6 : w14_.cell? ⟨g_x0, 6, none⟩ = some (.int .i64 aj_6) := (blk_cell BK_x0.out 6).trans rfl
  have hfz_x0_6 := blk_frozen BK_x0.out 6
  have hcz_x0_7 : w14_.cell? ⟨g_x0, 7, none⟩ = some (.int .i64 aj_7) := (blk_cell BK_x0.out 7).trans rfl
  have hfz_x0_7 := blk_frozen BK_x0.out 7
  clear BK_x1
  have BK_x1 := Aside0.mk hbk_
  have hcz_x1_0 : w14_.cell? ⟨g_x1, 0, none⟩ = some (.int .i64 ap_0) := (blk_cell BK_x1.out 0).trans rfl
  have hfz_x1_0 := blk_frozen BK_x1.out 0
  have hcz_x1_1 : w14_.cell? ⟨g_x1, 1, none⟩ = some (.slice AVx10 ap_1.length cVx10) := (blk_cell BK_x1.out 1).trans rfl
  have hfz_x1_1 := blk_frozen BK_x1.out 1
  clear hbk_ hk_ hb_
  refine (impl_PitsOfPlan.calls kei_ _ _ aj_0 _ _ aj_1 _ _ aj_2 aj_3 aj_4 aj_5 aj_6 aj_7 ap_0 _ _ ap_1 r1v r2v _ (by repeat (first | exact Vx00.out.C | (with_reducible refine Kd.C_alloc ?_ _) | (with_reducible refine Kd.C_drewN ?_ _) | (with_reducible refine Kd.C_drew ?_))) HCVx00.out (by repeat (first | exact Vx01.out.C | (with_reducible refine Kd.C_alloc ?_ _) | (with_reducible refine Kd.C_drewN ?_ _) | (with_reducible refine Kd.C_drew ?_))) HCVx01.out (by repeat (first | exact Vx02.out.C | (with_reducible refine Kd.C_alloc ?_ _) | (with_reducible refine Kd.C_drewN ?_ _) | (with_reducible refine Kd.C_drew ?_))) HCVx02.out (by repeat (first | exact Vx10.out.C | (with_reducible refine Kd.C_alloc ?_ _) | (with_reducible refine Kd.C_drewN ?_ _) | (with_reducible refine Kd.C_drew ?_))) HCVx10.out HEI.out).mono ?_
  rintro e w15_ ⟨v0_n15, rfl, ho0_, hb_⟩
  have hp_ : Below w14_.heap.size w14_ w15_ := below_step (by repeat (first | exact Below.refl _ _ | (with_reducible apply below_alloc) | (with_reducible apply pw_below_drewN) | (with_reducible apply below_drew1))) hb_
  obtain ⟨B17, H17, eB_, eH_, hi1_, hi2_, hi3_⟩ := spot (W0 := w14_) (by repeat (first | exact Below.refl _ _ | (with_reducible apply below_alloc) | (with_reducible apply pw_below_drewN) | (with_reducible apply below_drew1))) hb_
  have HZ17 := Aside0.mk (⟨hi1_, hi2_, hi3_, hp_.size⟩ : _ ∧ _ ∧ _ ∧ _)
  have N17_0 := Aside0.mk (OwnS.new (W0 := w14_) (b := w.heap.size) (by repeat (first | exact Below.refl _ _ | (with_reducible apply below_alloc) | (with_reducible apply pw_below_drewN) | (with_reducible apply below_drew1))) ho0_ hb_ HB.out.size _ _ eB_ eH_)
  clear eB_ eH_ hi1_ hi2_ hi3_ ho0_
  have HBn_ := Aside0.mk (more HB.out hp_)
  clear HB
  have HB := HBn_
  clear HBn_
  have X_ := Aside0.mk (Vw0.out.step hp_)
  clear Vw0
  have Vw0 := X_
  clear X_
  have X_ := Aside0.mk (Vx00.out.step hp_)
  clear Vx00
  have Vx00 := X_
  clear X_
  have X_ := Aside0.mk (Vx01.out.step hp_)
  clear Vx01
  have Vx01 := X_
  clear X_
  have X_ := Aside0.mk (Vx02.out.step hp_)
  clear Vx02
  have Vx02 := X_
  clear X_
  have X_ := Aside0.mk (Vx10.out.step hp_)
  clear Vx10
  have Vx10 := X_
  clear X_
  clear hcz_aj_0 hfz_aj_0 hcz_aj_1 hfz_aj_1 hcz_aj_2 hfz_aj_2 hcz_aj_3 hfz_aj_3 hcz_aj_4 hfz_aj_4 hcz_aj_5 hfz_aj_5 hcz_aj_6 hfz_aj_6 hcz_aj_7 hfz_aj_7
  have X_ := Aside0.mk (blk_below BK_aj.out hp_)
  clear BK_aj
  have BK_aj := X_
  clear X_
  have hcz_aj_0 : w15_.cell? ⟨g_aj, 0, none⟩ = some (.slice A_aj_0 aj_0.length c_aj_0) := (blk_cell BK_aj.out 0).trans rfl
  have hfz_aj_0 := blk_frozen BK_aj.out 0
  have hcz_aj_1 : w15_.cell? ⟨g_aj, 1, none⟩ = some (.slice A_aj_1 aj_1.length c_aj_1) := (blk_cell BK_aj.out 1).trans rfl
  have hfz_aj_1 := blk_frozen BK_aj.out 1
  have hcz_aj_2 : w15_.cell? ⟨g_aj, 2, none⟩ = some (.slice A_aj_2 aj_2.length c_aj_2) := (blk_cell BK_aj.out 2).trans rfl
  have hfz_aj_2 := blk_frozen BK_aj.out 2
  have hcz_aj_3 : w15_.cell? ⟨g_aj, 3, none⟩ = some (.int .i64 aj_3) := (blk_cell BK_aj.out 3).trans rfl
  have hfz_aj_3 := blk_frozen BK_aj.out 3
  have hcz_aj_4 : w15_.cell? ⟨g_aj, 4, none⟩ = some (.int .i64 aj_4) := (blk_cell BK_aj.out 4).trans rfl
  have hfz_aj_4 := blk_frozen BK_aj.out 4
  have hcz_aj_5 : w15_.cell? ⟨g_aj, 5, none⟩ = some (.int .i64 aj_5) := (blk_cell BK_aj.out 5).trans rfl
  have hfz_aj_5 := blk_frozen BK_aj.out 5
  have hcz_aj_6 : w15_.cell? ⟨g_aj, 6, none⟩ = some (.int .i64 aj_6) := (blk_cell BK_aj.out 6).trans rfl
  have hfz_aj_6 := blk_frozen BK_aj.out 6
  have hcz_aj_7 : w15_.cell? ⟨g_aj, 7, none⟩ = some (.int .i64 aj_7) := (blk_cell BK_aj.out 7).trans rfl
  have hfz_aj_7 := blk_frozen BK_aj.out 7
  clear hcz_ap_0 hfz_ap_0 hcz_ap_1 hfz_ap_1
  have X_ := Aside0.mk (blk_below BK_ap.out hp_)
  clear BK_ap
  have BK_ap := X_
  clear X_
  have hcz_ap_0 : w15_.cell? ⟨g_ap, 0, none⟩ = some (.int .i64 ap_0) := (blk_cell BK_ap.out 0).trans rfl
  have hfz_ap_0 := blk_frozen BK_ap.out 0
  have hcz_ap_1 : w15_.cell? ⟨g_ap, 1, none⟩ = some (.slice A_ap_1 ap_1.length c_ap_1) := (blk_cell BK_ap.out 1).trans rfl
  have hfz_ap_1 := blk_frozen BK_ap.out 1
  clear hcz_x0_0 hfz_x0_0 hcz_x0_1 hfz_x0_1 hcz_x0_2 hfz_x0_2 hcz_x0_3 hfz_x0_3 hcz_x0_4 hfz_x0_4 hcz_x0_5 hfz_x0_5 hcz_x0_6 hfz_x0_6 hcz_x0_7 hfz_x0_7
  have X_ := Aside0.mk (blk_below BK_x0.out hp_)
  clear BK_x0
  have BK_x0 := X_
  clear X_
  have hcz_x0_0 : w15_.cell? ⟨g_x0, 0, none⟩ = some (.slice AVx00 aj_0.length cVx00) := (blk_cell BK_x0.out 0).trans rfl
  have hfz_x0_0 := blk_frozen BK_x0.out 0
  have hcz_x0_1 : w15_.cell? ⟨g_x0, 1, none⟩ = some (.slice AVx01 aj_1.length cVx01) := (blk_cell BK_x0.out 1).trans rfl
  have hfz_x0_1 := blk_frozen BK_x0.out 1
  have hcz_x0_2 : w15_.cell? ⟨g_x0, 2, none⟩ = some (.slice AVx02 aj_2.length cVx02) := (blk_cell BK_x0.out 2).trans rfl
  have hfz_x0_2 := blk_frozen BK_x0.out 2
  have hcz_x0_3 : w15_.cell? ⟨g_x0, 3, none⟩ = some (.int .i64 aj_3) := (blk_cell BK_x0.out 3).trans rfl
  have hfz_x0_3 := blk_frozen BK_x0.out 3
  have hcz_x0_4 : w15_.cell? ⟨g_x0, 4, none⟩ = some (.int .i64 aj_4) := (blk_cell BK_x0.out 4).trans rfl
  have hfz_x0_4 := blk_frozen BK_x0.out 4
  have hcz_x0_5 : w15_.cell? ⟨g_x0, 5, none⟩ = some (.int .i64 aj_5) := (blk_cell BK_x0.out 5).trans rfl
  have hfz_x0_5 := blk_frozen BK_x0.out 5
  have hcz_x0_6 : w15_.cell? ⟨g_x0, 6, none⟩ = some (.int .i64 aj_6) := (blk_cell BK_x0.out 6).trans rfl
  have hfz_x0_6 := blk_frozen BK_x0.out 6
  have hcz_x0_7 : w15_.cell? ⟨g_x0, 7, none⟩ = some (.int .i64 aj_7) := (blk_cell BK_x0.out 7).trans rfl
  have hfz_x0_7 := blk_frozen BK_x0.out 7
  clear hcz_x1_0 hfz_x1_0 hcz_x1_1 hfz_x1_1
  have X_ := Aside0.mk (blk_below BK_x1.out hp_)
  clear BK_x1
  have BK_x1 := X_
  clear X_
  have hcz_x1_0 : w15_.cell? ⟨g_x1, 0, none⟩ = some (.int .i64 ap_0) := (blk_cell BK_x1.out 0).trans rfl
  have hfz_x1_0 := blk_frozen BK_x1.out 0
  have hcz_x1_1 : w15_.cell? ⟨g_x1, 1, none⟩ = some (.slice AVx10 ap_1.length cVx10) := (blk_cell BK_x1.out 1).trans rfl
  have hfz_x1_1 := blk_frozen BK_x1.out 1
  clear hb_ hp_
  have Vg0 := N17_0
  clear N17_0
  obtain ⟨AVg0, cVg0, rfl, hc_⟩ := Vg0.out.reads
  have HCVg0 := Aside0.mk hc_
  clear hc_
  go_wp2_with fail
  refine (laws_eqIntSS.calls kgq _ _ r1v _ _ r1v true _ (by repeat (first | exact Vg0.out.C | (with_reducible refine Kd.C_alloc ?_ _) | (with_reducible refine Kd.C_drewN ?_ _) | (with_reducible refine Kd.C_drew ?_))) HCVg0.out (by repeat (first | exact Vw0.out.C | (with_reducible refine Kd.C_alloc ?_ _) | (with_reducible refine Kd.C_drewN ?_ _) | (with_reducible refine Kd.C_drew ?_))) HCVw0.out Hkgq.out).mono ?_
  rintro e w16_ ⟨rfl, hd_⟩
  have hb_ := drawn_below hd_
  clear hd_
  have hp_ : Below w15_.heap.size w15_ w16_ := below_step (by repeat (first | exact Below.refl _ _ | (with_reducible apply below_alloc) | (with_reducible apply pw_below_drewN) | (with_reducible apply below_drew1))) hb_
  have HZ18 := Aside0.mk hp_.size
  have HBn_ := Aside0.mk (more HB.out hp_)
  clear HB
  have HB := HBn_
  clear HBn_
  have X_ := Aside0.mk (Vw0.out.step hp_)
  clear Vw0
  have Vw0 := X_
  clear X_
  have X_ := Aside0.mk (Vx00.out.step hp_)
  clear Vx00
  have Vx00 := X_
  clear X_
  have X_ := Aside0.mk (Vx01.out.step hp_)
  clear Vx01
  have Vx01 := X_
  clear X_
  have X_ := Aside0.mk (Vx02.out.step hp_)
  clear Vx02
  have Vx02 := X_
  clear X_
  have X_ := Aside0.mk (Vx10.out.step hp_)
  clear Vx10
  have Vx10 := X_
  clear X_
  have X_ := Aside0.mk (Vg0.out.step hp_)
  clear Vg0
  have Vg0 := X_
  clear X_
  clear hcz_aj_0 hfz_aj_0 hcz_aj_1 hfz_aj_1 hcz_aj_2 hfz_aj_2 hcz_aj_3 hfz_aj_3 hcz_aj_4 hfz_aj_4 hcz_aj_5 hfz_aj_5 hcz_aj_6 hfz_aj_6 hcz_aj_7 hfz_aj_7
  have X_ := Aside0.mk (blk_below BK_aj.out hp_)
  clear BK_aj
  have BK_aj := X_
  clear X_
  have hcz_aj_0 : w16_.cell? ⟨g_aj, 0, none⟩ = some (.slice A_aj_0 aj_0.length c_aj_0) := (blk_cell BK_aj.out 0).trans rfl
  have hfz_aj_0 := blk_frozen BK_aj.out 0
  have hcz_aj_1 : w16_.cell? ⟨g_aj, 1, none⟩ = some (.slice A_aj_1 aj_1.length c_aj_1) := (blk_cell BK_aj.out 1).trans rfl
  have hfz_aj_1 := blk_frozen BK_aj.out 1
  have hcz_aj_2 : w16_.cell? ⟨g_aj, 2, none⟩ = some (.slice A_aj_2 aj_2.length c_aj_2) := (blk_cell BK_aj.out 2).trans rfl
  have hfz_aj_2 := blk_frozen BK_aj.out 2
  have hcz_aj_3 : w16_.cell? ⟨g_aj, 3, none⟩ = some (.int .i64 aj_3) := (blk_cell BK_aj.out 3).trans rfl
  have hfz_aj_3 := blk_frozen BK_aj.out 3
  have hcz_aj_4 : w16_.cell? ⟨g_aj, 4, none⟩ = some (.int .i64 aj_4) := (blk_cell BK_aj.out 4).trans rfl
  have hfz_aj_4 := blk_frozen BK_aj.out 4
  have hcz_aj_5 : w16_.cell? ⟨g_aj, 5, none⟩ = some (.int .i64 aj_5) := (blk_cell BK_aj.out 5).trans rfl
  have hfz_aj_5 := blk_frozen BK_aj.out 5
  have hcz_aj_6 : w16_.cell? ⟨g_aj, 6, none⟩ = some (.int .i64 aj_6) := (blk_cell BK_aj.out 6).trans rfl
  have hfz_aj_6 := blk_frozen BK_aj.out 6
  have hcz_aj_7 : w16_.cell? ⟨g_aj, 7, none⟩ = some (.int .i64 aj_7) := (blk_cell BK_aj.out 7).trans rfl
  have hfz_aj_7 := blk_frozen BK_aj.out 7
  clear hcz_ap_0 hfz_ap_0 hcz_ap_1 hfz_ap_1
  have X_ := Aside0.mk (blk_below BK_ap.out hp_)
  clear BK_ap
  have BK_ap := X_
  clear X_
  have hcz_ap_0 : w16_.cell? ⟨g_ap, 0, none⟩ = some (.int .i64 ap_0) := (blk_cell BK_ap.out 0).trans rfl
  have hfz_ap_0 := blk_frozen BK_ap.out 0
  have hcz_ap_1 : w16_.cell? ⟨g_ap, 1, none⟩ = some (.slice A_ap_1 ap_1.length c_ap_1) := (blk_cell BK_ap.out 1).trans rfl
  have hfz_ap_1 := blk_frozen BK_ap.out 1
  clear hcz_x0_0 hfz_x0_0 hcz_x0_1 hfz_x0_1 hcz_x0_2 hfz_x0_2 hcz_x0_3 hfz_x0_3 hcz_x0_4 hfz_x0_4 hcz_x0_5 hfz_x0_5 hcz_x0_6 hfz_x0_6 hcz_x0_7 hfz_x0_7
  have X_ := Aside0.mk (blk_below BK_x0.out hp_)
  clear BK_x0
  have BK_x0 := X_
  clear X_
  have hcz_x0_0 : w16_.cell? ⟨g_x0, 0, none⟩ = some (.slice AVx00 aj_0.length cVx00) := (blk_cell BK_x0.out 0).trans rfl
  have hfz_x0_0 := blk_frozen BK_x0.out 0
  have hcz_x0_1 : w16_.cell? ⟨g_x0, 1, none⟩ = some (.slice AVx01 aj_1.length cVx01) := (blk_cell BK_x0.out 1).trans rfl
  have hfz_x0_1 := blk_frozen BK_x0.out 1
  have hcz_x0_2 : w16_.cell? ⟨g_x0, 2, none⟩ = some (.slice AVx02 aj_2.length cVx02) := (blk_cell BK_x0.out 2).trans rfl
  have hfz_x0_2 := blk_frozen BK_x0.out 2
  have hcz_x0_3 : w16_.cell? ⟨g_x0, 3, none⟩ = some (.int .i64 aj_3) := (blk_cell BK_x0.out 3).trans rfl
  have hfz_x0_3 := blk_frozen BK_x0.out 3
  have hcz_x0_4 : w16_.cell? ⟨g_x0, 4, none⟩ = some (.int .i64 aj_4) := (blk_cell BK_x0.out 4).trans rfl
  have hfz_x0_4 := blk_frozen BK_x0.out 4
  have hcz_x0_5 : w16_.cell? ⟨g_x0, 5, none⟩ = some (.int .i64 aj_5) := (blk_cell BK_x0.out 5).trans rfl
  have hfz_x0_5 := blk_frozen BK_x0.out 5
  have hcz_x0_6 : w16_.cell? ⟨g_x0, 6, none⟩ = some (.int .i64 aj_6) := (blk_cell BK_x0.out 6).trans rfl
  have hfz_x0_6 := blk_frozen BK_x0.out 6
  have hcz_x0_7 : w16_.cell? ⟨g_x0, 7, none⟩ = some (.int .i64 aj_7) := (blk_cell BK_x0.out 7).trans rfl
  have hfz_x0_7 := blk_frozen BK_x0.out 7
  clear hcz_x1_0 hfz_x1_0 hcz_x1_1 hfz_x1_1
  have X_ := Aside0.mk (blk_below BK_x1.out hp_)
  clear BK_x1
  have BK_x1 := X_
  clear X_
  have hcz_x1_0 : w16_.cell? ⟨g_x1, 0, none⟩ = some (.int .i64 ap_0) := (blk_cell BK_x1.out 0).trans rfl
  have hfz_x1_0 := blk_frozen BK_x1.out 0
  have hcz_x1_1 : w16_.cell? ⟨g_x1, 1, none⟩ = some (.slice AVx10 ap_1.length cVx10) := (blk_cell BK_x1.out 1).trans rfl
  have hfz_x1_1 := blk_frozen BK_x1.out 1
  clear hb_ hp_
  go_wp2_with fail
  have hp_ : Below w16_.heap.size w16_ w16_.drew := below_drew1 (Below.refl _ _)
  have HBn_ := Aside0.mk (more HB.out hp_)
  clear HB
  have HB := HBn_
  clear HBn_
  have X_ := Aside0.mk (Vw0.out.step hp_)
  clear Vw0
  have Vw0 := X_
  clear X_
  have X_ := Aside0.mk (Vx00.out.step hp_)
  clear Vx00
  have Vx00 := X_
  clear X_
  have X_ := Aside0.mk (Vx01.out.step hp_)
  clear Vx01
  have Vx01 := X_
  clear X_
  have X_ := Aside0.mk (Vx02.out.step hp_)
  clear Vx02
  have Vx02 := X_
  clear X_
  have X_ := Aside0.mk (Vx10.out.step hp_)
  clear Vx10
  have Vx10 := X_
  clear X_
  have X_ := Aside0.mk (Vg0.out.step hp_)
  clear Vg0
  have Vg0 := X_
  clear X_
  clear hcz_aj_0 hfz_aj_0 hcz_aj_1 hfz_aj_1 hcz_aj_2 hfz_aj_2 hcz_aj_3 hfz_aj_3 hcz_aj_4 hfz_aj_4 hcz_aj_5 hfz_aj_5 hcz_aj_6 hfz_aj_6 hcz_aj_7 hfz_aj_7
  have X_ := Aside0.mk (blk_below BK_aj.out hp_)
  clear BK_aj
  have BK_aj := X_
  clear X_
  clear hcz_ap_0 hfz_ap_0 hcz_ap_1 hfz_ap_1
  have X_ := Aside0.mk (blk_below BK_ap.out hp_)
  clear BK_ap
  have BK_ap := X_
  clear X_
  clear hcz_x0_0 hfz_x0_0 hcz_x0_1 hfz_x0_1 hcz_x0_2 hfz_x0_2 hcz_x0_3 hfz_x0_3 hcz_x0_4 hfz_x0_4 hcz_x0_5 hfz_x0_5 hcz_x0_6 hfz_x0_6 hcz_x0_7 hfz_x0_7
  have X_ := Aside0.mk (blk_below BK_x0.out hp_)
  clear BK_x0
  have BK_x0 := X_
  clear X_
  clear hcz_x1_0 hfz_x1_0 hcz_x1_1 hfz_x1_1
  have X_ := Aside0.mk (blk_below BK_x1.out hp_)
  clear BK_x1
  have BK_x1 := X_
  clear X_
  have HZ19 := Aside0.mk hp_.size
  clear hp_
  refine start_ (n := 5) (S := fun w' => w'.cell? ⟨g_aj, 0, none⟩ = some (.slice A_aj_0 aj_0.length c_aj_0) ∧ w'.cell? ⟨g_aj, 1, none⟩ = some (.slice A_aj_1 aj_1.length c_aj_1) ∧ w'.cell? ⟨g_aj, 2, none⟩ = some (.slice A_aj_2 aj_2.length c_aj_2) ∧ w'.cell? ⟨g_aj, 3, none⟩ = some (.int .i64 aj_3) ∧ w'.cell? ⟨g_aj, 4, none⟩ = some (.int .i64 aj_4) ∧ w'.cell? ⟨g_aj, 5, none⟩ = some (.int .i64 aj_5) ∧ w'.cell? ⟨g_aj, 6, none⟩ = some (.int .i64 aj_6) ∧ w'.cell? ⟨g_aj, 7, none⟩ = some (.int .i64 aj_7) ∧ w'.cell? ⟨g_ap, 0, none⟩ = some (.int .i64 ap_0) ∧ w'.cell? ⟨g_ap, 1, none⟩ = some (.slice A_ap_1 ap_1.length c_ap_1) ∧ w'.cell? ⟨g_x0, 0, none⟩ = some (.slice AVx00 aj_0.length cVx00) ∧ w'.cell? ⟨g_x0, 1, none⟩ = some (.slice AVx01 aj_1.length cVx01) ∧ w'.cell? ⟨g_x0, 2, none⟩ = some (.slice AVx02 aj_2.length cVx02) ∧ w'.cell? ⟨g_x0, 3, none⟩ = some (.int .i64 aj_3) ∧ w'.cell? ⟨g_x0, 4, none⟩ = some (.int .i64 aj_4) ∧ w'.cell? ⟨g_x0, 5, none⟩ = some (.int .i64 aj_5) ∧ w'.cell? ⟨g_x0, 6, none⟩ = some (.int .i64 aj_6) ∧ w'.cell? ⟨g_x0, 7, none⟩ = some (.int .i64 aj_7) ∧ w'.cell? ⟨g_x1, 0, none⟩ = some (.int .i64 ap_0) ∧ w'.cell? ⟨g_x1, 1, none⟩ = some (.slice AVx10 ap_1.length cVx10)) (ds := []) #[false, false, false, false, false] (by kernel_rfl) rfl rfl ⟨(blk_cell BK_aj.out 0).trans rfl, (blk_cell BK_aj.out 1).trans rfl, (blk_cell BK_aj.out 2).trans rfl, (blk_cell BK_aj.out 3).trans rfl, (blk_cell BK_aj.out 4).trans rfl, (blk_cell BK_aj.out 5).trans rfl, (blk_cell BK_aj.out 6).trans rfl, (blk_cell BK_aj.out 7).trans rfl, (blk_cell BK_ap.out 0).trans rfl, (blk_cell BK_ap.out 1).trans rfl, (blk_cell BK_x0.out 0).trans rfl, (blk_cell BK_x0.out 1).trans rfl, (blk_cell BK_x0.out 2).trans rfl, (blk_cell BK_x0.out 3).trans rfl, (blk_cell BK_x0.out 4).trans rfl, (blk_cell BK_x0.out 5).trans rfl, (blk_cell BK_x0.out 6).trans rfl, (blk_cell BK_x0.out 7).trans rfl, (blk_cell BK_x1.out 0).trans rfl, (blk_cell BK_x1.out 1).trans rfl⟩ (fun hHeld => ?_)
  generalize w16_.drew = w17_ at HB HZ19 Vw0 Vx00 Vx01 Vx02 Vx10 Vg0 BK_aj BK_ap BK_x0 BK_x1 hHeld ⊢
  refine take_ (i := 0) (N := some 54) (v := ?_) (a' := ?_) #[true, false, false, false, false] rfl rfl (by kernel_rfl) (fun _ _ _ h => h) (Or.inl ⟨by rfl, ?_⟩) hHeld ?_ ?_
  rotate_left
  · rintro w' ⟨s0, s1, s2, s3, s4, s5, s6, s7, s8, s9, s10, s11, s12, s13, s14, s15, s16, s17, s18, s19⟩
    go_simp
    with_reducible rfl
  rotate_left
  · simp only [Act.put, List.setIfInBounds_toArray, List.set_cons_zero, List.set_cons_succ, i64_w, i32_w]
    rfl
  refine take_ (i := 1) (N := some 55) (v := ?_) (a' := ?_) #[true, true, false, false, false] rfl rfl (by kernel_rfl) (fun _ _ _ h => h) (Or.inl ⟨by rfl, ?_⟩) hHeld ?_ ?_
  rotate_left
  · rintro w' ⟨s0, s1, s2, s3, s4, s5, s6, s7, s8, s9, s10, s11, s12, s13, s14, s15, s16, s17, s18, s19⟩
    go_simp
    with_reducible rfl
  rotate_left
  · simp only [Act.put, List.setIfInBounds_toArray, List.set_cons_zero, List.set_cons_succ, i64_w, i32_w]
    rfl
  refine one_ (i := 2) (N := some 56) #[true, true, true, false, false] rfl rfl (by kernel_rfl) (by decide) (fun K hK => ?_)
  refine goes_ Try.func17 (by kernel_rfl) rfl #[.agg #[.slice A_aj_0 aj_0.length c_aj_0, .slice A_aj_1 aj_1.length c_aj_1, .slice A_aj_2 aj_2.length c_aj_2, .int .i64 (aj_3), .int .i64 (aj_4), .int .i64 (aj_5), .int .i64 (aj_6), .int .i64 (aj_7)]] (by rfl) rfl rfl (by (try simp only [List.map_toArray, List.map_cons, List.map_nil]); first | done | rfl | (simp only [List.length_drop, List.length_take]; rfl)) ?_
  refine (laws_toJob.calls kt_aJ _ _ aj_0 _ _ aj_1 _ _ aj_2 aj_3 aj_4 aj_5 aj_6 aj_7 aj_0 aj_1 aj_2 aj_3 aj_4 aj_5 aj_6 aj_7 _ (by repeat (first | exact (Kd.C_below HR_aj_0.out HB.out) | (with_reducible refine Kd.C_alloc ?_ _) | (with_reducible refine Kd.C_drewN ?_ _) | (with_reducible refine Kd.C_drew ?_))) HC_aj_0.out (by repeat (first | exact (Kd.C_below HR_aj_1.out HB.out) | (with_reducible refine Kd.C_alloc ?_ _) | (with_reducible refine Kd.C_drewN ?_ _) | (with_reducible refine Kd.C_drew ?_))) HC_aj_1.out (by repeat (first | exact (Kd.C_below HR_aj_2.out HB.out) | (with_reducible refine Kd.C_alloc ?_ _) | (with_reducible refine Kd.C_drewN ?_ _) | (with_reducible refine Kd.C_drew ?_))) HC_aj_2.out Hkt_aJ.out).mono ?_
  rintro e w18_ ⟨v0_n18, v1_n18, v2_n18, rfl, ho0_, ho1_, ho2_, hb_⟩
  refine ⟨_, rfl, ?_⟩
  have hp_ : Below w17_.heap.size w17_ w18_ := below_step (by repeat (first | exact Below.refl _ _ | (with_reducible apply below_alloc) | (with_reducible apply pw_below_drewN) | (with_reducible apply below_drew1))) hb_
  obtain ⟨B20, H20, eB_, eH_, hi1_, hi2_, hi3_⟩ := spot (W0 := w17_) (by repeat (first | exact Below.refl _ _ | (with_reducible apply below_alloc) | (with_reducible apply pw_below_drewN) | (with_reducible apply below_drew1))) hb_
  have HZ20 := Aside0.mk (⟨hi1_, hi2_, hi3_, hp_.size⟩ : _ ∧ _ ∧ _ ∧ _)
  have N20_0 := Aside0.mk (OwnS.new (W0 := w17_) (b := w.heap.size) (by repeat (first | exact Below.refl _ _ | (with_reducible apply below_alloc) | (with_reducible apply pw_below_drewN) | (with_reducible apply below_drew1))) ho0_ hb_ HB.out.size _ _ eB_ eH_)
  have N20_1 := Aside0.mk (Own.new (W0 := w17_) (b := w.heap.size) (by repeat (first | exact Below.refl _ _ | (with_reducible apply below_alloc) | (with_reducible apply pw_below_drewN) | (with_reducible apply below_drew1))) (tightRow rfl ho1_) hb_ HB.out.size _ _ eB_ eH_)
  have N20_2 := Aside0.mk (Own.new (W0 := w17_) (b := w.heap.size) (by repeat (first | exact Below.refl _ _ | (with_reducible apply below_alloc) | (with_reducible apply pw_below_drewN) | (with_reducible apply below_drew1))) (tightRow rfl ho2_) hb_ HB.out.size _ _ eB_ eH_)
  clear eB_ eH_ hi1_ hi2_ hi3_ ho0_ ho1_ ho2_
  have HBn_ := Aside0.mk (more HB.out hp_)
  clear HB
  have HB := HBn_
  clear HBn_
  have X_ := Aside0.mk (Vw0.out.step hp_)
  clear Vw0
  have Vw0 := X_
  clear X_
  have X_ := Aside0.mk (Vx00.out.step hp_)
  clear Vx00
  have Vx00 := X_
  clear X_
  have X_ := Aside0.mk (Vx01.out.step hp_)
  clear Vx01
  have Vx01 := X_
  clear X_
  have X_ := Aside0.mk (Vx02.out.step hp_)
  clear Vx02
  have Vx02 := X_
  clear X_
  have X_ := Aside0.mk (Vx10.out.step hp_)
  clear Vx10
  have Vx10 := X_
  clear X_
  have X_ := Aside0.mk (Vg0.out.step hp_)
  clear Vg0
  have Vg0 := X_
  clear X_
  have X_ := Aside0.mk (blk_below BK_aj.out hp_)
  clear BK_aj
  have BK_aj := X_
  clear X_
  have X_ := Aside0.mk (blk_below BK_ap.out hp_)
  clear BK_ap
  have BK_ap := X_
  clear X_
  have X_ := Aside0.mk (blk_below BK_x0.out hp_)
  clear BK_x0
  have BK_x0 := X_
  clear X_
  have X_ := Aside0.mk (blk_below BK_x1.out hp_)
  clear BK_x1
  have BK_x1 := X_
  clear X_
  clear hb_ hp_
  have T20_0 := N20_0
  clear N20_0
  obtain ⟨AT20_0, cT20_0, rfl, hc_⟩ := T20_0.out.reads
  have HCT20_0 := Aside0.mk hc_
  clear hc_
  have T20_1 := N20_1
  clear N20_1
  obtain ⟨AT20_1, cT20_1, rfl, hc_⟩ := T20_1.out.reads
  have HCT20_1 := Aside0.mk hc_
  clear hc_
  have T20_2 := N20_2
  clear N20_2
  obtain ⟨AT20_2, cT20_2, rfl, hc_⟩ := T20_2.out.reads
  have HCT20_2 := Aside0.mk hc_
  clear hc_
  refine hK.out _ _ ⟨(blk_cell BK_aj.out 0).trans rfl, (blk_cell BK_aj.out 1).trans rfl, (blk_cell BK_aj.out 2).trans rfl, (blk_cell BK_aj.out 3).trans rfl, (blk_cell BK_aj.out 4).trans rfl, (blk_cell BK_aj.out 5).trans rfl, (blk_cell BK_aj.out 6).trans rfl, (blk_cell BK_aj.out 7).trans rfl, (blk_cell BK_ap.out 0).trans rfl, (blk_cell BK_ap.out 1).trans rfl, (blk_cell BK_x0.out 0).trans rfl, (blk_cell BK_x0.out 1).trans rfl, (blk_cell BK_x0.out 2).trans rfl, (blk_cell BK_x0.out 3).trans rfl, (blk_cell BK_x0.out 4).trans rfl, (blk_cell BK_x0.out 5).trans rfl, (blk_cell BK_x0.out 6).trans rfl, (blk_cell BK_x0.out 7).trans rfl, (blk_cell BK_x1.out 0).trans rfl, (blk_cell BK_x1.out 1).trans rfl⟩ (fun hHeld => ?_)
  clear hK K
  refine norm_ (a' := ?_) ?_ ?_
  rotate_left
  · show Act.put _ (some 56) _ = _
    simp only [Act.put, List.setIfInBounds_toArray, List.set_cons_zero, List.set_cons_succ, i64_w, i32_w]
    rfl
  refine one_ (i := 3) (N := some 57) #[true, true, true, true, false] rfl rfl (by kernel_rfl) (by decide) (fun K hK => ?_)
  refine goes_ Try.func19 (by kernel_rfl) rfl #[.agg #[.slice AVx00 aj_0.length cVx00, .slice AVx01 aj_1.length cVx01, .slice AVx02 aj_2.length cVx02, .int .i64 (aj_3), .int .i64 (aj_4), .int .i64 (aj_5), .int .i64 (aj_6), .int .i64 (aj_7)], .agg #[.slice AT20_0 aj_0.length cT20_0, .slice AT20_1 aj_1.length cT20_1, .slice AT20_2 aj_2.length cT20_2, .int .i64 (aj_3), .int .i64 (aj_4), .int .i64 (aj_5), .int .i64 (aj_6), .int .i64 (aj_7)]] (by rfl) rfl rfl (by (try simp only [List.map_toArray, List.map_cons, List.map_nil]); first | done | rfl | (simp only [List.length_drop, List.length_take]; rfl)) ?_
  refine (laws_eqJob.calls kq_aJ _ _ aj_0 _ _ aj_1 _ _ aj_2 aj_3 aj_4 aj_5 aj_6 aj_7 _ _ aj_0 _ _ aj_1 _ _ aj_2 aj_3 aj_4 aj_5 aj_6 aj_7 true _ (by repeat (first | exact Vx00.out.C | (with_reducible refine Kd.C_alloc ?_ _) | (with_reducible refine Kd.C_drewN ?_ _) | (with_reducible refine Kd.C_drew ?_))) HCVx00.out (by repeat (first | exact Vx01.out.C | (with_reducible refine Kd.C_alloc ?_ _) | (with_reducible refine Kd.C_drewN ?_ _) | (with_reducible refine Kd.C_drew ?_))) HCVx01.out (by repeat (first | exact Vx02.out.C | (with_reducible refine Kd.C_alloc ?_ _) | (with_reducible refine Kd.C_drewN ?_ _) | (with_reducible refine Kd.C_drew ?_))) HCVx02.out (by repeat (first | exact T20_0.out.C | (with_reducible refine Kd.C_alloc ?_ _) | (with_reducible refine Kd.C_drewN ?_ _) | (with_reducible refine Kd.C_drew ?_))) HCT20_0.out (by repeat (first | exact T20_1.out.C | (with_reducible refine Kd.C_alloc ?_ _) | (with_reducible refine Kd.C_drewN ?_ _) | (with_reducible refine Kd.C_drew ?_))) HCT20_1.out (by repeat (first | exact T20_2.out.C | (with_reducible refine Kd.C_alloc ?_ _) | (with_reducible refine Kd.C_drewN ?_ _) | (with_reducible refine Kd.C_drew ?_))) HCT20_2.out Hkq_aJ.out).mono ?_
  rintro e w19_ ⟨rfl, hd_⟩
  refine ⟨_, rfl, ?_⟩
  have hb_ := hd_
  clear hd_
  have hp_ : Below w18_.heap.size w18_ w19_ := below_step (by repeat (first | exact Below.refl _ _ | (with_reducible apply below_alloc) | (with_reducible apply pw_below_drewN) | (with_reducible apply below_drew1))) hb_
  have HZ21 := Aside0.mk hp_.size
  have HBn_ := Aside0.mk (more HB.out hp_)
  clear HB
  have HB := HBn_
  clear HBn_
  have X_ := Aside0.mk (Vw0.out.step hp_)
  clear Vw0
  have Vw0 := X_
  clear X_
  have X_ := Aside0.mk (Vx00.out.step hp_)
  clear Vx00
  have Vx00 := X_
  clear X_
  have X_ := Aside0.mk (Vx01.out.step hp_)
  clear Vx01
  have Vx01 := X_
  clear X_
  have X_ := Aside0.mk (Vx02.out.step hp_)
  clear Vx02
  have Vx02 := X_
  clear X_
  have X_ := Aside0.mk (Vx10.out.step hp_)
  clear Vx10
  have Vx10 := X_
  clear X_
  have X_ := Aside0.mk (Vg0.out.step hp_)
  clear Vg0
  have Vg0 := X_
  clear X_
  have X_ := Aside0.mk (T20_0.out.step hp_)
  clear T20_0
  have T20_0 := X_
  clear X_
  have X_ := Aside0.mk (T20_1.out.step hp_)
  clear T20_1
  have T20_1 := X_
  clear X_
  have X_ := Aside0.mk (T20_2.out.step hp_)
  clear T20_2
  have T20_2 := X_
  clear X_
  have X_ := Aside0.mk (blk_below BK_aj.out hp_)
  clear BK_aj
  have BK_aj := X_
  clear X_
  have X_ := Aside0.mk (blk_below BK_ap.out hp_)
  clear BK_ap
  have BK_ap := X_
  clear X_
  have X_ := Aside0.mk (blk_below BK_x0.out hp_)
  clear BK_x0
  have BK_x0 := X_
  clear X_
  have X_ := Aside0.mk (blk_below BK_x1.out hp_)
  clear BK_x1
  have BK_x1 := X_
  clear X_
  clear hb_ hp_
  refine hK.out _ _ ⟨(blk_cell BK_aj.out 0).trans rfl, (blk_cell BK_aj.out 1).trans rfl, (blk_cell BK_aj.out 2).trans rfl, (blk_cell BK_aj.out 3).trans rfl, (blk_cell BK_aj.out 4).trans rfl, (blk_cell BK_aj.out 5).trans rfl, (blk_cell BK_aj.out 6).trans rfl, (blk_cell BK_aj.out 7).trans rfl, (blk_cell BK_ap.out 0).trans rfl, (blk_cell BK_ap.out 1).trans rfl, (blk_cell BK_x0.out 0).trans rfl, (blk_cell BK_x0.out 1).trans rfl, (blk_cell BK_x0.out 2).trans rfl, (blk_cell BK_x0.out 3).trans rfl, (blk_cell BK_x0.out 4).trans rfl, (blk_cell BK_x0.out 5).trans rfl, (blk_cell BK_x0.out 6).trans rfl, (blk_cell BK_x0.out 7).trans rfl, (blk_cell BK_x1.out 0).trans rfl, (blk_cell BK_x1.out 1).trans rfl⟩ (fun hHeld => ?_)
  clear hK K
  refine norm_ (a' := ?_) ?_ ?_
  rotate_left
  · show Act.put _ (some 57) _ = _
    simp only [Act.put, List.setIfInBounds_toArray, List.set_cons_zero, List.set_cons_succ, i64_w, i32_w]
    rfl
  refine pure_ (i := 4) (N := some 58) (v := ?_) (a' := ?_) #[true, true, true, true, true] rfl rfl (by kernel_rfl) (fun _ _ _ h => h) (Or.inl ⟨by rfl, ?_⟩) ?_ ?_
  rotate_left
  · intro w'
    go_simp
    with_reducible rfl
  rotate_left
  · simp only [Act.put, List.setIfInBounds_toArray, List.set_cons_zero, List.set_cons_succ, i64_w, i32_w]
    rfl
  refine done_ (by kernel_rfl) ?_
  have hcz_aj_0 : w19_.cell? ⟨g_aj, 0, none⟩ = some (.slice A_aj_0 aj_0.length c_aj_0) := (blk_cell BK_aj.out 0).trans rfl
  have hfz_aj_0 := blk_frozen BK_aj.out 0
  have hcz_aj_1 : w19_.cell? ⟨g_aj, 1, none⟩ = some (.slice A_aj_1 aj_1.length c_aj_1) := (blk_cell BK_aj.out 1).trans rfl
  have hfz_aj_1 := blk_frozen BK_aj.out 1
  have hcz_aj_2 : w19_.cell? ⟨g_aj, 2, none⟩ = some (.slice A_aj_2 aj_2.length c_aj_2) := (blk_cell BK_aj.out 2).trans rfl
  have hfz_aj_2 := blk_frozen BK_aj.out 2
  have hcz_aj_3 : w19_.cell? ⟨g_aj, 3, none⟩ = some (.int .i64 aj_3) := (blk_cell BK_aj.out 3).trans rfl
  have hfz_aj_3 := blk_frozen BK_aj.out 3
  have hcz_aj_4 : w19_.cell? ⟨g_aj, 4, none⟩ = some (.int .i64 aj_4) := (blk_cell BK_aj.out 4).trans rfl
  have hfz_aj_4 := blk_frozen BK_aj.out 4
  have hcz_aj_5 : w19_.cell? ⟨g_aj, 5, none⟩ = some (.int .i64 aj_5) := (blk_cell BK_aj.out 5).trans rfl
  have hfz_aj_5 := blk_frozen BK_aj.out 5
  have hcz_aj_6 : w19_.cell? ⟨g_aj, 6, none⟩ = some (.int .i64 aj_6) := (blk_cell BK_aj.out 6).trans rfl
  have hfz_aj_6 := blk_frozen BK_aj.out 6
  have hcz_aj_7 : w19_.cell? ⟨g_aj, 7, none⟩ = some (.int .i64 aj_7) := (blk_cell BK_aj.out 7).trans rfl
  have hfz_aj_7 := blk_frozen BK_aj.out 7
  have hcz_ap_0 : w19_.cell? ⟨g_ap, 0, none⟩ = some (.int .i64 ap_0) := (blk_cell BK_ap.out 0).trans rfl
  have hfz_ap_0 := blk_frozen BK_ap.out 0
  have hcz_ap_1 : w19_.cell? ⟨g_ap, 1, none⟩ = some (.slice A_ap_1 ap_1.length c_ap_1) := (blk_cell BK_ap.out 1).trans rfl
  have hfz_ap_1 := blk_frozen BK_ap.out 1
  have hcz_x0_0 : w19_.cell? ⟨g_x0, 0, none⟩ = some (.slice AVx00 aj_0.length cVx00) := (blk_cell BK_x0.out 0).trans rfl
  have hfz_x0_0 := blk_frozen BK_x0.out 0
  have hcz_x0_1 : w19_.cell? ⟨g_x0, 1, none⟩ = some (.slice AVx01 aj_1.length cVx01) := (blk_cell BK_x0.out 1).trans rfl
  have hfz_x0_1 := blk_frozen BK_x0.out 1
  have hcz_x0_2 : w19_.cell? ⟨g_x0, 2, none⟩ = some (.slice AVx02 aj_2.length cVx02) := (blk_cell BK_x0.out 2).trans rfl
  have hfz_x0_2 := blk_frozen BK_x0.out 2
  have hcz_x0_3 : w19_.cell? ⟨g_x0, 3, none⟩ = some (.int .i64 aj_3) := (blk_cell BK_x0.out 3).trans rfl
  have hfz_x0_3 := blk_frozen BK_x0.out 3
  have hcz_x0_4 : w19_.cell? ⟨g_x0, 4, none⟩ = some (.int .i64 aj_4) := (blk_cell BK_x0.out 4).trans rfl
  have hfz_x0_4 := blk_frozen BK_x0.out 4
  have hcz_x0_5 : w19_.cell? ⟨g_x0, 5, none⟩ = some (.int .i64 aj_5) := (blk_cell BK_x0.out 5).trans rfl
  have hfz_x0_5 := blk_frozen BK_x0.out 5
  have hcz_x0_6 : w19_.cell? ⟨g_x0, 6, none⟩ = some (.int .i64 aj_6) := (blk_cell BK_x0.out 6).trans rfl
  have hfz_x0_6 := blk_frozen BK_x0.out 6
  have hcz_x0_7 : w19_.cell? ⟨g_x0, 7, none⟩ = some (.int .i64 aj_7) := (blk_cell BK_x0.out 7).trans rfl
  have hfz_x0_7 := blk_frozen BK_x0.out 7
  have hcz_x1_0 : w19_.cell? ⟨g_x1, 0, none⟩ = some (.int .i64 ap_0) := (blk_cell BK_x1.out 0).trans rfl
  have hfz_x1_0 := blk_frozen BK_x1.out 0
  have hcz_x1_1 : w19_.cell? ⟨g_x1, 1, none⟩ = some (.slice AVx10 ap_1.length cVx10) := (blk_cell BK_x1.out 1).trans rfl
  have hfz_x1_1 := blk_frozen BK_x1.out 1
  clear T20_0 HCT20_0
  clear T20_1 HCT20_1
  clear T20_2 HCT20_2
  go_wp2_with fail
  have hp_ : Below w19_.heap.size w19_ w19_.drew := below_drew1 (Below.refl _ _)
  have HBn_ := Aside0.mk (more HB.out hp_)
  clear HB
  have HB := HBn_
  clear HBn_
  have X_ := Aside0.mk (Vw0.out.step hp_)
  clear Vw0
  have Vw0 := X_
  clear X_
  have X_ := Aside0.mk (Vx00.out.step hp_)
  clear Vx00
  have Vx00 := X_
  clear X_
  have X_ := Aside0.mk (Vx01.out.step hp_)
  clear Vx01
  have Vx01 := X_
  clear X_
  have X_ := Aside0.mk (Vx02.out.step hp_)
  clear Vx02
  have Vx02 := X_
  clear X_
  have X_ := Aside0.mk (Vx10.out.step hp_)
  clear Vx10
  have Vx10 := X_
  clear X_
  have X_ := Aside0.mk (Vg0.out.step hp_)
  clear Vg0
  have Vg0 := X_
  clear X_
  clear hcz_aj_0 hfz_aj_0 hcz_aj_1 hfz_aj_1 hcz_aj_2 hfz_aj_2 hcz_aj_3 hfz_aj_3 hcz_aj_4 hfz_aj_4 hcz_aj_5 hfz_aj_5 hcz_aj_6 hfz_aj_6 hcz_aj_7 hfz_aj_7
  have X_ := Aside0.mk (blk_below BK_aj.out hp_)
  clear BK_aj
  have BK_aj := X_
  clear X_
  clear hcz_ap_0 hfz_ap_0 hcz_ap_1 hfz_ap_1
  have X_ := Aside0.mk (blk_below BK_ap.out hp_)
  clear BK_ap
  have BK_ap := X_
  clear X_
  clear hcz_x0_0 hfz_x0_0 hcz_x0_1 hfz_x0_1 hcz_x0_2 hfz_x0_2 hcz_x0_3 hfz_x0_3 hcz_x0_4 hfz_x0_4 hcz_x0_5 hfz_x0_5 hcz_x0_6 hfz_x0_6 hcz_x0_7 hfz_x0_7
  have X_ := Aside0.mk (blk_below BK_x0.out hp_)
  clear BK_x0
  have BK_x0 := X_
  clear X_
  clear hcz_x1_0 hfz_x1_0 hcz_x1_1 hfz_x1_1
  have X_ := Aside0.mk (blk_below BK_x1.out hp_)
  clear BK_x1
  have BK_x1 := X_
  clear X_
  have HZ22 := Aside0.mk hp_.size
  clear hp_
  refine start_ (n := 5) (S := fun w' => w'.cell? ⟨g_aj, 0, none⟩ = some (.slice A_aj_0 aj_0.length c_aj_0) ∧ w'.cell? ⟨g_aj, 1, none⟩ = some (.slice A_aj_1 aj_1.length c_aj_1) ∧ w'.cell? ⟨g_aj, 2, none⟩ = some (.slice A_aj_2 aj_2.length c_aj_2) ∧ w'.cell? ⟨g_aj, 3, none⟩ = some (.int .i64 aj_3) ∧ w'.cell? ⟨g_aj, 4, none⟩ = some (.int .i64 aj_4) ∧ w'.cell? ⟨g_aj, 5, none⟩ = some (.int .i64 aj_5) ∧ w'.cell? ⟨g_aj, 6, none⟩ = some (.int .i64 aj_6) ∧ w'.cell? ⟨g_aj, 7, none⟩ = some (.int .i64 aj_7) ∧ w'.cell? ⟨g_ap, 0, none⟩ = some (.int .i64 ap_0) ∧ w'.cell? ⟨g_ap, 1, none⟩ = some (.slice A_ap_1 ap_1.length c_ap_1) ∧ w'.cell? ⟨g_x0, 0, none⟩ = some (.slice AVx00 aj_0.length cVx00) ∧ w'.cell? ⟨g_x0, 1, none⟩ = some (.slice AVx01 aj_1.length cVx01) ∧ w'.cell? ⟨g_x0, 2, none⟩ = some (.slice AVx02 aj_2.length cVx02) ∧ w'.cell? ⟨g_x0, 3, none⟩ = some (.int .i64 aj_3) ∧ w'.cell? ⟨g_x0, 4, none⟩ = some (.int .i64 aj_4) ∧ w'.cell? ⟨g_x0, 5, none⟩ = some (.int .i64 aj_5) ∧ w'.cell? ⟨g_x0, 6, none⟩ = some (.int .i64 aj_6) ∧ w'.cell? ⟨g_x0, 7, none⟩ = some (.int .i64 aj_7) ∧ w'.cell? ⟨g_x1, 0, none⟩ = some (.int .i64 ap_0) ∧ w'.cell? ⟨g_x1, 1, none⟩ = some (.slice AVx10 ap_1.length cVx10)) (ds := []) #[false, false, false, false, false] (by kernel_rfl) rfl rfl ⟨(blk_cell BK_aj.out 0).trans rfl, (blk_cell BK_aj.out 1).trans rfl, (blk_cell BK_aj.out 2).trans rfl, (blk_cell BK_aj.out 3).trans rfl, (blk_cell BK_aj.out 4).trans rfl, (blk_cell BK_aj.out 5).trans rfl, (blk_cell BK_aj.out 6).trans rfl, (blk_cell BK_aj.out 7).trans rfl, (blk_cell BK_ap.out 0).trans rfl, (blk_cell BK_ap.out 1).trans rfl, (blk_cell BK_x0.out 0).trans rfl, (blk_cell BK_x0.out 1).trans rfl, (blk_cell BK_x0.out 2).trans rfl, (blk_cell BK_x0.out 3).trans rfl, (blk_cell BK_x0.out 4).trans rfl, (blk_cell BK_x0.out 5).trans rfl, (blk_cell BK_x0.out 6).trans rfl, (blk_cell BK_x0.out 7).trans rfl, (blk_cell BK_x1.out 0).trans rfl, (blk_cell BK_x1.out 1).trans rfl⟩ (fun hHeld => ?_)
  generalize w19_.drew = w20_ at HB HZ22 Vw0 Vx00 Vx01 Vx02 Vx10 Vg0 BK_aj BK_ap BK_x0 BK_x1 hHeld ⊢
  refine take_ (i := 0) (N := some 59) (v := ?_) (a' := ?_) #[true, false, false, false, false] rfl rfl (by kernel_rfl) (fun _ _ _ h => h) (Or.inl ⟨by rfl, ?_⟩) hHeld ?_ ?_
  rotate_left
  · rintro w' ⟨s0, s1, s2, s3, s4, s5, s6, s7, s8, s9, s10, s11, s12, s13, s14, s15, s16, s17, s18, s19⟩
    go_simp
    with_reducible rfl
  rotate_left
  · simp only [Act.put, List.setIfInBounds_toArray, List.set_cons_zero, List.set_cons_succ, i64_w, i32_w]
    rfl
  refine take_ (i := 1) (N := some 60) (v := ?_) (a' := ?_) #[true, true, false, false, false] rfl rfl (by kernel_rfl) (fun _ _ _ h => h) (Or.inl ⟨by rfl, ?_⟩) hHeld ?_ ?_
  rotate_left
  · rintro w' ⟨s0, s1, s2, s3, s4, s5, s6, s7, s8, s9, s10, s11, s12, s13, s14, s15, s16, s17, s18, s19⟩
    go_simp
    with_reducible rfl
  rotate_left
  · simp only [Act.put, List.setIfInBounds_toArray, List.set_cons_zero, List.set_cons_succ, i64_w, i32_w]
    rfl
  refine one_ (i := 2) (N := some 61) #[true, true, true, false, false] rfl rfl (by kernel_rfl) (by decide) (fun K hK => ?_)
  refine goes_ Try.func22 (by kernel_rfl) rfl #[.agg #[.int .i64 (ap_0), .slice A_ap_1 ap_1.length c_ap_1]] (by rfl) rfl rfl (by (try simp only [List.map_toArray, List.map_cons, List.map_nil]); first | done | rfl | (simp only [List.length_drop, List.length_take]; rfl)) ?_
  refine (laws_toPlan.calls kt_aP ap_0 _ _ ap_1 ap_0 ap_1 _ (by repeat (first | exact (Kd.C_below HR_ap_1.out HB.out) | (with_reducible refine Kd.C_alloc ?_ _) | (with_reducible refine Kd.C_drewN ?_ _) | (with_reducible refine Kd.C_drew ?_))) HC_ap_1.out Hkt_aP.out).mono ?_
  rintro e w21_ ⟨v1_n21, rfl, ho0_, hb_⟩
  refine ⟨_, rfl, ?_⟩
  have hp_ : Below w20_.heap.size w20_ w21_ := below_step (by repeat (first | exact Below.refl _ _ | (with_reducible apply below_alloc) | (with_reducible apply pw_below_drewN) | (with_reducible apply below_drew1))) hb_
  obtain ⟨B23, H23, eB_, eH_, hi1_, hi2_, hi3_⟩ := spot (W0 := w20_) (by repeat (first | exact Below.refl _ _ | (with_reducible apply below_alloc) | (with_reducible apply pw_below_drewN) | (with_reducible apply below_drew1))) hb_
  have HZ23 := Aside0.mk (⟨hi1_, hi2_, hi3_, hp_.size⟩ : _ ∧ _ ∧ _ ∧ _)
  have N23_0 := Aside0.mk (Own.new (W0 := w20_) (b := w.heap.size) (by repeat (first | exact Below.refl _ _ | (with_reducible apply below_alloc) | (with_reducible apply pw_below_drewN) | (with_reducible apply below_drew1))) ho0_ hb_ HB.out.size _ _ eB_ eH_)
  clear eB_ eH_ hi1_ hi2_ hi3_ ho0_
  have HBn_ := Aside0.mk (more HB.out hp_)
  clear HB
  have HB := HBn_
  clear HBn_
  have X_ := Aside0.mk (Vw0.out.step hp_)
  clear Vw0
  have Vw0 := X_
  clear X_
  have X_ := Aside0.mk (Vx00.out.step hp_)
  clear Vx00
  have Vx00 := X_
  clear X_
  have X_ := Aside0.mk (Vx01.out.step hp_)
  clear Vx01
  have Vx01 := X_
  clear X_
  have X_ := Aside0.mk (Vx02.out.step hp_)
  clear Vx02
  have Vx02 := X_
  clear X_
  have X_ := Aside0.mk (Vx10.out.step hp_)
  clear Vx10
  have Vx10 := X_
  clear X_
  have X_ := Aside0.mk (Vg0.out.step hp_)
  clear Vg0
  have Vg0 := X_
  clear X_
  have X_ := Aside0.mk (blk_below BK_aj.out hp_)
  clear BK_aj
  have BK_aj := X_
  clear X_
  have X_ := Aside0.mk (blk_below BK_ap.out hp_)
  clear BK_ap
  have BK_ap := X_
  clear X_
  have X_ := Aside0.mk (blk_below BK_x0.out hp_)
  clear BK_x0
  have BK_x0 := X_
  clear X_
  have X_ := Aside0.mk (blk_below BK_x1.out hp_)
  clear BK_x1
  have BK_x1 := X_
  clear X_
  clear hb_ hp_
  have T23_0 := N23_0
  clear N23_0
  obtain ⟨AT23_0, cT23_0, rfl, hc_⟩ := T23_0.out.reads
  have HCT23_0 := Aside0.mk hc_
  clear hc_
  refine hK.out _ _ ⟨(blk_cell BK_aj.out 0).trans rfl, (blk_cell BK_aj.out 1).trans rfl, (blk_cell BK_aj.out 2).trans rfl, (blk_cell BK_aj.out 3).trans rfl, (blk_cell BK_aj.out 4).trans rfl, (blk_cell BK_aj.out 5).trans rfl, (blk_cell BK_aj.out 6).trans rfl, (blk_cell BK_aj.out 7).trans rfl, (blk_cell BK_ap.out 0).trans rfl, (blk_cell BK_ap.out 1).trans rfl, (blk_cell BK_x0.out 0).trans rfl, (blk_cell BK_x0.out 1).trans rfl, (blk_cell BK_x0.out 2).trans rfl, (blk_cell BK_x0.out 3).trans rfl, (blk_cell BK_x0.out 4).trans rfl, (blk_cell BK_x0.out 5).trans rfl, (blk_cell BK_x0.out 6).trans rfl, (blk_cell BK_x0.out 7).trans rfl, (blk_cell BK_x1.out 0).trans rfl, (blk_cell BK_x1.out 1).trans rfl⟩ (fun hHeld => ?_)
  clear hK K
  refine norm_ (a' := ?_) ?_ ?_
  rotate_left
  · show Act.put _ (some 61) _ = _
    simp only [Act.put, List.setIfInBounds_toArray, List.set_cons_zero, List.set_cons_succ, i64_w, i32_w]
    rfl
  refine one_ (i := 3) (N := some 62) #[true, true, true, true, false] rfl rfl (by kernel_rfl) (by decide) (fun K hK => ?_)
  refine goes_ Try.func24 (by kernel_rfl) rfl #[.agg #[.int .i64 (ap_0), .slice AVx10 ap_1.length cVx10], .agg #[.int .i64 (ap_0), .slice AT23_0 ap_1.length cT23_0]] (by rfl) rfl rfl (by (try simp only [List.map_toArray, List.map_cons, List.map_nil]); first | done | rfl | (simp only [List.length_drop, List.length_take]; rfl)) ?_
  refine (laws_eqPlan.calls kq_aP ap_0 _ _ ap_1 ap_0 _ _ ap_1 true _ (by repeat (first | exact Vx10.out.C | (with_reducible refine Kd.C_alloc ?_ _) | (with_reducible refine Kd.C_drewN ?_ _) | (with_reducible refine Kd.C_drew ?_))) HCVx10.out (by repeat (first | exact T23_0.out.C | (with_reducible refine Kd.C_alloc ?_ _) | (with_reducible refine Kd.C_drewN ?_ _) | (with_reducible refine Kd.C_drew ?_))) HCT23_0.out Hkq_aP.out).mono ?_
  rintro e w22_ ⟨rfl, hd_⟩
  refine ⟨_, rfl, ?_⟩
  have hb_ := hd_
  clear hd_
  have hp_ : Below w21_.heap.size w21_ w22_ := below_step (by repeat (first | exact Below.refl _ _ | (with_reducible apply below_alloc) | (with_reducible apply pw_below_drewN) | (with_reducible apply below_drew1))) hb_
  have HZ24 := Aside0.mk hp_.size
  have HBn_ := Aside0.mk (more HB.out hp_)
  clear HB
  have HB := HBn_
  clear HBn_
  have X_ := Aside0.mk (Vw0.out.step hp_)
  clear Vw0
  have Vw0 := X_
  clear X_
  have X_ := Aside0.mk (Vx00.out.step hp_)
  clear Vx00
  have Vx00 := X_
  clear X_
  have X_ := Aside0.mk (Vx01.out.step hp_)
  clear Vx01
  have Vx01 := X_
  clear X_
  have X_ := Aside0.mk (Vx02.out.step hp_)
  clear Vx02
  have Vx02 := X_
  clear X_
  have X_ := Aside0.mk (Vx10.out.step hp_)
  clear Vx10
  have Vx10 := X_
  clear X_
  have X_ := Aside0.mk (Vg0.out.step hp_)
  clear Vg0
  have Vg0 := X_
  clear X_
  have X_ := Aside0.mk (T23_0.out.step hp_)
  clear T23_0
  have T23_0 := X_
  clear X_
  have X_ := Aside0.mk (blk_below BK_aj.out hp_)
  clear BK_aj
  have BK_aj := X_
  clear X_
  have X_ := Aside0.mk (blk_below BK_ap.out hp_)
  clear BK_ap
  have BK_ap := X_
  clear X_
  have X_ := Aside0.mk (blk_below BK_x0.out hp_)
  clear BK_x0
  have BK_x0 := X_
  clear X_
  have X_ := Aside0.mk (blk_below BK_x1.out hp_)
  clear BK_x1
  have BK_x1 := X_
  clear X_
  clear hb_ hp_
  refine hK.out _ _ ⟨(blk_cell BK_aj.out 0).trans rfl, (blk_cell BK_aj.out 1).trans rfl, (blk_cell BK_aj.out 2).trans rfl, (blk_cell BK_aj.out 3).trans rfl, (blk_cell BK_aj.out 4).trans rfl, (blk_cell BK_aj.out 5).trans rfl, (blk_cell BK_aj.out 6).trans rfl, (blk_cell BK_aj.out 7).trans rfl, (blk_cell BK_ap.out 0).trans rfl, (blk_cell BK_ap.out 1).trans rfl, (blk_cell BK_x0.out 0).trans rfl, (blk_cell BK_x0.out 1).trans rfl, (blk_cell BK_x0.out 2).trans rfl, (blk_cell BK_x0.out 3).trans rfl, (blk_cell BK_x0.out 4).trans rfl, (blk_cell BK_x0.out 5).trans rfl, (blk_cell BK_x0.out 6).trans rfl, (blk_cell BK_x0.out 7).trans rfl, (blk_cell BK_x1.out 0).trans rfl, (blk_cell BK_x1.out 1).trans rfl⟩ (fun hHeld => ?_)
  clear hK K
  refine norm_ (a' := ?_) ?_ ?_
  rotate_left
  · show Act.put _ (some 62) _ = _
    simp only [Act.put, List.setIfInBounds_toArray, List.set_cons_zero, List.set_cons_succ, i64_w, i32_w]
    rfl
  refine pure_ (i := 4) (N := some 63) (v := ?_) (a' := ?_) #[true, true, true, true, true] rfl rfl (by kernel_rfl) (fun _ _ _ h => h) (Or.inl ⟨by rfl, ?_⟩) ?_ ?_
  rotate_left
  · intro w'
    go_simp
    with_reducible rfl
  rotate_left
  · simp only [Act.put, List.setIfInBounds_toArray, List.set_cons_zero, List.set_cons_succ, i64_w, i32_w]
    rfl
  refine done_ (by kernel_rfl) ?_
  have hcz_aj_0 : w22_.cell? ⟨g_aj, 0, none⟩ = some (.slice A_aj_0 aj_0.length c_aj_0) := (blk_cell BK_aj.out 0).trans rfl
  have hfz_aj_0 := blk_frozen BK_aj.out 0
  have hcz_aj_1 : w22_.cell? ⟨g_aj, 1, none⟩ = some (.slice A_aj_1 aj_1.length c_aj_1) := (blk_cell BK_aj.out 1).trans rfl
  have hfz_aj_1 := blk_frozen BK_aj.out 1
  have hcz_aj_2 : w22_.cell? ⟨g_aj, 2, none⟩ = some (.slice A_aj_2 aj_2.length c_aj_2) := (blk_cell BK_aj.out 2).trans rfl
  have hfz_aj_2 := blk_frozen BK_aj.out 2
  have hcz_aj_3 : w22_.cell? ⟨g_aj, 3, none⟩ = some (.int .i64 aj_3) := (blk_cell BK_aj.out 3).trans rfl
  have hfz_aj_3 := blk_frozen BK_aj.out 3
  have hcz_aj_4 : w22_.cell? ⟨g_aj, 4, none⟩ = some (.int .i64 aj_4) := (blk_cell BK_aj.out 4).trans rfl
  have hfz_aj_4 := blk_frozen BK_aj.out 4
  have hcz_aj_5 : w22_.cell? ⟨g_aj, 5, none⟩ = some (.int .i64 aj_5) := (blk_cell BK_aj.out 5).trans rfl
  have hfz_aj_5 := blk_frozen BK_aj.out 5
  have hcz_aj_6 : w22_.cell? ⟨g_aj, 6, none⟩ = some (.int .i64 aj_6) := (blk_cell BK_aj.out 6).trans rfl
  have hfz_aj_6 := blk_frozen BK_aj.out 6
  have hcz_aj_7 : w22_.cell? ⟨g_aj, 7, none⟩ = some (.int .i64 aj_7) := (blk_cell BK_aj.out 7).trans rfl
  have hfz_aj_7 := blk_frozen BK_aj.out 7
  have hcz_ap_0 : w22_.cell? ⟨g_ap, 0, none⟩ = some (.int .i64 ap_0) := (blk_cell BK_ap.out 0).trans rfl
  have hfz_ap_0 := blk_frozen BK_ap.out 0
  have hcz_ap_1 : w22_.cell? ⟨g_ap, 1, none⟩ = some (.slice A_ap_1 ap_1.length c_ap_1) := (blk_cell BK_ap.out 1).trans rfl
  have hfz_ap_1 := blk_frozen BK_ap.out 1
  have hcz_x0_0 : w22_.cell? ⟨g_x0, 0, none⟩ = some (.slice AVx00 aj_0.length cVx00) := (blk_cell BK_x0.out 0).trans rfl
  have hfz_x0_0 := blk_frozen BK_x0.out 0
  have hcz_x0_1 : w22_.cell? ⟨g_x0, 1, none⟩ = some (.slice AVx01 aj_1.length cVx01) := (blk_cell BK_x0.out 1).trans rfl
  have hfz_x0_1 := blk_frozen BK_x0.out 1
  have hcz_x0_2 : w22_.cell? ⟨g_x0, 2, none⟩ = some (.slice AVx02 aj_2.length cVx02) := (blk_cell BK_x0.out 2).trans rfl
  have hfz_x0_2 := blk_frozen BK_x0.out 2
  have hcz_x0_3 : w22_.cell? ⟨g_x0, 3, none⟩ = some (.int .i64 aj_3) := (blk_cell BK_x0.out 3).trans rfl
  have hfz_x0_3 := blk_frozen BK_x0.out 3
  have hcz_x0_4 : w22_.cell? ⟨g_x0, 4, none⟩ = some (.int .i64 aj_4) := (blk_cell BK_x0.out 4).trans rfl
  have hfz_x0_4 := blk_frozen BK_x0.out 4
  have hcz_x0_5 : w22_.cell? ⟨g_x0, 5, none⟩ = some (.int .i64 aj_5) := (blk_cell BK_x0.out 5).trans rfl
  have hfz_x0_5 := blk_frozen BK_x0.out 5
  have hcz_x0_6 : w22_.cell? ⟨g_x0, 6, none⟩ = some (.int .i64 aj_6) := (blk_cell BK_x0.out 6).trans rfl
  have hfz_x0_6 := blk_frozen BK_x0.out 6
  have hcz_x0_7 : w22_.cell? ⟨g_x0, 7, none⟩ = some (.int .i64 aj_7) := (blk_cell BK_x0.out 7).trans rfl
  have hfz_x0_7 := blk_frozen BK_x0.out 7
  have hcz_x1_0 : w22_.cell? ⟨g_x1, 0, none⟩ = some (.int .i64 ap_0) := (blk_cell BK_x1.out 0).trans rfl
  have hfz_x1_0 := blk_frozen BK_x1.out 0
  have hcz_x1_1 : w22_.cell? ⟨g_x1, 1, none⟩ = some (.slice AVx10 ap_1.length cVx10) := (blk_cell BK_x1.out 1).trans rfl
  have hfz_x1_1 := blk_frozen BK_x1.out 1
  clear T23_0 HCT23_0
  have hlaj_0_ := HTO_aj_0.out
  have hlaj_1_ := HBD_aj_1.out
  have hlaj_2_ := HBD_aj_2.out
  have hs_ : 1 + (totL aj_0 : Int) + (aj_1.length : Int) + (aj_2.length : Int) < 1000000000000 := by omega
  have HSM25 := Aside0.mk hs_
  clear hs_ hlaj_0_ hlaj_1_ hlaj_2_
  go_wp2_with fail
  refine (markJob_calls aj_0 aj_1 aj_2 aj_3 aj_4 aj_5 aj_6 aj_7 1 (by omega) HSM25.out _ _ _ _ _ _ w _ (more HB.out (by repeat (first | exact Below.refl _ _ | (with_reducible apply below_alloc) | (with_reducible apply pw_below_drewN) | (with_reducible apply below_drew1)))) (by have q_ := Vx00.out.r; repeat (first | exact q_ | (with_reducible refine Kd.R_alloc ?_ _) | (with_reducible refine Kd.S_alloc ?_ _))) (by have q_ := Vx01.out.r; repeat (first | exact q_ | (with_reducible refine Kd.R_alloc ?_ _) | (with_reducible refine Kd.S_alloc ?_ _))) (by have q_ := Vx02.out.r; repeat (first | exact q_ | (with_reducible refine Kd.R_alloc ?_ _) | (with_reducible refine Kd.S_alloc ?_ _))) (fun k h1_ h2_ => by have q1_ := h1_.2; have q2_ := h2_.2; first | exact q2_.1 q1_.2 | exact q2_.2 q1_.2 | exact q2_.1.1 q1_.2 | exact q2_.1.2 q1_.2 | exact q1_.1 q2_.2 | exact q1_.2 q2_.2 | exact q1_.1.1 q2_.2 | exact q1_.1.2 q2_.2) (fun k h1_ h2_ => by have q1_ := h1_.2; have q2_ := h2_.2; first | exact q2_.1 q1_.2 | exact q2_.2 q1_.2 | exact q2_.1.1 q1_.2 | exact q2_.1.2 q1_.2 | exact q1_.1 q2_.2 | exact q1_.2 q2_.2 | exact q1_.1.1 q2_.2 | exact q1_.1.2 q2_.2) (fun k h1_ h2_ => by have q1_ := h1_.2; have q2_ := h2_.2; first | exact q2_.1 q1_.2 | exact q2_.2 q1_.2 | exact q2_.1.1 q1_.2 | exact q2_.1.2 q1_.2 | exact q1_.1 q2_.2 | exact q1_.2 q2_.2 | exact q1_.1.1 q2_.2 | exact q1_.1.2 q2_.2)).mono ?_
  rintro e w23_ ⟨rfl, hb_, hk0_⟩
  have hk_ := Kept.then_ (w := w22_) (Kept.of_below (by repeat (first | exact Below.refl _ _ | (with_reducible apply below_alloc) | (with_reducible apply pw_below_drewN) | (with_reducible apply below_drew1))) _) hk0_ (fun _ h_ => Or.inl h_)
  have HZ26 := Aside0.mk hk_.1
  clear HB
  have HB := Aside0.mk hb_
  have X_ := Aside0.mk (Vw0.out.kept hk_ (fun k h1_ h2_ h3_ => by rcases h3_ with h3_ | h3_ | h3_ <;> (have h4_ := h3_.1; have z0 := HZ2.out; have z1 := HZ3.out; have z2 := HZ4.out; have z3 := HZ6.out; have z4 := HZ7.out; have z5 := HZ8.out; have z6 := HZ9.out; have z7 := HZ10.out; have z8 := HZ11.out; have z9 := HZ12.out; have z10 := HZ13.out; have z11 := HZ14.out; have z12 := HZ15.out; have z13 := HZ16.out; have z14 := HZ17.out; have z15 := HZ18.out; have z16 := HZ19.out; have z17 := HZ20.out; have z18 := HZ21.out; have z19 := HZ22.out; have z20 := HZ23.out; have z21 := HZ24.out; have z22 := HZ26.out; omega)))
  clear Vw0
  have Vw0 := X_
  clear X_
  have X_ := Aside0.mk (Vx10.out.kept hk_ (fun k h1_ h2_ h3_ => by rcases h3_ with h3_ | h3_ | h3_ <;> (have h4_ := h3_.1; have z0 := HZ2.out; have z1 := HZ3.out; have z2 := HZ4.out; have z3 := HZ6.out; have z4 := HZ7.out; have z5 := HZ8.out; have z6 := HZ9.out; have z7 := HZ10.out; have z8 := HZ11.out; have z9 := HZ12.out; have z10 := HZ13.out; have z11 := HZ14.out; have z12 := HZ15.out; have z13 := HZ16.out; have z14 := HZ17.out; have z15 := HZ18.out; have z16 := HZ19.out; have z17 := HZ20.out; have z18 := HZ21.out; have z19 := HZ22.out; have z20 := HZ23.out; have z21 := HZ24.out; have z22 := HZ26.out; omega)))
  clear Vx10
  have Vx10 := X_
  clear X_
  have X_ := Aside0.mk (Vg0.out.kept hk_ (fun k h1_ h2_ h3_ => by rcases h3_ with h3_ | h3_ | h3_ <;> (have h4_ := h3_.1; have z0 := HZ2.out; have z1 := HZ3.out; have z2 := HZ4.out; have z3 := HZ6.out; have z4 := HZ7.out; have z5 := HZ8.out; have z6 := HZ9.out; have z7 := HZ10.out; have z8 := HZ11.out; have z9 := HZ12.out; have z10 := HZ13.out; have z11 := HZ14.out; have z12 := HZ15.out; have z13 := HZ16.out; have z14 := HZ17.out; have z15 := HZ18.out; have z16 := HZ19.out; have z17 := HZ20.out; have z18 := HZ21.out; have z19 := HZ22.out; have z20 := HZ23.out; have z21 := HZ24.out; have z22 := HZ26.out; omega)))
  clear Vg0
  have Vg0 := X_
  clear X_
  clear hcz_aj_0 hfz_aj_0 hcz_aj_1 hfz_aj_1 hcz_aj_2 hfz_aj_2 hcz_aj_3 hfz_aj_3 hcz_aj_4 hfz_aj_4 hcz_aj_5 hfz_aj_5 hcz_aj_6 hfz_aj_6 hcz_aj_7 hfz_aj_7
  have X_ := Aside0.mk (blk_kept BK_aj.out hk_ (fun h3_ => by rcases h3_ with h3_ | h3_ | h3_ <;> (have h4_ := h3_.1; have z0 := HZ2.out; have z1 := HZ3.out; have z2 := HZ4.out; have z3 := HZ6.out; have z4 := HZ7.out; have z5 := HZ8.out; have z6 := HZ9.out; have z7 := HZ10.out; have z8 := HZ11.out; have z9 := HZ12.out; have z10 := HZ13.out; have z11 := HZ14.out; have z12 := HZ15.out; have z13 := HZ16.out; have z14 := HZ17.out; have z15 := HZ18.out; have z16 := HZ19.out; have z17 := HZ20.out; have z18 := HZ21.out; have z19 := HZ22.out; have z20 := HZ23.out; have z21 := HZ24.out; have z22 := HZ26.out; omega)))
  clear BK_aj
  have BK_aj := X_
  clear X_
  have hcz_aj_0 : w23_.cell? ⟨g_aj, 0, none⟩ = some (.slice A_aj_0 aj_0.length c_aj_0) := (blk_cell BK_aj.out 0).trans rfl
  have hfz_aj_0 := blk_frozen BK_aj.out 0
  have hcz_aj_1 : w23_.cell? ⟨g_aj, 1, none⟩ = some (.slice A_aj_1 aj_1.length c_aj_1) := (blk_cell BK_aj.out 1).trans rfl
  have hfz_aj_1 := blk_frozen BK_aj.out 1
  have hcz_aj_2 : w23_.cell? ⟨g_aj, 2, none⟩ = some (.slice A_aj_2 aj_2.length c_aj_2) := (blk_cell BK_aj.out 2).trans rfl
  have hfz_aj_2 := blk_frozen BK_aj.out 2
  have hcz_aj_3 : w23_.cell? ⟨g_aj, 3, none⟩ = some (.int .i64 aj_3) := (blk_cell BK_aj.out 3).trans rfl
  have hfz_aj_3 := blk_frozen BK_aj.out 3
  have hcz_aj_4 : w23_.cell? ⟨g_aj, 4, none⟩ = some (.int .i64 aj_4) := (blk_cell BK_aj.out 4).trans rfl
  have hfz_aj_4 := blk_frozen BK_aj.out 4
  have hcz_aj_5 : w23_.cell? ⟨g_aj, 5, none⟩ = some (.int .i64 aj_5) := (blk_cell BK_aj.out 5).trans rfl
  have hfz_aj_5 := blk_frozen BK_aj.out 5
  have hcz_aj_6 : w23_.cell? ⟨g_aj, 6, none⟩ = some (.int .i64 aj_6) := (blk_cell BK_aj.out 6).trans rfl
  have hfz_aj_6 := blk_frozen BK_aj.out 6
  have hcz_aj_7 : w23_.cell? ⟨g_aj, 7, none⟩ = some (.int .i64 aj_7) := (blk_cell BK_aj.out 7).trans rfl
  have hfz_aj_7 := blk_frozen BK_aj.out 7
  clear hcz_ap_0 hfz_ap_0 hcz_ap_1 hfz_ap_1
  have X_ := Aside0.mk (blk_kept BK_ap.out hk_ (fun h3_ => by rcases h3_ with h3_ | h3_ | h3_ <;> (have h4_ := h3_.1; have z0 := HZ2.out; have z1 := HZ3.out; have z2 := HZ4.out; have z3 := HZ6.out; have z4 := HZ7.out; have z5 := HZ8.out; have z6 := HZ9.out; have z7 := HZ10.out; have z8 := HZ11.out; have z9 := HZ12.out; have z10 := HZ13.out; have z11 := HZ14.out; have z12 := HZ15.out; have z13 := HZ16.out; have z14 := HZ17.out; have z15 := HZ18.out; have z16 := HZ19.out; have z17 := HZ20.out; have z18 := HZ21.out; have z19 := HZ22.out; have z20 := HZ23.out; have z21 := HZ24.out; have z22 := HZ26.out; omega)))
  clear BK_ap
  have BK_ap := X_
  clear X_
  have hcz_ap_0 : w23_.cell? ⟨g_ap, 0, none⟩ = some (.int .i64 ap_0) := (blk_cell BK_ap.out 0).trans rfl
  have hfz_ap_0 := blk_frozen BK_ap.out 0
  have hcz_ap_1 : w23_.cell? ⟨g_ap, 1, none⟩ = some (.slice A_ap_1 ap_1.length c_ap_1) := (blk_cell BK_ap.out 1).trans rfl
  have hfz_ap_1 := blk_frozen BK_ap.out 1
  clear hcz_x0_0 hfz_x0_0 hcz_x0_1 hfz_x0_1 hcz_x0_2 hfz_x0_2 hcz_x0_3 hfz_x0_3 hcz_x0_4 hfz_x0_4 hcz_x0_5 hfz_x0_5 hcz_x0_6 hfz_x0_6 hcz_x0_7 hfz_x0_7
  have X_ := Aside0.mk (blk_kept BK_x0.out hk_ (fun h3_ => by rcases h3_ with h3_ | h3_ | h3_ <;> (have h4_ := h3_.1; have z0 := HZ2.out; have z1 := HZ3.out; have z2 := HZ4.out; have z3 := HZ6.out; have z4 := HZ7.out; have z5 := HZ8.out; have z6 := HZ9.out; have z7 := HZ10.out; have z8 := HZ11.out; have z9 := HZ12.out; have z10 := HZ13.out; have z11 := HZ14.out; have z12 := HZ15.out; have z13 := HZ16.out; have z14 := HZ17.out; have z15 := HZ18.out; have z16 := HZ19.out; have z17 := HZ20.out; have z18 := HZ21.out; have z19 := HZ22.out; have z20 := HZ23.out; have z21 := HZ24.out; have z22 := HZ26.out; omega)))
  clear BK_x0
  have BK_x0 := X_
  clear X_
  have hcz_x0_0 : w23_.cell? ⟨g_x0, 0, none⟩ = some (.slice AVx00 aj_0.length cVx00) := (blk_cell BK_x0.out 0).trans rfl
  have hfz_x0_0 := blk_frozen BK_x0.out 0
  have hcz_x0_1 : w23_.cell? ⟨g_x0, 1, none⟩ = some (.slice AVx01 aj_1.length cVx01) := (blk_cell BK_x0.out 1).trans rfl
  have hfz_x0_1 := blk_frozen BK_x0.out 1
  have hcz_x0_2 : w23_.cell? ⟨g_x0, 2, none⟩ = some (.slice AVx02 aj_2.length cVx02) := (blk_cell BK_x0.out 2).trans rfl
  have hfz_x0_2 := blk_frozen BK_x0.out 2
  have hcz_x0_3 : w23_.cell? ⟨g_x0, 3, none⟩ = some (.int .i64 aj_3) := (blk_cell BK_x0.out 3).trans rfl
  have hfz_x0_3 := blk_frozen BK_x0.out 3
  have hcz_x0_4 : w23_.cell? ⟨g_x0, 4, none⟩ = some (.int .i64 aj_4) := (blk_cell BK_x0.out 4).trans rfl
  have hfz_x0_4 := blk_frozen BK_x0.out 4
  have hcz_x0_5 : w23_.cell? ⟨g_x0, 5, none⟩ = some (.int .i64 aj_5) := (blk_cell BK_x0.out 5).trans rfl
  have hfz_x0_5 := blk_frozen BK_x0.out 5
  have hcz_x0_6 : w23_.cell? ⟨g_x0, 6, none⟩ = some (.int .i64 aj_6) := (blk_cell BK_x0.out 6).trans rfl
  have hfz_x0_6 := blk_frozen BK_x0.out 6
  have hcz_x0_7 : w23_.cell? ⟨g_x0, 7, none⟩ = some (.int .i64 aj_7) := (blk_cell BK_x0.out 7).trans rfl
  have hfz_x0_7 := blk_frozen BK_x0.out 7
  clear hcz_x1_0 hfz_x1_0 hcz_x1_1 hfz_x1_1
  have X_ := Aside0.mk (blk_kept BK_x1.out hk_ (fun h3_ => by rcases h3_ with h3_ | h3_ | h3_ <;> (have h4_ := h3_.1; have z0 := HZ2.out; have z1 := HZ3.out; have z2 := HZ4.out; have z3 := HZ6.out; have z4 := HZ7.out; have z5 := HZ8.out; have z6 := HZ9.out; have z7 := HZ10.out; have z8 := HZ11.out; have z9 := HZ12.out; have z10 := HZ13.out; have z11 := HZ14.out; have z12 := HZ15.out; have z13 := HZ16.out; have z14 := HZ17.out; have z15 := HZ18.out; have z16 := HZ19.out; have z17 := HZ20.out; have z18 := HZ21.out; have z19 := HZ22.out; have z20 := HZ23.out; have z21 := HZ24.out; have z22 := HZ26.out; omega)))
  clear BK_x1
  have BK_x1 := X_
  clear X_
  have hcz_x1_0 : w23_.cell? ⟨g_x1, 0, none⟩ = some (.int .i64 ap_0) := (blk_cell BK_x1.out 0).trans rfl
  have hfz_x1_0 := blk_frozen BK_x1.out 0
  have hcz_x1_1 : w23_.cell? ⟨g_x1, 1, none⟩ = some (.slice AVx10 ap_1.length cVx10) := (blk_cell BK_x1.out 1).trans rfl
  have hfz_x1_1 := blk_frozen BK_x1.out 1
  clear Vx00
  clear Vx01
  clear Vx02
  clear hb_ hk_ hk0_
  obtain ⟨a27, ea_⟩ : ∃ a_ : Int, a_ = 1 + (totL aj_0 : Int) + (aj_1.length : Int) + (aj_2.length : Int) := ⟨_, rfl⟩
  rw [← ea_]
  have ha27 : 1 ≤ a27 ∧ a27 ≤ 1 + 3145728 := by have := HTO_aj_0.out; have := HBD_aj_1.out; have := HBD_aj_2.out; omega
  clear ea_
  have hlap_1_ := HBD_ap_1.out
  obtain ⟨km28, h_⟩ := (markPlan_ev ap_0 ap_1 (a27) (by omega) (by omega)).rounds
  have HM28 := Aside0.mk h_
  clear h_
  have hs_ : a27 + (ap_1.length : Int) < 1000000000000 := by omega
  have HSM28 := Aside0.mk hs_
  clear hs_ hlap_1_
  go_wp2_with fail
  refine (laws_markPlan.calls km28 ap_0 _ _ ap_1 a27 _ _ w _ (more HB.out (by repeat (first | exact Below.refl _ _ | (with_reducible apply below_alloc) | (with_reducible apply pw_below_drewN) | (with_reducible apply below_drew1)))) (by have q_ := Vx10.out.r; repeat (first | exact q_ | (with_reducible refine Kd.R_alloc ?_ _) | (with_reducible refine Kd.S_alloc ?_ _))) HM28.out).mono ?_
  rintro e w24_ ⟨rfl, _, hb_, hk0_⟩
  have hk_ := Kept.then_ (w := w23_) (Kept.of_below (by repeat (first | exact Below.refl _ _ | (with_reducible apply below_alloc) | (with_reducible apply pw_below_drewN) | (with_reducible apply below_drew1))) _) hk0_ (fun _ h_ => Or.inl h_)
  have HZ29 := Aside0.mk hk_.1
  clear HB
  have HB := Aside0.mk hb_
  have X_ := Aside0.mk (Vw0.out.kept hk_ (fun k h1_ h2_ h3_ => by have h4_ := h3_.1; have z0 := HZ2.out; have z1 := HZ3.out; have z2 := HZ4.out; have z3 := HZ6.out; have z4 := HZ7.out; have z5 := HZ8.out; have z6 := HZ9.out; have z7 := HZ10.out; have z8 := HZ11.out; have z9 := HZ12.out; have z10 := HZ13.out; have z11 := HZ14.out; have z12 := HZ15.out; have z13 := HZ16.out; have z14 := HZ17.out; have z15 := HZ18.out; have z16 := HZ19.out; have z17 := HZ20.out; have z18 := HZ21.out; have z19 := HZ22.out; have z20 := HZ23.out; have z21 := HZ24.out; have z22 := HZ26.out; have z23 := HZ29.out; omega))
  clear Vw0
  have Vw0 := X_
  clear X_
  have X_ := Aside0.mk (Vg0.out.kept hk_ (fun k h1_ h2_ h3_ => by have h4_ := h3_.1; have z0 := HZ2.out; have z1 := HZ3.out; have z2 := HZ4.out; have z3 := HZ6.out; have z4 := HZ7.out; have z5 := HZ8.out; have z6 := HZ9.out; have z7 := HZ10.out; have z8 := HZ11.out; have z9 := HZ12.out; have z10 := HZ13.out; have z11 := HZ14.out; have z12 := HZ15.out; have z13 := HZ16.out; have z14 := HZ17.out; have z15 := HZ18.out; have z16 := HZ19.out; have z17 := HZ20.out; have z18 := HZ21.out; have z19 := HZ22.out; have z20 := HZ23.out; have z21 := HZ24.out; have z22 := HZ26.out; have z23 := HZ29.out; omega))
  clear Vg0
  have Vg0 := X_
  clear X_
  clear hcz_aj_0 hfz_aj_0 hcz_aj_1 hfz_aj_1 hcz_aj_2 hfz_aj_2 hcz_aj_3 hfz_aj_3 hcz_aj_4 hfz_aj_4 hcz_aj_5 hfz_aj_5 hcz_aj_6 hfz_aj_6 hcz_aj_7 hfz_aj_7
  have X_ := Aside0.mk (blk_kept BK_aj.out hk_ (fun h3_ => by have h4_ := h3_.1; have z0 := HZ2.out; have z1 := HZ3.out; have z2 := HZ4.out; have z3 := HZ6.out; have z4 := HZ7.out; have z5 := HZ8.out; have z6 := HZ9.out; have z7 := HZ10.out; have z8 := HZ11.out; have z9 := HZ12.out; have z10 := HZ13.out; have z11 := HZ14.out; have z12 := HZ15.out; have z13 := HZ16.out; have z14 := HZ17.out; have z15 := HZ18.out; have z16 := HZ19.out; have z17 := HZ20.out; have z18 := HZ21.out; have z19 := HZ22.out; have z20 := HZ23.out; have z21 := HZ24.out; have z22 := HZ26.out; have z23 := HZ29.out; omega))
  clear BK_aj
  have BK_aj := X_
  clear X_
  have hcz_aj_0 : w24_.cell? ⟨g_aj, 0, none⟩ = some (.slice A_aj_0 aj_0.length c_aj_0) := (blk_cell BK_aj.out 0).trans rfl
  have hfz_aj_0 := blk_frozen BK_aj.out 0
  have hcz_aj_1 : w24_.cell? ⟨g_aj, 1, none⟩ = some (.slice A_aj_1 aj_1.length c_aj_1) := (blk_cell BK_aj.out 1).trans rfl
  have hfz_aj_1 := blk_frozen BK_aj.out 1
  have hcz_aj_2 : w24_.cell? ⟨g_aj, 2, none⟩ = some (.slice A_aj_2 aj_2.length c_aj_2) := (blk_cell BK_aj.out 2).trans rfl
  have hfz_aj_2 := blk_frozen BK_aj.out 2
  have hcz_aj_3 : w24_.cell? ⟨g_aj, 3, none⟩ = some (.int .i64 aj_3) := (blk_cell BK_aj.out 3).trans rfl
  have hfz_aj_3 := blk_frozen BK_aj.out 3
  have hcz_aj_4 : w24_.cell? ⟨g_aj, 4, none⟩ = some (.int .i64 aj_4) := (blk_cell BK_aj.out 4).trans rfl
  have hfz_aj_4 := blk_frozen BK_aj.out 4
  have hcz_aj_5 : w24_.cell? ⟨g_aj, 5, none⟩ = some (.int .i64 aj_5) := (blk_cell BK_aj.out 5).trans rfl
  have hfz_aj_5 := blk_frozen BK_aj.out 5
  have hcz_aj_6 : w24_.cell? ⟨g_aj, 6, none⟩ = some (.int .i64 aj_6) := (blk_cell BK_aj.out 6).trans rfl
  have hfz_aj_6 := blk_frozen BK_aj.out 6
  have hcz_aj_7 : w24_.cell? ⟨g_aj, 7, none⟩ = some (.int .i64 aj_7) := (blk_cell BK_aj.out 7).trans rfl
  have hfz_aj_7 := blk_frozen BK_aj.out 7
  clear hcz_ap_0 hfz_ap_0 hcz_ap_1 hfz_ap_1
  have X_ := Aside0.mk (blk_kept BK_ap.out hk_ (fun h3_ => by have h4_ := h3_.1; have z0 := HZ2.out; have z1 := HZ3.out; have z2 := HZ4.out; have z3 := HZ6.out; have z4 := HZ7.out; have z5 := HZ8.out; have z6 := HZ9.out; have z7 := HZ10.out; have z8 := HZ11.out; have z9 := HZ12.out; have z10 := HZ13.out; have z11 := HZ14.out; have z12 := HZ15.out; have z13 := HZ16.out; have z14 := HZ17.out; have z15 := HZ18.out; have z16 := HZ19.out; have z17 := HZ20.out; have z18 := HZ21.out; have z19 := HZ22.out; have z20 := HZ23.out; have z21 := HZ24.out; have z22 := HZ26.out; have z23 := HZ29.out; omega))
  clear BK_ap
  have BK_ap := X_
  clear X_
  have hcz_ap_0 : w24_.cell? ⟨g_ap, 0, none⟩ = some (.int .i64 ap_0) := (blk_cell BK_ap.out 0).trans rfl
  have hfz_ap_0 := blk_frozen BK_ap.out 0
  have hcz_ap_1 : w24_.cell? ⟨g_ap, 1, none⟩ = some (.slice A_ap_1 ap_1.length c_ap_1) := (blk_cell BK_ap.out 1).trans rfl
  have hfz_ap_1 := blk_frozen BK_ap.out 1
  clear hcz_x0_0 hfz_x0_0 hcz_x0_1 hfz_x0_1 hcz_x0_2 hfz_x0_2 hcz_x0_3 hfz_x0_3 hcz_x0_4 hfz_x0_4 hcz_x0_5 hfz_x0_5 hcz_x0_6 hfz_x0_6 hcz_x0_7 hfz_x0_7
  have X_ := Aside0.mk (blk_kept BK_x0.out hk_ (fun h3_ => by have h4_ := h3_.1; have z0 := HZ2.out; have z1 := HZ3.out; have z2 := HZ4.out; have z3 := HZ6.out; have z4 := HZ7.out; have z5 := HZ8.out; have z6 := HZ9.out; have z7 := HZ10.out; have z8 := HZ11.out; have z9 := HZ12.out; have z10 := HZ13.out; have z11 := HZ14.out; have z12 := HZ15.out; have z13 := HZ16.out; have z14 := HZ17.out; have z15 := HZ18.out; have z16 := HZ19.out; have z17 := HZ20.out; have z18 := HZ21.out; have z19 := HZ22.out; have z20 := HZ23.out; have z21 := HZ24.out; have z22 := HZ26.out; have z23 := HZ29.out; omega))
  clear BK_x0
  have BK_x0 := X_
  clear X_
  have hcz_x0_0 : w24_.cell? ⟨g_x0, 0, none⟩ = some (.slice AVx00 aj_0.length cVx00) := (blk_cell BK_x0.out 0).trans rfl
  have hfz_x0_0 := blk_frozen BK_x0.out 0
  have hcz_x0_1 : w24_.cell? ⟨g_x0, 1, none⟩ = some (.slice AVx01 aj_1.length cVx01) := (blk_cell BK_x0.out 1).trans rfl
  have hfz_x0_1 := blk_frozen BK_x0.out 1
  have hcz_x0_2 : w24_.cell? ⟨g_x0, 2, none⟩ = some (.slice AVx02 aj_2.length cVx02) := (blk_cell BK_x0.out 2).trans rfl
  have hfz_x0_2 := blk_frozen BK_x0.out 2
  have hcz_x0_3 : w24_.cell? ⟨g_x0, 3, none⟩ = some (.int .i64 aj_3) := (blk_cell BK_x0.out 3).trans rfl
  have hfz_x0_3 := blk_frozen BK_x0.out 3
  have hcz_x0_4 : w24_.cell? ⟨g_x0, 4, none⟩ = some (.int .i64 aj_4) := (blk_cell BK_x0.out 4).trans rfl
  have hfz_x0_4 := blk_frozen BK_x0.out 4
  have hcz_x0_5 : w24_.cell? ⟨g_x0, 5, none⟩ = some (.int .i64 aj_5) := (blk_cell BK_x0.out 5).trans rfl
  have hfz_x0_5 := blk_frozen BK_x0.out 5
  have hcz_x0_6 : w24_.cell? ⟨g_x0, 6, none⟩ = some (.int .i64 aj_6) := (blk_cell BK_x0.out 6).trans rfl
  have hfz_x0_6 := blk_frozen BK_x0.out 6
  have hcz_x0_7 : w24_.cell? ⟨g_x0, 7, none⟩ = some (.int .i64 aj_7) := (blk_cell BK_x0.out 7).trans rfl
  have hfz_x0_7 := blk_frozen BK_x0.out 7
  clear hcz_x1_0 hfz_x1_0 hcz_x1_1 hfz_x1_1
  have X_ := Aside0.mk (blk_kept BK_x1.out hk_ (fun h3_ => by have h4_ := h3_.1; have z0 := HZ2.out; have z1 := HZ3.out; have z2 := HZ4.out; have z3 := HZ6.out; have z4 := HZ7.out; have z5 := HZ8.out; have z6 := HZ9.out; have z7 := HZ10.out; have z8 := HZ11.out; have z9 := HZ12.out; have z10 := HZ13.out; have z11 := HZ14.out; have z12 := HZ15.out; have z13 := HZ16.out; have z14 := HZ17.out; have z15 := HZ18.out; have z16 := HZ19.out; have z17 := HZ20.out; have z18 := HZ21.out; have z19 := HZ22.out; have z20 := HZ23.out; have z21 := HZ24.out; have z22 := HZ26.out; have z23 := HZ29.out; omega))
  clear BK_x1
  have BK_x1 := X_
  clear X_
  have hcz_x1_0 : w24_.cell? ⟨g_x1, 0, none⟩ = some (.int .i64 ap_0) := (blk_cell BK_x1.out 0).trans rfl
  have hfz_x1_0 := blk_frozen BK_x1.out 0
  have hcz_x1_1 : w24_.cell? ⟨g_x1, 1, none⟩ = some (.slice AVx10 ap_1.length cVx10) := (blk_cell BK_x1.out 1).trans rfl
  have hfz_x1_1 := blk_frozen BK_x1.out 1
  clear Vx10
  clear hb_ hk_ hk0_
  obtain ⟨a30, ea_⟩ : ∃ a_ : Int, a_ = a27 + (ap_1.length : Int) := ⟨_, rfl⟩
  rw [← ea_]
  have ha30 : 1 ≤ a30 ∧ a30 ≤ a27 + 1048576 := by have := HBD_ap_1.out; omega
  clear ea_
  have dk_ : decide (a30 < 0) = false := decide_eq_false (by omega)
  go_wp2_with fail
  refine (laws_eqIntSS.calls kgq _ _ r1v _ _ r1v true _ (by repeat (first | exact Vg0.out.C | (with_reducible refine Kd.C_alloc ?_ _) | (with_reducible refine Kd.C_drewN ?_ _) | (with_reducible refine Kd.C_drew ?_))) HCVg0.out (by repeat (first | exact Vw0.out.C | (with_reducible refine Kd.C_alloc ?_ _) | (with_reducible refine Kd.C_drewN ?_ _) | (with_reducible refine Kd.C_drew ?_))) HCVw0.out Hkgq.out).mono ?_
  rintro e w25_ ⟨rfl, hd_⟩
  have hb_ := drawn_below hd_
  clear hd_
  have hp_ : Below w24_.heap.size w24_ w25_ := below_step (by repeat (first | exact Below.refl _ _ | (with_reducible apply below_alloc) | (with_reducible apply pw_below_drewN) | (with_reducible apply below_drew1))) hb_
  have HZ31 := Aside0.mk hp_.size
  have HBn_ := Aside0.mk (more HB.out hp_)
  clear HB
  have HB := HBn_
  clear HBn_
  have X_ := Aside0.mk (Vw0.out.step hp_)
  clear Vw0
  have Vw0 := X_
  clear X_
  have X_ := Aside0.mk (Vg0.out.step hp_)
  clear Vg0
  have Vg0 := X_
  clear X_
  clear hcz_aj_0 hfz_aj_0 hcz_aj_1 hfz_aj_1 hcz_aj_2 hfz_aj_2 hcz_aj_3 hfz_aj_3 hcz_aj_4 hfz_aj_4 hcz_aj_5 hfz_aj_5 hcz_aj_6 hfz_aj_6 hcz_aj_7 hfz_aj_7
  have X_ := Aside0.mk (blk_below BK_aj.out hp_)
  clear BK_aj
  have BK_aj := X_
  clear X_
  have hcz_aj_0 : w25_.cell? ⟨g_aj, 0, none⟩ = some (.slice A_aj_0 aj_0.length c_aj_0) := (blk_cell BK_aj.out 0).trans rfl
  have hfz_aj_0 := blk_frozen BK_aj.out 0
  have hcz_aj_1 : w25_.cell? ⟨g_aj, 1, none⟩ = some (.slice A_aj_1 aj_1.length c_aj_1) := (blk_cell BK_aj.out 1).trans rfl
  have hfz_aj_1 := blk_frozen BK_aj.out 1
  have hcz_aj_2 : w25_.cell? ⟨g_aj, 2, none⟩ = some (.slice A_aj_2 aj_2.length c_aj_2) := (blk_cell BK_aj.out 2).trans rfl
  have hfz_aj_2 := blk_frozen BK_aj.out 2
  have hcz_aj_3 : w25_.cell? ⟨g_aj, 3, none⟩ = some (.int .i64 aj_3) := (blk_cell BK_aj.out 3).trans rfl
  have hfz_aj_3 := blk_frozen BK_aj.out 3
  have hcz_aj_4 : w25_.cell? ⟨g_aj, 4, none⟩ = some (.int .i64 aj_4) := (blk_cell BK_aj.out 4).trans rfl
  have hfz_aj_4 := blk_frozen BK_aj.out 4
  have hcz_aj_5 : w25_.cell? ⟨g_aj, 5, none⟩ = some (.int .i64 aj_5) := (blk_cell BK_aj.out 5).trans rfl
  have hfz_aj_5 := blk_frozen BK_aj.out 5
  have hcz_aj_6 : w25_.cell? ⟨g_aj, 6, none⟩ = some (.int .i64 aj_6) := (blk_cell BK_aj.out 6).trans rfl
  have hfz_aj_6 := blk_frozen BK_aj.out 6
  have hcz_aj_7 : w25_.cell? ⟨g_aj, 7, none⟩ = some (.int .i64 aj_7) := (blk_cell BK_aj.out 7).trans rfl
  have hfz_aj_7 := blk_frozen BK_aj.out 7
  clear hcz_ap_0 hfz_ap_0 hcz_ap_1 hfz_ap_1
  have X_ := Aside0.mk (blk_below BK_ap.out hp_)
  clear BK_ap
  have BK_ap := X_
  clear X_
  have hcz_ap_0 : w25_.cell? ⟨g_ap, 0, none⟩ = some (.int .i64 ap_0) := (blk_cell BK_ap.out 0).trans rfl
  have hfz_ap_0 := blk_frozen BK_ap.out 0
  have hcz_ap_1 : w25_.cell? ⟨g_ap, 1, none⟩ = some (.slice A_ap_1 ap_1.length c_ap_1) := (blk_cell BK_ap.out 1).trans rfl
  have hfz_ap_1 := blk_frozen BK_ap.out 1
  clear hcz_x0_0 hfz_x0_0 hcz_x0_1 hfz_x0_1 hcz_x0_2 hfz_x0_2 hcz_x0_3 hfz_x0_3 hcz_x0_4 hfz_x0_4 hcz_x0_5 hfz_x0_5 hcz_x0_6 hfz_x0_6 hcz_x0_7 hfz_x0_7
  have X_ := Aside0.mk (blk_below BK_x0.out hp_)
  clear BK_x0
  have BK_x0 := X_
  clear X_
  have hcz_x0_0 : w25_.cell? ⟨g_x0, 0, none⟩ = some (.slice AVx00 aj_0.length cVx00) := (blk_cell BK_x0.out 0).trans rfl
  have hfz_x0_0 := blk_frozen BK_x0.out 0
  have hcz_x0_1 : w25_.cell? ⟨g_x0, 1, none⟩ = some (.slice AVx01 aj_1.length cVx01) := (blk_cell BK_x0.out 1).trans rfl
  have hfz_x0_1 := blk_frozen BK_x0.out 1
  have hcz_x0_2 : w25_.cell? ⟨g_x0, 2, none⟩ = some (.slice AVx02 aj_2.length cVx02) := (blk_cell BK_x0.out 2).trans rfl
  have hfz_x0_2 := blk_frozen BK_x0.out 2
  have hcz_x0_3 : w25_.cell? ⟨g_x0, 3, none⟩ = some (.int .i64 aj_3) := (blk_cell BK_x0.out 3).trans rfl
  have hfz_x0_3 := blk_frozen BK_x0.out 3
  have hcz_x0_4 : w25_.cell? ⟨g_x0, 4, none⟩ = some (.int .i64 aj_4) := (blk_cell BK_x0.out 4).trans rfl
  have hfz_x0_4 := blk_frozen BK_x0.out 4
  have hcz_x0_5 : w25_.cell? ⟨g_x0, 5, none⟩ = some (.int .i64 aj_5) := (blk_cell BK_x0.out 5).trans rfl
  have hfz_x0_5 := blk_frozen BK_x0.out 5
  have hcz_x0_6 : w25_.cell? ⟨g_x0, 6, none⟩ = some (.int .i64 aj_6) := (blk_cell BK_x0.out 6).trans rfl
  have hfz_x0_6 := blk_frozen BK_x0.out 6
  have hcz_x0_7 : w25_.cell? ⟨g_x0, 7, none⟩ = some (.int .i64 aj_7) := (blk_cell BK_x0.out 7).trans rfl
  have hfz_x0_7 := blk_frozen BK_x0.out 7
  clear hcz_x1_0 hfz_x1_0 hcz_x1_1 hfz_x1_1
  have X_ := Aside0.mk (blk_below BK_x1.out hp_)
  clear BK_x1
  have BK_x1 := X_
  clear X_
  have hcz_x1_0 : w25_.cell? ⟨g_x1, 0, none⟩ = some (.int .i64 ap_0) := (blk_cell BK_x1.out 0).trans rfl
  have hfz_x1_0 := blk_frozen BK_x1.out 0
  have hcz_x1_1 : w25_.cell? ⟨g_x1, 1, none⟩ = some (.slice AVx10 ap_1.length cVx10) := (blk_cell BK_x1.out 1).trans rfl
  have hfz_x1_1 := blk_frozen BK_x1.out 1
  clear hb_ hp_
  obtain ⟨kh32, h_⟩ := (heldIntSS_ev r1v 1 (by omega) (by have := HN_r1.out.2; omega) (by have := HL_r1.out; omega)).rounds
  have HH32 := Aside0.mk h_
  clear h_
  go_wp2_with fail
  refine (markSS_calls r1v 1 (by omega) (by have := HN_r1.out.2; omega) _ _ w _ (more HB.out (by repeat (first | exact Below.refl _ _ | (with_reducible apply below_alloc) | (with_reducible apply pw_below_drewN) | (with_reducible apply below_drew1)))) (by have q_ := Vg0.out.r; repeat (first | exact q_ | (with_reducible refine Kd.R_alloc ?_ _) | (with_reducible refine Kd.S_alloc ?_ _)))).mono ?_
  rintro e w26_ ⟨rfl, hr_, hb_, hk0_⟩
  have hk_ := Kept.then_ (w := w25_) (Kept.of_below (by repeat (first | exact Below.refl _ _ | (with_reducible apply below_alloc) | (with_reducible apply pw_below_drewN) | (with_reducible apply below_drew1))) _) hk0_ (fun _ h_ => Or.inl h_)
  have HZ33 := Aside0.mk hk_.1
  clear HB
  have HB := Aside0.mk hb_
  have X_ := Aside0.mk (Vw0.out.kept hk_ (fun k h1_ h2_ h3_ => by have h4_ := h3_.1; have z0 := HZ2.out; have z1 := HZ3.out; have z2 := HZ4.out; have z3 := HZ6.out; have z4 := HZ7.out; have z5 := HZ8.out; have z6 := HZ9.out; have z7 := HZ10.out; have z8 := HZ11.out; have z9 := HZ12.out; have z10 := HZ13.out; have z11 := HZ14.out; have z12 := HZ15.out; have z13 := HZ16.out; have z14 := HZ17.out; have z15 := HZ18.out; have z16 := HZ19.out; have z17 := HZ20.out; have z18 := HZ21.out; have z19 := HZ22.out; have z20 := HZ23.out; have z21 := HZ24.out; have z22 := HZ26.out; have z23 := HZ29.out; have z24 := HZ31.out; have z25 := HZ33.out; omega))
  clear Vw0
  have Vw0 := X_
  clear X_
  clear hcz_aj_0 hfz_aj_0 hcz_aj_1 hfz_aj_1 hcz_aj_2 hfz_aj_2 hcz_aj_3 hfz_aj_3 hcz_aj_4 hfz_aj_4 hcz_aj_5 hfz_aj_5 hcz_aj_6 hfz_aj_6 hcz_aj_7 hfz_aj_7
  have X_ := Aside0.mk (blk_kept BK_aj.out hk_ (fun h3_ => by have h4_ := h3_.1; have z0 := HZ2.out; have z1 := HZ3.out; have z2 := HZ4.out; have z3 := HZ6.out; have z4 := HZ7.out; have z5 := HZ8.out; have z6 := HZ9.out; have z7 := HZ10.out; have z8 := HZ11.out; have z9 := HZ12.out; have z10 := HZ13.out; have z11 := HZ14.out; have z12 := HZ15.out; have z13 := HZ16.out; have z14 := HZ17.out; have z15 := HZ18.out; have z16 := HZ19.out; have z17 := HZ20.out; have z18 := HZ21.out; have z19 := HZ22.out; have z20 := HZ23.out; have z21 := HZ24.out; have z22 := HZ26.out; have z23 := HZ29.out; have z24 := HZ31.out; have z25 := HZ33.out; omega))
  clear BK_aj
  have BK_aj := X_
  clear X_
  have hcz_aj_0 : w26_.cell? ⟨g_aj, 0, none⟩ = some (.slice A_aj_0 aj_0.length c_aj_0) := (blk_cell BK_aj.out 0).trans rfl
  have hfz_aj_0 := blk_frozen BK_aj.out 0
  have hcz_aj_1 : w26_.cell? ⟨g_aj, 1, none⟩ = some (.slice A_aj_1 aj_1.length c_aj_1) := (blk_cell BK_aj.out 1).trans rfl
  have hfz_aj_1 := blk_frozen BK_aj.out 1
  have hcz_aj_2 : w26_.cell? ⟨g_aj, 2, none⟩ = some (.slice A_aj_2 aj_2.length c_aj_2) := (blk_cell BK_aj.out 2).trans rfl
  have hfz_aj_2 := blk_frozen BK_aj.out 2
  have hcz_aj_3 : w26_.cell? ⟨g_aj, 3, none⟩ = some (.int .i64 aj_3) := (blk_cell BK_aj.out 3).trans rfl
  have hfz_aj_3 := blk_frozen BK_aj.out 3
  have hcz_aj_4 : w26_.cell? ⟨g_aj, 4, none⟩ = some (.int .i64 aj_4) := (blk_cell BK_aj.out 4).trans rfl
  have hfz_aj_4 := blk_frozen BK_aj.out 4
  have hcz_aj_5 : w26_.cell? ⟨g_aj, 5, none⟩ = some (.int .i64 aj_5) := (blk_cell BK_aj.out 5).trans rfl
  have hfz_aj_5 := blk_frozen BK_aj.out 5
  have hcz_aj_6 : w26_.cell? ⟨g_aj, 6, none⟩ = some (.int .i64 aj_6) := (blk_cell BK_aj.out 6).trans rfl
  have hfz_aj_6 := blk_frozen BK_aj.out 6
  have hcz_aj_7 : w26_.cell? ⟨g_aj, 7, none⟩ = some (.int .i64 aj_7) := (blk_cell BK_aj.out 7).trans rfl
  have hfz_aj_7 := blk_frozen BK_aj.out 7
  clear hcz_ap_0 hfz_ap_0 hcz_ap_1 hfz_ap_1
  have X_ := Aside0.mk (blk_kept BK_ap.out hk_ (fun h3_ => by have h4_ := h3_.1; have z0 := HZ2.out; have z1 := HZ3.out; have z2 := HZ4.out; have z3 := HZ6.out; have z4 := HZ7.out; have z5 := HZ8.out; have z6 := HZ9.out; have z7 := HZ10.out; have z8 := HZ11.out; have z9 := HZ12.out; have z10 := HZ13.out; have z11 := HZ14.out; have z12 := HZ15.out; have z13 := HZ16.out; have z14 := HZ17.out; have z15 := HZ18.out; have z16 := HZ19.out; have z17 := HZ20.out; have z18 := HZ21.out; have z19 := HZ22.out; have z20 := HZ23.out; have z21 := HZ24.out; have z22 := HZ26.out; have z23 := HZ29.out; have z24 := HZ31.out; have z25 := HZ33.out; omega))
  clear BK_ap
  have BK_ap := X_
  clear X_
  have hcz_ap_0 : w26_.cell? ⟨g_ap, 0, none⟩ = some (.int .i64 ap_0) := (blk_cell BK_ap.out 0).trans rfl
  have hfz_ap_0 := blk_frozen BK_ap.out 0
  have hcz_ap_1 : w26_.cell? ⟨g_ap, 1, none⟩ = some (.slice A_ap_1 ap_1.length c_ap_1) := (blk_cell BK_ap.out 1).trans rfl
  have hfz_ap_1 := blk_frozen BK_ap.out 1
  clear hcz_x0_0 hfz_x0_0 hcz_x0_1 hfz_x0_1 hcz_x0_2 hfz_x0_2 hcz_x0_3 hfz_x0_3 hcz_x0_4 hfz_x0_4 hcz_x0_5 hfz_x0_5 hcz_x0_6 hfz_x0_6 hcz_x0_7 hfz_x0_7
  have X_ := Aside0.mk (blk_kept BK_x0.out hk_ (fun h3_ => by have h4_ := h3_.1; have z0 := HZ2.out; have z1 := HZ3.out; have z2 := HZ4.out; have z3 := HZ6.out; have z4 := HZ7.out; have z5 := HZ8.out; have z6 := HZ9.out; have z7 := HZ10.out; have z8 := HZ11.out; have z9 := HZ12.out; have z10 := HZ13.out; have z11 := HZ14.out; have z12 := HZ15.out; have z13 := HZ16.out; have z14 := HZ17.out; have z15 := HZ18.out; have z16 := HZ19.out; have z17 := HZ20.out; have z18 := HZ21.out; have z19 := HZ22.out; have z20 := HZ23.out; have z21 := HZ24.out; have z22 := HZ26.out; have z23 := HZ29.out; have z24 := HZ31.out; have z25 := HZ33.out; omega))
  clear BK_x0
  have BK_x0 := X_
  clear X_
  have hcz_x0_0 : w26_.cell? ⟨g_x0, 0, none⟩ = some (.slice AVx00 aj_0.length cVx00) := (blk_cell BK_x0.out 0).trans rfl
  have hfz_x0_0 := blk_frozen BK_x0.out 0
  have hcz_x0_1 : w26_.cell? ⟨g_x0, 1, none⟩ = some (.slice AVx01 aj_1.length cVx01) := (blk_cell BK_x0.out 1).trans rfl
  have hfz_x0_1 := blk_frozen BK_x0.out 1
  have hcz_x0_2 : w26_.cell? ⟨g_x0, 2, none⟩ = some (.slice AVx02 aj_2.length cVx02) := (blk_cell BK_x0.out 2).trans rfl
  have hfz_x0_2 := blk_frozen BK_x0.out 2
  have hcz_x0_3 : w26_.cell? ⟨g_x0, 3, none⟩ = some (.int .i64 aj_3) := (blk_cell BK_x0.out 3).trans rfl
  have hfz_x0_3 := blk_frozen BK_x0.out 3
  have hcz_x0_4 : w26_.cell? ⟨g_x0, 4, none⟩ = some (.int .i64 aj_4) := (blk_cell BK_x0.out 4).trans rfl
  have hfz_x0_4 := blk_frozen BK_x0.out 4
  have hcz_x0_5 : w26_.cell? ⟨g_x0, 5, none⟩ = some (.int .i64 aj_5) := (blk_cell BK_x0.out 5).trans rfl
  have hfz_x0_5 := blk_frozen BK_x0.out 5
  have hcz_x0_6 : w26_.cell? ⟨g_x0, 6, none⟩ = some (.int .i64 aj_6) := (blk_cell BK_x0.out 6).trans rfl
  have hfz_x0_6 := blk_frozen BK_x0.out 6
  have hcz_x0_7 : w26_.cell? ⟨g_x0, 7, none⟩ = some (.int .i64 aj_7) := (blk_cell BK_x0.out 7).trans rfl
  have hfz_x0_7 := blk_frozen BK_x0.out 7
  clear hcz_x1_0 hfz_x1_0 hcz_x1_1 hfz_x1_1
  have X_ := Aside0.mk (blk_kept BK_x1.out hk_ (fun h3_ => by have h4_ := h3_.1; have z0 := HZ2.out; have z1 := HZ3.out; have z2 := HZ4.out; have z3 := HZ6.out; have z4 := HZ7.out; have z5 := HZ8.out; have z6 := HZ9.out; have z7 := HZ10.out; have z8 := HZ11.out; have z9 := HZ12.out; have z10 := HZ13.out; have z11 := HZ14.out; have z12 := HZ15.out; have z13 := HZ16.out; have z14 := HZ17.out; have z15 := HZ18.out; have z16 := HZ19.out; have z17 := HZ20.out; have z18 := HZ21.out; have z19 := HZ22.out; have z20 := HZ23.out; have z21 := HZ24.out; have z22 := HZ26.out; have z23 := HZ29.out; have z24 := HZ31.out; have z25 := HZ33.out; omega))
  clear BK_x1
  have BK_x1 := X_
  clear X_
  have hcz_x1_0 : w26_.cell? ⟨g_x1, 0, none⟩ = some (.int .i64 ap_0) := (blk_cell BK_x1.out 0).trans rfl
  have hfz_x1_0 := blk_frozen BK_x1.out 0
  have hcz_x1_1 : w26_.cell? ⟨g_x1, 1, none⟩ = some (.slice AVx10 ap_1.length cVx10) := (blk_cell BK_x1.out 1).trans rfl
  have hfz_x1_1 := blk_frozen BK_x1.out 1
  have X_ := Aside0.mk (Vg0.out.marked hr_ hk_)
  clear Vg0
  have Vg0 := X_
  clear X_
  clear hr_ hb_ hk_ hk0_
  have hml_ : (marksSS r1v 1).length = r1v.length := marksSS_len _ _
  have HML := Aside0.mk hml_
  clear hml_
  obtain ⟨mt, em_⟩ : ∃ m_ : Int, m_ = (1 + (totL r1v : Int)) := ⟨_, rfl⟩
  have EM := Aside0.mk em_
  rw [← em_]
  have HH32' := Aside0.mk (show _ = some mt from em_ ▸ HH32.out)
  have hmt : 0 ≤ mt := by omega
  have dm_ : decide (mt < 0) = false := decide_eq_false (by omega)
  clear em_ hmt
  have HCm := Aside0.mk (show (marksSS r1v 1).length ≤ cVg0 from by rw [HML.out]; exact HCVg0.out)
  go_wp2_with fail
  try rw [show (Value.slice AVg0 r1v.length cVg0) = .slice AVg0 (marksSS r1v 1).length cVg0 from by rw [HML.out]]
  refine (laws_heldIntSS.calls kh32 _ _ (marksSS r1v 1) 1 mt _ (by repeat (first | exact Vg0.out.C | (with_reducible refine Kd.C_alloc ?_ _) | (with_reducible refine Kd.C_drewN ?_ _) | (with_reducible refine Kd.C_drew ?_))) HCm.out HH32'.out).mono ?_
  rintro e w27_ ⟨rfl, hd_⟩
  have hp_ : Below w26_.heap.size w26_ w27_ := below_step (by repeat (first | exact Below.refl _ _ | (with_reducible apply below_alloc) | (with_reducible apply pw_below_drewN) | (with_reducible apply below_drew1))) (drawn_below hd_)
  have HZ34 := Aside0.mk hp_.size
  have HBn_ := Aside0.mk (more HB.out hp_)
  clear HB
  have HB := HBn_
  clear HBn_
  have X_ := Aside0.mk (Vw0.out.step hp_)
  clear Vw0
  have Vw0 := X_
  clear X_
  have X_ := Aside0.mk (Vg0.out.step hp_)
  clear Vg0
  have Vg0 := X_
  clear X_
  clear hcz_aj_0 hfz_aj_0 hcz_aj_1 hfz_aj_1 hcz_aj_2 hfz_aj_2 hcz_aj_3 hfz_aj_3 hcz_aj_4 hfz_aj_4 hcz_aj_5 hfz_aj_5 hcz_aj_6 hfz_aj_6 hcz_aj_7 hfz_aj_7
  have X_ := Aside0.mk (blk_below BK_aj.out hp_)
  clear BK_aj
  have BK_aj := X_
  clear X_
  have hcz_aj_0 : w27_.cell? ⟨g_aj, 0, none⟩ = some (.slice A_aj_0 aj_0.length c_aj_0) := (blk_cell BK_aj.out 0).trans rfl
  have hfz_aj_0 := blk_frozen BK_aj.out 0
  have hcz_aj_1 : w27_.cell? ⟨g_aj, 1, none⟩ = some (.slice A_aj_1 aj_1.length c_aj_1) := (blk_cell BK_aj.out 1).trans rfl
  have hfz_aj_1 := blk_frozen BK_aj.out 1
  have hcz_aj_2 : w27_.cell? ⟨g_aj, 2, none⟩ = some (.slice A_aj_2 aj_2.length c_aj_2) := (blk_cell BK_aj.out 2).trans rfl
  have hfz_aj_2 := blk_frozen BK_aj.out 2
  have hcz_aj_3 : w27_.cell? ⟨g_aj, 3, none⟩ = some (.int .i64 aj_3) := (blk_cell BK_aj.out 3).trans rfl
  have hfz_aj_3 := blk_frozen BK_aj.out 3
  have hcz_aj_4 : w27_.cell? ⟨g_aj, 4, none⟩ = some (.int .i64 aj_4) := (blk_cell BK_aj.out 4).trans rfl
  have hfz_aj_4 := blk_frozen BK_aj.out 4
  have hcz_aj_5 : w27_.cell? ⟨g_aj, 5, none⟩ = some (.int .i64 aj_5) := (blk_cell BK_aj.out 5).trans rfl
  have hfz_aj_5 := blk_frozen BK_aj.out 5
  have hcz_aj_6 : w27_.cell? ⟨g_aj, 6, none⟩ = some (.int .i64 aj_6) := (blk_cell BK_aj.out 6).trans rfl
  have hfz_aj_6 := blk_frozen BK_aj.out 6
  have hcz_aj_7 : w27_.cell? ⟨g_aj, 7, none⟩ = some (.int .i64 aj_7) := (blk_cell BK_aj.out 7).trans rfl
  have hfz_aj_7 := blk_frozen BK_aj.out 7
  clear hcz_ap_0 hfz_ap_0 hcz_ap_1 hfz_ap_1
  have X_ := Aside0.mk (blk_below BK_ap.out hp_)
  clear BK_ap
  have BK_ap := X_
  clear X_
  have hcz_ap_0 : w27_.cell? ⟨g_ap, 0, none⟩ = some (.int .i64 ap_0) := (blk_cell BK_ap.out 0).trans rfl
  have hfz_ap_0 := blk_frozen BK_ap.out 0
  have hcz_ap_1 : w27_.cell? ⟨g_ap, 1, none⟩ = some (.slice A_ap_1 ap_1.length c_ap_1) := (blk_cell BK_ap.out 1).trans rfl
  have hfz_ap_1 := blk_frozen BK_ap.out 1
  clear hcz_x0_0 hfz_x0_0 hcz_x0_1 hfz_x0_1 hcz_x0_2 hfz_x0_2 hcz_x0_3 hfz_x0_3 hcz_x0_4 hfz_x0_4 hcz_x0_5 hfz_x0_5 hcz_x0_6 hfz_x0_6 hcz_x0_7 hfz_x0_7
  have X_ := Aside0.mk (blk_below BK_x0.out hp_)
  clear BK_x0
  have BK_x0 := X_
  clear X_
  have hcz_x0_0 : w27_.cell? ⟨g_x0, 0, none⟩ = some (.slice AVx00 aj_0.length cVx00) := (blk_cell BK_x0.out 0).trans rfl
  have hfz_x0_0 := blk_frozen BK_x0.out 0
  have hcz_x0_1 : w27_.cell? ⟨g_x0, 1, none⟩ = some (.slice AVx01 aj_1.length cVx01) := (blk_cell BK_x0.out 1).trans rfl
  have hfz_x0_1 := blk_frozen BK_x0.out 1
  have hcz_x0_2 : w27_.cell? ⟨g_x0, 2, none⟩ = some (.slice AVx02 aj_2.length cVx02) := (blk_cell BK_x0.out 2).trans rfl
  have hfz_x0_2 := blk_frozen BK_x0.out 2
  have hcz_x0_3 : w27_.cell? ⟨g_x0, 3, none⟩ = some (.int .i64 aj_3) := (blk_cell BK_x0.out 3).trans rfl
  have hfz_x0_3 := blk_frozen BK_x0.out 3
  have hcz_x0_4 : w27_.cell? ⟨g_x0, 4, none⟩ = some (.int .i64 aj_4) := (blk_cell BK_x0.out 4).trans rfl
  have hfz_x0_4 := blk_frozen BK_x0.out 4
  have hcz_x0_5 : w27_.cell? ⟨g_x0, 5, none⟩ = some (.int .i64 aj_5) := (blk_cell BK_x0.out 5).trans rfl
  have hfz_x0_5 := blk_frozen BK_x0.out 5
  have hcz_x0_6 : w27_.cell? ⟨g_x0, 6, none⟩ = some (.int .i64 aj_6) := (blk_cell BK_x0.out 6).trans rfl
  have hfz_x0_6 := blk_frozen BK_x0.out 6
  have hcz_x0_7 : w27_.cell? ⟨g_x0, 7, none⟩ = some (.int .i64 aj_7) := (blk_cell BK_x0.out 7).trans rfl
  have hfz_x0_7 := blk_frozen BK_x0.out 7
  clear hcz_x1_0 hfz_x1_0 hcz_x1_1 hfz_x1_1
  have X_ := Aside0.mk (blk_below BK_x1.out hp_)
  clear BK_x1
  have BK_x1 := X_
  clear X_
  have hcz_x1_0 : w27_.cell? ⟨g_x1, 0, none⟩ = some (.int .i64 ap_0) := (blk_cell BK_x1.out 0).trans rfl
  have hfz_x1_0 := blk_frozen BK_x1.out 0
  have hcz_x1_1 : w27_.cell? ⟨g_x1, 1, none⟩ = some (.slice AVx10 ap_1.length cVx10) := (blk_cell BK_x1.out 1).trans rfl
  have hfz_x1_1 := blk_frozen BK_x1.out 1
  clear hd_ hp_
  go_wp2_with fail
  have hp_ : Below w27_.heap.size w27_ w27_.drew := below_drew1 (Below.refl _ _)
  have HBn_ := Aside0.mk (more HB.out hp_)
  clear HB
  have HB := HBn_
  clear HBn_
  have X_ := Aside0.mk (Vw0.out.step hp_)
  clear Vw0
  have Vw0 := X_
  clear X_
  have X_ := Aside0.mk (Vg0.out.step hp_)
  clear Vg0
  have Vg0 := X_
  clear X_
  clear hcz_aj_0 hfz_aj_0 hcz_aj_1 hfz_aj_1 hcz_aj_2 hfz_aj_2 hcz_aj_3 hfz_aj_3 hcz_aj_4 hfz_aj_4 hcz_aj_5 hfz_aj_5 hcz_aj_6 hfz_aj_6 hcz_aj_7 hfz_aj_7
  have X_ := Aside0.mk (blk_below BK_aj.out hp_)
  clear BK_aj
  have BK_aj := X_
  clear X_
  clear hcz_ap_0 hfz_ap_0 hcz_ap_1 hfz_ap_1
  have X_ := Aside0.mk (blk_below BK_ap.out hp_)
  clear BK_ap
  have BK_ap := X_
  clear X_
  clear hcz_x0_0 hfz_x0_0 hcz_x0_1 hfz_x0_1 hcz_x0_2 hfz_x0_2 hcz_x0_3 hfz_x0_3 hcz_x0_4 hfz_x0_4 hcz_x0_5 hfz_x0_5 hcz_x0_6 hfz_x0_6 hcz_x0_7 hfz_x0_7
  have X_ := Aside0.mk (blk_below BK_x0.out hp_)
  clear BK_x0
  have BK_x0 := X_
  clear X_
  clear hcz_x1_0 hfz_x1_0 hcz_x1_1 hfz_x1_1
  have X_ := Aside0.mk (blk_below BK_x1.out hp_)
  clear BK_x1
  have BK_x1 := X_
  clear X_
  have HZ35 := Aside0.mk hp_.size
  clear hp_
  refine start_ (n := 10) (S := fun w' => w'.cell? ⟨g_aj, 0, none⟩ = some (.slice A_aj_0 aj_0.length c_aj_0) ∧ w'.cell? ⟨g_aj, 1, none⟩ = some (.slice A_aj_1 aj_1.length c_aj_1) ∧ w'.cell? ⟨g_aj, 2, none⟩ = some (.slice A_aj_2 aj_2.length c_aj_2) ∧ w'.cell? ⟨g_aj, 3, none⟩ = some (.int .i64 aj_3) ∧ w'.cell? ⟨g_aj, 4, none⟩ = some (.int .i64 aj_4) ∧ w'.cell? ⟨g_aj, 5, none⟩ = some (.int .i64 aj_5) ∧ w'.cell? ⟨g_aj, 6, none⟩ = some (.int .i64 aj_6) ∧ w'.cell? ⟨g_aj, 7, none⟩ = some (.int .i64 aj_7) ∧ w'.cell? ⟨g_ap, 0, none⟩ = some (.int .i64 ap_0) ∧ w'.cell? ⟨g_ap, 1, none⟩ = some (.slice A_ap_1 ap_1.length c_ap_1) ∧ w'.cell? ⟨g_x0, 0, none⟩ = some (.slice AVx00 aj_0.length cVx00) ∧ w'.cell? ⟨g_x0, 1, none⟩ = some (.slice AVx01 aj_1.length cVx01) ∧ w'.cell? ⟨g_x0, 2, none⟩ = some (.slice AVx02 aj_2.length cVx02) ∧ w'.cell? ⟨g_x0, 3, none⟩ = some (.int .i64 aj_3) ∧ w'.cell? ⟨g_x0, 4, none⟩ = some (.int .i64 aj_4) ∧ w'.cell? ⟨g_x0, 5, none⟩ = some (.int .i64 aj_5) ∧ w'.cell? ⟨g_x0, 6, none⟩ = some (.int .i64 aj_6) ∧ w'.cell? ⟨g_x0, 7, none⟩ = some (.int .i64 aj_7) ∧ w'.cell? ⟨g_x1, 0, none⟩ = some (.int .i64 ap_0) ∧ w'.cell? ⟨g_x1, 1, none⟩ = some (.slice AVx10 ap_1.length cVx10)) (ds := []) #[false, false, false, false, false, false, false, false, false, false] (by kernel_rfl) rfl rfl ⟨(blk_cell BK_aj.out 0).trans rfl, (blk_cell BK_aj.out 1).trans rfl, (blk_cell BK_aj.out 2).trans rfl, (blk_cell BK_aj.out 3).trans rfl, (blk_cell BK_aj.out 4).trans rfl, (blk_cell BK_aj.out 5).trans rfl, (blk_cell BK_aj.out 6).trans rfl, (blk_cell BK_aj.out 7).trans rfl, (blk_cell BK_ap.out 0).trans rfl, (blk_cell BK_ap.out 1).trans rfl, (blk_cell BK_x0.out 0).trans rfl, (blk_cell BK_x0.out 1).trans rfl, (blk_cell BK_x0.out 2).trans rfl, (blk_cell BK_x0.out 3).trans rfl, (blk_cell BK_x0.out 4).trans rfl, (blk_cell BK_x0.out 5).trans rfl, (blk_cell BK_x0.out 6).trans rfl, (blk_cell BK_x0.out 7).trans rfl, (blk_cell BK_x1.out 0).trans rfl, (blk_cell BK_x1.out 1).trans rfl⟩ (fun hHeld => ?_)
  generalize w27_.drew = w28_ at HB HZ35 Vw0 Vg0 BK_aj BK_ap BK_x0 BK_x1 hHeld ⊢
  refine take_ (i := 0) (N := some 95) (v := ?_) (a' := ?_) #[true, false, false, false, false, false, false, false, false, false] rfl rfl (by kernel_rfl) (fun _ _ _ h => h) (Or.inl ⟨by rfl, ?_⟩) hHeld ?_ ?_
  rotate_left
  · rintro w' ⟨s0, s1, s2, s3, s4, s5, s6, s7, s8, s9, s10, s11, s12, s13, s14, s15, s16, s17, s18, s19⟩
    go_simp
    with_reducible rfl
  rotate_left
  · simp only [Act.put, List.setIfInBounds_toArray, List.set_cons_zero, List.set_cons_succ, i64_w, i32_w]
    rfl
  refine take_ (i := 2) (N := some 97) (v := ?_) (a' := ?_) #[true, false, true, false, false, false, false, false, false, false] rfl rfl (by kernel_rfl) (fun _ _ _ h => h) (Or.inl ⟨by rfl, ?_⟩) hHeld ?_ ?_
  rotate_left
  · rintro w' ⟨s0, s1, s2, s3, s4, s5, s6, s7, s8, s9, s10, s11, s12, s13, s14, s15, s16, s17, s18, s19⟩
    go_simp
    with_reducible rfl
  rotate_left
  · simp only [Act.put, List.setIfInBounds_toArray, List.set_cons_zero, List.set_cons_succ, i64_w, i32_w]
    rfl
  refine one_ (i := 1) (N := some 96) #[true, true, true, false, false, false, false, false, false, false] rfl rfl (by kernel_rfl) (by decide) (fun K hK => ?_)
  refine goes_ Try.func17 (by kernel_rfl) rfl #[.agg #[.slice A_aj_0 aj_0.length c_aj_0, .slice A_aj_1 aj_1.length c_aj_1, .slice A_aj_2 aj_2.length c_aj_2, .int .i64 (aj_3), .int .i64 (aj_4), .int .i64 (aj_5), .int .i64 (aj_6), .int .i64 (aj_7)]] (by rfl) rfl rfl (by (try simp only [List.map_toArray, List.map_cons, List.map_nil]); first | done | rfl | (simp only [List.length_drop, List.length_take]; rfl)) ?_
  refine (laws_toJob.calls kt_aJ _ _ aj_0 _ _ aj_1 _ _ aj_2 aj_3 aj_4 aj_5 aj_6 aj_7 aj_0 aj_1 aj_2 aj_3 aj_4 aj_5 aj_6 aj_7 _ (by repeat (first | exact (Kd.C_below HR_aj_0.out HB.out) | (with_reducible refine Kd.C_alloc ?_ _) | (with_reducible refine Kd.C_drewN ?_ _) | (with_reducible refine Kd.C_drew ?_))) HC_aj_0.out (by repeat (first | exact (Kd.C_below HR_aj_1.out HB.out) | (with_reducible refine Kd.C_alloc ?_ _) | (with_reducible refine Kd.C_drewN ?_ _) | (with_reducible refine Kd.C_drew ?_))) HC_aj_1.out (by repeat (first | exact (Kd.C_below HR_aj_2.out HB.out) | (with_reducible refine Kd.C_alloc ?_ _) | (with_reducible refine Kd.C_drewN ?_ _) | (with_reducible refine Kd.C_drew ?_))) HC_aj_2.out Hkt_aJ.out).mono ?_
  rintro e w29_ ⟨v0_n29, v1_n29, v2_n29, rfl, ho0_, ho1_, ho2_, hb_⟩
  refine ⟨_, rfl, ?_⟩
  have hp_ : Below w28_.heap.size w28_ w29_ := below_step (by repeat (first | exact Below.refl _ _ | (with_reducible apply below_alloc) | (with_reducible apply pw_below_drewN) | (with_reducible apply below_drew1))) hb_
  obtain ⟨B36, H36, eB_, eH_, hi1_, hi2_, hi3_⟩ := spot (W0 := w28_) (by repeat (first | exact Below.refl _ _ | (with_reducible apply below_alloc) | (with_reducible apply pw_below_drewN) | (with_reducible apply below_drew1))) hb_
  have HZ36 := Aside0.mk (⟨hi1_, hi2_, hi3_, hp_.size⟩ : _ ∧ _ ∧ _ ∧ _)
  have N36_0 := Aside0.mk (OwnS.new (W0 := w28_) (b := w.heap.size) (by repeat (first | exact Below.refl _ _ | (with_reducible apply below_alloc) | (with_reducible apply pw_below_drewN) | (with_reducible apply below_drew1))) ho0_ hb_ HB.out.size _ _ eB_ eH_)
  have N36_1 := Aside0.mk (Own.new (W0 := w28_) (b := w.heap.size) (by repeat (first | exact Below.refl _ _ | (with_reducible apply below_alloc) | (with_reducible apply pw_below_drewN) | (with_reducible apply below_drew1))) (tightRow rfl ho1_) hb_ HB.out.size _ _ eB_ eH_)
  have N36_2 := Aside0.mk (Own.new (W0 := w28_) (b := w.heap.size) (by repeat (first | exact Below.refl _ _ | (with_reducible apply below_alloc) | (with_reducible apply pw_below_drewN) | (with_reducible apply below_drew1))) (tightRow rfl ho2_) hb_ HB.out.size _ _ eB_ eH_)
  clear eB_ eH_ hi1_ hi2_ hi3_ ho0_ ho1_ ho2_
  have HBn_ := Aside0.mk (more HB.out hp_)
  clear HB
  have HB := HBn_
  clear HBn_
  have X_ := Aside0.mk (Vw0.out.step hp_)
  clear Vw0
  have Vw0 := X_
  clear X_
  have X_ := Aside0.mk (Vg0.out.step hp_)
  clear Vg0
  have Vg0 := X_
  clear X_
  have X_ := Aside0.mk (blk_below BK_aj.out hp_)
  clear BK_aj
  have BK_aj := X_
  clear X_
  have X_ := Aside0.mk (blk_below BK_ap.out hp_)
  clear BK_ap
  have BK_ap := X_
  clear X_
  have X_ := Aside0.mk (blk_below BK_x0.out hp_)
  clear BK_x0
  have BK_x0 := X_
  clear X_
  have X_ := Aside0.mk (blk_below BK_x1.out hp_)
  clear BK_x1
  have BK_x1 := X_
  clear X_
  clear hb_ hp_
  have T36_0 := N36_0
  clear N36_0
  obtain ⟨AT36_0, cT36_0, rfl, hc_⟩ := T36_0.out.reads
  have HCT36_0 := Aside0.mk hc_
  clear hc_
  have T36_1 := N36_1
  clear N36_1
  obtain ⟨AT36_1, cT36_1, rfl, hc_⟩ := T36_1.out.reads
  have HCT36_1 := Aside0.mk hc_
  clear hc_
  have T36_2 := N36_2
  clear N36_2
  obtain ⟨AT36_2, cT36_2, rfl, hc_⟩ := T36_2.out.reads
  have HCT36_2 := Aside0.mk hc_
  clear hc_
  refine hK.out _ _ ⟨(blk_cell BK_aj.out 0).trans rfl, (blk_cell BK_aj.out 1).trans rfl, (blk_cell BK_aj.out 2).trans rfl, (blk_cell BK_aj.out 3).trans rfl, (blk_cell BK_aj.out 4).trans rfl, (blk_cell BK_aj.out 5).trans rfl, (blk_cell BK_aj.out 6).trans rfl, (blk_cell BK_aj.out 7).trans rfl, (blk_cell BK_ap.out 0).trans rfl, (blk_cell BK_ap.out 1).trans rfl, (blk_cell BK_x0.out 0).trans rfl, (blk_cell BK_x0.out 1).trans rfl, (blk_cell BK_x0.out 2).trans rfl, (blk_cell BK_x0.out 3).trans rfl, (blk_cell BK_x0.out 4).trans rfl, (blk_cell BK_x0.out 5).trans rfl, (blk_cell BK_x0.out 6).trans rfl, (blk_cell BK_x0.out 7).trans rfl, (blk_cell BK_x1.out 0).trans rfl, (blk_cell BK_x1.out 1).trans rfl⟩ (fun hHeld => ?_)
  clear hK K
  refine norm_ (a' := ?_) ?_ ?_
  rotate_left
  · show Act.put _ (some 96) _ = _
    simp only [Act.put, List.setIfInBounds_toArray, List.set_cons_zero, List.set_cons_succ, i64_w, i32_w]
    rfl
  refine one_ (i := 3) (N := some 98) #[true, true, true, true, false, false, false, false, false, false] rfl rfl (by kernel_rfl) (by decide) (fun K hK => ?_)
  refine goes_ Try.func22 (by kernel_rfl) rfl #[.agg #[.int .i64 (ap_0), .slice A_ap_1 ap_1.length c_ap_1]] (by rfl) rfl rfl (by (try simp only [List.map_toArray, List.map_cons, List.map_nil]); first | done | rfl | (simp only [List.length_drop, List.length_take]; rfl)) ?_
  refine (laws_toPlan.calls kt_aP ap_0 _ _ ap_1 ap_0 ap_1 _ (by repeat (first | exact (Kd.C_below HR_ap_1.out HB.out) | (with_reducible refine Kd.C_alloc ?_ _) | (with_reducible refine Kd.C_drewN ?_ _) | (with_reducible refine Kd.C_drew ?_))) HC_ap_1.out Hkt_aP.out).mono ?_
  rintro e w30_ ⟨v1_n30, rfl, ho0_, hb_⟩
  refine ⟨_, rfl, ?_⟩
  have hp_ : Below w29_.heap.size w29_ w30_ := below_step (by repeat (first | exact Below.refl _ _ | (with_reducible apply below_alloc) | (with_reducible apply pw_below_drewN) | (with_reducible apply below_drew1))) hb_
  obtain ⟨B37, H37, eB_, eH_, hi1_, hi2_, hi3_⟩ := spot (W0 := w29_) (by repeat (first | exact Below.refl _ _ | (with_reducible apply below_alloc) | (with_reducible apply pw_below_drewN) | (with_reducible apply below_drew1))) hb_
  have HZ37 := Aside0.mk (⟨hi1_, hi2_, hi3_, hp_.size⟩ : _ ∧ _ ∧ _ ∧ _)
  have N37_0 := Aside0.mk (Own.new (W0 := w29_) (b := w.heap.size) (by repeat (first | exact Below.refl _ _ | (with_reducible apply below_alloc) | (with_reducible apply pw_below_drewN) | (with_reducible apply below_drew1))) ho0_ hb_ HB.out.size _ _ eB_ eH_)
  clear eB_ eH_ hi1_ hi2_ hi3_ ho0_
  have HBn_ := Aside0.mk (more HB.out hp_)
  clear HB
  have HB := HBn_
  clear HBn_
  have X_ := Aside0.mk (Vw0.out.step hp_)
  clear Vw0
  have Vw0 := X_
  clear X_
  have X_ := Aside0.mk (Vg0.out.step hp_)
  clear Vg0
  have Vg0 := X_
  clear X_
  have X_ := Aside0.mk (T36_0.out.step hp_)
  clear T36_0
  have T36_0 := X_
  clear X_
  have X_ := Aside0.mk (T36_1.out.step hp_)
  clear T36_1
  have T36_1 := X_
  clear X_
  have X_ := Aside0.mk (T36_2.out.step hp_)
  clear T36_2
  have T36_2 := X_
  clear X_
  have X_ := Aside0.mk (blk_below BK_aj.out hp_)
  clear BK_aj
  have BK_aj := X_
  clear X_
  have X_ := Aside0.mk (blk_below BK_ap.out hp_)
  clear BK_ap
  have BK_ap := X_
  clear X_
  have X_ := Aside0.mk (blk_below BK_x0.out hp_)
  clear BK_x0
  have BK_x0 := X_
  clear X_
  have X_ := Aside0.mk (blk_below BK_x1.out hp_)
  clear BK_x1
  have BK_x1 := X_
  clear X_
  clear hb_ hp_
  have T37_0 := N37_0
  clear N37_0
  obtain ⟨AT37_0, cT37_0, rfl, hc_⟩ := T37_0.out.reads
  have HCT37_0 := Aside0.mk hc_
  clear hc_
  refine hK.out _ _ ⟨(blk_cell BK_aj.out 0).trans rfl, (blk_cell BK_aj.out 1).trans rfl, (blk_cell BK_aj.out 2).trans rfl, (blk_cell BK_aj.out 3).trans rfl, (blk_cell BK_aj.out 4).trans rfl, (blk_cell BK_aj.out 5).trans rfl, (blk_cell BK_aj.out 6).trans rfl, (blk_cell BK_aj.out 7).trans rfl, (blk_cell BK_ap.out 0).trans rfl, (blk_cell BK_ap.out 1).trans rfl, (blk_cell BK_x0.out 0).trans rfl, (blk_cell BK_x0.out 1).trans rfl, (blk_cell BK_x0.out 2).trans rfl, (blk_cell BK_x0.out 3).trans rfl, (blk_cell BK_x0.out 4).trans rfl, (blk_cell BK_x0.out 5).trans rfl, (blk_cell BK_x0.out 6).trans rfl, (blk_cell BK_x0.out 7).trans rfl, (blk_cell BK_x1.out 0).trans rfl, (blk_cell BK_x1.out 1).trans rfl⟩ (fun hHeld => ?_)
  clear hK K
  refine norm_ (a' := ?_) ?_ ?_
  rotate_left
  · show Act.put _ (some 98) _ = _
    simp only [Act.put, List.setIfInBounds_toArray, List.set_cons_zero, List.set_cons_succ, i64_w, i32_w]
    rfl
  refine one_ (i := 4) (N := some 99) #[true, true, true, true, true, false, false, false, false, false] rfl rfl (by kernel_rfl) (by decide) (fun K hK => ?_)
  refine goes_ Try.func35 (by kernel_rfl) rfl #[.agg #[.slice AT36_0 aj_0.length cT36_0, .slice AT36_1 aj_1.length cT36_1, .slice AT36_2 aj_2.length cT36_2, .int .i64 (aj_3), .int .i64 (aj_4), .int .i64 (aj_5), .int .i64 (aj_6), .int .i64 (aj_7)], .agg #[.int .i64 (ap_0), .slice AT37_0 ap_1.length cT37_0]] (by rfl) rfl rfl (by (try simp only [List.map_toArray, List.map_cons, List.map_nil]); first | done | rfl | (simp only [List.length_drop, List.length_take]; rfl)) ?_
  refine (impl_PitsOfPlan.calls kei_ _ _ aj_0 _ _ aj_1 _ _ aj_2 aj_3 aj_4 aj_5 aj_6 aj_7 ap_0 _ _ ap_1 r1v r2v _ (by repeat (first | exact T36_0.out.C | (with_reducible refine Kd.C_alloc ?_ _) | (with_reducible refine Kd.C_drewN ?_ _) | (with_reducible refine Kd.C_drew ?_))) HCT36_0.out (by repeat (first | exact T36_1.out.C | (with_reducible refine Kd.C_alloc ?_ _) | (with_reducible refine Kd.C_drewN ?_ _) | (with_reducible refine Kd.C_drew ?_))) HCT36_1.out (by repeat (first | exact T36_2.out.C | (with_reducible refine Kd.C_alloc ?_ _) | (with_reducible refine Kd.C_drewN ?_ _) | (with_reducible refine Kd.C_drew ?_))) HCT36_2.out (by repeat (first | exact T37_0.out.C | (with_reducible refine Kd.C_alloc ?_ _) | (with_reducible refine Kd.C_drewN ?_ _) | (with_reducible refine Kd.C_drew ?_))) HCT37_0.out HEI.out).mono ?_
  rintro e w31_ ⟨v0_n31, rfl, ho0_, hb_⟩
  refine ⟨_, rfl, ?_⟩
  have hp_ : Below w30_.heap.size w30_ w31_ := below_step (by repeat (first | exact Below.refl _ _ | (with_reducible apply below_alloc) | (with_reducible apply pw_below_drewN) | (with_reducible apply below_drew1))) hb_
  obtain ⟨B38, H38, eB_, eH_, hi1_, hi2_, hi3_⟩ := spot (W0 := w30_) (by repeat (first | exact Below.refl _ _ | (with_reducible apply below_alloc) | (with_reducible apply pw_below_drewN) | (with_reducible apply below_drew1))) hb_
  have HZ38 := Aside0.mk (⟨hi1_, hi2_, hi3_, hp_.size⟩ : _ ∧ _ ∧ _ ∧ _)
  have N38_0 := Aside0.mk (OwnS.new (W0 := w30_) (b := w.heap.size) (by repeat (first | exact Below.refl _ _ | (with_reducible apply below_alloc) | (with_reducible apply pw_below_drewN) | (with_reducible apply below_drew1))) ho0_ hb_ HB.out.size _ _ eB_ eH_)
  clear eB_ eH_ hi1_ hi2_ hi3_ ho0_
  have HBn_ := Aside0.mk (more HB.out hp_)
  clear HB
  have HB := HBn_
  clear HBn_
  have X_ := Aside0.mk (Vw0.out.step hp_)
  clear Vw0
  have Vw0 := X_
  clear X_
  have X_ := Aside0.mk (Vg0.out.step hp_)
  clear Vg0
  have Vg0 := X_
  clear X_
  have X_ := Aside0.mk (T36_0.out.step hp_)
  clear T36_0
  have T36_0 := X_
  clear X_
  have X_ := Aside0.mk (T36_1.out.step hp_)
  clear T36_1
  have T36_1 := X_
  clear X_
  have X_ := Aside0.mk (T36_2.out.step hp_)
  clear T36_2
  have T36_2 := X_
  clear X_
  have X_ := Aside0.mk (T37_0.out.step hp_)
  clear T37_0
  have T37_0 := X_
  clear X_
  have X_ := Aside0.mk (blk_below BK_aj.out hp_)
  clear BK_aj
  have BK_aj := X_
  clear X_
  have X_ := Aside0.mk (blk_below BK_ap.out hp_)
  clear BK_ap
  have BK_ap := X_
  clear X_
  have X_ := Aside0.mk (blk_below BK_x0.out hp_)
  clear BK_x0
  have BK_x0 := X_
  clear X_
  have X_ := Aside0.mk (blk_below BK_x1.out hp_)
  clear BK_x1
  have BK_x1 := X_
  clear X_
  clear hb_ hp_
  have Vh0 := N38_0
  clear N38_0
  obtain ⟨AVh0, cVh0, rfl, hc_⟩ := Vh0.out.reads
  have HCVh0 := Aside0.mk hc_
  clear hc_
  refine hK.out _ _ ⟨(blk_cell BK_aj.out 0).trans rfl, (blk_cell BK_aj.out 1).trans rfl, (blk_cell BK_aj.out 2).trans rfl, (blk_cell BK_aj.out 3).trans rfl, (blk_cell BK_aj.out 4).trans rfl, (blk_cell BK_aj.out 5).trans rfl, (blk_cell BK_aj.out 6).trans rfl, (blk_cell BK_aj.out 7).trans rfl, (blk_cell BK_ap.out 0).trans rfl, (blk_cell BK_ap.out 1).trans rfl, (blk_cell BK_x0.out 0).trans rfl, (blk_cell BK_x0.out 1).trans rfl, (blk_cell BK_x0.out 2).trans rfl, (blk_cell BK_x0.out 3).trans rfl, (blk_cell BK_x0.out 4).trans rfl, (blk_cell BK_x0.out 5).trans rfl, (blk_cell BK_x0.out 6).trans rfl, (blk_cell BK_x0.out 7).trans rfl, (blk_cell BK_x1.out 0).trans rfl, (blk_cell BK_x1.out 1).trans rfl⟩ (fun hHeld => ?_)
  clear hK K
  refine norm_ (a' := ?_) ?_ ?_
  rotate_left
  · show Act.put _ (some 99) _ = _
    simp only [Act.put, List.setIfInBounds_toArray, List.set_cons_zero, List.set_cons_succ, i64_w, i32_w]
    rfl
  refine pure_ (i := 5) (N := some 94) (v := ?_) (a' := ?_) #[true, true, true, true, true, true, false, false, false, false] rfl rfl (by kernel_rfl) (fun _ _ _ h => h) (Or.inl ⟨by rfl, ?_⟩) ?_ ?_
  rotate_left
  · intro w'
    go_simp
    with_reducible rfl
  rotate_left
  · simp only [Act.put, List.setIfInBounds_toArray, List.set_cons_zero, List.set_cons_succ, i64_w, i32_w]
    rfl
  refine pure_ (i := 6) (N := some 100) (v := ?_) (a' := ?_) #[true, true, true, true, true, true, true, false, false, false] rfl rfl (by kernel_rfl) (fun _ _ _ h => h) (Or.inl ⟨by rfl, ?_⟩) ?_ ?_
  rotate_left
  · intro w'
    go_simp
    with_reducible rfl
  rotate_left
  · simp only [Act.put, List.setIfInBounds_toArray, List.set_cons_zero, List.set_cons_succ, i64_w, i32_w]
    rfl
  refine pure_ (i := 7) (N := some 101) (v := ?_) (a' := ?_) #[true, true, true, true, true, true, true, true, false, false] rfl rfl (by kernel_rfl) (fun _ _ _ h => h) (Or.inl ⟨by rfl, ?_⟩) ?_ ?_
  rotate_left
  · intro w'
    go_simp
    with_reducible rfl
  rotate_left
  · simp only [Act.put, List.setIfInBounds_toArray, List.set_cons_zero, List.set_cons_succ, i64_w, i32_w]
    rfl
  refine pure_ (i := 8) (N := some 15) (v := ?_) (a' := ?_) #[true, true, true, true, true, true, true, true, true, false] rfl rfl (by kernel_rfl) (fun _ _ _ h => h) (Or.inl ⟨by rfl, ?_⟩) ?_ ?_
  rotate_left
  · intro w'
    go_simp
    with_reducible rfl
  rotate_left
  · simp only [Act.put, List.setIfInBounds_toArray, List.set_cons_zero, List.set_cons_succ, i64_w, i32_w]
    rfl
  refine pure_ (i := 9) (N := some 16) (v := ?_) (a' := ?_) #[true, true, true, true, true, true, true, true, true, true] rfl rfl (by kernel_rfl) (fun _ _ _ h => h) (Or.inl ⟨by rfl, ?_⟩) ?_ ?_
  rotate_left
  · intro w'
    go_simp
    with_reducible rfl
  rotate_left
  · simp only [Act.put, List.setIfInBounds_toArray, List.set_cons_zero, List.set_cons_succ, i64_w, i32_w]
    rfl
  refine done_ (by kernel_rfl) ?_
  have hcz_aj_0 : w31_.cell? ⟨g_aj, 0, none⟩ = some (.slice A_aj_0 aj_0.length c_aj_0) := (blk_cell BK_aj.out 0).trans rfl
  have hfz_aj_0 := blk_frozen BK_aj.out 0
  have hcz_aj_1 : w31_.cell? ⟨g_aj, 1, none⟩ = some (.slice A_aj_1 aj_1.length c_aj_1) := (blk_cell BK_aj.out 1).trans rfl
  have hfz_aj_1 := blk_frozen BK_aj.out 1
  have hcz_aj_2 : w31_.cell? ⟨g_aj, 2, none⟩ = some (.slice A_aj_2 aj_2.length c_aj_2) := (blk_cell BK_aj.out 2).trans rfl
  have hfz_aj_2 := blk_frozen BK_aj.out 2
  have hcz_aj_3 : w31_.cell? ⟨g_aj, 3, none⟩ = some (.int .i64 aj_3) := (blk_cell BK_aj.out 3).trans rfl
  have hfz_aj_3 := blk_frozen BK_aj.out 3
  have hcz_aj_4 : w31_.cell? ⟨g_aj, 4, none⟩ = some (.int .i64 aj_4) := (blk_cell BK_aj.out 4).trans rfl
  have hfz_aj_4 := blk_frozen BK_aj.out 4
  have hcz_aj_5 : w31_.cell? ⟨g_aj, 5, none⟩ = some (.int .i64 aj_5) := (blk_cell BK_aj.out 5).trans rfl
  have hfz_aj_5 := blk_frozen BK_aj.out 5
  have hcz_aj_6 : w31_.cell? ⟨g_aj, 6, none⟩ = some (.int .i64 aj_6) := (blk_cell BK_aj.out 6).trans rfl
  have hfz_aj_6 := blk_frozen BK_aj.out 6
  have hcz_aj_7 : w31_.cell? ⟨g_aj, 7, none⟩ = some (.int .i64 aj_7) := (blk_cell BK_aj.out 7).trans rfl
  have hfz_aj_7 := blk_frozen BK_aj.out 7
  have hcz_ap_0 : w31_.cell? ⟨g_ap, 0, none⟩ = some (.int .i64 ap_0) := (blk_cell BK_ap.out 0).trans rfl
  have hfz_ap_0 := blk_frozen BK_ap.out 0
  have hcz_ap_1 : w31_.cell? ⟨g_ap, 1, none⟩ = some (.slice A_ap_1 ap_1.length c_ap_1) := (blk_cell BK_ap.out 1).trans rfl
  have hfz_ap_1 := blk_frozen BK_ap.out 1
  have hcz_x0_0 : w31_.cell? ⟨g_x0, 0, none⟩ = some (.slice AVx00 aj_0.length cVx00) := (blk_cell BK_x0.out 0).trans rfl
  have hfz_x0_0 := blk_frozen BK_x0.out 0
  have hcz_x0_1 : w31_.cell? ⟨g_x0, 1, none⟩ = some (.slice AVx01 aj_1.length cVx01) := (blk_cell BK_x0.out 1).trans rfl
  have hfz_x0_1 := blk_frozen BK_x0.out 1
  have hcz_x0_2 : w31_.cell? ⟨g_x0, 2, none⟩ = some (.slice AVx02 aj_2.length cVx02) := (blk_cell BK_x0.out 2).trans rfl
  have hfz_x0_2 := blk_frozen BK_x0.out 2
  have hcz_x0_3 : w31_.cell? ⟨g_x0, 3, none⟩ = some (.int .i64 aj_3) := (blk_cell BK_x0.out 3).trans rfl
  have hfz_x0_3 := blk_frozen BK_x0.out 3
  have hcz_x0_4 : w31_.cell? ⟨g_x0, 4, none⟩ = some (.int .i64 aj_4) := (blk_cell BK_x0.out 4).trans rfl
  have hfz_x0_4 := blk_frozen BK_x0.out 4
  have hcz_x0_5 : w31_.cell? ⟨g_x0, 5, none⟩ = some (.int .i64 aj_5) := (blk_cell BK_x0.out 5).trans rfl
  have hfz_x0_5 := blk_frozen BK_x0.out 5
  have hcz_x0_6 : w31_.cell? ⟨g_x0, 6, none⟩ = some (.int .i64 aj_6) := (blk_cell BK_x0.out 6).trans rfl
  have hfz_x0_6 := blk_frozen BK_x0.out 6
  have hcz_x0_7 : w31_.cell? ⟨g_x0, 7, none⟩ = some (.int .i64 aj_7) := (blk_cell BK_x0.out 7).trans rfl
  have hfz_x0_7 := blk_frozen BK_x0.out 7
  have hcz_x1_0 : w31_.cell? ⟨g_x1, 0, none⟩ = some (.int .i64 ap_0) := (blk_cell BK_x1.out 0).trans rfl
  have hfz_x1_0 := blk_frozen BK_x1.out 0
  have hcz_x1_1 : w31_.cell? ⟨g_x1, 1, none⟩ = some (.slice AVx10 ap_1.length cVx10) := (blk_cell BK_x1.out 1).trans rfl
  have hfz_x1_1 := blk_frozen BK_x1.out 1
  clear T36_0 HCT36_0
  clear T36_1 HCT36_1
  clear T36_2 HCT36_2
  clear T37_0 HCT37_0
  go_wp2_with fail
  refine (laws_eqIntSS.calls kgq _ _ r1v _ _ r1v true _ (by repeat (first | exact Vh0.out.C | (with_reducible refine Kd.C_alloc ?_ _) | (with_reducible refine Kd.C_drewN ?_ _) | (with_reducible refine Kd.C_drew ?_))) HCVh0.out (by repeat (first | exact Vw0.out.C | (with_reducible refine Kd.C_alloc ?_ _) | (with_reducible refine Kd.C_drewN ?_ _) | (with_reducible refine Kd.C_drew ?_))) HCVw0.out Hkgq.out).mono ?_
  rintro e w32_ ⟨rfl, hd_⟩
  have hb_ := drawn_below hd_
  clear hd_
  have hp_ : Below w31_.heap.size w31_ w32_ := below_step (by repeat (first | exact Below.refl _ _ | (with_reducible apply below_alloc) | (with_reducible apply pw_below_drewN) | (with_reducible apply below_drew1))) hb_
  have HZ39 := Aside0.mk hp_.size
  have HBn_ := Aside0.mk (more HB.out hp_)
  clear HB
  have HB := HBn_
  clear HBn_
  have X_ := Aside0.mk (Vw0.out.step hp_)
  clear Vw0
  have Vw0 := X_
  clear X_
  have X_ := Aside0.mk (Vg0.out.step hp_)
  clear Vg0
  have Vg0 := X_
  clear X_
  have X_ := Aside0.mk (Vh0.out.step hp_)
  clear Vh0
  have Vh0 := X_
  clear X_
  clear hcz_aj_0 hfz_aj_0 hcz_aj_1 hfz_aj_1 hcz_aj_2 hfz_aj_2 hcz_aj_3 hfz_aj_3 hcz_aj_4 hfz_aj_4 hcz_aj_5 hfz_aj_5 hcz_aj_6 hfz_aj_6 hcz_aj_7 hfz_aj_7
  have X_ := Aside0.mk (blk_below BK_aj.out hp_)
  clear BK_aj
  have BK_aj := X_
  clear X_
  have hcz_aj_0 : w32_.cell? ⟨g_aj, 0, none⟩ = some (.slice A_aj_0 aj_0.length c_aj_0) := (blk_cell BK_aj.out 0).trans rfl
  have hfz_aj_0 := blk_frozen BK_aj.out 0
  have hcz_aj_1 : w32_.cell? ⟨g_aj, 1, none⟩ = some (.slice A_aj_1 aj_1.length c_aj_1) := (blk_cell BK_aj.out 1).trans rfl
  have hfz_aj_1 := blk_frozen BK_aj.out 1
  have hcz_aj_2 : w32_.cell? ⟨g_aj, 2, none⟩ = some (.slice A_aj_2 aj_2.length c_aj_2) := (blk_cell BK_aj.out 2).trans rfl
  have hfz_aj_2 := blk_frozen BK_aj.out 2
  have hcz_aj_3 : w32_.cell? ⟨g_aj, 3, none⟩ = some (.int .i64 aj_3) := (blk_cell BK_aj.out 3).trans rfl
  have hfz_aj_3 := blk_frozen BK_aj.out 3
  have hcz_aj_4 : w32_.cell? ⟨g_aj, 4, none⟩ = some (.int .i64 aj_4) := (blk_cell BK_aj.out 4).trans rfl
  have hfz_aj_4 := blk_frozen BK_aj.out 4
  have hcz_aj_5 : w32_.cell? ⟨g_aj, 5, none⟩ = some (.int .i64 aj_5) := (blk_cell BK_aj.out 5).trans rfl
  have hfz_aj_5 := blk_frozen BK_aj.out 5
  have hcz_aj_6 : w32_.cell? ⟨g_aj, 6, none⟩ = some (.int .i64 aj_6) := (blk_cell BK_aj.out 6).trans rfl
  have hfz_aj_6 := blk_frozen BK_aj.out 6
  have hcz_aj_7 : w32_.cell? ⟨g_aj, 7, none⟩ = some (.int .i64 aj_7) := (blk_cell BK_aj.out 7).trans rfl
  have hfz_aj_7 := blk_frozen BK_aj.out 7
  clear hcz_ap_0 hfz_ap_0 hcz_ap_1 hfz_ap_1
  have X_ := Aside0.mk (blk_below BK_ap.out hp_)
  clear BK_ap
  have BK_ap := X_
  clear X_
  have hcz_ap_0 : w32_.cell? ⟨g_ap, 0, none⟩ = some (.int .i64 ap_0) := (blk_cell BK_ap.out 0).trans rfl
  have hfz_ap_0 := blk_frozen BK_ap.out 0
  have hcz_ap_1 : w32_.cell? ⟨g_ap, 1, none⟩ = some (.slice A_ap_1 ap_1.length c_ap_1) := (blk_cell BK_ap.out 1).trans rfl
  have hfz_ap_1 := blk_frozen BK_ap.out 1
  clear hcz_x0_0 hfz_x0_0 hcz_x0_1 hfz_x0_1 hcz_x0_2 hfz_x0_2 hcz_x0_3 hfz_x0_3 hcz_x0_4 hfz_x0_4 hcz_x0_5 hfz_x0_5 hcz_x0_6 hfz_x0_6 hcz_x0_7 hfz_x0_7
  have X_ := Aside0.mk (blk_below BK_x0.out hp_)
  clear BK_x0
  have BK_x0 := X_
  clear X_
  have hcz_x0_0 : w32_.cell? ⟨g_x0, 0, none⟩ = some (.slice AVx00 aj_0.length cVx00) := (blk_cell BK_x0.out 0).trans rfl
  have hfz_x0_0 := blk_frozen BK_x0.out 0
  have hcz_x0_1 : w32_.cell? ⟨g_x0, 1, none⟩ = some (.slice AVx01 aj_1.length cVx01) := (blk_cell BK_x0.out 1).trans rfl
  have hfz_x0_1 := blk_frozen BK_x0.out 1
  have hcz_x0_2 : w32_.cell? ⟨g_x0, 2, none⟩ = some (.slice AVx02 aj_2.length cVx02) := (blk_cell BK_x0.out 2).trans rfl
  have hfz_x0_2 := blk_frozen BK_x0.out 2
  have hcz_x0_3 : w32_.cell? ⟨g_x0, 3, none⟩ = some (.int .i64 aj_3) := (blk_cell BK_x0.out 3).trans rfl
  have hfz_x0_3 := blk_frozen BK_x0.out 3
  have hcz_x0_4 : w32_.cell? ⟨g_x0, 4, none⟩ = some (.int .i64 aj_4) := (blk_cell BK_x0.out 4).trans rfl
  have hfz_x0_4 := blk_frozen BK_x0.out 4
  have hcz_x0_5 : w32_.cell? ⟨g_x0, 5, none⟩ = some (.int .i64 aj_5) := (blk_cell BK_x0.out 5).trans rfl
  have hfz_x0_5 := blk_frozen BK_x0.out 5
  have hcz_x0_6 : w32_.cell? ⟨g_x0, 6, none⟩ = some (.int .i64 aj_6) := (blk_cell BK_x0.out 6).trans rfl
  have hfz_x0_6 := blk_frozen BK_x0.out 6
  have hcz_x0_7 : w32_.cell? ⟨g_x0, 7, none⟩ = some (.int .i64 aj_7) := (blk_cell BK_x0.out 7).trans rfl
  have hfz_x0_7 := blk_frozen BK_x0.out 7
  clear hcz_x1_0 hfz_x1_0 hcz_x1_1 hfz_x1_1
  have X_ := Aside0.mk (blk_below BK_x1.out hp_)
  clear BK_x1
  have BK_x1 := X_
  clear X_
  have hcz_x1_0 : w32_.cell? ⟨g_x1, 0, none⟩ = some (.int .i64 ap_0) := (blk_cell BK_x1.out 0).trans rfl
  have hfz_x1_0 := blk_frozen BK_x1.out 0
  have hcz_x1_1 : w32_.cell? ⟨g_x1, 1, none⟩ = some (.slice AVx10 ap_1.length cVx10) := (blk_cell BK_x1.out 1).trans rfl
  have hfz_x1_1 := blk_frozen BK_x1.out 1
  clear hb_ hp_
  go_wp2_with fail
  try rw [show (Value.slice AVg0 r1v.length cVg0) = .slice AVg0 (marksSS r1v 1).length cVg0 from by rw [HML.out]]
  refine (laws_heldIntSS.calls kh32 _ _ (marksSS r1v 1) 1 mt _ (by repeat (first | exact Vg0.out.C | (with_reducible refine Kd.C_alloc ?_ _) | (with_reducible refine Kd.C_drewN ?_ _) | (with_reducible refine Kd.C_drew ?_))) HCm.out HH32'.out).mono ?_
  rintro e w33_ ⟨rfl, hd_⟩
  have hp_ : Below w32_.heap.size w32_ w33_ := below_step (by repeat (first | exact Below.refl _ _ | (with_reducible apply below_alloc) | (with_reducible apply pw_below_drewN) | (with_reducible apply below_drew1))) (drawn_below hd_)
  have HZ40 := Aside0.mk hp_.size
  have HBn_ := Aside0.mk (more HB.out hp_)
  clear HB
  have HB := HBn_
  clear HBn_
  have X_ := Aside0.mk (Vw0.out.step hp_)
  clear Vw0
  have Vw0 := X_
  clear X_
  have X_ := Aside0.mk (Vg0.out.step hp_)
  clear Vg0
  have Vg0 := X_
  clear X_
  have X_ := Aside0.mk (Vh0.out.step hp_)
  clear Vh0
  have Vh0 := X_
  clear X_
  clear hcz_aj_0 hfz_aj_0 hcz_aj_1 hfz_aj_1 hcz_aj_2 hfz_aj_2 hcz_aj_3 hfz_aj_3 hcz_aj_4 hfz_aj_4 hcz_aj_5 hfz_aj_5 hcz_aj_6 hfz_aj_6 hcz_aj_7 hfz_aj_7
  have X_ := Aside0.mk (blk_below BK_aj.out hp_)
  clear BK_aj
  have BK_aj := X_
  clear X_
  have hcz_aj_0 : w33_.cell? ⟨g_aj, 0, none⟩ = some (.slice A_aj_0 aj_0.length c_aj_0) := (blk_cell BK_aj.out 0).trans rfl
  have hfz_aj_0 := blk_frozen BK_aj.out 0
  have hcz_aj_1 : w33_.cell? ⟨g_aj, 1, none⟩ = some (.slice A_aj_1 aj_1.length c_aj_1) := (blk_cell BK_aj.out 1).trans rfl
  have hfz_aj_1 := blk_frozen BK_aj.out 1
  have hcz_aj_2 : w33_.cell? ⟨g_aj, 2, none⟩ = some (.slice A_aj_2 aj_2.length c_aj_2) := (blk_cell BK_aj.out 2).trans rfl
  have hfz_aj_2 := blk_frozen BK_aj.out 2
  have hcz_aj_3 : w33_.cell? ⟨g_aj, 3, none⟩ = some (.int .i64 aj_3) := (blk_cell BK_aj.out 3).trans rfl
  have hfz_aj_3 := blk_frozen BK_aj.out 3
  have hcz_aj_4 : w33_.cell? ⟨g_aj, 4, none⟩ = some (.int .i64 aj_4) := (blk_cell BK_aj.out 4).trans rfl
  have hfz_aj_4 := blk_frozen BK_aj.out 4
  have hcz_aj_5 : w33_.cell? ⟨g_aj, 5, none⟩ = some (.int .i64 aj_5) := (blk_cell BK_aj.out 5).trans rfl
  have hfz_aj_5 := blk_frozen BK_aj.out 5
  have hcz_aj_6 : w33_.cell? ⟨g_aj, 6, none⟩ = some (.int .i64 aj_6) := (blk_cell BK_aj.out 6).trans rfl
  have hfz_aj_6 := blk_frozen BK_aj.out 6
  have hcz_aj_7 : w33_.cell? ⟨g_aj, 7, none⟩ = some (.int .i64 aj_7) := (blk_cell BK_aj.out 7).trans rfl
  have hfz_aj_7 := blk_frozen BK_aj.out 7
  clear hcz_ap_0 hfz_ap_0 hcz_ap_1 hfz_ap_1
  have X_ := Aside0.mk (blk_below BK_ap.out hp_)
  clear BK_ap
  have BK_ap := X_
  clear X_
  have hcz_ap_0 : w33_.cell? ⟨g_ap, 0, none⟩ = some (.int .i64 ap_0) := (blk_cell BK_ap.out 0).trans rfl
  have hfz_ap_0 := blk_frozen BK_ap.out 0
  have hcz_ap_1 : w33_.cell? ⟨g_ap, 1, none⟩ = some (.slice A_ap_1 ap_1.length c_ap_1) := (blk_cell BK_ap.out 1).trans rfl
  have hfz_ap_1 := blk_frozen BK_ap.out 1
  clear hcz_x0_0 hfz_x0_0 hcz_x0_1 hfz_x0_1 hcz_x0_2 hfz_x0_2 hcz_x0_3 hfz_x0_3 hcz_x0_4 hfz_x0_4 hcz_x0_5 hfz_x0_5 hcz_x0_6 hfz_x0_6 hcz_x0_7 hfz_x0_7
  have X_ := Aside0.mk (blk_below BK_x0.out hp_)
  clear BK_x0
  have BK_x0 := X_
  clear X_
  have hcz_x0_0 : w33_.cell? ⟨g_x0, 0, none⟩ = some (.slice AVx00 aj_0.length cVx00) := (blk_cell BK_x0.out 0).trans rfl
  have hfz_x0_0 := blk_frozen BK_x0.out 0
  have hcz_x0_1 : w33_.cell? ⟨g_x0, 1, none⟩ = some (.slice AVx01 aj_1.length cVx01) := (blk_cell BK_x0.out 1).trans rfl
  have hfz_x0_1 := blk_frozen BK_x0.out 1
  have hcz_x0_2 : w33_.cell? ⟨g_x0, 2, none⟩ = some (.slice AVx02 aj_2.length cVx02) := (blk_cell BK_x0.out 2).trans rfl
  have hfz_x0_2 := blk_frozen BK_x0.out 2
  have hcz_x0_3 : w33_.cell? ⟨g_x0, 3, none⟩ = some (.int .i64 aj_3) := (blk_cell BK_x0.out 3).trans rfl
  have hfz_x0_3 := blk_frozen BK_x0.out 3
  have hcz_x0_4 : w33_.cell? ⟨g_x0, 4, none⟩ = some (.int .i64 aj_4) := (blk_cell BK_x0.out 4).trans rfl
  have hfz_x0_4 := blk_frozen BK_x0.out 4
  have hcz_x0_5 : w33_.cell? ⟨g_x0, 5, none⟩ = some (.int .i64 aj_5) := (blk_cell BK_x0.out 5).trans rfl
  have hfz_x0_5 := blk_frozen BK_x0.out 5
  have hcz_x0_6 : w33_.cell? ⟨g_x0, 6, none⟩ = some (.int .i64 aj_6) := (blk_cell BK_x0.out 6).trans rfl
  have hfz_x0_6 := blk_frozen BK_x0.out 6
  have hcz_x0_7 : w33_.cell? ⟨g_x0, 7, none⟩ = some (.int .i64 aj_7) := (blk_cell BK_x0.out 7).trans rfl
  have hfz_x0_7 := blk_frozen BK_x0.out 7
  clear hcz_x1_0 hfz_x1_0 hcz_x1_1 hfz_x1_1
  have X_ := Aside0.mk (blk_below BK_x1.out hp_)
  clear BK_x1
  have BK_x1 := X_
  clear X_
  have hcz_x1_0 : w33_.cell? ⟨g_x1, 0, none⟩ = some (.int .i64 ap_0) := (blk_cell BK_x1.out 0).trans rfl
  have hfz_x1_0 := blk_frozen BK_x1.out 0
  have hcz_x1_1 : w33_.cell? ⟨g_x1, 1, none⟩ = some (.slice AVx10 ap_1.length cVx10) := (blk_cell BK_x1.out 1).trans rfl
  have hfz_x1_1 := blk_frozen BK_x1.out 1
  clear hd_ hp_
  go_wp2_with fail
  go_ret
  exact ⟨rfl, by repeat (first | exact HB.out | (with_reducible apply below_alloc) | (with_reducible apply pw_below_drewN) | (with_reducible apply below_drew1))⟩
end Go.Proofs.Ytmlmghkkalljbaa.WalkFnExactPitsOfPlan

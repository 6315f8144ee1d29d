/- The walk of FnExactWidenPit's own text: for all arguments it returns true, and nothing that lay in memory before has turned; over the contracts of what it calls; no further condition. -/
import Derived.Test.YtjjbohacmmhddaaPureFnExactWidenPit
import Derived.Test.YtjjbohacmmhddaaLaw
namespace Go.Proofs.Ytjjbohacmmhddaa.WalkFnExactWidenPit
open Go.RowKit Go.Proofs.YtjjbohacmmhddaaW.PrintWords Go.Proofs.YtjjbohacmmhddaaW.PrintLast Go.Proofs.YtjjbohacmmhddaaW.PrintMore Go.Proofs.Ytjjbohacmmhddaa.PFnExactWidenPit Go.Proofs.Ytjjbohacmmhddaa.Gen Go.Proofs.Ytjjbohacmmhddaa.Pure Go.Proofs.Ytjjbohacmmhddaa.Law Go.Proofs.Ytjjbohacmmhddaa.Opn
set_option linter.unusedVariables false
set_option linter.unusedSimpArgs false
theorem markSS_calls (l0 : List (List Int)) (a1 : Int) (ha : 0 ≤ a1) (hb : a1 + (totL l0 : Int) < 1000000000000) (P0 : Nat → Prop) (u : Value) (w0 w : World) (hB : Below w0.heap.size w0 w) (ho : Kd.S (Kd.slice 3 (Kd.int .i64)) 25 w w0.heap.size P0 u l0) :
    Calls Try.prog 15 #[u, .int .i64 a1] w fun e w' => e = .returned (.int .i64 (a1 + (totL l0 : Int))) ∧ Kd.S (Kd.slice 3 (Kd.int .i64)) 25 w' w0.heap.size (fun k_ => P0 k_ ∨ w.heap.size ≤ k_) u (marksSS l0 a1) ∧ Below w0.heap.size w0 w' ∧ Kept w w' (fun k_ => P0 k_) := by
  have HO := Aside0.mk (Kd.S_mono ho (fun k_ hk => (Or.inl hk : P0 k_ ∨ w.heap.size ≤ k_)))
  have HK := Aside0.mk (Kept.refl w (fun k_ => P0 k_))
  have HB := Aside0.mk hB
  obtain ⟨A, c, rfl⟩ := Kd.S_slice ho
  have HL := (Kd.S_reads' ho).1
  have hmax : l0.length ≤ 9223372036854775807 := (Kd.S_reads' ho).2.2.2.1
  clear ho hB
  go_enter Try.func15, Try.ntmps15
  go_wp2
  go_loopg [1, 5] l0.length (fun kq v1 v5 w' => ∃ pre suf : List (List Int), pre ++ suf = l0 ∧ v5 = .int .i64 (pre.length : Int) ∧ v1 = .int .i64 (a1 + (totL pre : Int)) ∧ Aside0 (kq = suf.length) ∧ Aside0 (Kd.S (Kd.slice 3 (Kd.int .i64)) 25 w' w0.heap.size (fun k_ => P0 k_ ∨ w.heap.size ≤ k_) (.slice A l0.length c) (marksSS pre a1 ++ suf)) ∧ Aside0 (Below w0.heap.size w0 w') ∧ Aside0 (Kept w w' (fun k_ => P0 k_)))
  case atStart => exact ⟨[], l0, rfl, rfl, by simp [totL], ⟨rfl⟩, HO, HB, HK⟩
  case round =>
    obtain ⟨pre, suf, hl, rfl, rfl, HQ, HO, HB, HK⟩ := hrel
    cases suf with
    | nil =>
      have hpl : l0.length = pre.length := by rw [← hl]; simp
      have c1 : decide ((pre.length : Int) < (l0.length : Int)) = false := decide_eq_false (by omega)
      have c2 : decide (pre.length < l0.length) = false := decide_eq_false (by omega)
      have HP := Aside0.mk hpl
      have HE := Aside0.mk hl
      clear hl hpl
      go_wp2
      go_ret
      have e := HE.out
      rw [List.append_nil] at e
      subst e
      have o := HO.out
      rw [List.append_nil] at o
      exact ⟨rfl, o, HB.out, HK.out⟩
    | cons x suf =>
      have hpl : l0.length = pre.length + suf.length + 1 := by rw [← hl]; simp; omega
      have hlt : (pre.length : Int) < (l0.length : Int) := by omega
      have c1 : decide ((pre.length : Int) < (l0.length : Int)) = true := decide_eq_true hlt
      have c2 : decide (pre.length < l0.length) = true := decide_eq_true (by omega)
      have hcl : (marksSS pre a1 ++ x :: suf).length = l0.length := by rw [List.length_append, marksSS_len, List.length_cons]; omega
      obtain ⟨g, cap, eo, hg1, hg2, _⟩ := Kd.S_form HO.out (by rw [hcl]; omega)
      rw [hcl] at eo
      cases eo
      obtain ⟨oki, ce, hcel, hM, hcc, hfr, hoki, hH⟩ := Kd.S_elem HO.out [] (pre.length : Int) (Int.natCast_nonneg _) hlt
      obtain ⟨ve, rfl, hR⟩ := hM
      have hx := hcc 0 _ rfl
      simp only [show (Kd.slice 3 (Kd.int .i64)).sz = 1 from rfl, Nat.mul_one, Nat.add_zero, Int.toNat_natCast] at hx
      rw [Int.toNat_natCast, show (marksSS pre a1 ++ x :: suf).getD pre.length [] = x by rw [← marksSS_len pre a1]; simp] at hR
      have htot : totL l0 = totL pre + x.length + totL suf := by rw [← hl]; simp [totL]; omega
      obtain ⟨kk, hk⟩ := (markIntS_ev x (a1 + (totL pre : Int)) (by omega) (by omega)).rounds
      have HR := Aside0.mk hR
      have HH := Aside0.mk hH
      have HE := Aside0.mk hl
      have HP := Aside0.mk hpl
      have HT := Aside0.mk htot
      have HMK := Aside0.mk hk
      have HOK := Aside0.mk hoki
      have HC := Aside0.mk hcl
      clear hl hpl htot hk hoki hcl hcc hcel hfr hR hH
      go_wp2_with fail
      refine (laws_markIntS.calls kk oki ve x _ _ _ w0 wr HB.out HR.out HMK.out).mono ?_
      rintro e w2 ⟨rfl, hr2, hb2, hk2⟩
      have HS2 := Aside0.mk (show Kd.S (Kd.slice 3 (Kd.int .i64)) 25 w2 w0.heap.size (fun k_ => P0 k_ ∨ w.heap.size ≤ k_) (.slice (some ⟨g, 0, none⟩) l0.length c) (marksSS (pre ++ [x]) a1 ++ suf) from by
        have h1 := Kd.H_kept (Kd.H_widen HH.out) hk2 (fun k _ hn hk => hn (Or.inl hk))
        have h2 := Kd.H_back h1 (x' := markedI x.length (a1 + (totL pre : Int))) (okp := fun k_ => oki k_ ∨ wr.heap.size ≤ k_) ⟨ve, rfl, hr2⟩ (fun k hk => hk.elim (fun q => Or.inl q) (fun q => Or.inr ⟨Or.inr (Nat.le_trans HK.out.1 q), q⟩))
        rw [Int.toNat_natCast] at h2
        have e2 : (marksSS pre a1 ++ x :: suf).set pre.length (markedI x.length (a1 + (totL pre : Int))) = marksSS (pre ++ [x]) a1 ++ suf := by
          have s := set_mid (marksSS pre a1) x (markedI x.length (a1 + (totL pre : Int))) suf
          rw [marksSS_len, Int.toNat_natCast] at s
          rw [s, marksSS_snoc]
        rw [e2] at h2
        exact h2)
      have HB2 := Aside0.mk hb2
      have HK2 := Aside0.mk (Kept.then_ HK.out hk2 (fun k hk => (HOK.out k hk).1))
      clear hr2 hb2 hk2 HO HB HK HH HR
      have e3 : a1 + (totL pre : Int) + (x.length : Int) = a1 + (totL (pre ++ [x]) : Int) := by rw [totL_snoc]; omega
      rw [e3]
      clear e3
      go_wp2_with fail
      go_roundg suf.length
      case measure => have := HQ.out; rw [this, List.length_cons]; omega
      case rel => exact ⟨pre ++ [x], suf, by rw [List.append_assoc]; exact HE.out, by simp, rfl, ⟨rfl⟩, HS2, HB2, HK2⟩

set_option maxRecDepth 100000 in
set_option maxHeartbeats 40000000 in
theorem law (ag_0 : Int) (ag_1 : Int) (ag_2 : Int) (A_aarcs : Option Addr) (c_aarcs : Nat) (aarcs : List (List Int)) (A_apit : Option Addr) (c_apit : Nat) (apit : List Int) (aw : Int) (w : World) (hr_aarcs : Kd.C (Kd.slice 3 (Kd.int .i64)) w A_aarcs aarcs.length aarcs) (hc_aarcs : aarcs.length ≤ c_aarcs) (hr_apit : Kd.C (Kd.int .i64) w A_apit apit.length apit) (hc_apit : apit.length ≤ c_apit) (hw_ag_0 : (Lit.int .i64 ag_0).wf = true) (hw_ag_1 : (Lit.int .i64 ag_1).wf = true) (hw_ag_2 : (Lit.int .i64 ag_2).wf = true) (hm_aarcs : aarcs.length ≤ maxLen) (hi_aarcs : ∀ z ∈ aarcs, z.length ≤ maxLen) (hw_aarcs : ∀ z ∈ aarcs, okI .i64 z) (hm_apit : apit.length * 8 ≤ 140737488351232) (hw_apit : okI .i64 apit) (hw_aw : (Lit.int .i64 aw).wf = true) :
    Calls Try.prog 4 #[.agg #[.int .i64 ag_0, .int .i64 ag_1, .int .i64 ag_2], .slice A_aarcs aarcs.length c_aarcs, .slice A_apit apit.length c_apit, .int .i64 aw] w fun e w' => e = .returned (.bool true) ∧ Below w.heap.size w w' := by
  have HR_aarcs := Aside0.mk hr_aarcs
  have HC_aarcs := Aside0.mk hc_aarcs
  clear hr_aarcs hc_aarcs
  have HR_apit := Aside0.mk hr_apit
  have HC_apit := Aside0.mk hc_apit
  clear hr_apit hc_apit
  have HB := Aside0.mk (Below.refl w.heap.size w)
  have hu23 := Try.underlying23
  have hu29 := Try.underlying29
  have HMI_aarcs := Aside0.mk hi_aarcs
  clear hi_aarcs
  clear hw_aarcs
  clear hw_apit
  by_cases g_apit : (apit.length : Int) > 1048576
  · have d_ : decide ((1048576 : Int) < (apit.length : Int)) = true := decide_eq_true (by omega)
    have d2_ : decide (1048576 < apit.length) = true := decide_eq_true (by omega)
    go_enter Try.func4, Try.ntmps4
    go_wp2_with fail
    go_ret
    exact ⟨rfl, by repeat (first | exact HB.out | (with_reducible apply below_alloc) | (with_reducible apply pw_below_drewN) | (with_reducible apply below_drew1))⟩
  have d_apit : decide ((1048576 : Int) < (apit.length : Int)) = false := decide_eq_false (by omega)
  have d2_apit : decide (1048576 < apit.length) = false := decide_eq_false (by omega)
  have b_apit : apit.length ≤ 1048576 := by omega
  have HBD_apit := Aside0.mk b_apit
  clear b_apit g_apit
  have cl1_ : 0 ≤ (1048576 : Int) := by omega
  have cu1_ : (1048576 : Int) ≤ 1048576 := by omega
  obtain ⟨s1, hs_, hsa_, hsb_⟩ := szIntSS_ev aarcs 1048576 cl1_ cu1_ hm_aarcs HMI_aarcs.out
  obtain ⟨ks_, hs_⟩ := hs_.rounds
  have HS1 := Aside0.mk hs_
  have HSB1 := Aside0.mk hsb_
  clear hs_ hsb_ cl1_ cu1_
  go_enter Try.func4, Try.ntmps4
  go_wp2_with (first | ((with_reducible refine gate_dst (N := 4) rfl ?_); refine box_event ?hg (N := 4) ?hd (cs := #[.int .i64 ag_0, .int .i64 ag_1, .int .i64 ag_2]) (t := 23) ?hr ?_; (case hd => rfl); (case hg => rfl); (case hr => first | (go_simp; done) | (go_simp; rfl)); intro g_ag hg_ w1_ hbox_ hb_; have hp_ : Below w.heap.size w w1_ := below_step (by repeat (first | exact Below.refl _ _ | (with_reducible apply below_alloc) | (with_reducible apply pw_below_drewN) | (with_reducible apply below_drew1))) hb_; have hz_ : w.heap.size ≤ g_ag := Nat.le_trans (below_size (by repeat (first | exact Below.refl _ _ | (with_reducible apply below_alloc) | (with_reducible apply pw_below_drewN) | (with_reducible apply below_drew1)))) (Nat.le_of_eq hg_.symm); have HZ2 := Aside0.mk (⟨hz_, blk_lt hbox_, hp_.size⟩ : _ ∧ _ ∧ _); have HZ := HZ2; clear HZ2; have HGW_ag := Aside0.mk (Nat.le_trans HB.out.size hz_ : w.heap.size ≤ g_ag); replace HB := Aside0.mk (more HB.out hp_); have BK_ag := Aside0.mk hbox_; obtain ⟨hcz_ag_0, hfz_ag_0, hcz_ag_1, hfz_ag_1, hcz_ag_2, hfz_ag_2⟩ := cells3_ BK_ag.out; clear hg_ hbox_ hb_ hp_ hz_))
  refine (laws_szIntSS.calls ks_ _ _ aarcs 1048576 s1 _ (by repeat (first | exact (Kd.C_below HR_aarcs.out HB.out) | (with_reducible refine Kd.C_alloc ?_ _) | (with_reducible refine Kd.C_drewN ?_ _) | (with_reducible refine Kd.C_drew ?_))) HC_aarcs.out HS1.out).mono ?_
  rintro e w2_ ⟨rfl, hd_⟩
  have hb_ := drawn_below hd_
  clear hd_
  have hp_ : Below w1_.heap.size w1_ w2_ := below_step (by repeat (first | exact Below.refl _ _ | (with_reducible apply below_alloc) | (with_reducible apply pw_below_drewN) | (with_reducible apply below_drew1))) hb_
  have HZ3 := Aside0.mk hp_.size
  replace HZ := Aside0.mk (And.intro HZ.out HZ3.out)
  clear HZ3
  replace HB := Aside0.mk (more HB.out hp_)
  clear hcz_ag_0 hfz_ag_0 hcz_ag_1 hfz_ag_1 hcz_ag_2 hfz_ag_2
  replace BK_ag := Aside0.mk (blk_below BK_ag.out hp_)
  obtain ⟨hcz_ag_0, hfz_ag_0, hcz_ag_1, hfz_ag_1, hcz_ag_2, hfz_ag_2⟩ := cells3_ BK_ag.out
  clear hb_ hp_
  by_cases g_ : s1 < 0
  · have d_ : decide (s1 < 0) = true := decide_eq_true g_
    go_wp2_with fail
    go_ret
    exact ⟨rfl, by repeat (first | exact HB.out | (with_reducible apply below_alloc) | (with_reducible apply pw_below_drewN) | (with_reducible apply below_drew1))⟩
  have d1_ : decide (s1 < 0) = false := decide_eq_false g_
  have hb1_ := HSB1.out (by omega)
  clear HSB1
  have HQ1 := Aside0.mk hb1_
  have ga1 : 0 ≤ s1 := by omega
  clear hb1_ g_
  have b_aarcs : aarcs.length ≤ 1048576 := by have := HQ1.out; omega
  have HBD_aarcs := Aside0.mk b_aarcs
  have bi_aarcs : ∀ z ∈ aarcs, z.length ≤ 1048576 := fun z hz => by have := tot_mem hz; have := HQ1.out; omega
  have HBI_aarcs := Aside0.mk bi_aarcs
  have HTO_aarcs : Aside0 (totL aarcs ≤ 1048576) := ⟨by have := HQ1.out; omega⟩
  clear b_aarcs bi_aarcs
  obtain ⟨r1v, r2v, es_, ei_, hl_r1⟩ := FnExactWidenPit ag_0 ag_1 ag_2 aarcs apit aw HBD_aarcs.out HBI_aarcs.out HBD_apit.out
  obtain ⟨kes_, h_⟩ := es_.rounds
  have HES := Aside0.mk h_
  clear h_ es_
  obtain ⟨kei_, h_⟩ := ei_.rounds
  have HEI := Aside0.mk h_
  clear h_ ei_
  have HL_r1 := Aside0.mk hl_r1
  clear hl_r1
  obtain ⟨kt_aArcs, h_⟩ := (toIntSS_ev aarcs HBD_aarcs.out HBI_aarcs.out).rounds
  have Hkt_aArcs := Aside0.mk h_
  clear h_
  obtain ⟨kq_aArcs, h_⟩ := (eqIntSS_ev aarcs HBD_aarcs.out HBI_aarcs.out).rounds
  have Hkq_aArcs := Aside0.mk h_
  clear h_
  obtain ⟨kt_aPit, h_⟩ := (toIntS_ev apit (by have := HBD_apit.out; omega)).rounds
  have Hkt_aPit := Aside0.mk h_
  clear h_
  obtain ⟨kq_aPit, h_⟩ := (eqIntS_ev apit apit (by have := HBD_apit.out; omega)).rounds
  rw [decide_eq_true rfl] at h_
  have Hkq_aPit := Aside0.mk h_
  clear h_
  obtain ⟨kgq, h_⟩ := (eqIntS_ev r1v r1v (by have := HL_r1.out; omega)).rounds
  rw [decide_eq_true rfl] at h_
  have Hkgq := Aside0.mk h_
  clear h_
  go_wp2_with fail
  refine (laws_toGrid.calls ag_0 ag_1 ag_2 ag_0 ag_1 ag_2 _  rfl).mono ?_
  rintro e w3_ ⟨rfl, hd_⟩
  have hb_ := hd_
  clear hd_
  have hp_ : Below w2_.heap.size w2_ w3_ := below_step (by repeat (first | exact Below.refl _ _ | (with_reducible apply below_alloc) | (with_reducible apply pw_below_drewN) | (with_reducible apply below_drew1))) hb_
  have HZ4 := Aside0.mk hp_.size
  replace HZ := Aside0.mk (And.intro HZ.out HZ4.out)
  clear HZ4
  replace HB := Aside0.mk (more HB.out hp_)
  clear hcz_ag_0 hfz_ag_0 hcz_ag_1 hfz_ag_1 hcz_ag_2 hfz_ag_2
  replace BK_ag := Aside0.mk (blk_below BK_ag.out hp_)
  obtain ⟨hcz_ag_0, hfz_ag_0, hcz_ag_1, hfz_ag_1, hcz_ag_2, hfz_ag_2⟩ := cells3_ BK_ag.out
  clear hb_ hp_
  go_wp2_with fail
  refine (laws_toIntSS.calls kt_aArcs _ _ aarcs aarcs _ (by repeat (first | exact (Kd.C_below HR_aarcs.out HB.out) | (with_reducible refine Kd.C_alloc ?_ _) | (with_reducible refine Kd.C_drewN ?_ _) | (with_reducible refine Kd.C_drew ?_))) HC_aarcs.out Hkt_aArcs.out).mono ?_
  rintro e w4_ ⟨v0_n4, rfl, ho0_, hb_⟩
  have hp_ : Below w3_.heap.size w3_ w4_ := below_step (by repeat (first | exact Below.refl _ _ | (with_reducible apply below_alloc) | (with_reducible apply pw_below_drewN) | (with_reducible apply below_drew1))) hb_
  obtain ⟨B5, H5, eB_, eH_, hi1_, hi2_, hi3_⟩ := spot (W0 := w3_) (by repeat (first | exact Below.refl _ _ | (with_reducible apply below_alloc) | (with_reducible apply pw_below_drewN) | (with_reducible apply below_drew1))) hb_
  have HZ5 := Aside0.mk (⟨hi1_, hi2_, hi3_, hp_.size⟩ : _ ∧ _ ∧ _ ∧ _)
  have N5_0 := Aside0.mk (OwnS.new (W0 := w3_) (b := w.heap.size) (by repeat (first | exact Below.refl _ _ | (with_reducible apply below_alloc) | (with_reducible apply pw_below_drewN) | (with_reducible apply below_drew1))) ho0_ hb_ HB.out.size _ _ eB_ eH_)
  clear eB_ eH_ hi1_ hi2_ hi3_ ho0_
  replace HZ := Aside0.mk (And.intro HZ.out HZ5.out)
  clear HZ5
  replace HB := Aside0.mk (more HB.out hp_)
  clear hcz_ag_0 hfz_ag_0 hcz_ag_1 hfz_ag_1 hcz_ag_2 hfz_ag_2
  replace BK_ag := Aside0.mk (blk_below BK_ag.out hp_)
  obtain ⟨hcz_ag_0, hfz_ag_0, hcz_ag_1, hfz_ag_1, hcz_ag_2, hfz_ag_2⟩ := cells3_ BK_ag.out
  clear hb_ hp_
  have T5_0 := N5_0
  clear N5_0
  obtain ⟨AT5_0, cT5_0, rfl, hc_⟩ := T5_0.out.reads
  have HCT5_0 := Aside0.mk hc_
  clear hc_
  go_wp2_with fail
  refine (laws_toIntS.calls kt_aPit _ _ apit apit _ (by repeat (first | exact (Kd.C_below HR_apit.out HB.out) | (with_reducible refine Kd.C_alloc ?_ _) | (with_reducible refine Kd.C_drewN ?_ _) | (with_reducible refine Kd.C_drew ?_))) HC_apit.out Hkt_aPit.out).mono ?_
  rintro e w5_ ⟨v0_n5, rfl, ho0_, hb_⟩
  have hp_ : Below w4_.heap.size w4_ w5_ := below_step (by repeat (first | exact Below.refl _ _ | (with_reducible apply below_alloc) | (with_reducible apply pw_below_drewN) | (with_reducible apply below_drew1))) hb_
  obtain ⟨B6, H6, eB_, eH_, hi1_, hi2_, hi3_⟩ := spot (W0 := w4_) (by repeat (first | exact Below.refl _ _ | (with_reducible apply below_alloc) | (with_reducible apply pw_below_drewN) | (with_reducible apply below_drew1))) hb_
  have HZ6 := Aside0.mk (⟨hi1_, hi2_, hi3_, hp_.size⟩ : _ ∧ _ ∧ _ ∧ _)
  have N6_0 := Aside0.mk (Own.new (W0 := w4_) (b := w.heap.size) (by repeat (first | exact Below.refl _ _ | (with_reducible apply below_alloc) | (with_reducible apply pw_below_drewN) | (with_reducible apply below_drew1))) ho0_ hb_ HB.out.size _ _ eB_ eH_)
  clear eB_ eH_ hi1_ hi2_ hi3_ ho0_
  replace HZ := Aside0.mk (And.intro HZ.out HZ6.out)
  clear HZ6
  replace HB := Aside0.mk (more HB.out hp_)
  replace T5_0 := Aside0.mk (T5_0.out.step hp_)
  clear hcz_ag_0 hfz_ag_0 hcz_ag_1 hfz_ag_1 hcz_ag_2 hfz_ag_2
  replace BK_ag := Aside0.mk (blk_below BK_ag.out hp_)
  obtain ⟨hcz_ag_0, hfz_ag_0, hcz_ag_1, hfz_ag_1, hcz_ag_2, hfz_ag_2⟩ := cells3_ BK_ag.out
  clear hb_ hp_
  have T6_0 := N6_0
  clear N6_0
  obtain ⟨AT6_0, cT6_0, rfl, hc_⟩ := T6_0.out.reads
  have HCT6_0 := Aside0.mk hc_
  clear hc_
  go_wp2_with fail
  refine (spec_WidenPit.calls kes_ ag_0 ag_1 ag_2 _ _ aarcs _ _ apit aw r1v r2v _ (by repeat (first | exact T5_0.out.C | (with_reducible refine Kd.C_alloc ?_ _) | (with_reducible refine Kd.C_drewN ?_ _) | (with_reducible refine Kd.C_drew ?_))) HCT5_0.out (by repeat (first | exact T6_0.out.C | (with_reducible refine Kd.C_alloc ?_ _) | (with_reducible refine Kd.C_drewN ?_ _) | (with_reducible refine Kd.C_drew ?_))) HCT6_0.out HES.out).mono ?_
  rintro e w6_ ⟨v0_n6, rfl, ho0_, hb_⟩
  have hp_ : Below w5_.heap.size w5_ w6_ := below_step (by repeat (first | exact Below.refl _ _ | (with_reducible apply below_alloc) | (with_reducible apply pw_below_drewN) | (with_reducible apply below_drew1))) hb_
  obtain ⟨B7, H7, eB_, eH_, hi1_, hi2_, hi3_⟩ := spot (W0 := w5_) (by repeat (first | exact Below.refl _ _ | (with_reducible apply below_alloc) | (with_reducible apply pw_below_drewN) | (with_reducible apply below_drew1))) hb_
  have HZ7 := Aside0.mk (⟨hi1_, hi2_, hi3_, hp_.size⟩ : _ ∧ _ ∧ _ ∧ _)
  have N7_0 := Aside0.mk (Own.new (W0 := w5_) (b := w.heap.size) (by repeat (first | exact Below.refl _ _ | (with_reducible apply below_alloc) | (with_reducible apply pw_below_drewN) | (with_reducible apply below_drew1))) ho0_ hb_ HB.out.size _ _ eB_ eH_)
  clear eB_ eH_ hi1_ hi2_ hi3_ ho0_
  replace HZ := Aside0.mk (And.intro HZ.out HZ7.out)
  clear HZ7
  replace HB := Aside0.mk (more HB.out hp_)
  replace T5_0 := Aside0.mk (T5_0.out.step hp_)
  replace T6_0 := Aside0.mk (T6_0.out.step hp_)
  clear hcz_ag_0 hfz_ag_0 hcz_ag_1 hfz_ag_1 hcz_ag_2 hfz_ag_2
  replace BK_ag := Aside0.mk (blk_below BK_ag.out hp_)
  obtain ⟨hcz_ag_0, hfz_ag_0, hcz_ag_1, hfz_ag_1, hcz_ag_2, hfz_ag_2⟩ := cells3_ BK_ag.out
  clear hb_ hp_
  have Vw0 := N7_0
  clear N7_0
  obtain ⟨AVw0, cVw0, rfl, hc_⟩ := Vw0.out.reads
  have HCVw0 := Aside0.mk hc_
  clear hc_
  clear T5_0 HCT5_0
  clear T6_0 HCT6_0
  go_wp2_with fail
  refine (laws_toIntSS.calls kt_aArcs _ _ aarcs aarcs _ (by repeat (first | exact (Kd.C_below HR_aarcs.out HB.out) | (with_reducible refine Kd.C_alloc ?_ _) | (with_reducible refine Kd.C_drewN ?_ _) | (with_reducible refine Kd.C_drew ?_))) HC_aarcs.out Hkt_aArcs.out).mono ?_
  rintro e w7_ ⟨v0_n7, rfl, ho0_, hb_⟩
  have hp_ : Below w6_.heap.size w6_ w7_ := below_step (by repeat (first | exact Below.refl _ _ | (with_reducible apply below_alloc) | (with_reducible apply pw_below_drewN) | (with_reducible apply below_drew1))) hb_
  obtain ⟨B8, H8, eB_, eH_, hi1_, hi2_, hi3_⟩ := spot (W0 := w6_) (by repeat (first | exact Below.refl _ _ | (with_reducible apply below_alloc) | (with_reducible apply pw_below_drewN) | (with_reducible apply below_drew1))) hb_
  have HZ8 := Aside0.mk (⟨hi1_, hi2_, hi3_, hp_.size⟩ : _ ∧ _ ∧ _ ∧ _)
  have N8_0 := Aside0.mk (OwnS.new (W0 := w6_) (b := w.heap.size) (by repeat (first | exact Below.refl _ _ | (with_reducible apply below_alloc) | (with_reducible apply pw_below_drewN) | (with_reducible apply below_drew1))) ho0_ hb_ HB.out.size _ _ eB_ eH_)
  clear eB_ eH_ hi1_ hi2_ hi3_ ho0_
  replace HZ := Aside0.mk (And.intro HZ.out HZ8.out)
  clear HZ8
  replace HB := Aside0.mk (more HB.out hp_)
  replace Vw0 := Aside0.mk (Vw0.out.step hp_)
  clear hcz_ag_0 hfz_ag_0 hcz_ag_1 hfz_ag_1 hcz_ag_2 hfz_ag_2
  replace BK_ag := Aside0.mk (blk_below BK_ag.out hp_)
  obtain ⟨hcz_ag_0, hfz_ag_0, hcz_ag_1, hfz_ag_1, hcz_ag_2, hfz_ag_2⟩ := cells3_ BK_ag.out
  clear hb_ hp_
  have Vx10 := N8_0
  clear N8_0
  obtain ⟨AVx10, cVx10, rfl, hc_⟩ := Vx10.out.reads
  have HCVx10 := Aside0.mk hc_
  clear hc_
  go_wp2_with fail
  refine (laws_toIntS.calls kt_aPit _ _ apit apit _ (by repeat (first | exact (Kd.C_below HR_apit.out HB.out) | (with_reducible refine Kd.C_alloc ?_ _) | (with_reducible refine Kd.C_drewN ?_ _) | (with_reducible refine Kd.C_drew ?_))) HC_apit.out Hkt_aPit.out).mono ?_
  rintro e w8_ ⟨v0_n8, rfl, ho0_, hb_⟩
  have hp_ : Below w7_.heap.size w7_ w8_ := below_step (by repeat (first | exact Below.refl _ _ | (with_reducible apply below_alloc) | (with_reducible apply pw_below_drewN) | (with_reducible apply below_drew1))) hb_
  obtain ⟨B9, H9, eB_, eH_, hi1_, hi2_, hi3_⟩ := spot (W0 := w7_) (by repeat (first | exact Below.refl _ _ | (with_reducible apply below_alloc) | (with_reducible apply pw_below_drewN) | (with_reducible apply below_drew1))) hb_
  have HZ9 := Aside0.mk (⟨hi1_, hi2_, hi3_, hp_.size⟩ : _ ∧ _ ∧ _ ∧ _)
  have N9_0 := Aside0.mk (Own.new (W0 := w7_) (b := w.heap.size) (by repeat (first | exact Below.refl _ _ | (with_reducible apply below_alloc) | (with_reducible apply pw_below_drewN) | (with_reducible apply below_drew1))) ho0_ hb_ HB.out.size _ _ eB_ eH_)
  clear eB_ eH_ hi1_ hi2_ hi3_ ho0_
  replace HZ := Aside0.mk (And.intro HZ.out HZ9.out)
  clear HZ9
  replace HB := Aside0.mk (more HB.out hp_)
  replace Vw0 := Aside0.mk (Vw0.out.step hp_)
  replace Vx10 := Aside0.mk (Vx10.out.step hp_)
  clear hcz_ag_0 hfz_ag_0 hcz_ag_1 hfz_ag_1 hcz_ag_2 hfz_ag_2
  replace BK_ag := Aside0.mk (blk_below BK_ag.out hp_)
  obtain ⟨hcz_ag_0, hfz_ag_0, hcz_ag_1, hfz_ag_1, hcz_ag_2, hfz_ag_2⟩ := cells3_ BK_ag.out
  clear hb_ hp_
  have Vx20 := N9_0
  clear N9_0
  obtain ⟨AVx20, cVx20, rfl, hc_⟩ := Vx20.out.reads
  have HCVx20 := Aside0.mk hc_
  clear hc_
  go_wp2_with fail
  refine (laws_toGrid.calls ag_0 ag_1 ag_2 ag_0 ag_1 ag_2 _  rfl).mono ?_
  rintro e w9_ ⟨rfl, hd_⟩
  have hb_ := hd_
  clear hd_
  have hp_ : Below w8_.heap.size w8_ w9_ := below_step (by repeat (first | exact Below.refl _ _ | (with_reducible apply below_alloc) | (with_reducible apply pw_below_drewN) | (with_reducible apply below_drew1))) hb_
  have HZ10 := Aside0.mk hp_.size
  replace HZ := Aside0.mk (And.intro HZ.out HZ10.out)
  clear HZ10
  replace HB := Aside0.mk (more HB.out hp_)
  replace Vw0 := Aside0.mk (Vw0.out.step hp_)
  replace Vx10 := Aside0.mk (Vx10.out.step hp_)
  replace Vx20 := Aside0.mk (Vx20.out.step hp_)
  clear hcz_ag_0 hfz_ag_0 hcz_ag_1 hfz_ag_1 hcz_ag_2 hfz_ag_2
  replace BK_ag := Aside0.mk (blk_below BK_ag.out hp_)
  obtain ⟨hcz_ag_0, hfz_ag_0, hcz_ag_1, hfz_ag_1, hcz_ag_2, hfz_ag_2⟩ := cells3_ BK_ag.out
  clear hb_ hp_
  go_wp2_with fail
  refine (impl_WidenPit.calls kei_ ag_0 ag_1 ag_2 _ _ aarcs _ _ _ apit aw r1v r2v _ (by repeat (first | exact Vx10.out.C | (with_reducible refine Kd.C_alloc ?_ _) | (with_reducible refine Kd.C_drewN ?_ _) | (with_reducible refine Kd.C_drew ?_))) HCVx10.out (by (with_reducible repeat (first | apply Kd.V_alloc | apply Kd.V_drewN | apply Kd.V_drew)); exact Kd.R_V (Vx20.out.r)) HEI.out).mono ?_
  rintro e w10_ ⟨v0_n10, rfl, ho0_, hb_⟩
  have hp_ : Below w9_.heap.size w9_ w10_ := below_step (by repeat (first | exact Below.refl _ _ | (with_reducible apply below_alloc) | (with_reducible apply pw_below_drewN) | (with_reducible apply below_drew1))) hb_
  obtain ⟨B11, H11, eB_, eH_, hi1_, hi2_, hi3_⟩ := spot (W0 := w9_) (by repeat (first | exact Below.refl _ _ | (with_reducible apply below_alloc) | (with_reducible apply pw_below_drewN) | (with_reducible apply below_drew1))) hb_
  have HZ11 := Aside0.mk (⟨hi1_, hi2_, hi3_, hp_.size⟩ : _ ∧ _ ∧ _ ∧ _)
  have N11_0 := Aside0.mk (Own.new (W0 := w9_) (b := w.heap.size) (by repeat (first | exact Below.refl _ _ | (with_reducible apply below_alloc) | (with_reducible apply pw_below_drewN) | (with_reducible apply below_drew1))) ho0_ hb_ HB.out.size _ _ eB_ eH_)
  clear eB_ eH_ hi1_ hi2_ hi3_ ho0_
  replace HZ := Aside0.mk (And.intro HZ.out HZ11.out)
  clear HZ11
  replace HB := Aside0.mk (more HB.out hp_)
  replace Vw0 := Aside0.mk (Vw0.out.step hp_)
  replace Vx10 := Aside0.mk (Vx10.out.step hp_)
  replace Vx20 := Aside0.mk (Vx20.out.step hp_)
  clear hcz_ag_0 hfz_ag_0 hcz_ag_1 hfz_ag_1 hcz_ag_2 hfz_ag_2
  replace BK_ag := Aside0.mk (blk_below BK_ag.out hp_)
  obtain ⟨hcz_ag_0, hfz_ag_0, hcz_ag_1, hfz_ag_1, hcz_ag_2, hfz_ag_2⟩ := cells3_ BK_ag.out
  clear hb_ hp_
  have Vg0 := N11_0
  clear N11_0
  obtain ⟨AVg0, cVg0, rfl, hc_⟩ := Vg0.out.reads
  have HCVg0 := Aside0.mk hc_
  clear hc_
  go_wp2_with fail
  refine (laws_eqIntS.calls kgq _ _ r1v _ _ r1v true _ (by repeat (first | exact Vg0.out.C | (with_reducible refine Kd.C_alloc ?_ _) | (with_reducible refine Kd.C_drewN ?_ _) | (with_reducible refine Kd.C_drew ?_))) HCVg0.out (by repeat (first | exact Vw0.out.C | (with_reducible refine Kd.C_alloc ?_ _) | (with_reducible refine Kd.C_drewN ?_ _) | (with_reducible refine Kd.C_drew ?_))) HCVw0.out Hkgq.out).mono ?_
  rintro e w11_ ⟨rfl, hd_⟩
  have hb_ := drawn_below hd_
  clear hd_
  have hp_ : Below w10_.heap.size w10_ w11_ := below_step (by repeat (first | exact Below.refl _ _ | (with_reducible apply below_alloc) | (with_reducible apply pw_below_drewN) | (with_reducible apply below_drew1))) hb_
  have HZ12 := Aside0.mk hp_.size
  replace HZ := Aside0.mk (And.intro HZ.out HZ12.out)
  clear HZ12
  replace HB := Aside0.mk (more HB.out hp_)
  replace Vw0 := Aside0.mk (Vw0.out.step hp_)
  replace Vx10 := Aside0.mk (Vx10.out.step hp_)
  replace Vx20 := Aside0.mk (Vx20.out.step hp_)
  replace Vg0 := Aside0.mk (Vg0.out.step hp_)
  clear hcz_ag_0 hfz_ag_0 hcz_ag_1 hfz_ag_1 hcz_ag_2 hfz_ag_2
  replace BK_ag := Aside0.mk (blk_below BK_ag.out hp_)
  obtain ⟨hcz_ag_0, hfz_ag_0, hcz_ag_1, hfz_ag_1, hcz_ag_2, hfz_ag_2⟩ := cells3_ BK_ag.out
  clear hb_ hp_
  go_wp2_with fail
  refine (laws_toIntSS.calls kt_aArcs _ _ aarcs aarcs _ (by repeat (first | exact (Kd.C_below HR_aarcs.out HB.out) | (with_reducible refine Kd.C_alloc ?_ _) | (with_reducible refine Kd.C_drewN ?_ _) | (with_reducible refine Kd.C_drew ?_))) HC_aarcs.out Hkt_aArcs.out).mono ?_
  rintro e w12_ ⟨v0_n12, rfl, ho0_, hb_⟩
  have hp_ : Below w11_.heap.size w11_ w12_ := below_step (by repeat (first | exact Below.refl _ _ | (with_reducible apply below_alloc) | (with_reducible apply pw_below_drewN) | (with_reducible apply below_drew1))) hb_
  obtain ⟨B13, H13, eB_, eH_, hi1_, hi2_, hi3_⟩ := spot (W0 := w11_) (by repeat (first | exact Below.refl _ _ | (with_reducible apply below_alloc) | (with_reducible apply pw_below_drewN) | (with_reducible apply below_drew1))) hb_
  have HZ13 := Aside0.mk (⟨hi1_, hi2_, hi3_, hp_.size⟩ : _ ∧ _ ∧ _ ∧ _)
  have N13_0 := Aside0.mk (OwnS.new (W0 := w11_) (b := w.heap.size) (by repeat (first | exact Below.refl _ _ | (with_reducible apply below_alloc) | (with_reducible apply pw_below_drewN) | (with_reducible apply below_drew1))) ho0_ hb_ HB.out.size _ _ eB_ eH_)
  clear eB_ eH_ hi1_ hi2_ hi3_ ho0_
  replace HZ := Aside0.mk (And.intro HZ.out HZ13.out)
  clear HZ13
  replace HB := Aside0.mk (more HB.out hp_)
  replace Vw0 := Aside0.mk (Vw0.out.step hp_)
  replace Vx10 := Aside0.mk (Vx10.out.step hp_)
  replace Vx20 := Aside0.mk (Vx20.out.step hp_)
  replace Vg0 := Aside0.mk (Vg0.out.step hp_)
  clear hcz_ag_0 hfz_ag_0 hcz_ag_1 hfz_ag_1 hcz_ag_2 hfz_ag_2
  replace BK_ag := Aside0.mk (blk_below BK_ag.out hp_)
  obtain ⟨hcz_ag_0, hfz_ag_0, hcz_ag_1, hfz_ag_1, hcz_ag_2, hfz_ag_2⟩ := cells3_ BK_ag.out
  clear hb_ hp_
  have T13_0 := N13_0
  clear N13_0
  obtain ⟨AT13_0, cT13_0, rfl, hc_⟩ := T13_0.out.reads
  have HCT13_0 := Aside0.mk hc_
  clear hc_
  go_wp2_with fail
  refine (laws_eqIntSS.calls kq_aArcs _ _ aarcs _ _ aarcs true _ (by repeat (first | exact Vx10.out.C | (with_reducible refine Kd.C_alloc ?_ _) | (with_reducible refine Kd.C_drewN ?_ _) | (with_reducible refine Kd.C_drew ?_))) HCVx10.out (by repeat (first | exact T13_0.out.C | (with_reducible refine Kd.C_alloc ?_ _) | (with_reducible refine Kd.C_drewN ?_ _) | (with_reducible refine Kd.C_drew ?_))) HCT13_0.out Hkq_aArcs.out).mono ?_
  rintro e w13_ ⟨rfl, hd_⟩
  have hb_ := drawn_below hd_
  clear hd_
  have hp_ : Below w12_.heap.size w12_ w13_ := below_step (by repeat (first | exact Below.refl _ _ | (with_reducible apply below_alloc) | (with_reducible apply pw_below_drewN) | (with_reducible apply below_drew1))) hb_
  have HZ14 := Aside0.mk hp_.size
  replace HZ := Aside0.mk (And.intro HZ.out HZ14.out)
  clear HZ14
  replace HB := Aside0.mk (more HB.out hp_)
  replace Vw0 := Aside0.mk (Vw0.out.step hp_)
  replace Vx10 := Aside0.mk (Vx10.out.step hp_)
  replace Vx20 := Aside0.mk (Vx20.out.step hp_)
  replace Vg0 := Aside0.mk (Vg0.out.step hp_)
  replace T13_0 := Aside0.mk (T13_0.out.step hp_)
  clear hcz_ag_0 hfz_ag_0 hcz_ag_1 hfz_ag_1 hcz_ag_2 hfz_ag_2
  replace BK_ag := Aside0.mk (blk_below BK_ag.out hp_)
  obtain ⟨hcz_ag_0, hfz_ag_0, hcz_ag_1, hfz_ag_1, hcz_ag_2, hfz_ag_2⟩ := cells3_ BK_ag.out
  clear hb_ hp_
  clear T13_0 HCT13_0
  go_wp2_with fail
  refine (laws_toIntS.calls kt_aPit _ _ apit apit _ (by repeat (first | exact (Kd.C_below HR_apit.out HB.out) | (with_reducible refine Kd.C_alloc ?_ _) | (with_reducible refine Kd.C_drewN ?_ _) | (with_reducible refine Kd.C_drew ?_))) HC_apit.out Hkt_aPit.out).mono ?_
  rintro e w14_ ⟨v0_n14, rfl, ho0_, hb_⟩
  have hp_ : Below w13_.heap.size w13_ w14_ := below_step (by repeat (first | exact Below.refl _ _ | (with_reducible apply below_alloc) | (with_reducible apply pw_below_drewN) | (with_reducible apply below_drew1))) hb_
  obtain ⟨B15, H15, eB_, eH_, hi1_, hi2_, hi3_⟩ := spot (W0 := w13_) (by repeat (first | exact Below.refl _ _ | (with_reducible apply below_alloc) | (with_reducible apply pw_below_drewN) | (with_reducible apply below_drew1))) hb_
  have HZ15 := Aside0.mk (⟨hi1_, hi2_, hi3_, hp_.size⟩ : _ ∧ _ ∧ _ ∧ _)
  have N15_0 := Aside0.mk (Own.new (W0 := w13_) (b := w.heap.size) (by repeat (first | exact Below.refl _ _ | (with_reducible apply below_alloc) | (with_reducible apply pw_below_drewN) | (with_reducible apply below_drew1))) ho0_ hb_ HB.out.size _ _ eB_ eH_)
  clear eB_ eH_ hi1_ hi2_ hi3_ ho0_
  replace HZ := Aside0.mk (And.intro HZ.out HZ15.out)
  clear HZ15
  replace HB := Aside0.mk (more HB.out hp_)
  replace Vw0 := Aside0.mk (Vw0.out.step hp_)
  replace Vx10 := Aside0.mk (Vx10.out.step hp_)
  replace Vx20 := Aside0.mk (Vx20.out.step hp_)
  replace Vg0 := Aside0.mk (Vg0.out.step hp_)
  clear hcz_ag_0 hfz_ag_0 hcz_ag_1 hfz_ag_1 hcz_ag_2 hfz_ag_2
  replace BK_ag := Aside0.mk (blk_below BK_ag.out hp_)
  obtain ⟨hcz_ag_0, hfz_ag_0, hcz_ag_1, hfz_ag_1, hcz_ag_2, hfz_ag_2⟩ := cells3_ BK_ag.out
  clear hb_ hp_
  have T15_0 := N15_0
  clear N15_0
  obtain ⟨AT15_0, cT15_0, rfl, hc_⟩ := T15_0.out.reads
  have HCT15_0 := Aside0.mk hc_
  clear hc_
  go_wp2_with fail
  refine (laws_eqIntS.calls kq_aPit _ _ apit _ _ apit true _ (by repeat (first | exact Vx20.out.C | (with_reducible refine Kd.C_alloc ?_ _) | (with_reducible refine Kd.C_drewN ?_ _) | (with_reducible refine Kd.C_drew ?_))) HCVx20.out (by repeat (first | exact T15_0.out.C | (with_reducible refine Kd.C_alloc ?_ _) | (with_reducible refine Kd.C_drewN ?_ _) | (with_reducible refine Kd.C_drew ?_))) HCT15_0.out Hkq_aPit.out).mono ?_
  rintro e w15_ ⟨rfl, hd_⟩
  have hb_ := drawn_below hd_
  clear hd_
  have hp_ : Below w14_.heap.size w14_ w15_ := below_step (by repeat (first | exact Below.refl _ _ | (with_reducible apply below_alloc) | (with_reducible apply pw_below_drewN) | (with_reducible apply below_drew1))) hb_
  have HZ16 := Aside0.mk hp_.size
  replace HZ := Aside0.mk (And.intro HZ.out HZ16.out)
  clear HZ16
  replace HB := Aside0.mk (more HB.out hp_)
  replace Vw0 := Aside0.mk (Vw0.out.step hp_)
  replace Vx10 := Aside0.mk (Vx10.out.step hp_)
  replace Vx20 := Aside0.mk (Vx20.out.step hp_)
  replace Vg0 := Aside0.mk (Vg0.out.step hp_)
  replace T15_0 := Aside0.mk (T15_0.out.step hp_)
  clear hcz_ag_0 hfz_ag_0 hcz_ag_1 hfz_ag_1 hcz_ag_2 hfz_ag_2
  replace BK_ag := Aside0.mk (blk_below BK_ag.out hp_)
  obtain ⟨hcz_ag_0, hfz_ag_0, hcz_ag_1, hfz_ag_1, hcz_ag_2, hfz_ag_2⟩ := cells3_ BK_ag.out
  clear hb_ hp_
  clear T15_0 HCT15_0
  go_wp2_with fail
  refine (markSS_calls aarcs (1) (by omega) (by have := HTO_aarcs.out; omega) _ _ w _ (more HB.out (by repeat (first | exact Below.refl _ _ | (with_reducible apply below_alloc) | (with_reducible apply pw_below_drewN) | (with_reducible apply below_drew1)))) (by have q_ := Vx10.out.r; repeat (first | exact q_ | (with_reducible refine Kd.R_alloc ?_ _) | (with_reducible refine Kd.S_alloc ?_ _)))).mono ?_
  rintro e w16_ ⟨rfl, hr_, hb_, hk0_⟩
  have hk_ := Kept.then_ (w := w15_) (Kept.of_below (by repeat (first | exact Below.refl _ _ | (with_reducible apply below_alloc) | (with_reducible apply pw_below_drewN) | (with_reducible apply below_drew1))) _) hk0_ (fun _ h_ => Or.inl h_)
  have HZ18 := Aside0.mk hk_.1
  replace HZ := Aside0.mk (And.intro HZ.out HZ18.out)
  clear HZ18
  clear HB
  have HB := Aside0.mk hb_
  have X_ := Aside0.mk (Vw0.out.kept hk_ (fun k h1_ h2_ h3_ => by have h4_ := h3_.1; have z_ := HZ.out; omega))
  clear Vw0
  have Vw0 := X_
  clear X_
  have X_ := Aside0.mk (Vx20.out.kept hk_ (fun k h1_ h2_ h3_ => by have h4_ := h3_.1; have z_ := HZ.out; omega))
  clear Vx20
  have Vx20 := X_
  clear X_
  have X_ := Aside0.mk (Vg0.out.kept hk_ (fun k h1_ h2_ h3_ => by have h4_ := h3_.1; have z_ := HZ.out; omega))
  clear Vg0
  have Vg0 := X_
  clear X_
  clear hcz_ag_0 hfz_ag_0 hcz_ag_1 hfz_ag_1 hcz_ag_2 hfz_ag_2
  have X_ := Aside0.mk (blk_kept BK_ag.out hk_ (fun h3_ => by have h4_ := h3_.1; have z_ := HZ.out; omega))
  clear BK_ag
  have BK_ag := X_
  clear X_
  obtain ⟨hcz_ag_0, hfz_ag_0, hcz_ag_1, hfz_ag_1, hcz_ag_2, hfz_ag_2⟩ := cells3_ BK_ag.out
  clear Vx10
  clear hr_ hb_ hk_ hk0_
  obtain ⟨a17, ea_⟩ : ∃ a_ : Int, a_ = 1 + (totL aarcs : Int) := ⟨_, rfl⟩
  rw [← ea_]
  have ha17 : 1 ≤ a17 ∧ a17 ≤ 1 + 1048576 := by have := HTO_aarcs.out; omega
  clear ea_
  have hl_ := HBD_apit.out
  obtain ⟨km19, h_⟩ := (markIntS_ev apit (a17) (by omega) (by omega)).rounds
  have HM19 := Aside0.mk h_
  clear h_ hl_
  go_wp2_with fail
  refine (laws_markIntS.calls km19 _ _ apit (a17) _ _ w _ (more HB.out (by repeat (first | exact Below.refl _ _ | (with_reducible apply below_alloc) | (with_reducible apply pw_below_drewN) | (with_reducible apply below_drew1)))) (by have q_ := Vx20.out.r; repeat (first | exact q_ | (with_reducible refine Kd.R_alloc ?_ _) | (with_reducible refine Kd.S_alloc ?_ _))) HM19.out).mono ?_
  rintro e w17_ ⟨rfl, hr_, hb_, hk0_⟩
  have hk_ := Kept.then_ (w := w16_) (Kept.of_below (by repeat (first | exact Below.refl _ _ | (with_reducible apply below_alloc) | (with_reducible apply pw_below_drewN) | (with_reducible apply below_drew1))) _) hk0_ (fun _ h_ => Or.inl h_)
  have HZ20 := Aside0.mk hk_.1
  replace HZ := Aside0.mk (And.intro HZ.out HZ20.out)
  clear HZ20
  clear HB
  have HB := Aside0.mk hb_
  have X_ := Aside0.mk (Vw0.out.kept hk_ (fun k h1_ h2_ h3_ => by have h4_ := h3_.1; have z_ := HZ.out; omega))
  clear Vw0
  have Vw0 := X_
  clear X_
  have X_ := Aside0.mk (Vg0.out.kept hk_ (fun k h1_ h2_ h3_ => by have h4_ := h3_.1; have z_ := HZ.out; omega))
  clear Vg0
  have Vg0 := X_
  clear X_
  clear hcz_ag_0 hfz_ag_0 hcz_ag_1 hfz_ag_1 hcz_ag_2 hfz_ag_2
  have X_ := Aside0.mk (blk_kept BK_ag.out hk_ (fun h3_ => by have h4_ := h3_.1; have z_ := HZ.out; omega))
  clear BK_ag
  have BK_ag := X_
  clear X_
  obtain ⟨hcz_ag_0, hfz_ag_0, hcz_ag_1, hfz_ag_1, hcz_ag_2, hfz_ag_2⟩ := cells3_ BK_ag.out
  clear Vx20
  clear hr_ hb_ hk_ hk0_
  obtain ⟨a21, ea_⟩ : ∃ a_ : Int, a_ = a17 + (apit.length : Int) := ⟨_, rfl⟩
  rw [← ea_]
  have ha21 : 1 ≤ a21 ∧ a21 ≤ a17 + 1048576 := by have := HBD_apit.out; omega
  clear ea_
  have dk_ : decide (a21 < 0) = false := decide_eq_false (by omega)
  go_wp2_with fail
  refine (laws_eqIntS.calls kgq _ _ r1v _ _ r1v true _ (by repeat (first | exact Vg0.out.C | (with_reducible refine Kd.C_alloc ?_ _) | (with_reducible refine Kd.C_drewN ?_ _) | (with_reducible refine Kd.C_drew ?_))) HCVg0.out (by repeat (first | exact Vw0.out.C | (with_reducible refine Kd.C_alloc ?_ _) | (with_reducible refine Kd.C_drewN ?_ _) | (with_reducible refine Kd.C_drew ?_))) HCVw0.out Hkgq.out).mono ?_
  rintro e w18_ ⟨rfl, hd_⟩
  have hb_ := drawn_below hd_
  clear hd_
  have hp_ : Below w17_.heap.size w17_ w18_ := below_step (by repeat (first | exact Below.refl _ _ | (with_reducible apply below_alloc) | (with_reducible apply pw_below_drewN) | (with_reducible apply below_drew1))) hb_
  have HZ22 := Aside0.mk hp_.size
  replace HZ := Aside0.mk (And.intro HZ.out HZ22.out)
  clear HZ22
  replace HB := Aside0.mk (more HB.out hp_)
  replace Vw0 := Aside0.mk (Vw0.out.step hp_)
  replace Vg0 := Aside0.mk (Vg0.out.step hp_)
  clear hcz_ag_0 hfz_ag_0 hcz_ag_1 hfz_ag_1 hcz_ag_2 hfz_ag_2
  replace BK_ag := Aside0.mk (blk_below BK_ag.out hp_)
  obtain ⟨hcz_ag_0, hfz_ag_0, hcz_ag_1, hfz_ag_1, hcz_ag_2, hfz_ag_2⟩ := cells3_ BK_ag.out
  clear hb_ hp_
  have hl_ := HL_r1.out
  obtain ⟨km23, h_⟩ := (markIntS_ev r1v 1 (by omega) (by omega)).rounds
  have HM23 := Aside0.mk h_
  clear h_
  obtain ⟨kh23, h_⟩ := (heldIntS_ev r1v.length 1 (by omega) (by omega)).rounds
  have HH23 := Aside0.mk h_
  clear h_ hl_
  go_wp2_with fail
  refine (laws_markIntS.calls km23 _ _ r1v 1 _ _ w _ (more HB.out (by repeat (first | exact Below.refl _ _ | (with_reducible apply below_alloc) | (with_reducible apply pw_below_drewN) | (with_reducible apply below_drew1)))) (by have q_ := Vg0.out.r; repeat (first | exact q_ | (with_reducible refine Kd.R_alloc ?_ _) | (with_reducible refine Kd.S_alloc ?_ _))) HM23.out).mono ?_
  rintro e w19_ ⟨rfl, hr_, hb_, hk0_⟩
  have hk_ := Kept.then_ (w := w18_) (Kept.of_below (by repeat (first | exact Below.refl _ _ | (with_reducible apply below_alloc) | (with_reducible apply pw_below_drewN) | (with_reducible apply below_drew1))) _) hk0_ (fun _ h_ => Or.inl h_)
  have HZ24 := Aside0.mk hk_.1
  replace HZ := Aside0.mk (And.intro HZ.out HZ24.out)
  clear HZ24
  clear HB
  have HB := Aside0.mk hb_
  have X_ := Aside0.mk (Vw0.out.kept hk_ (fun k h1_ h2_ h3_ => by have h4_ := h3_.1; have z_ := HZ.out; omega))
  clear Vw0
  have Vw0 := X_
  clear X_
  clear hcz_ag_0 hfz_ag_0 hcz_ag_1 hfz_ag_1 hcz_ag_2 hfz_ag_2
  have X_ := Aside0.mk (blk_kept BK_ag.out hk_ (fun h3_ => by have h4_ := h3_.1; have z_ := HZ.out; omega))
  clear BK_ag
  have BK_ag := X_
  clear X_
  obtain ⟨hcz_ag_0, hfz_ag_0, hcz_ag_1, hfz_ag_1, hcz_ag_2, hfz_ag_2⟩ := cells3_ BK_ag.out
  replace Vg0 := Aside0.mk (Vg0.out.marked hr_ hk_)
  clear hr_ hb_ hk_ hk0_
  have hml_ : (markedI r1v.length 1).length = r1v.length := by simp [markedI]
  have HML := Aside0.mk hml_
  clear hml_
  obtain ⟨mt, em_⟩ : ∃ m_ : Int, m_ = (1 + (r1v.length : Int)) := ⟨_, rfl⟩
  have EM := Aside0.mk em_
  rw [← em_]
  have HH23' := Aside0.mk (show _ = some mt from em_ ▸ HH23.out)
  have hmt : 0 ≤ mt := by omega
  have dm_ : decide (mt < 0) = false := decide_eq_false (by omega)
  clear em_ hmt
  have HCm := Aside0.mk (show (markedI r1v.length 1).length ≤ cVg0 from by rw [HML.out]; exact HCVg0.out)
  go_wp2_with fail
  try rw [show (Value.slice AVg0 r1v.length cVg0) = .slice AVg0 (markedI r1v.length 1).length cVg0 from by rw [HML.out]]
  refine (laws_heldIntS.calls kh23 _ _ (markedI r1v.length 1) 1 mt _ (by repeat (first | exact Vg0.out.C | (with_reducible refine Kd.C_alloc ?_ _) | (with_reducible refine Kd.C_drewN ?_ _) | (with_reducible refine Kd.C_drew ?_))) HCm.out HH23'.out).mono ?_
  rintro e w20_ ⟨rfl, hd_⟩
  have hp_ : Below w19_.heap.size w19_ w20_ := below_step (by repeat (first | exact Below.refl _ _ | (with_reducible apply below_alloc) | (with_reducible apply pw_below_drewN) | (with_reducible apply below_drew1))) (drawn_below hd_)
  have HZ25 := Aside0.mk hp_.size
  replace HZ := Aside0.mk (And.intro HZ.out HZ25.out)
  clear HZ25
  replace HB := Aside0.mk (more HB.out hp_)
  replace Vw0 := Aside0.mk (Vw0.out.step hp_)
  replace Vg0 := Aside0.mk (Vg0.out.step hp_)
  clear hcz_ag_0 hfz_ag_0 hcz_ag_1 hfz_ag_1 hcz_ag_2 hfz_ag_2
  replace BK_ag := Aside0.mk (blk_below BK_ag.out hp_)
  obtain ⟨hcz_ag_0, hfz_ag_0, hcz_ag_1, hfz_ag_1, hcz_ag_2, hfz_ag_2⟩ := cells3_ BK_ag.out
  clear hd_ hp_
  go_wp2_with fail
  refine (laws_toGrid.calls ag_0 ag_1 ag_2 ag_0 ag_1 ag_2 _  rfl).mono ?_
  rintro e w21_ ⟨rfl, hd_⟩
  have hb_ := hd_
  clear hd_
  have hp_ : Below w20_.heap.size w20_ w21_ := below_step (by repeat (first | exact Below.refl _ _ | (with_reducible apply below_alloc) | (with_reducible apply pw_below_drewN) | (with_reducible apply below_drew1))) hb_
  have HZ26 := Aside0.mk hp_.size
  replace HZ := Aside0.mk (And.intro HZ.out HZ26.out)
  clear HZ26
  replace HB := Aside0.mk (more HB.out hp_)
  replace Vw0 := Aside0.mk (Vw0.out.step hp_)
  replace Vg0 := Aside0.mk (Vg0.out.step hp_)
  clear hcz_ag_0 hfz_ag_0 hcz_ag_1 hfz_ag_1 hcz_ag_2 hfz_ag_2
  replace BK_ag := Aside0.mk (blk_below BK_ag.out hp_)
  obtain ⟨hcz_ag_0, hfz_ag_0, hcz_ag_1, hfz_ag_1, hcz_ag_2, hfz_ag_2⟩ := cells3_ BK_ag.out
  clear hb_ hp_
  go_wp2_with fail
  refine (laws_toIntSS.calls kt_aArcs _ _ aarcs aarcs _ (by repeat (first | exact (Kd.C_below HR_aarcs.out HB.out) | (with_reducible refine Kd.C_alloc ?_ _) | (with_reducible refine Kd.C_drewN ?_ _) | (with_reducible refine Kd.C_drew ?_))) HC_aarcs.out Hkt_aArcs.out).mono ?_
  rintro e w22_ ⟨v0_n22, rfl, ho0_, hb_⟩
  have hp_ : Below w21_.heap.size w21_ w22_ := below_step (by repeat (first | exact Below.refl _ _ | (with_reducible apply below_alloc) | (with_reducible apply pw_below_drewN) | (with_reducible apply below_drew1))) hb_
  obtain ⟨B27, H27, eB_, eH_, hi1_, hi2_, hi3_⟩ := spot (W0 := w21_) (by repeat (first | exact Below.refl _ _ | (with_reducible apply below_alloc) | (with_reducible apply pw_below_drewN) | (with_reducible apply below_drew1))) hb_
  have HZ27 := Aside0.mk (⟨hi1_, hi2_, hi3_, hp_.size⟩ : _ ∧ _ ∧ _ ∧ _)
  have N27_0 := Aside0.mk (OwnS.new (W0 := w21_) (b := w.heap.size) (by repeat (first | exact Below.refl _ _ | (with_reducible apply below_alloc) | (with_reducible apply pw_below_drewN) | (with_reducible apply below_drew1))) ho0_ hb_ HB.out.size _ _ eB_ eH_)
  clear eB_ eH_ hi1_ hi2_ hi3_ ho0_
  replace HZ := Aside0.mk (And.intro HZ.out HZ27.out)
  clear HZ27
  replace HB := Aside0.mk (more HB.out hp_)
  replace Vw0 := Aside0.mk (Vw0.out.step hp_)
  replace Vg0 := Aside0.mk (Vg0.out.step hp_)
  clear hcz_ag_0 hfz_ag_0 hcz_ag_1 hfz_ag_1 hcz_ag_2 hfz_ag_2
  replace BK_ag := Aside0.mk (blk_below BK_ag.out hp_)
  obtain ⟨hcz_ag_0, hfz_ag_0, hcz_ag_1, hfz_ag_1, hcz_ag_2, hfz_ag_2⟩ := cells3_ BK_ag.out
  clear hb_ hp_
  have T27_0 := N27_0
  clear N27_0
  obtain ⟨AT27_0, cT27_0, rfl, hc_⟩ := T27_0.out.reads
  have HCT27_0 := Aside0.mk hc_
  clear hc_
  go_wp2_with fail
  refine (laws_toIntS.calls kt_aPit _ _ apit apit _ (by repeat (first | exact (Kd.C_below HR_apit.out HB.out) | (with_reducible refine Kd.C_alloc ?_ _) | (with_reducible refine Kd.C_drewN ?_ _) | (with_reducible refine Kd.C_drew ?_))) HC_apit.out Hkt_aPit.out).mono ?_
  rintro e w23_ ⟨v0_n23, rfl, ho0_, hb_⟩
  have hp_ : Below w22_.heap.size w22_ w23_ := below_step (by repeat (first | exact Below.refl _ _ | (with_reducible apply below_alloc) | (with_reducible apply pw_below_drewN) | (with_reducible apply below_drew1))) hb_
  obtain ⟨B28, H28, eB_, eH_, hi1_, hi2_, hi3_⟩ := spot (W0 := w22_) (by repeat (first | exact Below.refl _ _ | (with_reducible apply below_alloc) | (with_reducible apply pw_below_drewN) | (with_reducible apply below_drew1))) hb_
  have HZ28 := Aside0.mk (⟨hi1_, hi2_, hi3_, hp_.size⟩ : _ ∧ _ ∧ _ ∧ _)
  have N28_0 := Aside0.mk (Own.new (W0 := w22_) (b := w.heap.size) (by repeat (first | exact Below.refl _ _ | (with_reducible apply below_alloc) | (with_reducible apply pw_below_drewN) | (with_reducible apply below_drew1))) ho0_ hb_ HB.out.size _ _ eB_ eH_)
  clear eB_ eH_ hi1_ hi2_ hi3_ ho0_
  replace HZ := Aside0.mk (And.intro HZ.out HZ28.out)
  clear HZ28
  replace HB := Aside0.mk (more HB.out hp_)
  replace Vw0 := Aside0.mk (Vw0.out.step hp_)
  replace Vg0 := Aside0.mk (Vg0.out.step hp_)
  replace T27_0 := Aside0.mk (T27_0.out.step hp_)
  clear hcz_ag_0 hfz_ag_0 hcz_ag_1 hfz_ag_1 hcz_ag_2 hfz_ag_2
  replace BK_ag := Aside0.mk (blk_below BK_ag.out hp_)
  obtain ⟨hcz_ag_0, hfz_ag_0, hcz_ag_1, hfz_ag_1, hcz_ag_2, hfz_ag_2⟩ := cells3_ BK_ag.out
  clear hb_ hp_
  have T28_0 := N28_0
  clear N28_0
  obtain ⟨AT28_0, cT28_0, rfl, hc_⟩ := T28_0.out.reads
  have HCT28_0 := Aside0.mk hc_
  clear hc_
  go_wp2_with fail
  refine (impl_WidenPit.calls kei_ ag_0 ag_1 ag_2 _ _ aarcs _ _ _ apit aw r1v r2v _ (by repeat (first | exact T27_0.out.C | (with_reducible refine Kd.C_alloc ?_ _) | (with_reducible refine Kd.C_drewN ?_ _) | (with_reducible refine Kd.C_drew ?_))) HCT27_0.out (by (with_reducible repeat (first | apply Kd.V_alloc | apply Kd.V_drewN | apply Kd.V_drew)); exact Kd.R_V (T28_0.out.r)) HEI.out).mono ?_
  rintro e w24_ ⟨v0_n24, rfl, ho0_, hb_⟩
  have hp_ : Below w23_.heap.size w23_ w24_ := below_step (by repeat (first | exact Below.refl _ _ | (with_reducible apply below_alloc) | (with_reducible apply pw_below_drewN) | (with_reducible apply below_drew1))) hb_
  obtain ⟨B29, H29, eB_, eH_, hi1_, hi2_, hi3_⟩ := spot (W0 := w23_) (by repeat (first | exact Below.refl _ _ | (with_reducible apply below_alloc) | (with_reducible apply pw_below_drewN) | (with_reducible apply below_drew1))) hb_
  have HZ29 := Aside0.mk (⟨hi1_, hi2_, hi3_, hp_.size⟩ : _ ∧ _ ∧ _ ∧ _)
  have N29_0 := Aside0.mk (Own.new (W0 := w23_) (b := w.heap.size) (by repeat (first | exact Below.refl _ _ | (with_reducible apply below_alloc) | (with_reducible apply pw_below_drewN) | (with_reducible apply below_drew1))) ho0_ hb_ HB.out.size _ _ eB_ eH_)
  clear eB_ eH_ hi1_ hi2_ hi3_ ho0_
  replace HZ := Aside0.mk (And.intro HZ.out HZ29.out)
  clear HZ29
  replace HB := Aside0.mk (more HB.out hp_)
  replace Vw0 := Aside0.mk (Vw0.out.step hp_)
  replace Vg0 := Aside0.mk (Vg0.out.step hp_)
  replace T27_0 := Aside0.mk (T27_0.out.step hp_)
  replace T28_0 := Aside0.mk (T28_0.out.step hp_)
  clear hcz_ag_0 hfz_ag_0 hcz_ag_1 hfz_ag_1 hcz_ag_2 hfz_ag_2
  replace BK_ag := Aside0.mk (blk_below BK_ag.out hp_)
  obtain ⟨hcz_ag_0, hfz_ag_0, hcz_ag_1, hfz_ag_1, hcz_ag_2, hfz_ag_2⟩ := cells3_ BK_ag.out
  clear hb_ hp_
  have Vh0 := N29_0
  clear N29_0
  obtain ⟨AVh0, cVh0, rfl, hc_⟩ := Vh0.out.reads
  have HCVh0 := Aside0.mk hc_
  clear hc_
  clear T27_0 HCT27_0
  clear T28_0 HCT28_0
  go_wp2_with fail
  refine (laws_eqIntS.calls kgq _ _ r1v _ _ r1v true _ (by repeat (first | exact Vh0.out.C | (with_reducible refine Kd.C_alloc ?_ _) | (with_reducible refine Kd.C_drewN ?_ _) | (with_reducible refine Kd.C_drew ?_))) HCVh0.out (by repeat (first | exact Vw0.out.C | (with_reducible refine Kd.C_alloc ?_ _) | (with_reducible refine Kd.C_drewN ?_ _) | (with_reducible refine Kd.C_drew ?_))) HCVw0.out Hkgq.out).mono ?_
  rintro e w25_ ⟨rfl, hd_⟩
  have hb_ := drawn_below hd_
  clear hd_
  have hp_ : Below w24_.heap.size w24_ w25_ := below_step (by repeat (first | exact Below.refl _ _ | (with_reducible apply below_alloc) | (with_reducible apply pw_below_drewN) | (with_reducible apply below_drew1))) hb_
  have HZ30 := Aside0.mk hp_.size
  replace HZ := Aside0.mk (And.intro HZ.out HZ30.out)
  clear HZ30
  replace HB := Aside0.mk (more HB.out hp_)
  replace Vw0 := Aside0.mk (Vw0.out.step hp_)
  replace Vg0 := Aside0.mk (Vg0.out.step hp_)
  replace Vh0 := Aside0.mk (Vh0.out.step hp_)
  clear hcz_ag_0 hfz_ag_0 hcz_ag_1 hfz_ag_1 hcz_ag_2 hfz_ag_2
  replace BK_ag := Aside0.mk (blk_below BK_ag.out hp_)
  obtain ⟨hcz_ag_0, hfz_ag_0, hcz_ag_1, hfz_ag_1, hcz_ag_2, hfz_ag_2⟩ := cells3_ BK_ag.out
  clear hb_ hp_
  go_wp2_with fail
  try rw [show (Value.slice AVg0 r1v.length cVg0) = .slice AVg0 (markedI r1v.length 1).length cVg0 from by rw [HML.out]]
  refine (laws_heldIntS.calls kh23 _ _ (markedI r1v.length 1) 1 mt _ (by repeat (first | exact Vg0.out.C | (with_reducible refine Kd.C_alloc ?_ _) | (with_reducible refine Kd.C_drewN ?_ _) | (with_reducible refine Kd.C_drew ?_))) HCm.out HH23'.out).mono ?_
  rintro e w26_ ⟨rfl, hd_⟩
  have hp_ : Below w25_.heap.size w25_ w26_ := below_step (by repeat (first | exact Below.refl _ _ | (with_reducible apply below_alloc) | (with_reducible apply pw_below_drewN) | (with_reducible apply below_drew1))) (drawn_below hd_)
  have HZ31 := Aside0.mk hp_.size
  replace HZ := Aside0.mk (And.intro HZ.out HZ31.out)
  clear HZ31
  replace HB := Aside0.mk (more HB.out hp_)
  replace Vw0 := Aside0.mk (Vw0.out.step hp_)
  replace Vg0 := Aside0.mk (Vg0.out.step hp_)
  replace Vh0 := Aside0.mk (Vh0.out.step hp_)
  clear hcz_ag_0 hfz_ag_0 hcz_ag_1 hfz_ag_1 hcz_ag_2 hfz_ag_2
  replace BK_ag := Aside0.mk (blk_below BK_ag.out hp_)
  obtain ⟨hcz_ag_0, hfz_ag_0, hcz_ag_1, hfz_ag_1, hcz_ag_2, hfz_ag_2⟩ := cells3_ BK_ag.out
  clear hd_ hp_
  go_wp2_with fail
  go_ret
  exact ⟨rfl, by repeat (first | exact HB.out | (with_reducible apply below_alloc) | (with_reducible apply pw_below_drewN) | (with_reducible apply below_drew1))⟩
end Go.Proofs.Ytjjbohacmmhddaa.WalkFnExactWidenPit

/- The walk of FnExactIsFeasible's own text: for all arguments it returns true, and nothing that lay in memory before has turned; over the contracts of what it calls; no further condition. -/
import Derived.Test.YtmlmghkkalljbaaPureFnExactIsFeasible
import Derived.Test.YtmlmghkkalljbaaLaw
namespace Go.Proofs.Ytmlmghkkalljbaa.WalkFnExactIsFeasible
open Go.RowKit Go.Proofs.YtmlmghkkalljbaaW.PrintWords Go.Proofs.YtmlmghkkalljbaaW.PrintLast Go.Proofs.YtmlmghkkalljbaaW.PrintMore Go.Proofs.Ytmlmghkkalljbaa.PFnExactIsFeasible Go.Proofs.Ytmlmghkkalljbaa.Gen Go.Proofs.Ytmlmghkkalljbaa.Pure Go.Proofs.Ytmlmghkkalljbaa.Law Go.Proofs.Ytmlmghkkalljbaa.Opn
set_option linter.unusedVariables false
set_option linter.unusedSimpArgs false
set_option maxRecDepth 100000 in
set_option maxHeartbeats 40000000 in
theorem law (A_aj_0 : Option Addr) (c_aj_0 : Nat) (aj_0 : List (List Int)) (A_aj_1 : Option Addr) (c_aj_1 : Nat) (aj_1 : List Int) (A_aj_2 : Option Addr) (c_aj_2 : Nat) (aj_2 : List Int) (aj_3 : Int) (aj_4 : Int) (aj_5 : Int) (aj_6 : Int) (aj_7 : Int) (ap_0 : Int) (A_ap_1 : Option Addr) (c_ap_1 : Nat) (ap_1 : List Int) (w : World) (hr_aj_0 : Kd.C (Kd.slice 3 (Kd.int .i64)) w A_aj_0 aj_0.length aj_0) (hc_aj_0 : aj_0.length ≤ c_aj_0) (hr_aj_1 : Kd.C (Kd.int .i64) w A_aj_1 aj_1.length aj_1) (hc_aj_1 : aj_1.length ≤ c_aj_1) (hr_aj_2 : Kd.C (Kd.int .i64) w A_aj_2 aj_2.length aj_2) (hc_aj_2 : aj_2.length ≤ c_aj_2) (hr_ap_1 : Kd.C (Kd.int .i64) w A_ap_1 ap_1.length ap_1) (hc_ap_1 : ap_1.length ≤ c_ap_1) (hm_aj_0 : aj_0.length ≤ maxLen) (hi_aj_0 : ∀ z ∈ aj_0, z.length ≤ maxLen) (hw_aj_0 : ∀ z ∈ aj_0, okI .i64 z) (hm_aj_1 : aj_1.length ≤ maxLen) (hw_aj_1 : okI .i64 aj_1) (hm_aj_2 : aj_2.length ≤ maxLen) (hw_aj_2 : okI .i64 aj_2) (hw_aj_3 : (Lit.int .i64 aj_3).wf = true) (hw_aj_4 : (Lit.int .i64 aj_4).wf = true) (hw_aj_5 : (Lit.int .i64 aj_5).wf = true) (hw_aj_6 : (Lit.int .i64 aj_6).wf = true) (hw_aj_7 : (Lit.int .i64 aj_7).wf = true) (hw_ap_0 : (Lit.int .i64 ap_0).wf = true) (hm_ap_1 : ap_1.length ≤ maxLen) (hw_ap_1 : okI .i64 ap_1) :
    Calls Try.prog 12 #[.agg #[.slice A_aj_0 aj_0.length c_aj_0, .slice A_aj_1 aj_1.length c_aj_1, .slice A_aj_2 aj_2.length c_aj_2, .int .i64 aj_3, .int .i64 aj_4, .int .i64 aj_5, .int .i64 aj_6, .int .i64 aj_7], .agg #[.int .i64 ap_0, .slice A_ap_1 ap_1.length c_ap_1]] w fun e w' => e = .returned (.bool true) ∧ Below w.heap.size w w' := by
  have HR_aj_0 := Aside0.mk hr_aj_0
  have HC_aj_0 := Aside0.mk hc_aj_0
  clear hr_aj_0 hc_aj_0
  have HR_aj_1 := Aside0.mk hr_aj_1
  have HC_aj_1 := Aside0.mk hc_aj_1
  clear hr_aj_1 hc_aj_1
  have HR_aj_2 := Aside0.mk hr_aj_2
  have HC_aj_2 := Aside0.mk hc_aj_2
  clear hr_aj_2 hc_aj_2
  have HR_ap_1 := Aside0.mk hr_ap_1
  have HC_ap_1 := Aside0.mk hc_ap_1
  clear hr_ap_1 hc_ap_1
  have HB := Aside0.mk (Below.refl w.heap.size w)
  have hu27 := Try.underlying27
  have hu32 := Try.underlying32
  have hu37 := Try.underlying37
  have hu41 := Try.underlying41
  have HMI_aj_0 := Aside0.mk hi_aj_0
  clear hi_aj_0
  clear hw_aj_0
  clear hw_aj_1
  clear hw_aj_2
  clear hw_ap_1
  have cl1_ : 0 ≤ (1048576 : Int) := by omega
  have cu1_ : (1048576 : Int) ≤ 1048576 := by omega
  obtain ⟨s1, hs_, hsa_, hsb_⟩ := szJob_ev aj_0 aj_1 aj_2 aj_3 aj_4 aj_5 aj_6 aj_7 1048576 cl1_ cu1_ hm_aj_0 HMI_aj_0.out hm_aj_1 hm_aj_2
  obtain ⟨ks_, hs_⟩ := hs_.rounds
  have HS1 := Aside0.mk hs_
  have HSB1 := Aside0.mk hsb_
  clear hs_ hsb_ cl1_ cu1_
  go_enter Try.func12, Try.ntmps12
  go_wp2_with (first | ((with_reducible refine gate_dst (N := 2) rfl ?_); refine box_event ?hg (N := 2) ?hd (cs := #[.slice A_aj_0 aj_0.length c_aj_0, .slice A_aj_1 aj_1.length c_aj_1, .slice A_aj_2 aj_2.length c_aj_2, .int .i64 aj_3, .int .i64 aj_4, .int .i64 aj_5, .int .i64 aj_6, .int .i64 aj_7]) (t := 27) ?hr ?_; (case hd => rfl); (case hg => rfl); (case hr => first | (go_simp; done) | (go_simp; rfl)); intro g_aj hg_ w1_ hbox_ hb_; have hp_ : Below w.heap.size w w1_ := below_step (by repeat (first | exact Below.refl _ _ | (with_reducible apply below_alloc) | (with_reducible apply pw_below_drewN) | (with_reducible apply below_drew1))) hb_; have hz_ : w.heap.size ≤ g_aj := Nat.le_trans (below_size (by repeat (first | exact Below.refl _ _ | (with_reducible apply below_alloc) | (with_reducible apply pw_below_drewN) | (with_reducible apply below_drew1)))) (Nat.le_of_eq hg_.symm); have HZ2 := Aside0.mk (⟨hz_, blk_lt hbox_, hp_.size⟩ : _ ∧ _ ∧ _); have HZ := HZ2; clear HZ2; have HGW_aj := Aside0.mk (Nat.le_trans HB.out.size hz_ : w.heap.size ≤ g_aj); replace HB := Aside0.mk (more HB.out hp_); have BK_aj := Aside0.mk hbox_; obtain ⟨hcz_aj_0, hfz_aj_0, hcz_aj_1, hfz_aj_1, hcz_aj_2, hfz_aj_2, hcz_aj_3, hfz_aj_3, hcz_aj_4, hfz_aj_4, hcz_aj_5, hfz_aj_5, hcz_aj_6, hfz_aj_6, hcz_aj_7, hfz_aj_7⟩ := cells8_ BK_aj.out; clear hg_ hbox_ hb_ hp_ hz_) | ((with_reducible refine gate_dst (N := 3) rfl ?_); refine box_event ?hg (N := 3) ?hd (cs := #[.int .i64 ap_0, .slice A_ap_1 ap_1.length c_ap_1]) (t := 37) ?hr ?_; (case hd => rfl); (case hg => rfl); (case hr => first | (go_simp; done) | (go_simp; rfl)); intro g_ap hg_ w2_ hbox_ hb_; have hp_ : Below w1_.heap.size w1_ w2_ := below_step (by repeat (first | exact Below.refl _ _ | (with_reducible apply below_alloc) | (with_reducible apply pw_below_drewN) | (with_reducible apply below_drew1))) hb_; have hz_ : w1_.heap.size ≤ g_ap := Nat.le_trans (below_size (by repeat (first | exact Below.refl _ _ | (with_reducible apply below_alloc) | (with_reducible apply pw_below_drewN) | (with_reducible apply below_drew1)))) (Nat.le_of_eq hg_.symm); have HZ3 := Aside0.mk (⟨hz_, blk_lt hbox_, hp_.size⟩ : _ ∧ _ ∧ _); replace HZ := Aside0.mk (And.intro HZ.out HZ3.out); clear HZ3; have HGW_ap := Aside0.mk (Nat.le_trans HB.out.size hz_ : w.heap.size ≤ g_ap); have hnb_ap_aj : g_ap ≠ g_aj := Nat.ne_of_gt (Nat.lt_of_lt_of_le (blk_lt BK_aj.out) hz_); have hnb_aj_ap : g_aj ≠ g_ap := hnb_ap_aj.symm; replace HB := Aside0.mk (more HB.out hp_); clear hcz_aj_0 hfz_aj_0 hcz_aj_1 hfz_aj_1 hcz_aj_2 hfz_aj_2 hcz_aj_3 hfz_aj_3 hcz_aj_4 hfz_aj_4 hcz_aj_5 hfz_aj_5 hcz_aj_6 hfz_aj_6 hcz_aj_7 hfz_aj_7; replace BK_aj := Aside0.mk (blk_below BK_aj.out hp_); obtain ⟨hcz_aj_0, hfz_aj_0, hcz_aj_1, hfz_aj_1, hcz_aj_2, hfz_aj_2, hcz_aj_3, hfz_aj_3, hcz_aj_4, hfz_aj_4, hcz_aj_5, hfz_aj_5, hcz_aj_6, hfz_aj_6, hcz_aj_7, hfz_aj_7⟩ := cells8_ BK_aj.out; have BK_ap := Aside0.mk hbox_; obtain ⟨hcz_ap_0, hfz_ap_0, hcz_ap_1, hfz_ap_1⟩ := cells2_ BK_ap.out; clear hg_ hbox_ hb_ hp_ hz_))
  refine (laws_szJob.calls ks_ _ _ aj_0 _ _ aj_1 _ _ aj_2 aj_3 aj_4 aj_5 aj_6 aj_7 1048576 s1 _ (by repeat (first | exact (Kd.C_below HR_aj_0.out HB.out) | (with_reducible refine Kd.C_alloc ?_ _) | (with_reducible refine Kd.C_drewN ?_ _) | (with_reducible refine Kd.C_drew ?_))) HC_aj_0.out (by repeat (first | exact (Kd.C_below HR_aj_1.out HB.out) | (with_reducible refine Kd.C_alloc ?_ _) | (with_reducible refine Kd.C_drewN ?_ _) | (with_reducible refine Kd.C_drew ?_))) HC_aj_1.out (by repeat (first | exact (Kd.C_below HR_aj_2.out HB.out) | (with_reducible refine Kd.C_alloc ?_ _) | (with_reducible refine Kd.C_drewN ?_ _) | (with_reducible refine Kd.C_drew ?_))) HC_aj_2.out HS1.out).mono ?_
  rintro e w3_ ⟨rfl, hd_⟩
  have hb_ := hd_
  clear hd_
  have hp_ : Below w2_.heap.size w2_ w3_ := below_step (by repeat (first | exact Below.refl _ _ | (with_reducible apply below_alloc) | (with_reducible apply pw_below_drewN) | (with_reducible apply below_drew1))) hb_
  have HZ4 := Aside0.mk hp_.size
  replace HZ := Aside0.mk (And.intro HZ.out HZ4.out)
  clear HZ4
  replace HB := Aside0.mk (more HB.out hp_)
  clear hcz_aj_0 hfz_aj_0 hcz_aj_1 hfz_aj_1 hcz_aj_2 hfz_aj_2 hcz_aj_3 hfz_aj_3 hcz_aj_4 hfz_aj_4 hcz_aj_5 hfz_aj_5 hcz_aj_6 hfz_aj_6 hcz_aj_7 hfz_aj_7
  replace BK_aj := Aside0.mk (blk_below BK_aj.out hp_)
  obtain ⟨hcz_aj_0, hfz_aj_0, hcz_aj_1, hfz_aj_1, hcz_aj_2, hfz_aj_2, hcz_aj_3, hfz_aj_3, hcz_aj_4, hfz_aj_4, hcz_aj_5, hfz_aj_5, hcz_aj_6, hfz_aj_6, hcz_aj_7, hfz_aj_7⟩ := cells8_ BK_aj.out
  clear hcz_ap_0 hfz_ap_0 hcz_ap_1 hfz_ap_1
  replace BK_ap := Aside0.mk (blk_below BK_ap.out hp_)
  obtain ⟨hcz_ap_0, hfz_ap_0, hcz_ap_1, hfz_ap_1⟩ := cells2_ BK_ap.out
  clear hb_ hp_
  by_cases g_ : s1 < 0
  · have d_ : decide (s1 < 0) = true := decide_eq_true g_
    go_wp2_with fail
    go_ret
    exact ⟨rfl, by repeat (first | exact HB.out | (with_reducible apply below_alloc) | (with_reducible apply pw_below_drewN) | (with_reducible apply below_drew1))⟩
  have d1_ : decide (s1 < 0) = false := decide_eq_false g_
  have hb1_ := HSB1.out (by omega)
  clear HSB1
  have HQ1 := Aside0.mk hb1_
  have ga1 : 0 ≤ s1 := by omega
  clear hb1_ g_
  have b_aj_0 : aj_0.length ≤ 1048576 := by have := HQ1.out; omega
  have HBD_aj_0 := Aside0.mk b_aj_0
  have bi_aj_0 : ∀ z ∈ aj_0, z.length ≤ 1048576 := fun z hz => by have := tot_mem hz; have := HQ1.out; omega
  have HBI_aj_0 := Aside0.mk bi_aj_0
  have HTO_aj_0 : Aside0 (totL aj_0 ≤ 1048576) := ⟨by have := HQ1.out; omega⟩
  clear b_aj_0 bi_aj_0
  have b_aj_1 : aj_1.length ≤ 1048576 := by have := HQ1.out; omega
  have HBD_aj_1 := Aside0.mk b_aj_1
  clear b_aj_1
  have b_aj_2 : aj_2.length ≤ 1048576 := by have := HQ1.out; omega
  have HBD_aj_2 := Aside0.mk b_aj_2
  clear b_aj_2
  have cl5_ : 0 ≤ (s1 : Int) := by omega
  have cu5_ : (s1 : Int) ≤ 1048576 := by omega
  obtain ⟨s5, hs_, hsa_, hsb_⟩ := szPlan_eq ap_0 ap_1 s1 cl5_ cu5_ hm_ap_1
  have HS5 := Aside0.mk hs_
  have HSB5 := Aside0.mk hsb_
  clear hs_ hsb_ cl5_ cu5_
  go_wp2_with fail
  refine (laws_szPlan.calls ap_0 _ _ ap_1 s1 s5 _ (by repeat (first | exact (Kd.C_below HR_ap_1.out HB.out) | (with_reducible refine Kd.C_alloc ?_ _) | (with_reducible refine Kd.C_drewN ?_ _) | (with_reducible refine Kd.C_drew ?_))) HC_ap_1.out HS5.out).mono ?_
  rintro e w4_ ⟨rfl, hd_⟩
  have hb_ := hd_
  clear hd_
  have hp_ : Below w3_.heap.size w3_ w4_ := below_step (by repeat (first | exact Below.refl _ _ | (with_reducible apply below_alloc) | (with_reducible apply pw_below_drewN) | (with_reducible apply below_drew1))) hb_
  have HZ6 := Aside0.mk hp_.size
  replace HZ := Aside0.mk (And.intro HZ.out HZ6.out)
  clear HZ6
  replace HB := Aside0.mk (more HB.out hp_)
  clear hcz_aj_0 hfz_aj_0 hcz_aj_1 hfz_aj_1 hcz_aj_2 hfz_aj_2 hcz_aj_3 hfz_aj_3 hcz_aj_4 hfz_aj_4 hcz_aj_5 hfz_aj_5 hcz_aj_6 hfz_aj_6 hcz_aj_7 hfz_aj_7
  replace BK_aj := Aside0.mk (blk_below BK_aj.out hp_)
  obtain ⟨hcz_aj_0, hfz_aj_0, hcz_aj_1, hfz_aj_1, hcz_aj_2, hfz_aj_2, hcz_aj_3, hfz_aj_3, hcz_aj_4, hfz_aj_4, hcz_aj_5, hfz_aj_5, hcz_aj_6, hfz_aj_6, hcz_aj_7, hfz_aj_7⟩ := cells8_ BK_aj.out
  clear hcz_ap_0 hfz_ap_0 hcz_ap_1 hfz_ap_1
  replace BK_ap := Aside0.mk (blk_below BK_ap.out hp_)
  obtain ⟨hcz_ap_0, hfz_ap_0, hcz_ap_1, hfz_ap_1⟩ := cells2_ BK_ap.out
  clear hb_ hp_
  by_cases g_ : s5 < 0
  · have d_ : decide (s5 < 0) = true := decide_eq_true g_
    go_wp2_with fail
    go_ret
    exact ⟨rfl, by repeat (first | exact HB.out | (with_reducible apply below_alloc) | (with_reducible apply pw_below_drewN) | (with_reducible apply below_drew1))⟩
  have d5_ : decide (s5 < 0) = false := decide_eq_false g_
  have hb5_ := HSB5.out (by omega)
  clear HSB5
  have HQ5 := Aside0.mk hb5_
  have ga5 : 0 ≤ s5 := by omega
  clear hb5_ g_
  have b_ap_1 : ap_1.length ≤ 1048576 := by have := HQ5.out; omega
  have HBD_ap_1 := Aside0.mk b_ap_1
  clear b_ap_1
  obtain ⟨r1v, r2v, es_, ei_⟩ := FnExactIsFeasible aj_0 aj_1 aj_2 aj_3 aj_4 aj_5 aj_6 aj_7 ap_0 ap_1 HBD_aj_0.out HBI_aj_0.out HBD_aj_1.out HBD_aj_2.out HBD_ap_1.out
  obtain ⟨kes_, h_⟩ := es_.rounds
  have HES := Aside0.mk h_
  clear h_ es_
  obtain ⟨kei_, h_⟩ := ei_.rounds
  have HEI := Aside0.mk h_
  clear h_ ei_
  obtain ⟨kt_aJ, h_⟩ := (toJob_ev aj_0 aj_1 aj_2 aj_3 aj_4 aj_5 aj_6 aj_7 HBD_aj_0.out HBI_aj_0.out HBD_aj_1.out HBD_aj_2.out).rounds
  have Hkt_aJ := Aside0.mk h_
  clear h_
  obtain ⟨kq_aJ, h_⟩ := (eqJob_ev aj_0 aj_1 aj_2 aj_3 aj_4 aj_5 aj_6 aj_7 HBD_aj_0.out HBI_aj_0.out HBD_aj_1.out HBD_aj_2.out).rounds
  have Hkq_aJ := Aside0.mk h_
  clear h_
  obtain ⟨kt_aP, h_⟩ := (toPlan_ev ap_0 ap_1 HBD_ap_1.out).rounds
  have Hkt_aP := Aside0.mk h_
  clear h_
  obtain ⟨kq_aP, h_⟩ := (eqPlan_ev ap_0 ap_1 HBD_ap_1.out).rounds
  have Hkq_aP := Aside0.mk h_
  clear h_
  go_wp2_with fail
  have hp_ : Below w4_.heap.size w4_ w4_.drew := below_drew1 (Below.refl _ _)
  replace HB := Aside0.mk (more HB.out hp_)
  clear hcz_aj_0 hfz_aj_0 hcz_aj_1 hfz_aj_1 hcz_aj_2 hfz_aj_2 hcz_aj_3 hfz_aj_3 hcz_aj_4 hfz_aj_4 hcz_aj_5 hfz_aj_5 hcz_aj_6 hfz_aj_6 hcz_aj_7 hfz_aj_7
  replace BK_aj := Aside0.mk (blk_below BK_aj.out hp_)
  clear hcz_ap_0 hfz_ap_0 hcz_ap_1 hfz_ap_1
  replace BK_ap := Aside0.mk (blk_below BK_ap.out hp_)
  have HZ7 := Aside0.mk hp_.size
  clear hp_
  refine start_ (n := 10) (S := fun w' => w'.heap[g_aj]? = some (.cells #[.slice A_aj_0 aj_0.length c_aj_0, .slice A_aj_1 aj_1.length c_aj_1, .slice A_aj_2 aj_2.length c_aj_2, .int .i64 aj_3, .int .i64 aj_4, .int .i64 aj_5, .int .i64 aj_6, .int .i64 aj_7] 27 (0, 0)) ∧ w'.heap[g_ap]? = some (.cells #[.int .i64 ap_0, .slice A_ap_1 ap_1.length c_ap_1] 37 (0, 0))) (ds := []) #[false, false, false, false, false, false, false, false, false, false] (by kernel_rfl) rfl rfl ⟨BK_aj.out, BK_ap.out⟩ (fun hHeld => ?_)
  generalize w4_.drew = w5_ at HB HZ7 BK_aj BK_ap hHeld ⊢
  replace HZ := Aside0.mk (And.intro HZ.out HZ7.out)
  clear HZ7
  refine take_ (i := 0) (N := some 23) (v := ?_) (a' := ?_) #[true, false, false, false, false, false, false, false, false, false] rfl rfl (by kernel_rfl) (fun _ _ _ h => h) (Or.inl ⟨by rfl, ?_⟩) hHeld ?_ ?_
  rotate_left
  · rintro w' ⟨s0_, s1_⟩; obtain ⟨s0, f0, s1, f1, s2, f2, s3, f3, s4, f4, s5, f5, s6, f6, s7, f7⟩ := cells8_ s0_; obtain ⟨s8, f8, s9, f9⟩ := cells2_ s1_
    go_simp
    with_reducible rfl
  rotate_left
  · simp only [Act.put, List.setIfInBounds_toArray, List.set_cons_zero, List.set_cons_succ, i64_w, i32_w]
    rfl
  refine take_ (i := 2) (N := some 25) (v := ?_) (a' := ?_) #[true, false, true, false, false, false, false, false, false, false] rfl rfl (by kernel_rfl) (fun _ _ _ h => h) (Or.inl ⟨by rfl, ?_⟩) hHeld ?_ ?_
  rotate_left
  · rintro w' ⟨s0_, s1_⟩; obtain ⟨s0, f0, s1, f1, s2, f2, s3, f3, s4, f4, s5, f5, s6, f6, s7, f7⟩ := cells8_ s0_; obtain ⟨s8, f8, s9, f9⟩ := cells2_ s1_
    go_simp
    with_reducible rfl
  rotate_left
  · simp only [Act.put, List.setIfInBounds_toArray, List.set_cons_zero, List.set_cons_succ, i64_w, i32_w]
    rfl
  refine one_ (i := 1) (N := some 24) #[true, true, true, false, false, false, false, false, false, false] rfl rfl (by kernel_rfl) (by decide) (fun K hK => ?_)
  refine goes_ Try.func17 (by kernel_rfl) rfl #[.agg #[.slice A_aj_0 aj_0.length c_aj_0, .slice A_aj_1 aj_1.length c_aj_1, .slice A_aj_2 aj_2.length c_aj_2, .int .i64 (aj_3), .int .i64 (aj_4), .int .i64 (aj_5), .int .i64 (aj_6), .int .i64 (aj_7)]] (by rfl) rfl rfl (by (try simp only [List.map_toArray, List.map_cons, List.map_nil]); first | done | rfl | (simp only [List.length_drop, List.length_take]; rfl)) ?_
  refine (laws_toJob.calls kt_aJ _ _ aj_0 _ _ aj_1 _ _ aj_2 aj_3 aj_4 aj_5 aj_6 aj_7 aj_0 aj_1 aj_2 aj_3 aj_4 aj_5 aj_6 aj_7 _ (by repeat (first | exact (Kd.C_below HR_aj_0.out HB.out) | (with_reducible refine Kd.C_alloc ?_ _) | (with_reducible refine Kd.C_drewN ?_ _) | (with_reducible refine Kd.C_drew ?_))) HC_aj_0.out (by repeat (first | exact (Kd.C_below HR_aj_1.out HB.out) | (with_reducible refine Kd.C_alloc ?_ _) | (with_reducible refine Kd.C_drewN ?_ _) | (with_reducible refine Kd.C_drew ?_))) HC_aj_1.out (by repeat (first | exact (Kd.C_below HR_aj_2.out HB.out) | (with_reducible refine Kd.C_alloc ?_ _) | (with_reducible refine Kd.C_drewN ?_ _) | (with_reducible refine Kd.C_drew ?_))) HC_aj_2.out Hkt_aJ.out).mono ?_
  rintro e w6_ ⟨v0_n6, v1_n6, v2_n6, rfl, ho0_, ho1_, ho2_, hb_⟩
  refine ⟨_, rfl, ?_⟩
  have hp_ : Below w5_.heap.size w5_ w6_ := below_step (by repeat (first | exact Below.refl _ _ | (with_reducible apply below_alloc) | (with_reducible apply pw_below_drewN) | (with_reducible apply below_drew1))) hb_
  obtain ⟨B8, H8, eB_, eH_, hi1_, hi2_, hi3_⟩ := spot (W0 := w5_) (by repeat (first | exact Below.refl _ _ | (with_reducible apply below_alloc) | (with_reducible apply pw_below_drewN) | (with_reducible apply below_drew1))) hb_
  have HZ8 := Aside0.mk (⟨hi1_, hi2_, hi3_, hp_.size⟩ : _ ∧ _ ∧ _ ∧ _)
  have N8_0 := Aside0.mk (OwnS.new (W0 := w5_) (b := w.heap.size) (by repeat (first | exact Below.refl _ _ | (with_reducible apply below_alloc) | (with_reducible apply pw_below_drewN) | (with_reducible apply below_drew1))) ho0_ hb_ HB.out.size _ _ eB_ eH_)
  have N8_1 := Aside0.mk (Own.new (W0 := w5_) (b := w.heap.size) (by repeat (first | exact Below.refl _ _ | (with_reducible apply below_alloc) | (with_reducible apply pw_below_drewN) | (with_reducible apply below_drew1))) (tightRow rfl ho1_) hb_ HB.out.size _ _ eB_ eH_)
  have N8_2 := Aside0.mk (Own.new (W0 := w5_) (b := w.heap.size) (by repeat (first | exact Below.refl _ _ | (with_reducible apply below_alloc) | (with_reducible apply pw_below_drewN) | (with_reducible apply below_drew1))) (tightRow rfl ho2_) hb_ HB.out.size _ _ eB_ eH_)
  clear eB_ eH_ hi1_ hi2_ hi3_ ho0_ ho1_ ho2_
  replace HZ := Aside0.mk (And.intro HZ.out HZ8.out)
  clear HZ8
  replace HB := Aside0.mk (more HB.out hp_)
  replace BK_aj := Aside0.mk (blk_below BK_aj.out hp_)
  replace BK_ap := Aside0.mk (blk_below BK_ap.out hp_)
  clear hb_ hp_
  have T8_0 := N8_0
  clear N8_0
  obtain ⟨AT8_0, cT8_0, rfl, hc_⟩ := T8_0.out.reads
  have HCT8_0 := Aside0.mk hc_
  clear hc_
  have T8_1 := N8_1
  clear N8_1
  obtain ⟨AT8_1, cT8_1, rfl, hc_⟩ := T8_1.out.reads
  have HCT8_1 := Aside0.mk hc_
  clear hc_
  have T8_2 := N8_2
  clear N8_2
  obtain ⟨AT8_2, cT8_2, rfl, hc_⟩ := T8_2.out.reads
  have HCT8_2 := Aside0.mk hc_
  clear hc_
  refine hK.out _ _ ⟨BK_aj.out, BK_ap.out⟩ (fun hHeld => ?_)
  clear hK K
  refine norm_ (a' := ?_) ?_ ?_
  rotate_left
  · show Act.put _ (some 24) _ = _
    simp only [Act.put, List.setIfInBounds_toArray, List.set_cons_zero, List.set_cons_succ, i64_w, i32_w]
    rfl
  refine one_ (i := 3) (N := some 26) #[true, true, true, true, false, false, false, false, false, false] rfl rfl (by kernel_rfl) (by decide) (fun K hK => ?_)
  refine goes_ Try.func22 (by kernel_rfl) rfl #[.agg #[.int .i64 (ap_0), .slice A_ap_1 ap_1.length c_ap_1]] (by rfl) rfl rfl (by (try simp only [List.map_toArray, List.map_cons, List.map_nil]); first | done | rfl | (simp only [List.length_drop, List.length_take]; rfl)) ?_
  refine (laws_toPlan.calls kt_aP ap_0 _ _ ap_1 ap_0 ap_1 _ (by repeat (first | exact (Kd.C_below HR_ap_1.out HB.out) | (with_reducible refine Kd.C_alloc ?_ _) | (with_reducible refine Kd.C_drewN ?_ _) | (with_reducible refine Kd.C_drew ?_))) HC_ap_1.out Hkt_aP.out).mono ?_
  rintro e w7_ ⟨v1_n7, rfl, ho0_, hb_⟩
  refine ⟨_, rfl, ?_⟩
  have hp_ : Below w6_.heap.size w6_ w7_ := below_step (by repeat (first | exact Below.refl _ _ | (with_reducible apply below_alloc) | (with_reducible apply pw_below_drewN) | (with_reducible apply below_drew1))) hb_
  obtain ⟨B9, H9, eB_, eH_, hi1_, hi2_, hi3_⟩ := spot (W0 := w6_) (by repeat (first | exact Below.refl _ _ | (with_reducible apply below_alloc) | (with_reducible apply pw_below_drewN) | (with_reducible apply below_drew1))) hb_
  have HZ9 := Aside0.mk (⟨hi1_, hi2_, hi3_, hp_.size⟩ : _ ∧ _ ∧ _ ∧ _)
  have N9_0 := Aside0.mk (Own.new (W0 := w6_) (b := w.heap.size) (by repeat (first | exact Below.refl _ _ | (with_reducible apply below_alloc) | (with_reducible apply pw_below_drewN) | (with_reducible apply below_drew1))) ho0_ hb_ HB.out.size _ _ eB_ eH_)
  clear eB_ eH_ hi1_ hi2_ hi3_ ho0_
  replace HZ := Aside0.mk (And.intro HZ.out HZ9.out)
  clear HZ9
  replace HB := Aside0.mk (more HB.out hp_)
  replace T8_0 := Aside0.mk (T8_0.out.step hp_)
  replace T8_1 := Aside0.mk (T8_1.out.step hp_)
  replace T8_2 := Aside0.mk (T8_2.out.step hp_)
  replace BK_aj := Aside0.mk (blk_below BK_aj.out hp_)
  replace BK_ap := Aside0.mk (blk_below BK_ap.out hp_)
  clear hb_ hp_
  have T9_0 := N9_0
  clear N9_0
  obtain ⟨AT9_0, cT9_0, rfl, hc_⟩ := T9_0.out.reads
  have HCT9_0 := Aside0.mk hc_
  clear hc_
  refine hK.out _ _ ⟨BK_aj.out, BK_ap.out⟩ (fun hHeld => ?_)
  clear hK K
  refine norm_ (a' := ?_) ?_ ?_
  rotate_left
  · show Act.put _ (some 26) _ = _
    simp only [Act.put, List.setIfInBounds_toArray, List.set_cons_zero, List.set_cons_succ, i64_w, i32_w]
    rfl
  refine one_ (i := 4) (N := some 27) #[true, true, true, true, true, false, false, false, false, false] rfl rfl (by kernel_rfl) (by decide) (fun K hK => ?_)
  refine goes_ Try.func45 (by kernel_rfl) rfl #[.agg #[.slice AT8_0 aj_0.length cT8_0, .slice AT8_1 aj_1.length cT8_1, .slice AT8_2 aj_2.length cT8_2, .int .i64 (aj_3), .int .i64 (aj_4), .int .i64 (aj_5), .int .i64 (aj_6), .int .i64 (aj_7)], .agg #[.int .i64 (ap_0), .slice AT9_0 ap_1.length cT9_0]] (by rfl) rfl rfl (by (try simp only [List.map_toArray, List.map_cons, List.map_nil]); first | done | rfl | (simp only [List.length_drop, List.length_take]; rfl)) ?_
  refine (spec_IsFeasible.calls kes_ _ _ aj_0 _ _ aj_1 _ _ aj_2 aj_3 aj_4 aj_5 aj_6 aj_7 ap_0 _ _ ap_1 r1v r2v _ (by repeat (first | exact T8_0.out.C | (with_reducible refine Kd.C_alloc ?_ _) | (with_reducible refine Kd.C_drewN ?_ _) | (with_reducible refine Kd.C_drew ?_))) HCT8_0.out (by repeat (first | exact T8_1.out.C | (with_reducible refine Kd.C_alloc ?_ _) | (with_reducible refine Kd.C_drewN ?_ _) | (with_reducible refine Kd.C_drew ?_))) HCT8_1.out (by repeat (first | exact T8_2.out.C | (with_reducible refine Kd.C_alloc ?_ _) | (with_reducible refine Kd.C_drewN ?_ _) | (with_reducible refine Kd.C_drew ?_))) HCT8_2.out (by repeat (first | exact T9_0.out.C | (with_reducible refine Kd.C_alloc ?_ _) | (with_reducible refine Kd.C_drewN ?_ _) | (with_reducible refine Kd.C_drew ?_))) HCT9_0.out HES.out).mono ?_
  rintro e w8_ ⟨rfl, hd_⟩
  refine ⟨_, rfl, ?_⟩
  have hb_ := hd_
  clear hd_
  have hp_ : Below w7_.heap.size w7_ w8_ := below_step (by repeat (first | exact Below.refl _ _ | (with_reducible apply below_alloc) | (with_reducible apply pw_below_drewN) | (with_reducible apply below_drew1))) hb_
  have HZ10 := Aside0.mk hp_.size
  replace HZ := Aside0.mk (And.intro HZ.out HZ10.out)
  clear HZ10
  replace HB := Aside0.mk (more HB.out hp_)
  replace T8_0 := Aside0.mk (T8_0.out.step hp_)
  replace T8_1 := Aside0.mk (T8_1.out.step hp_)
  replace T8_2 := Aside0.mk (T8_2.out.step hp_)
  replace T9_0 := Aside0.mk (T9_0.out.step hp_)
  replace BK_aj := Aside0.mk (blk_below BK_aj.out hp_)
  replace BK_ap := Aside0.mk (blk_below BK_ap.out hp_)
  clear hb_ hp_
  refine hK.out _ _ ⟨BK_aj.out, BK_ap.out⟩ (fun hHeld => ?_)
  clear hK K
  refine norm_ (a' := ?_) ?_ ?_
  rotate_left
  · show Act.put _ (some 27) _ = _
    simp only [Act.put, List.setIfInBounds_toArray, List.set_cons_zero, List.set_cons_succ, i64_w, i32_w]
    rfl
  refine pure_ (i := 5) (N := some 22) (v := ?_) (a' := ?_) #[true, true, true, true, true, true, false, false, false, false] rfl rfl (by kernel_rfl) (fun _ _ _ h => h) (Or.inl ⟨by rfl, ?_⟩) ?_ ?_
  rotate_left
  · intro w'
    go_simp
    with_reducible rfl
  rotate_left
  · simp only [Act.put, List.setIfInBounds_toArray, List.set_cons_zero, List.set_cons_succ, i64_w, i32_w]
    rfl
  refine pure_ (i := 6) (N := some 28) (v := ?_) (a' := ?_) #[true, true, true, true, true, true, true, false, false, false] rfl rfl (by kernel_rfl) (fun _ _ _ h => h) (Or.inl ⟨by rfl, ?_⟩) ?_ ?_
  rotate_left
  · intro w'
    go_simp
    with_reducible rfl
  rotate_left
  · simp only [Act.put, List.setIfInBounds_toArray, List.set_cons_zero, List.set_cons_succ, i64_w, i32_w]
    rfl
  refine pure_ (i := 7) (N := some 29) (v := ?_) (a' := ?_) #[true, true, true, true, true, true, true, true, false, false] rfl rfl (by kernel_rfl) (fun _ _ _ h => h) (Or.inl ⟨by rfl, ?_⟩) ?_ ?_
  rotate_left
  · intro w'
    go_simp
    with_reducible rfl
  rotate_left
  · simp only [Act.put, List.setIfInBounds_toArray, List.set_cons_zero, List.set_cons_succ, i64_w, i32_w]
    rfl
  refine pure_ (i := 8) (N := some 6) (v := ?_) (a' := ?_) #[true, true, true, true, true, true, true, true, true, false] rfl rfl (by kernel_rfl) (fun _ _ _ h => h) (Or.inl ⟨by rfl, ?_⟩) ?_ ?_
  rotate_left
  · intro w'
    go_simp
    with_reducible rfl
  rotate_left
  · simp only [Act.put, List.setIfInBounds_toArray, List.set_cons_zero, List.set_cons_succ, i64_w, i32_w]
    rfl
  refine pure_ (i := 9) (N := some 7) (v := ?_) (a' := ?_) #[true, true, true, true, true, true, true, true, true, true] rfl rfl (by kernel_rfl) (fun _ _ _ h => h) (Or.inl ⟨by rfl, ?_⟩) ?_ ?_
  rotate_left
  · intro w'
    go_simp
    with_reducible rfl
  rotate_left
  · simp only [Act.put, List.setIfInBounds_toArray, List.set_cons_zero, List.set_cons_succ, i64_w, i32_w]
    rfl
  refine done_ (by kernel_rfl) ?_
  obtain ⟨hcz_aj_0, hfz_aj_0, hcz_aj_1, hfz_aj_1, hcz_aj_2, hfz_aj_2, hcz_aj_3, hfz_aj_3, hcz_aj_4, hfz_aj_4, hcz_aj_5, hfz_aj_5, hcz_aj_6, hfz_aj_6, hcz_aj_7, hfz_aj_7⟩ := cells8_ BK_aj.out
  obtain ⟨hcz_ap_0, hfz_ap_0, hcz_ap_1, hfz_ap_1⟩ := cells2_ BK_ap.out
  clear T8_0 HCT8_0
  clear T8_1 HCT8_1
  clear T8_2 HCT8_2
  clear T9_0 HCT9_0
  go_wp2_with fail
  refine (laws_toJob.calls kt_aJ _ _ aj_0 _ _ aj_1 _ _ aj_2 aj_3 aj_4 aj_5 aj_6 aj_7 aj_0 aj_1 aj_2 aj_3 aj_4 aj_5 aj_6 aj_7 _ (by repeat (first | exact (Kd.C_below HR_aj_0.out HB.out) | (with_reducible refine Kd.C_alloc ?_ _) | (with_reducible refine Kd.C_drewN ?_ _) | (with_reducible refine Kd.C_drew ?_))) HC_aj_0.out (by repeat (first | exact (Kd.C_below HR_aj_1.out HB.out) | (with_reducible refine Kd.C_alloc ?_ _) | (with_reducible refine Kd.C_drewN ?_ _) | (with_reducible refine Kd.C_drew ?_))) HC_aj_1.out (by repeat (first | exact (Kd.C_below HR_aj_2.out HB.out) | (with_reducible refine Kd.C_alloc ?_ _) | (with_reducible refine Kd.C_drewN ?_ _) | (with_reducible refine Kd.C_drew ?_))) HC_aj_2.out Hkt_aJ.out).mono ?_
  rintro e w9_ ⟨v0_n9, v1_n9, v2_n9, rfl, ho0_, ho1_, ho2_, hb_⟩
  have hp_ : Below w8_.heap.size w8_ w9_ := below_step (by repeat (first | exact Below.refl _ _ | (with_reducible apply below_alloc) | (with_reducible apply pw_below_drewN) | (with_reducible apply below_drew1))) hb_
  obtain ⟨B11, H11, eB_, eH_, hi1_, hi2_, hi3_⟩ := spot (W0 := w8_) (by repeat (first | exact Below.refl _ _ | (with_reducible apply below_alloc) | (with_reducible apply pw_below_drewN) | (with_reducible apply below_drew1))) hb_
  have HZ11 := Aside0.mk (⟨hi1_, hi2_, hi3_, hp_.size⟩ : _ ∧ _ ∧ _ ∧ _)
  have N11_0 := Aside0.mk (OwnS.new (W0 := w8_) (b := w.heap.size) (by repeat (first | exact Below.refl _ _ | (with_reducible apply below_alloc) | (with_reducible apply pw_below_drewN) | (with_reducible apply below_drew1))) ho0_ hb_ HB.out.size _ _ eB_ eH_)
  have N11_1 := Aside0.mk (Own.new (W0 := w8_) (b := w.heap.size) (by repeat (first | exact Below.refl _ _ | (with_reducible apply below_alloc) | (with_reducible apply pw_below_drewN) | (with_reducible apply below_drew1))) (tightRow rfl ho1_) hb_ HB.out.size _ _ eB_ eH_)
  have N11_2 := Aside0.mk (Own.new (W0 := w8_) (b := w.heap.size) (by repeat (first | exact Below.refl _ _ | (with_reducible apply below_alloc) | (with_reducible apply pw_below_drewN) | (with_reducible apply below_drew1))) (tightRow rfl ho2_) hb_ HB.out.size _ _ eB_ eH_)
  clear eB_ eH_ hi1_ hi2_ hi3_ ho0_ ho1_ ho2_
  replace HZ := Aside0.mk (And.intro HZ.out HZ11.out)
  clear HZ11
  replace HB := Aside0.mk (more HB.out hp_)
  clear hcz_aj_0 hfz_aj_0 hcz_aj_1 hfz_aj_1 hcz_aj_2 hfz_aj_2 hcz_aj_3 hfz_aj_3 hcz_aj_4 hfz_aj_4 hcz_aj_5 hfz_aj_5 hcz_aj_6 hfz_aj_6 hcz_aj_7 hfz_aj_7
  replace BK_aj := Aside0.mk (blk_below BK_aj.out hp_)
  obtain ⟨hcz_aj_0, hfz_aj_0, hcz_aj_1, hfz_aj_1, hcz_aj_2, hfz_aj_2, hcz_aj_3, hfz_aj_3, hcz_aj_4, hfz_aj_4, hcz_aj_5, hfz_aj_5, hcz_aj_6, hfz_aj_6, hcz_aj_7, hfz_aj_7⟩ := cells8_ BK_aj.out
  clear hcz_ap_0 hfz_ap_0 hcz_ap_1 hfz_ap_1
  replace BK_ap := Aside0.mk (blk_below BK_ap.out hp_)
  obtain ⟨hcz_ap_0, hfz_ap_0, hcz_ap_1, hfz_ap_1⟩ := cells2_ BK_ap.out
  clear hb_ hp_
  have Vx00 := N11_0
  clear N11_0
  obtain ⟨AVx00, cVx00, rfl, hc_⟩ := Vx00.out.reads
  have HCVx00 := Aside0.mk hc_
  clear hc_
  have Vx01 := N11_1
  clear N11_1
  obtain ⟨AVx01, cVx01, rfl, hc_⟩ := Vx01.out.reads
  have HCVx01 := Aside0.mk hc_
  clear hc_
  have Vx02 := N11_2
  clear N11_2
  obtain ⟨AVx02, cVx02, rfl, hc_⟩ := Vx02.out.reads
  have HCVx02 := Aside0.mk hc_
  clear hc_
  go_wp2_with (first | ((with_reducible refine gate_dst (N := 8) rfl ?_); refine box_event ?hg (N := 8) ?hd (cs := #[.slice none 0 0, .slice none 0 0, .slice none 0 0, .int .i64 0, .int .i64 0, .int .i64 0, .int .i64 0, .int .i64 0]) (t := 32) ?hr ?_; (case hd => rfl); (case hg => rfl); (case hr => first | (go_simp; done) | (go_simp; rfl)); intro g_x0 hg_ w10_ hbox_ hb_; have hp_ : Below w9_.heap.size w9_ w10_ := below_step (by repeat (first | exact Below.refl _ _ | (with_reducible apply below_alloc) | (with_reducible apply pw_below_drewN) | (with_reducible apply below_drew1))) hb_; have hz_ : w9_.heap.size ≤ g_x0 := Nat.le_trans (below_size (by repeat (first | exact Below.refl _ _ | (with_reducible apply below_alloc) | (with_reducible apply pw_below_drewN) | (with_reducible apply below_drew1)))) (Nat.le_of_eq hg_.symm); have HZ12 := Aside0.mk (⟨hz_, blk_lt hbox_, hp_.size⟩ : _ ∧ _ ∧ _); replace HZ := Aside0.mk (And.intro HZ.out HZ12.out); clear HZ12; have HGW_x0 := Aside0.mk (Nat.le_trans HB.out.size hz_ : w.heap.size ≤ g_x0); have hnb_x0_aj : g_x0 ≠ g_aj := Nat.ne_of_gt (Nat.lt_of_lt_of_le (blk_lt BK_aj.out) hz_); have hnb_aj_x0 : g_aj ≠ g_x0 := hnb_x0_aj.symm; have hnb_x0_ap : g_x0 ≠ g_ap := Nat.ne_of_gt (Nat.lt_of_lt_of_le (blk_lt BK_ap.out) hz_); have hnb_ap_x0 : g_ap ≠ g_x0 := hnb_x0_ap.symm; replace HB := Aside0.mk (more HB.out hp_); replace Vx00 := Aside0.mk (Vx00.out.step hp_); replace Vx01 := Aside0.mk (Vx01.out.step hp_); replace Vx02 := Aside0.mk (Vx02.out.step hp_); clear hcz_aj_0 hfz_aj_0 hcz_aj_1 hfz_aj_1 hcz_aj_2 hfz_aj_2 hcz_aj_3 hfz_aj_3 hcz_aj_4 hfz_aj_4 hcz_aj_5 hfz_aj_5 hcz_aj_6 hfz_aj_6 hcz_aj_7 hfz_aj_7; replace BK_aj := Aside0.mk (blk_below BK_aj.out hp_); obtain ⟨hcz_aj_0, hfz_aj_0, hcz_aj_1, hfz_aj_1, hcz_aj_2, hfz_aj_2, hcz_aj_3, hfz_aj_3, hcz_aj_4, hfz_aj_4, hcz_aj_5, hfz_aj_5, hcz_aj_6, hfz_aj_6, hcz_aj_7, hfz_aj_7⟩ := cells8_ BK_aj.out; clear hcz_ap_0 hfz_ap_0 hcz_ap_1 hfz_ap_1; replace BK_ap := Aside0.mk (blk_below BK_ap.out hp_); obtain ⟨hcz_ap_0, hfz_ap_0, hcz_ap_1, hfz_ap_1⟩ := cells2_ BK_ap.out; have BK_x0 := Aside0.mk hbox_; obtain ⟨hcz_x0_0, hfz_x0_0, hcz_x0_1, hfz_x0_1, hcz_x0_2, hfz_x0_2, hcz_x0_3, hfz_x0_3, hcz_x0_4, hfz_x0_4, hcz_x0_5, hfz_x0_5, hcz_x0_6, hfz_x0_6, hcz_x0_7, hfz_x0_7⟩ := cells8_ BK_x0.out; clear hg_ hbox_ hb_ hp_ hz_))
  obtain ⟨w11_, ew_⟩ : ∃ w_ : World, w_ = (World.setCell (World.setCell (World.setCell (World.setCell (World.setCell (World.setCell (World.setCell (World.setCell w10_ ⟨g_x0, 0, none⟩ (.slice AVx00 aj_0.length cVx00)) ⟨g_x0, 1, none⟩ (.slice AVx01 aj_1.length cVx01)) ⟨g_x0, 2, none⟩ (.slice AVx02 aj_2.length cVx02)) ⟨g_x0, 3, none⟩ (.int .i64 aj_3)) ⟨g_x0, 4, none⟩ (.int .i64 aj_4)) ⟨g_x0, 5, none⟩ (.int .i64 aj_5)) ⟨g_x0, 6, none⟩ (.int .i64 aj_6)) ⟨g_x0, 7, none⟩ (.int .i64 aj_7)) := ⟨_, rfl⟩
  rw [← ew_]
  have hbk_ : w11_.heap[g_x0]? = some (.cells #[.slice AVx00 aj_0.length cVx00, .slice AVx01 aj_1.length cVx01, .slice AVx02 aj_2.length cVx02, .int .i64 aj_3, .int .i64 aj_4, .int .i64 aj_5, .int .i64 aj_6, .int .i64 aj_7] 32 (0, 0)) := by rw [ew_]; exact blk_set (blk_set (blk_set (blk_set (blk_set (blk_set (blk_set (blk_set (BK_x0.out) 0 (.slice AVx00 aj_0.length cVx00)) 1 (.slice AVx01 aj_1.length cVx01)) 2 (.slice AVx02 aj_2.length cVx02)) 3 (.int .i64 aj_3)) 4 (.int .i64 aj_4)) 5 (.int .i64 aj_5)) 6 (.int .i64 aj_6)) 7 (.int .i64 aj_7)
  have hk_ : Kept w10_ w11_ (fun k_ => k_ = g_x0) := by rw [ew_]; exact Kept.setCell (Kept.setCell (Kept.setCell (Kept.setCell (Kept.setCell (Kept.setCell (Kept.setCell (Kept.setCell (Kept.refl _ (fun k_ => k_ = g_x0)) (Or.inl rfl) (.slice AVx00 aj_0.length cVx00)) (Or.inl rfl) (.slice AVx01 aj_1.length cVx01)) (Or.inl rfl) (.slice AVx02 aj_2.length cVx02)) (Or.inl rfl) (.int .i64 aj_3)) (Or.inl rfl) (.int .i64 aj_4)) (Or.inl rfl) (.int .i64 aj_5)) (Or.inl rfl) (.int .i64 aj_6)) (Or.inl rfl) (.int .i64 aj_7)
  have hb_ : Below w.heap.size w w11_ := by rw [ew_]; exact below_set (below_set (below_set (below_set (below_set (below_set (below_set (below_set (HB.out) HGW_x0.out) HGW_x0.out) HGW_x0.out) HGW_x0.out) HGW_x0.out) HGW_x0.out) HGW_x0.out) HGW_x0.out
  have HZ13 := Aside0.mk hk_.1
  replace HZ := Aside0.mk (And.intro HZ.out HZ13.out)
  clear HZ13
  clear ew_ HB
  have HB := Aside0.mk hb_
  have X_ := Aside0.mk (Vx00.out.kept hk_ (fun k h1_ h2_ h3_ => by have z_ := HZ.out; omega))
  clear Vx00
  have Vx00 := X_
  clear X_
  have X_ := Aside0.mk (Vx01.out.kept hk_ (fun k h1_ h2_ h3_ => by have z_ := HZ.out; omega))
  clear Vx01
  have Vx01 := X_
  clear X_
  have X_ := Aside0.mk (Vx02.out.kept hk_ (fun k h1_ h2_ h3_ => by have z_ := HZ.out; omega))
  clear Vx02
  have Vx02 := X_
  clear X_
  clear hcz_x0_0 hfz_x0_0 hcz_x0_1 hfz_x0_1 hcz_x0_2 hfz_x0_2 hcz_x0_3 hfz_x0_3 hcz_x0_4 hfz_x0_4 hcz_x0_5 hfz_x0_5 hcz_x0_6 hfz_x0_6 hcz_x0_7 hfz_x0_7
  clear hcz_aj_0 hfz_aj_0 hcz_aj_1 hfz_aj_1 hcz_aj_2 hfz_aj_2 hcz_aj_3 hfz_aj_3 hcz_aj_4 hfz_aj_4 hcz_aj_5 hfz_aj_5 hcz_aj_6 hfz_aj_6 hcz_aj_7 hfz_aj_7
  have X_ := Aside0.mk (blk_kept BK_aj.out hk_ (fun h3_ => by have z_ := HZ.out; omega))
  clear BK_aj
  have BK_aj := X_
  clear X_
  obtain ⟨hcz_aj_0, hfz_aj_0, hcz_aj_1, hfz_aj_1, hcz_aj_2, hfz_aj_2, hcz_aj_3, hfz_aj_3, hcz_aj_4, hfz_aj_4, hcz_aj_5, hfz_aj_5, hcz_aj_6, hfz_aj_6, hcz_aj_7, hfz_aj_7⟩ := cells8_ BK_aj.out
  clear hcz_ap_0 hfz_ap_0 hcz_ap_1 hfz_ap_1
  have X_ := Aside0.mk (blk_kept BK_ap.out hk_ (fun h3_ => by have z_ := HZ.out; omega))
  clear BK_ap
  have BK_ap := X_
  clear X_
  obtain ⟨hcz_ap_0, hfz_ap_0, hcz_ap_1, hfz_ap_1⟩ := cells2_ BK_ap.out
  clear BK_x0
  have BK_x0 := Aside0.mk hbk_
  obtain ⟨hcz_x0_0, hfz_x0_0, hcz_x0_1, hfz_x0_1, hcz_x0_2, hfz_x0_2, hcz_x0_3, hfz_x0_3, hcz_x0_4, hfz_x0_4, hcz_x0_5, hfz_x0_5, hcz_x0_6, hfz_x0_6, hcz_x0_7, hfz_x0_7⟩ := cells8_ BK_x0.out
  clear hbk_ hk_ hb_
  refine (laws_toPlan.calls kt_aP ap_0 _ _ ap_1 ap_0 ap_1 _ (by repeat (first | exact (Kd.C_below HR_ap_1.out HB.out) | (with_reducible refine Kd.C_alloc ?_ _) | (with_reducible refine Kd.C_drewN ?_ _) | (with_reducible refine Kd.C_drew ?_))) HC_ap_1.out Hkt_aP.out).mono ?_
  rintro e w12_ ⟨v1_n12, rfl, ho0_, hb_⟩
  have hp_ : Below w11_.heap.size w11_ w12_ := below_step (by repeat (first | exact Below.refl _ _ | (with_reducible apply below_alloc) | (with_reducible apply pw_below_drewN) | (with_reducible apply below_drew1))) hb_
  obtain ⟨B14, H14, eB_, eH_, hi1_, hi2_, hi3_⟩ := spot (W0 := w11_) (by repeat (first | exact Below.refl _ _ | (with_reducible apply below_alloc) | (with_reducible apply pw_below_drewN) | (with_reducible apply below_drew1))) hb_
  have HZ14 := Aside0.mk (⟨hi1_, hi2_, hi3_, hp_.size⟩ : _ ∧ _ ∧ _ ∧ _)
  have N14_0 := Aside0.mk (Own.new (W0 := w11_) (b := w.heap.size) (by repeat (first | exact Below.refl _ _ | (with_reducible apply below_alloc) | (with_reducible apply pw_below_drewN) | (with_reducible apply below_drew1))) ho0_ hb_ HB.out.size _ _ eB_ eH_)
  clear eB_ eH_ hi1_ hi2_ hi3_ ho0_
  replace HZ := Aside0.mk (And.intro HZ.out HZ14.out)
  clear HZ14
  replace HB := Aside0.mk (more HB.out hp_)
  replace Vx00 := Aside0.mk (Vx00.out.step hp_)
  replace Vx01 := Aside0.mk (Vx01.out.step hp_)
  replace Vx02 := Aside0.mk (Vx02.out.step hp_)
  clear hcz_aj_0 hfz_aj_0 hcz_aj_1 hfz_aj_1 hcz_aj_2 hfz_aj_2 hcz_aj_3 hfz_aj_3 hcz_aj_4 hfz_aj_4 hcz_aj_5 hfz_aj_5 hcz_aj_6 hfz_aj_6 hcz_aj_7 hfz_aj_7
  replace BK_aj := Aside0.mk (blk_below BK_aj.out hp_)
  obtain ⟨hcz_aj_0, hfz_aj_0, hcz_aj_1, hfz_aj_1, hcz_aj_2, hfz_aj_2, hcz_aj_3, hfz_aj_3, hcz_aj_4, hfz_aj_4, hcz_aj_5, hfz_aj_5, hcz_aj_6, hfz_aj_6, hcz_aj_7, hfz_aj_7⟩ := cells8_ BK_aj.out
  clear hcz_ap_0 hfz_ap_0 hcz_ap_1 hfz_ap_1
  replace BK_ap := Aside0.mk (blk_below BK_ap.out hp_)
  obtain ⟨hcz_ap_0, hfz_ap_0, hcz_ap_1, hfz_ap_1⟩ := cells2_ BK_ap.out
  clear hcz_x0_0 hfz_x0_0 hcz_x0_1 hfz_x0_1 hcz_x0_2 hfz_x0_2 hcz_x0_3 hfz_x0_3 hcz_x0_4 hfz_x0_4 hcz_x0_5 hfz_x0_5 hcz_x0_6 hfz_x0_6 hcz_x0_7 hfz_x0_7
  replace BK_x0 := Aside0.mk (blk_below BK_x0.out hp_)
  obtain ⟨hcz_x0_0, hfz_x0_0, hcz_x0_1, hfz_x0_1, hcz_x0_2, hfz_x0_2, hcz_x0_3, hfz_x0_3, hcz_x0_4, hfz_x0_4, hcz_x0_5, hfz_x0_5, hcz_x0_6, hfz_x0_6, hcz_x0_7, hfz_x0_7⟩ := cells8_ BK_x0.out
  clear hb_ hp_
  have Vx10 := N14_0
  clear N14_0
  obtain ⟨AVx10, cVx10, rfl, hc_⟩ := Vx10.out.reads
  have HCVx10 := Aside0.mk hc_
  clear hc_
  go_wp2_with (first | ((with_reducible refine gate_dst (N := 9) rfl ?_); refine box_event ?hg (N := 9) ?hd (cs := #[.int .i64 0, .slice none 0 0]) (t := 41) ?hr ?_; (case hd => rfl); (case hg => rfl); (case hr => first | (go_simp; done) | (go_simp; rfl)); intro g_x1 hg_ w13_ hbox_ hb_; have hp_ : Below w12_.heap.size w12_ w13_ := below_step (by repeat (first | exact Below.refl _ _ | (with_reducible apply below_alloc) | (with_reducible apply pw_below_drewN) | (with_reducible apply below_drew1))) hb_; have hz_ : w12_.heap.size ≤ g_x1 := Nat.le_trans (below_size (by repeat (first | exact Below.refl _ _ | (with_reducible apply below_alloc) | (with_reducible apply pw_below_drewN) | (with_reducible apply below_drew1)))) (Nat.le_of_eq hg_.symm); have HZ15 := Aside0.mk (⟨hz_, blk_lt hbox_, hp_.size⟩ : _ ∧ _ ∧ _); replace HZ := Aside0.mk (And.intro HZ.out HZ15.out); clear HZ15; have HGW_x1 := Aside0.mk (Nat.le_trans HB.out.size hz_ : w.heap.size ≤ g_x1); have hnb_x1_aj : g_x1 ≠ g_aj := Nat.ne_of_gt (Nat.lt_of_lt_of_le (blk_lt BK_aj.out) hz_); have hnb_aj_x1 : g_aj ≠ g_x1 := hnb_x1_aj.symm; have hnb_x1_ap : g_x1 ≠ g_ap := Nat.ne_of_gt (Nat.lt_of_lt_of_le (blk_lt BK_ap.out) hz_); have hnb_ap_x1 : g_ap ≠ g_x1 := hnb_x1_ap.symm; have hnb_x1_x0 : g_x1 ≠ g_x0 := Nat.ne_of_gt (Nat.lt_of_lt_of_le (blk_lt BK_x0.out) hz_); have hnb_x0_x1 : g_x0 ≠ g_x1 := hnb_x1_x0.symm; replace HB := Aside0.mk (more HB.out hp_); replace Vx00 := Aside0.mk (Vx00.out.step hp_); replace Vx01 := Aside0.mk (Vx01.out.step hp_); replace Vx02 := Aside0.mk (Vx02.out.step hp_); replace Vx10 := Aside0.mk (Vx10.out.step hp_); clear hcz_aj_0 hfz_aj_0 hcz_aj_1 hfz_aj_1 hcz_aj_2 hfz_aj_2 hcz_aj_3 hfz_aj_3 hcz_aj_4 hfz_aj_4 hcz_aj_5 hfz_aj_5 hcz_aj_6 hfz_aj_6 hcz_aj_7 hfz_aj_7; replace BK_aj := Aside0.mk (blk_below BK_aj.out hp_); obtain ⟨hcz_aj_0, hfz_aj_0, hcz_aj_1, hfz_aj_1, hcz_aj_2, hfz_aj_2, hcz_aj_3, hfz_aj_3, hcz_aj_4, hfz_aj_4, hcz_aj_5, hfz_aj_5, hcz_aj_6, hfz_aj_6, hcz_aj_7, hfz_aj_7⟩ := cells8_ BK_aj.out; clear hcz_ap_0 hfz_ap_0 hcz_ap_1 hfz_ap_1; replace BK_ap := Aside0.mk (blk_below BK_ap.out hp_); obtain ⟨hcz_ap_0, hfz_ap_0, hcz_ap_1, hfz_ap_1⟩ := cells2_ BK_ap.out; clear hcz_x0_0 hfz_x0_0 hcz_x0_1 hfz_x0_1 hcz_x0_2 hfz_x0_2 hcz_x0_3 hfz_x0_3 hcz_x0_4 hfz_x0_4 hcz_x0_5 hfz_x0_5 hcz_x0_6 hfz_x0_6 hcz_x0_7 hfz_x0_7; replace BK_x0 := Aside0.mk (blk_below BK_x0.out hp_); obtain ⟨hcz_x0_0, hfz_x0_0, hcz_x0_1, hfz_x0_1, hcz_x0_2, hfz_x0_2, hcz_x0_3, hfz_x0_3, hcz_x0_4, hfz_x0_4, hcz_x0_5, hfz_x0_5, hcz_x0_6, hfz_x0_6, hcz_x0_7, hfz_x0_7⟩ := cells8_ BK_x0.out; have BK_x1 := Aside0.mk hbox_; obtain ⟨hcz_x1_0, hfz_x1_0, hcz_x1_1, hfz_x1_1⟩ := cells2_ BK_x1.out; clear hg_ hbox_ hb_ hp_ hz_))
  obtain ⟨w14_, ew_⟩ : ∃ w_ : World, w_ = (World.setCell (World.setCell w13_ ⟨g_x1, 0, none⟩ (.int .i64 ap_0)) ⟨g_x1, 1, none⟩ (.slice AVx10 ap_1.length cVx10)) := ⟨_, rfl⟩
  rw [← ew_]
  have hbk_ : w14_.heap[g_x1]? = some (.cells #[.int .i64 ap_0, .slice AVx10 ap_1.length cVx10] 41 (0, 0)) := by rw [ew_]; exact blk_set (blk_set (BK_x1.out) 0 (.int .i64 ap_0)) 1 (.slice AVx10 ap_1.length cVx10)
  have hk_ : Kept w13_ w14_ (fun k_ => k_ = g_x1) := by rw [ew_]; exact Kept.setCell (Kept.setCell (Kept.refl _ (fun k_ => k_ = g_x1)) (Or.inl rfl) (.int .i64 ap_0)) (Or.inl rfl) (.slice AVx10 ap_1.length cVx10)
  have hb_ : Below w.heap.size w w14_ := by rw [ew_]; exact below_set (below_set (HB.out) HGW_x1.out) HGW_x1.out
  have HZ16 := Aside0.mk hk_.1
  replace HZ := Aside0.mk (And.intro HZ.out HZ16.out)
  clear HZ16
  clear ew_ HB
  have HB := Aside0.mk hb_
  have X_ := Aside0.mk (Vx00.out.kept hk_ (fun k h1_ h2_ h3_ => by have z_ := HZ.out; omega))
  clear Vx00
  have Vx00 := X_
  clear X_
  have X_ := Aside0.mk (Vx01.out.kept hk_ (fun k h1_ h2_ h3_ => by have z_ := HZ.out; omega))
  clear Vx01
  have Vx01 := X_
  clear X_
  have X_ := Aside0.mk (Vx02.out.kept hk_ (fun k h1_ h2_ h3_ => by have z_ := HZ.out; omega))
  clear Vx02
  have Vx02 := X_
  clear X_
  have X_ := Aside0.mk (Vx10.out.kept hk_ (fun k h1_ h2_ h3_ => by have z_ := HZ.out; omega))
  clear Vx10
  have Vx10 := X_
  clear X_
  clear hcz_x1_0 hfz_x1_0 hcz_x1_1 hfz_x1_1
  clear hcz_aj_0 hfz_aj_0 hcz_aj_1 hfz_aj_1 hcz_aj_2 hfz_aj_2 hcz_aj_3 hfz_aj_3 hcz_aj_4 hfz_aj_4 hcz_aj_5 hfz_aj_5 hcz_aj_6 hfz_aj_6 hcz_aj_7 hfz_aj_7
  have X_ := Aside0.mk (blk_kept BK_aj.out hk_ (fun h3_ => by have z_ := HZ.out; omega))
  clear BK_aj
  have BK_aj := X_
  clear X_
  obtain ⟨hcz_aj_0, hfz_aj_0, hcz_aj_1, hfz_aj_1, hcz_aj_2, hfz_aj_2, hcz_aj_3, hfz_aj_3, hcz_aj_4, hfz_aj_4, hcz_aj_5, hfz_aj_5, hcz_aj_6, hfz_aj_6, hcz_aj_7, hfz_aj_7⟩ := cells8_ BK_aj.out
  clear hcz_ap_0 hfz_ap_0 hcz_ap_1 hfz_ap_1
  have X_ := Aside0.mk (blk_kept BK_ap.out hk_ (fun h3_ => by have z_ := HZ.out; omega))
  clear BK_ap
  have BK_ap := X_
  clear X_
  obtain ⟨hcz_ap_0, hfz_ap_0, hcz_ap_1, hfz_ap_1⟩ := cells2_ BK_ap.out
  clear hcz_x0_0 hfz_x0_0 hcz_x0_1 hfz_x0_1 hcz_x0_2 hfz_x0_2 hcz_x0_3 hfz_x0_3 hcz_x0_4 hfz_x0_4 hcz_x0_5 hfz_x0_5 hcz_x0_6 hfz_x0_6 hcz_x0_7 hfz_x0_7
  have X_ := Aside0.mk (blk_kept BK_x0.out hk_ (fun h3_ => by have z_ := HZ.out; omega))
  clear BK_x0
  have BK_x0 := X_
  clear X_
  obtain ⟨hcz_x0_0, hfz_x0_0, hcz_x0_1, hfz_x0_1, hcz_x0_2, hfz_x0_2, hcz_x0_3, hfz_x0_3, hcz_x0_4, hfz_x0_4, hcz_x0_5, hfz_x0_5, hcz_x0_6, hfz_x0_6, hcz_x0_7, hfz_x0_7⟩ := cells8_ BK_x0.out
  clear BK_x1
  have BK_x1 := Aside0.mk hbk_
  obtain ⟨hcz_x1_0, hfz_x1_0, hcz_x1_1, hfz_x1_1⟩ := cells2_ BK_x1.out
  clear hbk_ hk_ hb_
  refine (impl_IsFeasible.calls kei_ _ _ aj_0 _ _ aj_1 _ _ aj_2 aj_3 aj_4 aj_5 aj_6 aj_7 ap_0 _ _ ap_1 r1v r2v _ (by repeat (first | exact Vx00.out.C | (with_reducible refine Kd.C_alloc ?_ _) | (with_reducible refine Kd.C_drewN ?_ _) | (with_reducible refine Kd.C_drew ?_))) HCVx00.out (by repeat (first | exact Vx01.out.C | (with_reducible refine Kd.C_alloc ?_ _) | (with_reducible refine Kd.C_drewN ?_ _) | (with_reducible refine Kd.C_drew ?_))) HCVx01.out (by repeat (first | exact Vx02.out.C | (with_reducible refine Kd.C_alloc ?_ _) | (with_reducible refine Kd.C_drewN ?_ _) | (with_reducible refine Kd.C_drew ?_))) HCVx02.out (by repeat (first | exact Vx10.out.C | (with_reducible refine Kd.C_alloc ?_ _) | (with_reducible refine Kd.C_drewN ?_ _) | (with_reducible refine Kd.C_drew ?_))) HCVx10.out HEI.out).mono ?_
  rintro e w15_ ⟨rfl, hd_⟩
  have hb_ := hd_
  clear hd_
  have hp_ : Below w14_.heap.size w14_ w15_ := below_step (by repeat (first | exact Below.refl _ _ | (with_reducible apply below_alloc) | (with_reducible apply pw_below_drewN) | (with_reducible apply below_drew1))) hb_
  have HZ17 := Aside0.mk hp_.size
  replace HZ := Aside0.mk (And.intro HZ.out HZ17.out)
  clear HZ17
  replace HB := Aside0.mk (more HB.out hp_)
  replace Vx00 := Aside0.mk (Vx00.out.step hp_)
  replace Vx01 := Aside0.mk (Vx01.out.step hp_)
  replace Vx02 := Aside0.mk (Vx02.out.step hp_)
  replace Vx10 := Aside0.mk (Vx10.out.step hp_)
  clear hcz_aj_0 hfz_aj_0 hcz_aj_1 hfz_aj_1 hcz_aj_2 hfz_aj_2 hcz_aj_3 hfz_aj_3 hcz_aj_4 hfz_aj_4 hcz_aj_5 hfz_aj_5 hcz_aj_6 hfz_aj_6 hcz_aj_7 hfz_aj_7
  replace BK_aj := Aside0.mk (blk_below BK_aj.out hp_)
  obtain ⟨hcz_aj_0, hfz_aj_0, hcz_aj_1, hfz_aj_1, hcz_aj_2, hfz_aj_2, hcz_aj_3, hfz_aj_3, hcz_aj_4, hfz_aj_4, hcz_aj_5, hfz_aj_5, hcz_aj_6, hfz_aj_6, hcz_aj_7, hfz_aj_7⟩ := cells8_ BK_aj.out
  clear hcz_ap_0 hfz_ap_0 hcz_ap_1 hfz_ap_1
  replace BK_ap := Aside0.mk (blk_below BK_ap.out hp_)
  obtain ⟨hcz_ap_0, hfz_ap_0, hcz_ap_1, hfz_ap_1⟩ := cells2_ BK_ap.out
  clear hcz_x0_0 hfz_x0_0 hcz_x0_1 hfz_x0_1 hcz_x0_2 hfz_x0_2 hcz_x0_3 hfz_x0_3 hcz_x0_4 hfz_x0_4 hcz_x0_5 hfz_x0_5 hcz_x0_6 hfz_x0_6 hcz_x0_7 hfz_x0_7
  replace BK_x0 := Aside0.mk (blk_below BK_x0.out hp_)
  obtain ⟨hcz_x0_0, hfz_x0_0, hcz_x0_1, hfz_x0_1, hcz_x0_2, hfz_x0_2, hcz_x0_3, hfz_x0_3, hcz_x0_4, hfz_x0_4, hcz_x0_5, hfz_x0_5, hcz_x0_6, hfz_x0_6, hcz_x0_7, hfz_x0_7⟩ := cells8_ BK_x0.out
  clear hcz_x1_0 hfz_x1_0 hcz_x1_1 hfz_x1_1
  replace BK_x1 := Aside0.mk (blk_below BK_x1.out hp_)
  obtain ⟨hcz_x1_0, hfz_x1_0, hcz_x1_1, hfz_x1_1⟩ := cells2_ BK_x1.out
  clear hb_ hp_
  go_wp2_with fail
  have hp_ : Below w15_.heap.size w15_ w15_.drew := below_drew1 (Below.refl _ _)
  replace HB := Aside0.mk (more HB.out hp_)
  replace Vx00 := Aside0.mk (Vx00.out.step hp_)
  replace Vx01 := Aside0.mk (Vx01.out.step hp_)
  replace Vx02 := Aside0.mk (Vx02.out.step hp_)
  replace Vx10 := Aside0.mk (Vx10.out.step hp_)
  clear hcz_aj_0 hfz_aj_0 hcz_aj_1 hfz_aj_1 hcz_aj_2 hfz_aj_2 hcz_aj_3 hfz_aj_3 hcz_aj_4 hfz_aj_4 hcz_aj_5 hfz_aj_5 hcz_aj_6 hfz_aj_6 hcz_aj_7 hfz_aj_7
  replace BK_aj := Aside0.mk (blk_below BK_aj.out hp_)
  clear hcz_ap_0 hfz_ap_0 hcz_ap_1 hfz_ap_1
  replace BK_ap := Aside0.mk (blk_below BK_ap.out hp_)
  clear hcz_x0_0 hfz_x0_0 hcz_x0_1 hfz_x0_1 hcz_x0_2 hfz_x0_2 hcz_x0_3 hfz_x0_3 hcz_x0_4 hfz_x0_4 hcz_x0_5 hfz_x0_5 hcz_x0_6 hfz_x0_6 hcz_x0_7 hfz_x0_7
  replace BK_x0 := Aside0.mk (blk_below BK_x0.out hp_)
  clear hcz_x1_0 hfz_x1_0 hcz_x1_1 hfz_x1_1
  replace BK_x1 := Aside0.mk (blk_below BK_x1.out hp_)
  have HZ18 := Aside0.mk hp_.size
  clear hp_
  refine start_ (n := 5) (S := fun w' => w'.heap[g_aj]? = some (.cells #[.slice A_aj_0 aj_0.length c_aj_0, .slice A_aj_1 aj_1.length c_aj_1, .slice A_aj_2 aj_2.length c_aj_2, .int .i64 aj_3, .int .i64 aj_4, .int .i64 aj_5, .int .i64 aj_6, .int .i64 aj_7] 27 (0, 0)) ∧ w'.heap[g_ap]? = some (.cells #[.int .i64 ap_0, .slice A_ap_1 ap_1.length c_ap_1] 37 (0, 0)) ∧ w'.heap[g_x0]? = some (.cells #[.slice AVx00 aj_0.length cVx00, .slice AVx01 aj_1.length cVx01, .slice AVx02 aj_2.length cVx02, .int .i64 aj_3, .int .i64 aj_4, .int .i64 aj_5, .int .i64 aj_6, .int .i64 aj_7] 32 (0, 0)) ∧ w'.heap[g_x1]? = some (.cells #[.int .i64 ap_0, .slice AVx10 ap_1.length cVx10] 41 (0, 0))) (ds := []) #[false, false, false, false, false] (by kernel_rfl) rfl rfl ⟨BK_aj.out, BK_ap.out, BK_x0.out, BK_x1.out⟩ (fun hHeld => ?_)
  generalize w15_.drew = w16_ at HB HZ18 Vx00 Vx01 Vx02 Vx10 BK_aj BK_ap BK_x0 BK_x1 hHeld ⊢
  replace HZ := Aside0.mk (And.intro HZ.out HZ18.out)
  clear HZ18
  refine take_ (i := 0) (N := some 48) (v := ?_) (a' := ?_) #[true, false, false, false, false] rfl rfl (by kernel_rfl) (fun _ _ _ h => h) (Or.inl ⟨by rfl, ?_⟩) hHeld ?_ ?_
  rotate_left
  · rintro w' ⟨s0_, s1_, s2_, s3_⟩; obtain ⟨s0, f0, s1, f1, s2, f2, s3, f3, s4, f4, s5, f5, s6, f6, s7, f7⟩ := cells8_ s0_; obtain ⟨s8, f8, s9, f9⟩ := cells2_ s1_; obtain ⟨s10, f10, s11, f11, s12, f12, s13, f13, s14, f14, s15, f15, s16, f16, s17, f17⟩ := cells8_ s2_; obtain ⟨s18, f18, s19, f19⟩ := cells2_ s3_
    go_simp
    with_reducible rfl
  rotate_left
  · simp only [Act.put, List.setIfInBounds_toArray, List.set_cons_zero, List.set_cons_succ, i64_w, i32_w]
    rfl
  refine take_ (i := 1) (N := some 49) (v := ?_) (a' := ?_) #[true, true, false, false, false] rfl rfl (by kernel_rfl) (fun _ _ _ h => h) (Or.inl ⟨by rfl, ?_⟩) hHeld ?_ ?_
  rotate_left
  · rintro w' ⟨s0_, s1_, s2_, s3_⟩; obtain ⟨s0, f0, s1, f1, s2, f2, s3, f3, s4, f4, s5, f5, s6, f6, s7, f7⟩ := cells8_ s0_; obtain ⟨s8, f8, s9, f9⟩ := cells2_ s1_; obtain ⟨s10, f10, s11, f11, s12, f12, s13, f13, s14, f14, s15, f15, s16, f16, s17, f17⟩ := cells8_ s2_; obtain ⟨s18, f18, s19, f19⟩ := cells2_ s3_
    go_simp
    with_reducible rfl
  rotate_left
  · simp only [Act.put, List.setIfInBounds_toArray, List.set_cons_zero, List.set_cons_succ, i64_w, i32_w]
    rfl
  refine one_ (i := 2) (N := some 50) #[true, true, true, false, false] rfl rfl (by kernel_rfl) (by decide) (fun K hK => ?_)
  refine goes_ Try.func17 (by kernel_rfl) rfl #[.agg #[.slice A_aj_0 aj_0.length c_aj_0, .slice A_aj_1 aj_1.length c_aj_1, .slice A_aj_2 aj_2.length c_aj_2, .int .i64 (aj_3), .int .i64 (aj_4), .int .i64 (aj_5), .int .i64 (aj_6), .int .i64 (aj_7)]] (by rfl) rfl rfl (by (try simp only [List.map_toArray, List.map_cons, List.map_nil]); first | done | rfl | (simp only [List.length_drop, List.length_take]; rfl)) ?_
  refine (laws_toJob.calls kt_aJ _ _ aj_0 _ _ aj_1 _ _ aj_2 aj_3 aj_4 aj_5 aj_6 aj_7 aj_0 aj_1 aj_2 aj_3 aj_4 aj_5 aj_6 aj_7 _ (by repeat (first | exact (Kd.C_below HR_aj_0.out HB.out) | (with_reducible refine Kd.C_alloc ?_ _) | (with_reducible refine Kd.C_drewN ?_ _) | (with_reducible refine Kd.C_drew ?_))) HC_aj_0.out (by repeat (first | exact (Kd.C_below HR_aj_1.out HB.out) | (with_reducible refine Kd.C_alloc ?_ _) | (with_reducible refine Kd.C_drewN ?_ _) | (with_reducible refine Kd.C_drew ?_))) HC_aj_1.out (by repeat (first | exact (Kd.C_below HR_aj_2.out HB.out) | (with_reducible refine Kd.C_alloc ?_ _) | (with_reducible refine Kd.C_drewN ?_ _) | (with_reducible refine Kd.C_drew ?_))) HC_aj_2.out Hkt_aJ.out).mono ?_
  rintro e w17_ ⟨v0_n17, v1_n17, v2_n17, rfl, ho0_, ho1_, ho2_, hb_⟩
  refine ⟨_, rfl, ?_⟩
  have hp_ : Below w16_.heap.size w16_ w17_ := below_step (by repeat (first | exact Below.refl _ _ | (with_reducible apply below_alloc) | (with_reducible apply pw_below_drewN) | (with_reducible apply below_drew1))) hb_
  obtain ⟨B19, H19, eB_, eH_, hi1_, hi2_, hi3_⟩ := spot (W0 := w16_) (by repeat (first | exact Below.refl _ _ | (with_reducible apply below_alloc) | (with_reducible apply pw_below_drewN) | (with_reducible apply below_drew1))) hb_
  have HZ19 := Aside0.mk (⟨hi1_, hi2_, hi3_, hp_.size⟩ : _ ∧ _ ∧ _ ∧ _)
  have N19_0 := Aside0.mk (OwnS.new (W0 := w16_) (b := w.heap.size) (by repeat (first | exact Below.refl _ _ | (with_reducible apply below_alloc) | (with_reducible apply pw_below_drewN) | (with_reducible apply below_drew1))) ho0_ hb_ HB.out.size _ _ eB_ eH_)
  have N19_1 := Aside0.mk (Own.new (W0 := w16_) (b := w.heap.size) (by repeat (first | exact Below.refl _ _ | (with_reducible apply below_alloc) | (with_reducible apply pw_below_drewN) | (with_reducible apply below_drew1))) (tightRow rfl ho1_) hb_ HB.out.size _ _ eB_ eH_)
  have N19_2 := Aside0.mk (Own.new (W0 := w16_) (b := w.heap.size) (by repeat (first | exact Below.refl _ _ | (with_reducible apply below_alloc) | (with_reducible apply pw_below_drewN) | (with_reducible apply below_drew1))) (tightRow rfl ho2_) hb_ HB.out.size _ _ eB_ eH_)
  clear eB_ eH_ hi1_ hi2_ hi3_ ho0_ ho1_ ho2_
  replace HZ := Aside0.mk (And.intro HZ.out HZ19.out)
  clear HZ19
  replace HB := Aside0.mk (more HB.out hp_)
  replace Vx00 := Aside0.mk (Vx00.out.step hp_)
  replace Vx01 := Aside0.mk (Vx01.out.step hp_)
  replace Vx02 := Aside0.mk (Vx02.out.step hp_)
  replace Vx10 := Aside0.mk (Vx10.out.step hp_)
  replace BK_aj := Aside0.mk (blk_below BK_aj.out hp_)
  replace BK_ap := Aside0.mk (blk_below BK_ap.out hp_)
  replace BK_x0 := Aside0.mk (blk_below BK_x0.out hp_)
  replace BK_x1 := Aside0.mk (blk_below BK_x1.out hp_)
  clear hb_ hp_
  have T19_0 := N19_0
  clear N19_0
  obtain ⟨AT19_0, cT19_0, rfl, hc_⟩ := T19_0.out.reads
  have HCT19_0 := Aside0.mk hc_
  clear hc_
  have T19_1 := N19_1
  clear N19_1
  obtain ⟨AT19_1, cT19_1, rfl, hc_⟩ := T19_1.out.reads
  have HCT19_1 := Aside0.mk hc_
  clear hc_
  have T19_2 := N19_2
  clear N19_2
  obtain ⟨AT19_2, cT19_2, rfl, hc_⟩ := T19_2.out.reads
  have HCT19_2 := Aside0.mk hc_
  clear hc_
  refine hK.out _ _ ⟨BK_aj.out, BK_ap.out, BK_x0.out, BK_x1.out⟩ (fun hHeld => ?_)
  clear hK K
  refine norm_ (a' := ?_) ?_ ?_
  rotate_left
  · show Act.put _ (some 50) _ = _
    simp only [Act.put, List.setIfInBounds_toArray, List.set_cons_zero, List.set_cons_succ, i64_w, i32_w]
    rfl
  refine one_ (i := 3) (N := some 51) #[true, true, true, true, false] rfl rfl (by kernel_rfl) (by decide) (fun K hK => ?_)
  refine goes_ Try.func19 (by kernel_rfl) rfl #[.agg #[.slice AVx00 aj_0.length cVx00, .slice AVx01 aj_1.length cVx01, .slice AVx02 aj_2.length cVx02, .int .i64 (aj_3), .int .i64 (aj_4), .int .i64 (aj_5), .int .i64 (aj_6), .int .i64 (aj_7)], .agg #[.slice AT19_0 aj_0.length cT19_0, .slice AT19_1 aj_1.length cT19_1, .slice AT19_2 aj_2.length cT19_2, .int .i64 (aj_3), .int .i64 (aj_4), .int .i64 (aj_5), .int .i64 (aj_6), .int .i64 (aj_7)]] (by rfl) rfl rfl (by (try simp only [List.map_toArray, List.map_cons, List.map_nil]); first | done | rfl | (simp only [List.length_drop, List.length_take]; rfl)) ?_
  refine (laws_eqJob.calls kq_aJ _ _ aj_0 _ _ aj_1 _ _ aj_2 aj_3 aj_4 aj_5 aj_6 aj_7 _ _ aj_0 _ _ aj_1 _ _ aj_2 aj_3 aj_4 aj_5 aj_6 aj_7 true _ (by repeat (first | exact Vx00.out.C | (with_reducible refine Kd.C_alloc ?_ _) | (with_reducible refine Kd.C_drewN ?_ _) | (with_reducible refine Kd.C_drew ?_))) HCVx00.out (by repeat (first | exact Vx01.out.C | (with_reducible refine Kd.C_alloc ?_ _) | (with_reducible refine Kd.C_drewN ?_ _) | (with_reducible refine Kd.C_drew ?_))) HCVx01.out (by repeat (first | exact Vx02.out.C | (with_reducible refine Kd.C_alloc ?_ _) | (with_reducible refine Kd.C_drewN ?_ _) | (with_reducible refine Kd.C_drew ?_))) HCVx02.out (by repeat (first | exact T19_0.out.C | (with_reducible refine Kd.C_alloc ?_ _) | (with_reducible refine Kd.C_drewN ?_ _) | (with_reducible refine Kd.C_drew ?_))) HCT19_0.out (by repeat (first | exact T19_1.out.C | (with_reducible refine Kd.C_alloc ?_ _) | (with_reducible refine Kd.C_drewN ?_ _) | (with_reducible refine Kd.C_drew ?_))) HCT19_1.out (by repeat (first | exact T19_2.out.C | (with_reducible refine Kd.C_alloc ?_ _) | (with_reducible refine Kd.C_drewN ?_ _) | (with_reducible refine Kd.C_drew ?_))) HCT19_2.out Hkq_aJ.out).mono ?_
  rintro e w18_ ⟨rfl, hd_⟩
  refine ⟨_, rfl, ?_⟩
  have hb_ := hd_
  clear hd_
  have hp_ : Below w17_.heap.size w17_ w18_ := below_step (by repeat (first | exact Below.refl _ _ | (with_reducible apply below_alloc) | (with_reducible apply pw_below_drewN) | (with_reducible apply below_drew1))) hb_
  have HZ20 := Aside0.mk hp_.size
  replace HZ := Aside0.mk (And.intro HZ.out HZ20.out)
  clear HZ20
  replace HB := Aside0.mk (more HB.out hp_)
  replace Vx00 := Aside0.mk (Vx00.out.step hp_)
  replace Vx01 := Aside0.mk (Vx01.out.step hp_)
  replace Vx02 := Aside0.mk (Vx02.out.step hp_)
  replace Vx10 := Aside0.mk (Vx10.out.step hp_)
  replace T19_0 := Aside0.mk (T19_0.out.step hp_)
  replace T19_1 := Aside0.mk (T19_1.out.step hp_)
  replace T19_2 := Aside0.mk (T19_2.out.step hp_)
  replace BK_aj := Aside0.mk (blk_below BK_aj.out hp_)
  replace BK_ap := Aside0.mk (blk_below BK_ap.out hp_)
  replace BK_x0 := Aside0.mk (blk_below BK_x0.out hp_)
  replace BK_x1 := Aside0.mk (blk_below BK_x1.out hp_)
  clear hb_ hp_
  refine hK.out _ _ ⟨BK_aj.out, BK_ap.out, BK_x0.out, BK_x1.out⟩ (fun hHeld => ?_)
  clear hK K
  refine norm_ (a' := ?_) ?_ ?_
  rotate_left
  · show Act.put _ (some 51) _ = _
    simp only [Act.put, List.setIfInBounds_toArray, List.set_cons_zero, List.set_cons_succ, i64_w, i32_w]
    rfl
  refine pure_ (i := 4) (N := some 52) (v := ?_) (a' := ?_) #[true, true, true, true, true] rfl rfl (by kernel_rfl) (fun _ _ _ h => h) (Or.inl ⟨by rfl, ?_⟩) ?_ ?_
  rotate_left
  · intro w'
    go_simp
    with_reducible rfl
  rotate_left
  · simp only [Act.put, List.setIfInBounds_toArray, List.set_cons_zero, List.set_cons_succ, i64_w, i32_w]
    rfl
  refine done_ (by kernel_rfl) ?_
  obtain ⟨hcz_aj_0, hfz_aj_0, hcz_aj_1, hfz_aj_1, hcz_aj_2, hfz_aj_2, hcz_aj_3, hfz_aj_3, hcz_aj_4, hfz_aj_4, hcz_aj_5, hfz_aj_5, hcz_aj_6, hfz_aj_6, hcz_aj_7, hfz_aj_7⟩ := cells8_ BK_aj.out
  obtain ⟨hcz_ap_0, hfz_ap_0, hcz_ap_1, hfz_ap_1⟩ := cells2_ BK_ap.out
  obtain ⟨hcz_x0_0, hfz_x0_0, hcz_x0_1, hfz_x0_1, hcz_x0_2, hfz_x0_2, hcz_x0_3, hfz_x0_3, hcz_x0_4, hfz_x0_4, hcz_x0_5, hfz_x0_5, hcz_x0_6, hfz_x0_6, hcz_x0_7, hfz_x0_7⟩ := cells8_ BK_x0.out
  obtain ⟨hcz_x1_0, hfz_x1_0, hcz_x1_1, hfz_x1_1⟩ := cells2_ BK_x1.out
  clear T19_0 HCT19_0
  clear T19_1 HCT19_1
  clear T19_2 HCT19_2
  go_wp2_with fail
  have hp_ : Below w18_.heap.size w18_ w18_.drew := below_drew1 (Below.refl _ _)
  replace HB := Aside0.mk (more HB.out hp_)
  replace Vx00 := Aside0.mk (Vx00.out.step hp_)
  replace Vx01 := Aside0.mk (Vx01.out.step hp_)
  replace Vx02 := Aside0.mk (Vx02.out.step hp_)
  replace Vx10 := Aside0.mk (Vx10.out.step hp_)
  clear hcz_aj_0 hfz_aj_0 hcz_aj_1 hfz_aj_1 hcz_aj_2 hfz_aj_2 hcz_aj_3 hfz_aj_3 hcz_aj_4 hfz_aj_4 hcz_aj_5 hfz_aj_5 hcz_aj_6 hfz_aj_6 hcz_aj_7 hfz_aj_7
  replace BK_aj := Aside0.mk (blk_below BK_aj.out hp_)
  clear hcz_ap_0 hfz_ap_0 hcz_ap_1 hfz_ap_1
  replace BK_ap := Aside0.mk (blk_below BK_ap.out hp_)
  clear hcz_x0_0 hfz_x0_0 hcz_x0_1 hfz_x0_1 hcz_x0_2 hfz_x0_2 hcz_x0_3 hfz_x0_3 hcz_x0_4 hfz_x0_4 hcz_x0_5 hfz_x0_5 hcz_x0_6 hfz_x0_6 hcz_x0_7 hfz_x0_7
  replace BK_x0 := Aside0.mk (blk_below BK_x0.out hp_)
  clear hcz_x1_0 hfz_x1_0 hcz_x1_1 hfz_x1_1
  replace BK_x1 := Aside0.mk (blk_below BK_x1.out hp_)
  have HZ21 := Aside0.mk hp_.size
  clear hp_
  refine start_ (n := 5) (S := fun w' => w'.heap[g_aj]? = some (.cells #[.slice A_aj_0 aj_0.length c_aj_0, .slice A_aj_1 aj_1.length c_aj_1, .slice A_aj_2 aj_2.length c_aj_2, .int .i64 aj_3, .int .i64 aj_4, .int .i64 aj_5, .int .i64 aj_6, .int .i64 aj_7] 27 (0, 0)) ∧ w'.heap[g_ap]? = some (.cells #[.int .i64 ap_0, .slice A_ap_1 ap_1.length c_ap_1] 37 (0, 0)) ∧ w'.heap[g_x0]? = some (.cells #[.slice AVx00 aj_0.length cVx00, .slice AVx01 aj_1.length cVx01, .slice AVx02 aj_2.length cVx02, .int .i64 aj_3, .int .i64 aj_4, .int .i64 aj_5, .int .i64 aj_6, .int .i64 aj_7] 32 (0, 0)) ∧ w'.heap[g_x1]? = some (.cells #[.int .i64 ap_0, .slice AVx10 ap_1.length cVx10] 41 (0, 0))) (ds := []) #[false, false, false, false, false] (by kernel_rfl) rfl rfl ⟨BK_aj.out, BK_ap.out, BK_x0.out, BK_x1.out⟩ (fun hHeld => ?_)
  generalize w18_.drew = w19_ at HB HZ21 Vx00 Vx01 Vx02 Vx10 BK_aj BK_ap BK_x0 BK_x1 hHeld ⊢
  replace HZ := Aside0.mk (And.intro HZ.out HZ21.out)
  clear HZ21
  refine take_ (i := 0) (N := some 53) (v := ?_) (a' := ?_) #[true, false, false, false, false] rfl rfl (by kernel_rfl) (fun _ _ _ h => h) (Or.inl ⟨by rfl, ?_⟩) hHeld ?_ ?_
  rotate_left
  · rintro w' ⟨s0_, s1_, s2_, s3_⟩; obtain ⟨s0, f0, s1, f1, s2, f2, s3, f3, s4, f4, s5, f5, s6, f6, s7, f7⟩ := cells8_ s0_; obtain ⟨s8, f8, s9, f9⟩ := cells2_ s1_; obtain ⟨s10, f10, s11, f11, s12, f12, s13, f13, s14, f14, s15, f15, s16, f16, s17, f17⟩ := cells8_ s2_; obtain ⟨s18, f18, s19, f19⟩ := cells2_ s3_
    go_simp
    with_reducible rfl
  rotate_left
  · simp only [Act.put, List.setIfInBounds_toArray, List.set_cons_zero, List.set_cons_succ, i64_w, i32_w]
    rfl
  refine take_ (i := 1) (N := some 54) (v := ?_) (a' := ?_) #[true, true, false, false, false] rfl rfl (by kernel_rfl) (fun _ _ _ h => h) (Or.inl ⟨by rfl, ?_⟩) hHeld ?_ ?_
  rotate_left
  · rintro w' ⟨s0_, s1_, s2_, s3_⟩; obtain ⟨s0, f0, s1, f1, s2, f2, s3, f3, s4, f4, s5, f5, s6, f6, s7, f7⟩ := cells8_ s0_; obtain ⟨s8, f8, s9, f9⟩ := cells2_ s1_; obtain ⟨s10, f10, s11, f11, s12, f12, s13, f13, s14, f14, s15, f15, s16, f16, s17, f17⟩ := cells8_ s2_; obtain ⟨s18, f18, s19, f19⟩ := cells2_ s3_
    go_simp
    with_reducible rfl
  rotate_left
  · simp only [Act.put, List.setIfInBounds_toArray, List.set_cons_zero, List.set_cons_succ, i64_w, i32_w]
    rfl
  refine one_ (i := 2) (N := some 55) #[true, true, true, false, false] rfl rfl (by kernel_rfl) (by decide) (fun K hK => ?_)
  refine goes_ Try.func22 (by kernel_rfl) rfl #[.agg #[.int .i64 (ap_0), .slice A_ap_1 ap_1.length c_ap_1]] (by rfl) rfl rfl (by (try simp only [List.map_toArray, List.map_cons, List.map_nil]); first | done | rfl | (simp only [List.length_drop, List.length_take]; rfl)) ?_
  refine (laws_toPlan.calls kt_aP ap_0 _ _ ap_1 ap_0 ap_1 _ (by repeat (first | exact (Kd.C_below HR_ap_1.out HB.out) | (with_reducible refine Kd.C_alloc ?_ _) | (with_reducible refine Kd.C_drewN ?_ _) | (with_reducible refine Kd.C_drew ?_))) HC_ap_1.out Hkt_aP.out).mono ?_
  rintro e w20_ ⟨v1_n20, rfl, ho0_, hb_⟩
  refine ⟨_, rfl, ?_⟩
  have hp_ : Below w19_.heap.size w19_ w20_ := below_step (by repeat (first | exact Below.refl _ _ | (with_reducible apply below_alloc) | (with_reducible apply pw_below_drewN) | (with_reducible apply below_drew1))) hb_
  obtain ⟨B22, H22, eB_, eH_, hi1_, hi2_, hi3_⟩ := spot (W0 := w19_) (by repeat (first | exact Below.refl _ _ | (with_reducible apply below_alloc) | (with_reducible apply pw_below_drewN) | (with_reducible apply below_drew1))) hb_
  have HZ22 := Aside0.mk (⟨hi1_, hi2_, hi3_, hp_.size⟩ : _ ∧ _ ∧ _ ∧ _)
  have N22_0 := Aside0.mk (Own.new (W0 := w19_) (b := w.heap.size) (by repeat (first | exact Below.refl _ _ | (with_reducible apply below_alloc) | (with_reducible apply pw_below_drewN) | (with_reducible apply below_drew1))) ho0_ hb_ HB.out.size _ _ eB_ eH_)
  clear eB_ eH_ hi1_ hi2_ hi3_ ho0_
  replace HZ := Aside0.mk (And.intro HZ.out HZ22.out)
  clear HZ22
  replace HB := Aside0.mk (more HB.out hp_)
  replace Vx00 := Aside0.mk (Vx00.out.step hp_)
  replace Vx01 := Aside0.mk (Vx01.out.step hp_)
  replace Vx02 := Aside0.mk (Vx02.out.step hp_)
  replace Vx10 := Aside0.mk (Vx10.out.step hp_)
  replace BK_aj := Aside0.mk (blk_below BK_aj.out hp_)
  replace BK_ap := Aside0.mk (blk_below BK_ap.out hp_)
  replace BK_x0 := Aside0.mk (blk_below BK_x0.out hp_)
  replace BK_x1 := Aside0.mk (blk_below BK_x1.out hp_)
  clear hb_ hp_
  have T22_0 := N22_0
  clear N22_0
  obtain ⟨AT22_0, cT22_0, rfl, hc_⟩ := T22_0.out.reads
  have HCT22_0 := Aside0.mk hc_
  clear hc_
  refine hK.out _ _ ⟨BK_aj.out, BK_ap.out, BK_x0.out, BK_x1.out⟩ (fun hHeld => ?_)
  clear hK K
  refine norm_ (a' := ?_) ?_ ?_
  rotate_left
  · show Act.put _ (some 55) _ = _
    simp only [Act.put, List.setIfInBounds_toArray, List.set_cons_zero, List.set_cons_succ, i64_w, i32_w]
    rfl
  refine one_ (i := 3) (N := some 56) #[true, true, true, true, false] rfl rfl (by kernel_rfl) (by decide) (fun K hK => ?_)
  refine goes_ Try.func24 (by kernel_rfl) rfl #[.agg #[.int .i64 (ap_0), .slice AVx10 ap_1.length cVx10], .agg #[.int .i64 (ap_0), .slice AT22_0 ap_1.length cT22_0]] (by rfl) rfl rfl (by (try simp only [List.map_toArray, List.map_cons, List.map_nil]); first | done | rfl | (simp only [List.length_drop, List.length_take]; rfl)) ?_
  refine (laws_eqPlan.calls kq_aP ap_0 _ _ ap_1 ap_0 _ _ ap_1 true _ (by repeat (first | exact Vx10.out.C | (with_reducible refine Kd.C_alloc ?_ _) | (with_reducible refine Kd.C_drewN ?_ _) | (with_reducible refine Kd.C_drew ?_))) HCVx10.out (by repeat (first | exact T22_0.out.C | (with_reducible refine Kd.C_alloc ?_ _) | (with_reducible refine Kd.C_drewN ?_ _) | (with_reducible refine Kd.C_drew ?_))) HCT22_0.out Hkq_aP.out).mono ?_
  rintro e w21_ ⟨rfl, hd_⟩
  refine ⟨_, rfl, ?_⟩
  have hb_ := hd_
  clear hd_
  have hp_ : Below w20_.heap.size w20_ w21_ := below_step (by repeat (first | exact Below.refl _ _ | (with_reducible apply below_alloc) | (with_reducible apply pw_below_drewN) | (with_reducible apply below_drew1))) hb_
  have HZ23 := Aside0.mk hp_.size
  replace HZ := Aside0.mk (And.intro HZ.out HZ23.out)
  clear HZ23
  replace HB := Aside0.mk (more HB.out hp_)
  replace Vx00 := Aside0.mk (Vx00.out.step hp_)
  replace Vx01 := Aside0.mk (Vx01.out.step hp_)
  replace Vx02 := Aside0.mk (Vx02.out.step hp_)
  replace Vx10 := Aside0.mk (Vx10.out.step hp_)
  replace T22_0 := Aside0.mk (T22_0.out.step hp_)
  replace BK_aj := Aside0.mk (blk_below BK_aj.out hp_)
  replace BK_ap := Aside0.mk (blk_below BK_ap.out hp_)
  replace BK_x0 := Aside0.mk (blk_below BK_x0.out hp_)
  replace BK_x1 := Aside0.mk (blk_below BK_x1.out hp_)
  clear hb_ hp_
  refine hK.out _ _ ⟨BK_aj.out, BK_ap.out, BK_x0.out, BK_x1.out⟩ (fun hHeld => ?_)
  clear hK K
  refine norm_ (a' := ?_) ?_ ?_
  rotate_left
  · show Act.put _ (some 56) _ = _
    simp only [Act.put, List.setIfInBounds_toArray, List.set_cons_zero, List.set_cons_succ, i64_w, i32_w]
    rfl
  refine pure_ (i := 4) (N := some 57) (v := ?_) (a' := ?_) #[true, true, true, true, true] rfl rfl (by kernel_rfl) (fun _ _ _ h => h) (Or.inl ⟨by rfl, ?_⟩) ?_ ?_
  rotate_left
  · intro w'
    go_simp
    with_reducible rfl
  rotate_left
  · simp only [Act.put, List.setIfInBounds_toArray, List.set_cons_zero, List.set_cons_succ, i64_w, i32_w]
    rfl
  refine done_ (by kernel_rfl) ?_
  obtain ⟨hcz_aj_0, hfz_aj_0, hcz_aj_1, hfz_aj_1, hcz_aj_2, hfz_aj_2, hcz_aj_3, hfz_aj_3, hcz_aj_4, hfz_aj_4, hcz_aj_5, hfz_aj_5, hcz_aj_6, hfz_aj_6, hcz_aj_7, hfz_aj_7⟩ := cells8_ BK_aj.out
  obtain ⟨hcz_ap_0, hfz_ap_0, hcz_ap_1, hfz_ap_1⟩ := cells2_ BK_ap.out
  obtain ⟨hcz_x0_0, hfz_x0_0, hcz_x0_1, hfz_x0_1, hcz_x0_2, hfz_x0_2, hcz_x0_3, hfz_x0_3, hcz_x0_4, hfz_x0_4, hcz_x0_5, hfz_x0_5, hcz_x0_6, hfz_x0_6, hcz_x0_7, hfz_x0_7⟩ := cells8_ BK_x0.out
  obtain ⟨hcz_x1_0, hfz_x1_0, hcz_x1_1, hfz_x1_1⟩ := cells2_ BK_x1.out
  clear T22_0 HCT22_0
  go_wp2_with fail
  go_ret
  exact ⟨rfl, by repeat (first | exact HB.out | (with_reducible apply below_alloc) | (with_reducible apply pw_below_drewN) | (with_reducible apply below_drew1))⟩
end Go.Proofs.Ytmlmghkkalljbaa.WalkFnExactIsFeasible

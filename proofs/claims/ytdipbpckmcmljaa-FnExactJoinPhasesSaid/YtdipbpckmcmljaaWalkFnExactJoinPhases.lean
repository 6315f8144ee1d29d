/- The walk of FnExactJoinPhases's own text: for all arguments it returns true, and nothing that lay in memory before has turned; over the contracts of what it calls; no further condition. -/
import Derived.Test.YtdipbpckmcmljaaPureFnExactJoinPhases
import Derived.Test.YtdipbpckmcmljaaLaw
namespace Go.Proofs.Ytdipbpckmcmljaa.WalkFnExactJoinPhases
open Go.RowKit Go.Proofs.YtdipbpckmcmljaaW.PrintWords Go.Proofs.YtdipbpckmcmljaaW.PrintLast Go.Proofs.YtdipbpckmcmljaaW.PrintMore Go.Proofs.Ytdipbpckmcmljaa.PFnExactJoinPhases Go.Proofs.Ytdipbpckmcmljaa.Gen Go.Proofs.Ytdipbpckmcmljaa.Pure Go.Proofs.Ytdipbpckmcmljaa.Law Go.Proofs.Ytdipbpckmcmljaa.Opn
set_option linter.unusedVariables false
set_option linter.unusedSimpArgs false
theorem markSS_calls (l0 : List (List Int)) (a1 : Int) (ha : 0 ≤ a1) (hb : a1 + (totL l0 : Int) < 1000000000000) (P0 : Nat → Prop) (u : Value) (w0 w : World) (hB : Below w0.heap.size w0 w) (ho : Kd.S (Kd.slice 3 (Kd.int .i64)) 24 w w0.heap.size P0 u l0) :
    Calls Try.prog 21 #[u, .int .i64 a1] w fun e w' => e = .returned (.int .i64 (a1 + (totL l0 : Int))) ∧ Kd.S (Kd.slice 3 (Kd.int .i64)) 24 w' w0.heap.size (fun k_ => P0 k_ ∨ w.heap.size ≤ k_) u (marksSS l0 a1) ∧ Below w0.heap.size w0 w' ∧ Kept w w' (fun k_ => P0 k_) := by
  have HO := Aside0.mk (Kd.S_mono ho (fun k_ hk => (Or.inl hk : P0 k_ ∨ w.heap.size ≤ k_)))
  have HK := Aside0.mk (Kept.refl w (fun k_ => P0 k_))
  have HB := Aside0.mk hB
  obtain ⟨A, c, rfl⟩ := Kd.S_slice ho
  have HL := (Kd.S_reads' ho).1
  have hmax : l0.length ≤ 9223372036854775807 := (Kd.S_reads' ho).2.2.2.1
  clear ho hB
  go_enter Try.func21, Try.ntmps21
  go_wp2
  go_loopg [1, 5] l0.length (fun kq v1 v5 w' => ∃ pre suf : List (List Int), pre ++ suf = l0 ∧ v5 = .int .i64 (pre.length : Int) ∧ v1 = .int .i64 (a1 + (totL pre : Int)) ∧ Aside0 (kq = suf.length) ∧ Aside0 (Kd.S (Kd.slice 3 (Kd.int .i64)) 24 w' w0.heap.size (fun k_ => P0 k_ ∨ w.heap.size ≤ k_) (.slice A l0.length c) (marksSS pre a1 ++ suf)) ∧ Aside0 (Below w0.heap.size w0 w') ∧ Aside0 (Kept w w' (fun k_ => P0 k_)))
  case atStart => exact ⟨[], l0, rfl, rfl, by simp [totL], ⟨rfl⟩, HO, HB, HK⟩
  case round =>
    obtain ⟨pre, suf, hl, rfl, rfl, HQ, HO, HB, HK⟩ := hrel
    cases suf with
    | nil =>
      have hpl : l0.length = pre.length := by rw [← hl]; simp
      have c1 : decide ((pre.length : Int) < (l0.length : Int)) = false := decide_eq_false (by omega)
      have c2 : decide (pre.length < l0.length) = false := decide_eq_false (by omega)
      have HP := Aside0.mk hpl
      have HE := Aside0.mk hl
      clear hl hpl
      go_wp2
      go_ret
      have e := HE.out
      rw [List.append_nil] at e
      subst e
      have o := HO.out
      rw [List.append_nil] at o
      exact ⟨rfl, o, HB.out, HK.out⟩
    | cons x suf =>
      have hpl : l0.length = pre.length + suf.length + 1 := by rw [← hl]; simp; omega
      have hlt : (pre.length : Int) < (l0.length : Int) := by omega
      have c1 : decide ((pre.length : Int) < (l0.length : Int)) = true := decide_eq_true hlt
      have c2 : decide (pre.length < l0.length) = true := decide_eq_true (by omega)
      have hcl : (marksSS pre a1 ++ x :: suf).length = l0.length := by rw [List.length_append, marksSS_len, List.length_cons]; omega
      obtain ⟨g, cap, eo, hg1, hg2, _⟩ := Kd.S_form HO.out (by rw [hcl]; omega)
      rw [hcl] at eo
      cases eo
      obtain ⟨oki, ce, hcel, hM, hcc, hfr, hoki, hH⟩ := Kd.S_elem HO.out [] (pre.length : Int) (Int.natCast_nonneg _) hlt
      obtain ⟨ve, rfl, hR⟩ := hM
      have hx := hcc 0 _ rfl
      simp only [show (Kd.slice 3 (Kd.int .i64)).sz = 1 from rfl, Nat.mul_one, Nat.add_zero, Int.toNat_natCast] at hx
      rw [Int.toNat_natCast, show (marksSS pre a1 ++ x :: suf).getD pre.length [] = x by rw [← marksSS_len pre a1]; simp] at hR
      have htot : totL l0 = totL pre + x.length + totL suf := by rw [← hl]; simp [totL]; omega
      obtain ⟨kk, hk⟩ := (markIntS_ev x (a1 + (totL pre : Int)) (by omega) (by omega)).rounds
      have HR := Aside0.mk hR
      have HH := Aside0.mk hH
      have HE := Aside0.mk hl
      have HP := Aside0.mk hpl
      have HT := Aside0.mk htot
      have HMK := Aside0.mk hk
      have HOK := Aside0.mk hoki
      have HC := Aside0.mk hcl
      clear hl hpl htot hk hoki hcl hcc hcel hfr hR hH
      go_wp2_with fail
      refine (laws_markIntS.calls kk oki ve x _ _ _ w0 wr HB.out HR.out HMK.out).mono ?_
      rintro e w2 ⟨rfl, hr2, hb2, hk2⟩
      have HS2 := Aside0.mk (show Kd.S (Kd.slice 3 (Kd.int .i64)) 24 w2 w0.heap.size (fun k_ => P0 k_ ∨ w.heap.size ≤ k_) (.slice (some ⟨g, 0, none⟩) l0.length c) (marksSS (pre ++ [x]) a1 ++ suf) from by
        have h1 := Kd.H_kept (Kd.H_widen HH.out) hk2 (fun k _ hn hk => hn (Or.inl hk))
        have h2 := Kd.H_back h1 (x' := markedI x.length (a1 + (totL pre : Int))) (okp := fun k_ => oki k_ ∨ wr.heap.size ≤ k_) ⟨ve, rfl, hr2⟩ (fun k hk => hk.elim (fun q => Or.inl q) (fun q => Or.inr ⟨Or.inr (Nat.le_trans HK.out.1 q), q⟩))
        rw [Int.toNat_natCast] at h2
        have e2 : (marksSS pre a1 ++ x :: suf).set pre.length (markedI x.length (a1 + (totL pre : Int))) = marksSS (pre ++ [x]) a1 ++ suf := by
          have s := set_mid (marksSS pre a1) x (markedI x.length (a1 + (totL pre : Int))) suf
          rw [marksSS_len, Int.toNat_natCast] at s
          rw [s, marksSS_snoc]
        rw [e2] at h2
        exact h2)
      have HB2 := Aside0.mk hb2
      have HK2 := Aside0.mk (Kept.then_ HK.out hk2 (fun k hk => (HOK.out k hk).1))
      clear hr2 hb2 hk2 HO HB HK HH HR
      have e3 : a1 + (totL pre : Int) + (x.length : Int) = a1 + (totL (pre ++ [x]) : Int) := by rw [totL_snoc]; omega
      rw [e3]
      clear e3
      go_wp2_with fail
      go_roundg suf.length
      case measure => have := HQ.out; rw [this, List.length_cons]; omega
      case rel => exact ⟨pre ++ [x], suf, by rw [List.append_assoc]; exact HE.out, by simp, rfl, ⟨rfl⟩, HS2, HB2, HK2⟩

set_option maxRecDepth 100000 in
set_option maxHeartbeats 40000000 in
theorem law (am_0 : Int) (am_1 : Int) (am_2 : Int) (A_am_3 : Option Addr) (c_am_3 : Nat) (am_3 : List Int) (A_am_4 : Option Addr) (c_am_4 : Nat) (am_4 : List Int) (A_am_5 : Option Addr) (c_am_5 : Nat) (am_5 : List Int) (A_aarcs : Option Addr) (c_aarcs : Nat) (aarcs : List (List Int)) (A_apits : Option Addr) (c_apits : Nat) (apits : List (List Int)) (aleast : Int) (w : World) (hr_am_3 : Kd.C (Kd.int .i64) w A_am_3 am_3.length am_3) (hc_am_3 : am_3.length ≤ c_am_3) (hr_am_4 : Kd.C (Kd.int .i64) w A_am_4 am_4.length am_4) (hc_am_4 : am_4.length ≤ c_am_4) (hr_am_5 : Kd.C (Kd.int .i64) w A_am_5 am_5.length am_5) (hc_am_5 : am_5.length ≤ c_am_5) (hr_aarcs : Kd.C (Kd.slice 3 (Kd.int .i64)) w A_aarcs aarcs.length aarcs) (hc_aarcs : aarcs.length ≤ c_aarcs) (hr_apits : Kd.C (Kd.slice 3 (Kd.int .i64)) w A_apits apits.length apits) (hc_apits : apits.length ≤ c_apits) (hw_am_0 : (Lit.int .i64 am_0).wf = true) (hw_am_1 : (Lit.int .i64 am_1).wf = true) (hw_am_2 : (Lit.int .i64 am_2).wf = true) (hm_am_3 : am_3.length ≤ maxLen) (hw_am_3 : okI .i64 am_3) (hm_am_4 : am_4.length ≤ maxLen) (hw_am_4 : okI .i64 am_4) (hm_am_5 : am_5.length ≤ maxLen) (hw_am_5 : okI .i64 am_5) (hm_aarcs : aarcs.length ≤ maxLen) (hi_aarcs : ∀ z ∈ aarcs, z.length ≤ maxLen) (hw_aarcs : ∀ z ∈ aarcs, okI .i64 z) (hm_apits : apits.length ≤ maxLen) (hi_apits : ∀ z ∈ apits, z.length ≤ maxLen) (hw_apits : ∀ z ∈ apits, okI .i64 z) (hw_aleast : (Lit.int .i64 aleast).wf = true) :
    Calls Try.prog 13 #[.agg #[.int .i64 am_0, .int .i64 am_1, .int .i64 am_2, .slice A_am_3 am_3.length c_am_3, .slice A_am_4 am_4.length c_am_4, .slice A_am_5 am_5.length c_am_5], .slice A_aarcs aarcs.length c_aarcs, .slice A_apits apits.length c_apits, .int .i64 aleast] w fun e w' => e = .returned (.bool true) ∧ Below w.heap.size w w' := by
  have HR_am_3 := Aside0.mk hr_am_3
  have HC_am_3 := Aside0.mk hc_am_3
  clear hr_am_3 hc_am_3
  have HR_am_4 := Aside0.mk hr_am_4
  have HC_am_4 := Aside0.mk hc_am_4
  clear hr_am_4 hc_am_4
  have HR_am_5 := Aside0.mk hr_am_5
  have HC_am_5 := Aside0.mk hc_am_5
  clear hr_am_5 hc_am_5
  have HR_aarcs := Aside0.mk hr_aarcs
  have HC_aarcs := Aside0.mk hc_aarcs
  clear hr_aarcs hc_aarcs
  have HR_apits := Aside0.mk hr_apits
  have HC_apits := Aside0.mk hc_apits
  clear hr_apits hc_apits
  have HB := Aside0.mk (Below.refl w.heap.size w)
  have hu67 := Try.underlying67
  have hu71 := Try.underlying71
  have HMI_aarcs := Aside0.mk hi_aarcs
  clear hi_aarcs
  have HMI_apits := Aside0.mk hi_apits
  clear hi_apits
  clear hw_am_3
  clear hw_am_4
  clear hw_am_5
  clear hw_aarcs
  clear hw_apits
  have cl1_ : 0 ≤ (1048576 : Int) := by omega
  have cu1_ : (1048576 : Int) ≤ 1048576 := by omega
  obtain ⟨s1, hs_, hsa_, hsb_⟩ := szModel_eq am_0 am_1 am_2 am_3 am_4 am_5 1048576 cl1_ cu1_ hm_am_3 hm_am_4 hm_am_5
  have HS1 := Aside0.mk hs_
  have HSB1 := Aside0.mk hsb_
  clear hs_ hsb_ cl1_ cu1_
  go_enter Try.func13, Try.ntmps13
  go_wp2_with (first | ((with_reducible refine gate_dst (N := 4) rfl ?_); refine box_event ?hg (N := 4) ?hd (cs := #[.int .i64 am_0, .int .i64 am_1, .int .i64 am_2, .slice A_am_3 am_3.length c_am_3, .slice A_am_4 am_4.length c_am_4, .slice A_am_5 am_5.length c_am_5]) (t := 67) ?hr ?_; (case hd => rfl); (case hg => rfl); (case hr => first | (go_simp; done) | (go_simp; rfl)); intro g_am hg_ w1_ hbox_ hb_; have hp_ : Below w.heap.size w w1_ := below_step (by repeat (first | exact Below.refl _ _ | (with_reducible apply below_alloc) | (with_reducible apply pw_below_drewN) | (with_reducible apply below_drew1))) hb_; have hz_ : w.heap.size ≤ g_am := Nat.le_trans (below_size (by repeat (first | exact Below.refl _ _ | (with_reducible apply below_alloc) | (with_reducible apply pw_below_drewN) | (with_reducible apply below_drew1)))) (Nat.le_of_eq hg_.symm); have HZ2 := Aside0.mk (⟨hz_, blk_lt hbox_, hp_.size⟩ : _ ∧ _ ∧ _); have HZ := HZ2; clear HZ2; have HGW_am := Aside0.mk (Nat.le_trans HB.out.size hz_ : w.heap.size ≤ g_am); replace HB := Aside0.mk (more HB.out hp_); have BK_am := Aside0.mk hbox_; obtain ⟨hcz_am_0, hfz_am_0, hcz_am_1, hfz_am_1, hcz_am_2, hfz_am_2, hcz_am_3, hfz_am_3, hcz_am_4, hfz_am_4, hcz_am_5, hfz_am_5⟩ := cells6_ BK_am.out; clear hg_ hbox_ hb_ hp_ hz_))
  refine (laws_szModel.calls am_0 am_1 am_2 _ _ am_3 _ _ am_4 _ _ am_5 1048576 s1 _ (by repeat (first | exact (Kd.C_below HR_am_3.out HB.out) | (with_reducible refine Kd.C_alloc ?_ _) | (with_reducible refine Kd.C_drewN ?_ _) | (with_reducible refine Kd.C_drew ?_))) HC_am_3.out (by repeat (first | exact (Kd.C_below HR_am_4.out HB.out) | (with_reducible refine Kd.C_alloc ?_ _) | (with_reducible refine Kd.C_drewN ?_ _) | (with_reducible refine Kd.C_drew ?_))) HC_am_4.out (by repeat (first | exact (Kd.C_below HR_am_5.out HB.out) | (with_reducible refine Kd.C_alloc ?_ _) | (with_reducible refine Kd.C_drewN ?_ _) | (with_reducible refine Kd.C_drew ?_))) HC_am_5.out HS1.out).mono ?_
  rintro e w2_ ⟨rfl, hd_⟩
  have hb_ := hd_
  clear hd_
  have hp_ : Below w1_.heap.size w1_ w2_ := below_step (by repeat (first | exact Below.refl _ _ | (with_reducible apply below_alloc) | (with_reducible apply pw_below_drewN) | (with_reducible apply below_drew1))) hb_
  have HZ3 := Aside0.mk hp_.size
  replace HZ := Aside0.mk (And.intro HZ.out HZ3.out)
  clear HZ3
  replace HB := Aside0.mk (more HB.out hp_)
  clear hcz_am_0 hfz_am_0 hcz_am_1 hfz_am_1 hcz_am_2 hfz_am_2 hcz_am_3 hfz_am_3 hcz_am_4 hfz_am_4 hcz_am_5 hfz_am_5
  replace BK_am := Aside0.mk (blk_below BK_am.out hp_)
  obtain ⟨hcz_am_0, hfz_am_0, hcz_am_1, hfz_am_1, hcz_am_2, hfz_am_2, hcz_am_3, hfz_am_3, hcz_am_4, hfz_am_4, hcz_am_5, hfz_am_5⟩ := cells6_ BK_am.out
  clear hb_ hp_
  by_cases g_ : s1 < 0
  · have d_ : decide (s1 < 0) = true := decide_eq_true g_
    go_wp2_with fail
    go_ret
    exact ⟨rfl, by repeat (first | exact HB.out | (with_reducible apply below_alloc) | (with_reducible apply pw_below_drewN) | (with_reducible apply below_drew1))⟩
  have d1_ : decide (s1 < 0) = false := decide_eq_false g_
  have hb1_ := HSB1.out (by omega)
  clear HSB1
  have HQ1 := Aside0.mk hb1_
  have ga1 : 0 ≤ s1 := by omega
  clear hb1_ g_
  have b_am_3 : am_3.length ≤ 1048576 := by have := HQ1.out; omega
  have HBD_am_3 := Aside0.mk b_am_3
  clear b_am_3
  have b_am_4 : am_4.length ≤ 1048576 := by have := HQ1.out; omega
  have HBD_am_4 := Aside0.mk b_am_4
  clear b_am_4
  have b_am_5 : am_5.length ≤ 1048576 := by have := HQ1.out; omega
  have HBD_am_5 := Aside0.mk b_am_5
  clear b_am_5
  have cl4_ : 0 ≤ (s1 : Int) := by omega
  have cu4_ : (s1 : Int) ≤ 1048576 := by omega
  obtain ⟨s4, hs_, hsa_, hsb_⟩ := szIntSS_ev aarcs s1 cl4_ cu4_ hm_aarcs HMI_aarcs.out
  obtain ⟨ks_, hs_⟩ := hs_.rounds
  have HS4 := Aside0.mk hs_
  have HSB4 := Aside0.mk hsb_
  clear hs_ hsb_ cl4_ cu4_
  go_wp2_with fail
  refine (laws_szIntSS.calls ks_ _ _ aarcs s1 s4 _ (by repeat (first | exact (Kd.C_below HR_aarcs.out HB.out) | (with_reducible refine Kd.C_alloc ?_ _) | (with_reducible refine Kd.C_drewN ?_ _) | (with_reducible refine Kd.C_drew ?_))) HC_aarcs.out HS4.out).mono ?_
  rintro e w3_ ⟨rfl, hd_⟩
  have hb_ := drawn_below hd_
  clear hd_
  have hp_ : Below w2_.heap.size w2_ w3_ := below_step (by repeat (first | exact Below.refl _ _ | (with_reducible apply below_alloc) | (with_reducible apply pw_below_drewN) | (with_reducible apply below_drew1))) hb_
  have HZ5 := Aside0.mk hp_.size
  replace HZ := Aside0.mk (And.intro HZ.out HZ5.out)
  clear HZ5
  replace HB := Aside0.mk (more HB.out hp_)
  clear hcz_am_0 hfz_am_0 hcz_am_1 hfz_am_1 hcz_am_2 hfz_am_2 hcz_am_3 hfz_am_3 hcz_am_4 hfz_am_4 hcz_am_5 hfz_am_5
  replace BK_am := Aside0.mk (blk_below BK_am.out hp_)
  obtain ⟨hcz_am_0, hfz_am_0, hcz_am_1, hfz_am_1, hcz_am_2, hfz_am_2, hcz_am_3, hfz_am_3, hcz_am_4, hfz_am_4, hcz_am_5, hfz_am_5⟩ := cells6_ BK_am.out
  clear hb_ hp_
  by_cases g_ : s4 < 0
  · have d_ : decide (s4 < 0) = true := decide_eq_true g_
    go_wp2_with fail
    go_ret
    exact ⟨rfl, by repeat (first | exact HB.out | (with_reducible apply below_alloc) | (with_reducible apply pw_below_drewN) | (with_reducible apply below_drew1))⟩
  have d4_ : decide (s4 < 0) = false := decide_eq_false g_
  have hb4_ := HSB4.out (by omega)
  clear HSB4
  have HQ4 := Aside0.mk hb4_
  have ga4 : 0 ≤ s4 := by omega
  clear hb4_ g_
  have b_aarcs : aarcs.length ≤ 1048576 := by have := HQ4.out; omega
  have HBD_aarcs := Aside0.mk b_aarcs
  have bi_aarcs : ∀ z ∈ aarcs, z.length ≤ 1048576 := fun z hz => by have := tot_mem hz; have := HQ4.out; omega
  have HBI_aarcs := Aside0.mk bi_aarcs
  have HTO_aarcs : Aside0 (totL aarcs ≤ 1048576) := ⟨by have := HQ4.out; omega⟩
  clear b_aarcs bi_aarcs
  have cl6_ : 0 ≤ (s4 : Int) := by omega
  have cu6_ : (s4 : Int) ≤ 1048576 := by omega
  obtain ⟨s6, hs_, hsa_, hsb_⟩ := szIntSS_ev apits s4 cl6_ cu6_ hm_apits HMI_apits.out
  obtain ⟨ks_, hs_⟩ := hs_.rounds
  have HS6 := Aside0.mk hs_
  have HSB6 := Aside0.mk hsb_
  clear hs_ hsb_ cl6_ cu6_
  go_wp2_with fail
  refine (laws_szIntSS.calls ks_ _ _ apits s4 s6 _ (by repeat (first | exact (Kd.C_below HR_apits.out HB.out) | (with_reducible refine Kd.C_alloc ?_ _) | (with_reducible refine Kd.C_drewN ?_ _) | (with_reducible refine Kd.C_drew ?_))) HC_apits.out HS6.out).mono ?_
  rintro e w4_ ⟨rfl, hd_⟩
  have hb_ := drawn_below hd_
  clear hd_
  have hp_ : Below w3_.heap.size w3_ w4_ := below_step (by repeat (first | exact Below.refl _ _ | (with_reducible apply below_alloc) | (with_reducible apply pw_below_drewN) | (with_reducible apply below_drew1))) hb_
  have HZ7 := Aside0.mk hp_.size
  replace HZ := Aside0.mk (And.intro HZ.out HZ7.out)
  clear HZ7
  replace HB := Aside0.mk (more HB.out hp_)
  clear hcz_am_0 hfz_am_0 hcz_am_1 hfz_am_1 hcz_am_2 hfz_am_2 hcz_am_3 hfz_am_3 hcz_am_4 hfz_am_4 hcz_am_5 hfz_am_5
  replace BK_am := Aside0.mk (blk_below BK_am.out hp_)
  obtain ⟨hcz_am_0, hfz_am_0, hcz_am_1, hfz_am_1, hcz_am_2, hfz_am_2, hcz_am_3, hfz_am_3, hcz_am_4, hfz_am_4, hcz_am_5, hfz_am_5⟩ := cells6_ BK_am.out
  clear hb_ hp_
  by_cases g_ : s6 < 0
  · have d_ : decide (s6 < 0) = true := decide_eq_true g_
    go_wp2_with fail
    go_ret
    exact ⟨rfl, by repeat (first | exact HB.out | (with_reducible apply below_alloc) | (with_reducible apply pw_below_drewN) | (with_reducible apply below_drew1))⟩
  have d6_ : decide (s6 < 0) = false := decide_eq_false g_
  have hb6_ := HSB6.out (by omega)
  clear HSB6
  have HQ6 := Aside0.mk hb6_
  have ga6 : 0 ≤ s6 := by omega
  clear hb6_ g_
  have b_apits : apits.length ≤ 1048576 := by have := HQ6.out; omega
  have HBD_apits := Aside0.mk b_apits
  have bi_apits : ∀ z ∈ apits, z.length ≤ 1048576 := fun z hz => by have := tot_mem hz; have := HQ6.out; omega
  have HBI_apits := Aside0.mk bi_apits
  have HTO_apits : Aside0 (totL apits ≤ 1048576) := ⟨by have := HQ6.out; omega⟩
  clear b_apits bi_apits
  obtain ⟨r1v, r2v, es_, ei_, hl_r1, hn_r1⟩ := FnExactJoinPhases am_0 am_1 am_2 am_3 am_4 am_5 aarcs apits aleast HBD_am_3.out HBD_am_4.out HBD_am_5.out HBD_aarcs.out HBI_aarcs.out HBD_apits.out HBI_apits.out
  obtain ⟨kes_, h_⟩ := es_.rounds
  have HES := Aside0.mk h_
  clear h_ es_
  obtain ⟨kei_, h_⟩ := ei_.rounds
  have HEI := Aside0.mk h_
  clear h_ ei_
  have HL_r1 := Aside0.mk hl_r1
  clear hl_r1
  have HN_r1 := Aside0.mk hn_r1
  clear hn_r1
  obtain ⟨kt_aM, h_⟩ := (toModel_ev am_0 am_1 am_2 am_3 am_4 am_5 HBD_am_3.out HBD_am_4.out HBD_am_5.out).rounds
  have Hkt_aM := Aside0.mk h_
  clear h_
  obtain ⟨kq_aM, h_⟩ := (eqModel_ev am_0 am_1 am_2 am_3 am_4 am_5 HBD_am_3.out HBD_am_4.out HBD_am_5.out).rounds
  have Hkq_aM := Aside0.mk h_
  clear h_
  obtain ⟨kt_aArcs, h_⟩ := (toIntSS_ev aarcs HBD_aarcs.out HBI_aarcs.out).rounds
  have Hkt_aArcs := Aside0.mk h_
  clear h_
  obtain ⟨kq_aArcs, h_⟩ := (eqIntSS_ev aarcs HBD_aarcs.out HBI_aarcs.out).rounds
  have Hkq_aArcs := Aside0.mk h_
  clear h_
  obtain ⟨kt_aPits, h_⟩ := (toIntSS_ev apits HBD_apits.out HBI_apits.out).rounds
  have Hkt_aPits := Aside0.mk h_
  clear h_
  obtain ⟨kq_aPits, h_⟩ := (eqIntSS_ev apits HBD_apits.out HBI_apits.out).rounds
  have Hkq_aPits := Aside0.mk h_
  clear h_
  obtain ⟨kgq, h_⟩ := (eqIntSS_ev r1v HL_r1.out HN_r1.out.1).rounds
  have Hkgq := Aside0.mk h_
  clear h_
  go_wp2_with fail
  refine (laws_toModel.calls kt_aM am_0 am_1 am_2 _ _ am_3 _ _ am_4 _ _ am_5 am_0 am_1 am_2 am_3 am_4 am_5 _ (by repeat (first | exact (Kd.C_below HR_am_3.out HB.out) | (with_reducible refine Kd.C_alloc ?_ _) | (with_reducible refine Kd.C_drewN ?_ _) | (with_reducible refine Kd.C_drew ?_))) HC_am_3.out (by repeat (first | exact (Kd.C_below HR_am_4.out HB.out) | (with_reducible refine Kd.C_alloc ?_ _) | (with_reducible refine Kd.C_drewN ?_ _) | (with_reducible refine Kd.C_drew ?_))) HC_am_4.out (by repeat (first | exact (Kd.C_below HR_am_5.out HB.out) | (with_reducible refine Kd.C_alloc ?_ _) | (with_reducible refine Kd.C_drewN ?_ _) | (with_reducible refine Kd.C_drew ?_))) HC_am_5.out Hkt_aM.out).mono ?_
  rintro e w5_ ⟨v3_n5, v4_n5, v5_n5, rfl, ho0_, ho1_, ho2_, hb_⟩
  have hp_ : Below w4_.heap.size w4_ w5_ := below_step (by repeat (first | exact Below.refl _ _ | (with_reducible apply below_alloc) | (with_reducible apply pw_below_drewN) | (with_reducible apply below_drew1))) hb_
  obtain ⟨B8, H8, eB_, eH_, hi1_, hi2_, hi3_⟩ := spot (W0 := w4_) (by repeat (first | exact Below.refl _ _ | (with_reducible apply below_alloc) | (with_reducible apply pw_below_drewN) | (with_reducible apply below_drew1))) hb_
  have HZ8 := Aside0.mk (⟨hi1_, hi2_, hi3_, hp_.size⟩ : _ ∧ _ ∧ _ ∧ _)
  have N8_0 := Aside0.mk (Own.new (W0 := w4_) (b := w.heap.size) (by repeat (first | exact Below.refl _ _ | (with_reducible apply below_alloc) | (with_reducible apply pw_below_drewN) | (with_reducible apply below_drew1))) (tightRow rfl ho0_) hb_ HB.out.size _ _ eB_ eH_)
  have N8_1 := Aside0.mk (Own.new (W0 := w4_) (b := w.heap.size) (by repeat (first | exact Below.refl _ _ | (with_reducible apply below_alloc) | (with_reducible apply pw_below_drewN) | (with_reducible apply below_drew1))) (tightRow rfl ho1_) hb_ HB.out.size _ _ eB_ eH_)
  have N8_2 := Aside0.mk (Own.new (W0 := w4_) (b := w.heap.size) (by repeat (first | exact Below.refl _ _ | (with_reducible apply below_alloc) | (with_reducible apply pw_below_drewN) | (with_reducible apply below_drew1))) (tightRow rfl ho2_) hb_ HB.out.size _ _ eB_ eH_)
  clear eB_ eH_ hi1_ hi2_ hi3_ ho0_ ho1_ ho2_
  replace HZ := Aside0.mk (And.intro HZ.out HZ8.out)
  clear HZ8
  replace HB := Aside0.mk (more HB.out hp_)
  clear hcz_am_0 hfz_am_0 hcz_am_1 hfz_am_1 hcz_am_2 hfz_am_2 hcz_am_3 hfz_am_3 hcz_am_4 hfz_am_4 hcz_am_5 hfz_am_5
  replace BK_am := Aside0.mk (blk_below BK_am.out hp_)
  obtain ⟨hcz_am_0, hfz_am_0, hcz_am_1, hfz_am_1, hcz_am_2, hfz_am_2, hcz_am_3, hfz_am_3, hcz_am_4, hfz_am_4, hcz_am_5, hfz_am_5⟩ := cells6_ BK_am.out
  clear hb_ hp_
  have T8_0 := N8_0
  clear N8_0
  obtain ⟨AT8_0, cT8_0, rfl, hc_⟩ := T8_0.out.reads
  have HCT8_0 := Aside0.mk hc_
  clear hc_
  have T8_1 := N8_1
  clear N8_1
  obtain ⟨AT8_1, cT8_1, rfl, hc_⟩ := T8_1.out.reads
  have HCT8_1 := Aside0.mk hc_
  clear hc_
  have T8_2 := N8_2
  clear N8_2
  obtain ⟨AT8_2, cT8_2, rfl, hc_⟩ := T8_2.out.reads
  have HCT8_2 := Aside0.mk hc_
  clear hc_
  go_wp2_with fail
  refine (laws_toIntSS.calls kt_aArcs _ _ aarcs aarcs _ (by repeat (first | exact (Kd.C_below HR_aarcs.out HB.out) | (with_reducible refine Kd.C_alloc ?_ _) | (with_reducible refine Kd.C_drewN ?_ _) | (with_reducible refine Kd.C_drew ?_))) HC_aarcs.out Hkt_aArcs.out).mono ?_
  rintro e w6_ ⟨v0_n6, rfl, ho0_, hb_⟩
  have hp_ : Below w5_.heap.size w5_ w6_ := below_step (by repeat (first | exact Below.refl _ _ | (with_reducible apply below_alloc) | (with_reducible apply pw_below_drewN) | (with_reducible apply below_drew1))) hb_
  obtain ⟨B9, H9, eB_, eH_, hi1_, hi2_, hi3_⟩ := spot (W0 := w5_) (by repeat (first | exact Below.refl _ _ | (with_reducible apply below_alloc) | (with_reducible apply pw_below_drewN) | (with_reducible apply below_drew1))) hb_
  have HZ9 := Aside0.mk (⟨hi1_, hi2_, hi3_, hp_.size⟩ : _ ∧ _ ∧ _ ∧ _)
  have N9_0 := Aside0.mk (OwnS.new (W0 := w5_) (b := w.heap.size) (by repeat (first | exact Below.refl _ _ | (with_reducible apply below_alloc) | (with_reducible apply pw_below_drewN) | (with_reducible apply below_drew1))) ho0_ hb_ HB.out.size _ _ eB_ eH_)
  clear eB_ eH_ hi1_ hi2_ hi3_ ho0_
  replace HZ := Aside0.mk (And.intro HZ.out HZ9.out)
  clear HZ9
  replace HB := Aside0.mk (more HB.out hp_)
  replace T8_0 := Aside0.mk (T8_0.out.step hp_)
  replace T8_1 := Aside0.mk (T8_1.out.step hp_)
  replace T8_2 := Aside0.mk (T8_2.out.step hp_)
  clear hcz_am_0 hfz_am_0 hcz_am_1 hfz_am_1 hcz_am_2 hfz_am_2 hcz_am_3 hfz_am_3 hcz_am_4 hfz_am_4 hcz_am_5 hfz_am_5
  replace BK_am := Aside0.mk (blk_below BK_am.out hp_)
  obtain ⟨hcz_am_0, hfz_am_0, hcz_am_1, hfz_am_1, hcz_am_2, hfz_am_2, hcz_am_3, hfz_am_3, hcz_am_4, hfz_am_4, hcz_am_5, hfz_am_5⟩ := cells6_ BK_am.out
  clear hb_ hp_
  have T9_0 := N9_0
  clear N9_0
  obtain ⟨AT9_0, cT9_0, rfl, hc_⟩ := T9_0.out.reads
  have HCT9_0 := Aside0.mk hc_
  clear hc_
  go_wp2_with fail
  refine (laws_toIntSS.calls kt_aPits _ _ apits apits _ (by repeat (first | exact (Kd.C_below HR_apits.out HB.out) | (with_reducible refine Kd.C_alloc ?_ _) | (with_reducible refine Kd.C_drewN ?_ _) | (with_reducible refine Kd.C_drew ?_))) HC_apits.out Hkt_aPits.out).mono ?_
  rintro e w7_ ⟨v0_n7, rfl, ho0_, hb_⟩
  have hp_ : Below w6_.heap.size w6_ w7_ := below_step (by repeat (first | exact Below.refl _ _ | (with_reducible apply below_alloc) | (with_reducible apply pw_below_drewN) | (with_reducible apply below_drew1))) hb_
  obtain ⟨B10, H10, eB_, eH_, hi1_, hi2_, hi3_⟩ := spot (W0 := w6_) (by repeat (first | exact Below.refl _ _ | (with_reducible apply below_alloc) | (with_reducible apply pw_below_drewN) | (with_reducible apply below_drew1))) hb_
  have HZ10 := Aside0.mk (⟨hi1_, hi2_, hi3_, hp_.size⟩ : _ ∧ _ ∧ _ ∧ _)
  have N10_0 := Aside0.mk (OwnS.new (W0 := w6_) (b := w.heap.size) (by repeat (first | exact Below.refl _ _ | (with_reducible apply below_alloc) | (with_reducible apply pw_below_drewN) | (with_reducible apply below_drew1))) ho0_ hb_ HB.out.size _ _ eB_ eH_)
  clear eB_ eH_ hi1_ hi2_ hi3_ ho0_
  replace HZ := Aside0.mk (And.intro HZ.out HZ10.out)
  clear HZ10
  replace HB := Aside0.mk (more HB.out hp_)
  replace T8_0 := Aside0.mk (T8_0.out.step hp_)
  replace T8_1 := Aside0.mk (T8_1.out.step hp_)
  replace T8_2 := Aside0.mk (T8_2.out.step hp_)
  replace T9_0 := Aside0.mk (T9_0.out.step hp_)
  clear hcz_am_0 hfz_am_0 hcz_am_1 hfz_am_1 hcz_am_2 hfz_am_2 hcz_am_3 hfz_am_3 hcz_am_4 hfz_am_4 hcz_am_5 hfz_am_5
  replace BK_am := Aside0.mk (blk_below BK_am.out hp_)
  obtain ⟨hcz_am_0, hfz_am_0, hcz_am_1, hfz_am_1, hcz_am_2, hfz_am_2, hcz_am_3, hfz_am_3, hcz_am_4, hfz_am_4, hcz_am_5, hfz_am_5⟩ := cells6_ BK_am.out
  clear hb_ hp_
  have T10_0 := N10_0
  clear N10_0
  obtain ⟨AT10_0, cT10_0, rfl, hc_⟩ := T10_0.out.reads
  have HCT10_0 := Aside0.mk hc_
  clear hc_
  go_wp2_with fail
  refine (spec_JoinPhases.calls kes_ am_0 am_1 am_2 _ _ am_3 _ _ am_4 _ _ am_5 _ _ aarcs _ _ _ apits aleast r1v r2v _ (by repeat (first | exact T8_0.out.C | (with_reducible refine Kd.C_alloc ?_ _) | (with_reducible refine Kd.C_drewN ?_ _) | (with_reducible refine Kd.C_drew ?_))) HCT8_0.out (by repeat (first | exact T8_1.out.C | (with_reducible refine Kd.C_alloc ?_ _) | (with_reducible refine Kd.C_drewN ?_ _) | (with_reducible refine Kd.C_drew ?_))) HCT8_1.out (by repeat (first | exact T8_2.out.C | (with_reducible refine Kd.C_alloc ?_ _) | (with_reducible refine Kd.C_drewN ?_ _) | (with_reducible refine Kd.C_drew ?_))) HCT8_2.out (by repeat (first | exact T9_0.out.C | (with_reducible refine Kd.C_alloc ?_ _) | (with_reducible refine Kd.C_drewN ?_ _) | (with_reducible refine Kd.C_drew ?_))) HCT9_0.out (by (with_reducible repeat (first | apply Kd.V_alloc | apply Kd.V_drewN | apply Kd.V_drew)); exact Kd.R_V (Kd.S_R T10_0.out.r)) HES.out).mono ?_
  rintro e w8_ ⟨v0_n8, rfl, ho0_, hb_⟩
  have hp_ : Below w7_.heap.size w7_ w8_ := below_step (by repeat (first | exact Below.refl _ _ | (with_reducible apply below_alloc) | (with_reducible apply pw_below_drewN) | (with_reducible apply below_drew1))) hb_
  obtain ⟨B11, H11, eB_, eH_, hi1_, hi2_, hi3_⟩ := spot (W0 := w7_) (by repeat (first | exact Below.refl _ _ | (with_reducible apply below_alloc) | (with_reducible apply pw_below_drewN) | (with_reducible apply below_drew1))) hb_
  have HZ11 := Aside0.mk (⟨hi1_, hi2_, hi3_, hp_.size⟩ : _ ∧ _ ∧ _ ∧ _)
  have N11_0 := Aside0.mk (OwnS.new (W0 := w7_) (b := w.heap.size) (by repeat (first | exact Below.refl _ _ | (with_reducible apply below_alloc) | (with_reducible apply pw_below_drewN) | (with_reducible apply below_drew1))) ho0_ hb_ HB.out.size _ _ eB_ eH_)
  clear eB_ eH_ hi1_ hi2_ hi3_ ho0_
  replace HZ := Aside0.mk (And.intro HZ.out HZ11.out)
  clear HZ11
  replace HB := Aside0.mk (more HB.out hp_)
  replace T8_0 := Aside0.mk (T8_0.out.step hp_)
  replace T8_1 := Aside0.mk (T8_1.out.step hp_)
  replace T8_2 := Aside0.mk (T8_2.out.step hp_)
  replace T9_0 := Aside0.mk (T9_0.out.step hp_)
  replace T10_0 := Aside0.mk (T10_0.out.step hp_)
  clear hcz_am_0 hfz_am_0 hcz_am_1 hfz_am_1 hcz_am_2 hfz_am_2 hcz_am_3 hfz_am_3 hcz_am_4 hfz_am_4 hcz_am_5 hfz_am_5
  replace BK_am := Aside0.mk (blk_below BK_am.out hp_)
  obtain ⟨hcz_am_0, hfz_am_0, hcz_am_1, hfz_am_1, hcz_am_2, hfz_am_2, hcz_am_3, hfz_am_3, hcz_am_4, hfz_am_4, hcz_am_5, hfz_am_5⟩ := cells6_ BK_am.out
  clear hb_ hp_
  have Vw0 := N11_0
  clear N11_0
  obtain ⟨AVw0, cVw0, rfl, hc_⟩ := Vw0.out.reads
  have HCVw0 := Aside0.mk hc_
  clear hc_
  clear T8_0 HCT8_0
  clear T8_1 HCT8_1
  clear T8_2 HCT8_2
  clear T9_0 HCT9_0
  clear T10_0 HCT10_0
  go_wp2_with fail
  refine (laws_toModel.calls kt_aM am_0 am_1 am_2 _ _ am_3 _ _ am_4 _ _ am_5 am_0 am_1 am_2 am_3 am_4 am_5 _ (by repeat (first | exact (Kd.C_below HR_am_3.out HB.out) | (with_reducible refine Kd.C_alloc ?_ _) | (with_reducible refine Kd.C_drewN ?_ _) | (with_reducible refine Kd.C_drew ?_))) HC_am_3.out (by repeat (first | exact (Kd.C_below HR_am_4.out HB.out) | (with_reducible refine Kd.C_alloc ?_ _) | (with_reducible refine Kd.C_drewN ?_ _) | (with_reducible refine Kd.C_drew ?_))) HC_am_4.out (by repeat (first | exact (Kd.C_below HR_am_5.out HB.out) | (with_reducible refine Kd.C_alloc ?_ _) | (with_reducible refine Kd.C_drewN ?_ _) | (with_reducible refine Kd.C_drew ?_))) HC_am_5.out Hkt_aM.out).mono ?_
  rintro e w9_ ⟨v3_n9, v4_n9, v5_n9, rfl, ho0_, ho1_, ho2_, hb_⟩
  have hp_ : Below w8_.heap.size w8_ w9_ := below_step (by repeat (first | exact Below.refl _ _ | (with_reducible apply below_alloc) | (with_reducible apply pw_below_drewN) | (with_reducible apply below_drew1))) hb_
  obtain ⟨B12, H12, eB_, eH_, hi1_, hi2_, hi3_⟩ := spot (W0 := w8_) (by repeat (first | exact Below.refl _ _ | (with_reducible apply below_alloc) | (with_reducible apply pw_below_drewN) | (with_reducible apply below_drew1))) hb_
  have HZ12 := Aside0.mk (⟨hi1_, hi2_, hi3_, hp_.size⟩ : _ ∧ _ ∧ _ ∧ _)
  have N12_0 := Aside0.mk (Own.new (W0 := w8_) (b := w.heap.size) (by repeat (first | exact Below.refl _ _ | (with_reducible apply below_alloc) | (with_reducible apply pw_below_drewN) | (with_reducible apply below_drew1))) (tightRow rfl ho0_) hb_ HB.out.size _ _ eB_ eH_)
  have N12_1 := Aside0.mk (Own.new (W0 := w8_) (b := w.heap.size) (by repeat (first | exact Below.refl _ _ | (with_reducible apply below_alloc) | (with_reducible apply pw_below_drewN) | (with_reducible apply below_drew1))) (tightRow rfl ho1_) hb_ HB.out.size _ _ eB_ eH_)
  have N12_2 := Aside0.mk (Own.new (W0 := w8_) (b := w.heap.size) (by repeat (first | exact Below.refl _ _ | (with_reducible apply below_alloc) | (with_reducible apply pw_below_drewN) | (with_reducible apply below_drew1))) (tightRow rfl ho2_) hb_ HB.out.size _ _ eB_ eH_)
  clear eB_ eH_ hi1_ hi2_ hi3_ ho0_ ho1_ ho2_
  replace HZ := Aside0.mk (And.intro HZ.out HZ12.out)
  clear HZ12
  replace HB := Aside0.mk (more HB.out hp_)
  replace Vw0 := Aside0.mk (Vw0.out.step hp_)
  clear hcz_am_0 hfz_am_0 hcz_am_1 hfz_am_1 hcz_am_2 hfz_am_2 hcz_am_3 hfz_am_3 hcz_am_4 hfz_am_4 hcz_am_5 hfz_am_5
  replace BK_am := Aside0.mk (blk_below BK_am.out hp_)
  obtain ⟨hcz_am_0, hfz_am_0, hcz_am_1, hfz_am_1, hcz_am_2, hfz_am_2, hcz_am_3, hfz_am_3, hcz_am_4, hfz_am_4, hcz_am_5, hfz_am_5⟩ := cells6_ BK_am.out
  clear hb_ hp_
  have Vx00 := N12_0
  clear N12_0
  obtain ⟨AVx00, cVx00, rfl, hc_⟩ := Vx00.out.reads
  have HCVx00 := Aside0.mk hc_
  clear hc_
  have Vx01 := N12_1
  clear N12_1
  obtain ⟨AVx01, cVx01, rfl, hc_⟩ := Vx01.out.reads
  have HCVx01 := Aside0.mk hc_
  clear hc_
  have Vx02 := N12_2
  clear N12_2
  obtain ⟨AVx02, cVx02, rfl, hc_⟩ := Vx02.out.reads
  have HCVx02 := Aside0.mk hc_
  clear hc_
  go_wp2_with (first | ((with_reducible refine gate_dst (N := 12) rfl ?_); refine box_event ?hg (N := 12) ?hd (cs := #[.int .i64 0, .int .i64 0, .int .i64 0, .slice none 0 0, .slice none 0 0, .slice none 0 0]) (t := 71) ?hr ?_; (case hd => rfl); (case hg => rfl); (case hr => first | (go_simp; done) | (go_simp; rfl)); intro g_x0 hg_ w10_ hbox_ hb_; have hp_ : Below w9_.heap.size w9_ w10_ := below_step (by repeat (first | exact Below.refl _ _ | (with_reducible apply below_alloc) | (with_reducible apply pw_below_drewN) | (with_reducible apply below_drew1))) hb_; have hz_ : w9_.heap.size ≤ g_x0 := Nat.le_trans (below_size (by repeat (first | exact Below.refl _ _ | (with_reducible apply below_alloc) | (with_reducible apply pw_below_drewN) | (with_reducible apply below_drew1)))) (Nat.le_of_eq hg_.symm); have HZ13 := Aside0.mk (⟨hz_, blk_lt hbox_, hp_.size⟩ : _ ∧ _ ∧ _); replace HZ := Aside0.mk (And.intro HZ.out HZ13.out); clear HZ13; have HGW_x0 := Aside0.mk (Nat.le_trans HB.out.size hz_ : w.heap.size ≤ g_x0); have hnb_x0_am : g_x0 ≠ g_am := Nat.ne_of_gt (Nat.lt_of_lt_of_le (blk_lt BK_am.out) hz_); have hnb_am_x0 : g_am ≠ g_x0 := hnb_x0_am.symm; replace HB := Aside0.mk (more HB.out hp_); replace Vw0 := Aside0.mk (Vw0.out.step hp_); replace Vx00 := Aside0.mk (Vx00.out.step hp_); replace Vx01 := Aside0.mk (Vx01.out.step hp_); replace Vx02 := Aside0.mk (Vx02.out.step hp_); clear hcz_am_0 hfz_am_0 hcz_am_1 hfz_am_1 hcz_am_2 hfz_am_2 hcz_am_3 hfz_am_3 hcz_am_4 hfz_am_4 hcz_am_5 hfz_am_5; replace BK_am := Aside0.mk (blk_below BK_am.out hp_); obtain ⟨hcz_am_0, hfz_am_0, hcz_am_1, hfz_am_1, hcz_am_2, hfz_am_2, hcz_am_3, hfz_am_3, hcz_am_4, hfz_am_4, hcz_am_5, hfz_am_5⟩ := cells6_ BK_am.out; have BK_x0 := Aside0.mk hbox_; obtain ⟨hcz_x0_0, hfz_x0_0, hcz_x0_1, hfz_x0_1, hcz_x0_2, hfz_x0_2, hcz_x0_3, hfz_x0_3, hcz_x0_4, hfz_x0_4, hcz_x0_5, hfz_x0_5⟩ := cells6_ BK_x0.out; clear hg_ hbox_ hb_ hp_ hz_))
  obtain ⟨w11_, ew_⟩ : ∃ w_ : World, w_ = (World.setCell (World.setCell (World.setCell (World.setCell (World.setCell (World.setCell w10_ ⟨g_x0, 0, none⟩ (.int .i64 am_0)) ⟨g_x0, 1, none⟩ (.int .i64 am_1)) ⟨g_x0, 2, none⟩ (.int .i64 am_2)) ⟨g_x0, 3, none⟩ (.slice AVx00 am_3.length cVx00)) ⟨g_x0, 4, none⟩ (.slice AVx01 am_4.length cVx01)) ⟨g_x0, 5, none⟩ (.slice AVx02 am_5.length cVx02)) := ⟨_, rfl⟩
  rw [← ew_]
  have hbk_ : w11_.heap[g_x0]? = some (.cells #[.int .i64 am_0, .int .i64 am_1, .int .i64 am_2, .slice AVx00 am_3.length cVx00, .slice AVx01 am_4.length cVx01, .slice AVx02 am_5.length cVx02] 71 (0, 0)) := by rw [ew_]; exact blk_set (blk_set (blk_set (blk_set (blk_set (blk_set (BK_x0.out) 0 (.int .i64 am_0)) 1 (.int .i64 am_1)) 2 (.int .i64 am_2)) 3 (.slice AVx00 am_3.length cVx00)) 4 (.slice AVx01 am_4.length cVx01)) 5 (.slice AVx02 am_5.length cVx02)
  have hk_ : Kept w10_ w11_ (fun k_ => k_ = g_x0) := by rw [ew_]; exact Kept.setCell (Kept.setCell (Kept.setCell (Kept.setCell (Kept.setCell (Kept.setCell (Kept.refl _ (fun k_ => k_ = g_x0)) (Or.inl rfl) (.int .i64 am_0)) (Or.inl rfl) (.int .i64 am_1)) (Or.inl rfl) (.int .i64 am_2)) (Or.inl rfl) (.slice AVx00 am_3.length cVx00)) (Or.inl rfl) (.slice AVx01 am_4.length cVx01)) (Or.inl rfl) (.slice AVx02 am_5.length cVx02)
  have hb_ : Below w.heap.size w w11_ := by rw [ew_]; exact below_set (below_set (below_set (below_set (below_set (below_set (HB.out) HGW_x0.out) HGW_x0.out) HGW_x0.out) HGW_x0.out) HGW_x0.out) HGW_x0.out
  have HZ14 := Aside0.mk hk_.1
  replace HZ := Aside0.mk (And.intro HZ.out HZ14.out)
  clear HZ14
  clear ew_ HB
  have HB := Aside0.mk hb_
  have X_ := Aside0.mk (Vw0.out.kept hk_ (fun k h1_ h2_ h3_ => by have z_ := HZ.out; omega))
  clear Vw0
  have Vw0 := X_
  clear X_
  have X_ := Aside0.mk (Vx00.out.kept hk_ (fun k h1_ h2_ h3_ => by have z_ := HZ.out; omega))
  clear Vx00
  have Vx00 := X_
  clear X_
  have X_ := Aside0.mk (Vx01.out.kept hk_ (fun k h1_ h2_ h3_ => by have z_ := HZ.out; omega))
  clear Vx01
  have Vx01 := X_
  clear X_
  have X_ := Aside0.mk (Vx02.out.kept hk_ (fun k h1_ h2_ h3_ => by have z_ := HZ.out; omega))
  clear Vx02
  have Vx02 := X_
  clear X_
  clear hcz_x0_0 hfz_x0_0 hcz_x0_1 hfz_x0_1 hcz_x0_2 hfz_x0_2 hcz_x0_3 hfz_x0_3 hcz_x0_4 hfz_x0_4 hcz_x0_5 hfz_x0_5
  clear hcz_am_0 hfz_am_0 hcz_am_1 hfz_am_1 hcz_am_2 hfz_am_2 hcz_am_3 hfz_am_3 hcz_am_4 hfz_am_4 hcz_am_5 hfz_am_5
  have X_ := Aside0.mk (blk_kept BK_am.out hk_ (fun h3_ => by have z_ := HZ.out; omega))
  clear BK_am
  have BK_am := X_
  clear X_
  obtain ⟨hcz_am_0, hfz_am_0, hcz_am_1, hfz_am_1, hcz_am_2, hfz_am_2, hcz_am_3, hfz_am_3, hcz_am_4, hfz_am_4, hcz_am_5, hfz_am_5⟩ := cells6_ BK_am.out
  clear BK_x0
  have BK_x0 := Aside0.mk hbk_
  obtain ⟨hcz_x0_0, hfz_x0_0, hcz_x0_1, hfz_x0_1, hcz_x0_2, hfz_x0_2, hcz_x0_3, hfz_x0_3, hcz_x0_4, hfz_x0_4, hcz_x0_5, hfz_x0_5⟩ := cells6_ BK_x0.out
  clear hbk_ hk_ hb_
  refine (laws_toIntSS.calls kt_aArcs _ _ aarcs aarcs _ (by repeat (first | exact (Kd.C_below HR_aarcs.out HB.out) | (with_reducible refine Kd.C_alloc ?_ _) | (with_reducible refine Kd.C_drewN ?_ _) | (with_reducible refine Kd.C_drew ?_))) HC_aarcs.out Hkt_aArcs.out).mono ?_
  rintro e w12_ ⟨v0_n12, rfl, ho0_, hb_⟩
  have hp_ : Below w11_.heap.size w11_ w12_ := below_step (by repeat (first | exact Below.refl _ _ | (with_reducible apply below_alloc) | (with_reducible apply pw_below_drewN) | (with_reducible apply below_drew1))) hb_
  obtain ⟨B15, H15, eB_, eH_, hi1_, hi2_, hi3_⟩ := spot (W0 := w11_) (by repeat (first | exact Below.refl _ _ | (with_reducible apply below_alloc) | (with_reducible apply pw_below_drewN) | (with_reducible apply below_drew1))) hb_
  have HZ15 := Aside0.mk (⟨hi1_, hi2_, hi3_, hp_.size⟩ : _ ∧ _ ∧ _ ∧ _)
  have N15_0 := Aside0.mk (OwnS.new (W0 := w11_) (b := w.heap.size) (by repeat (first | exact Below.refl _ _ | (with_reducible apply below_alloc) | (with_reducible apply pw_below_drewN) | (with_reducible apply below_drew1))) ho0_ hb_ HB.out.size _ _ eB_ eH_)
  clear eB_ eH_ hi1_ hi2_ hi3_ ho0_
  replace HZ := Aside0.mk (And.intro HZ.out HZ15.out)
  clear HZ15
  replace HB := Aside0.mk (more HB.out hp_)
  replace Vw0 := Aside0.mk (Vw0.out.step hp_)
  replace Vx00 := Aside0.mk (Vx00.out.step hp_)
  replace Vx01 := Aside0.mk (Vx01.out.step hp_)
  replace Vx02 := Aside0.mk (Vx02.out.step hp_)
  clear hcz_am_0 hfz_am_0 hcz_am_1 hfz_am_1 hcz_am_2 hfz_am_2 hcz_am_3 hfz_am_3 hcz_am_4 hfz_am_4 hcz_am_5 hfz_am_5
  replace BK_am := Aside0.mk (blk_below BK_am.out hp_)
  obtain ⟨hcz_am_0, hfz_am_0, hcz_am_1, hfz_am_1, hcz_am_2, hfz_am_2, hcz_am_3, hfz_am_3, hcz_am_4, hfz_am_4, hcz_am_5, hfz_am_5⟩ := cells6_ BK_am.out
  clear hcz_x0_0 hfz_x0_0 hcz_x0_1 hfz_x0_1 hcz_x0_2 hfz_x0_2 hcz_x0_3 hfz_x0_3 hcz_x0_4 hfz_x0_4 hcz_x0_5 hfz_x0_5
  replace BK_x0 := Aside0.mk (blk_below BK_x0.out hp_)
  obtain ⟨hcz_x0_0, hfz_x0_0, hcz_x0_1, hfz_x0_1, hcz_x0_2, hfz_x0_2, hcz_x0_3, hfz_x0_3, hcz_x0_4, hfz_x0_4, hcz_x0_5, hfz_x0_5⟩ := cells6_ BK_x0.out
  clear hb_ hp_
  have Vx10 := N15_0
  clear N15_0
  obtain ⟨AVx10, cVx10, rfl, hc_⟩ := Vx10.out.reads
  have HCVx10 := Aside0.mk hc_
  clear hc_
  go_wp2_with fail
  refine (laws_toIntSS.calls kt_aPits _ _ apits apits _ (by repeat (first | exact (Kd.C_below HR_apits.out HB.out) | (with_reducible refine Kd.C_alloc ?_ _) | (with_reducible refine Kd.C_drewN ?_ _) | (with_reducible refine Kd.C_drew ?_))) HC_apits.out Hkt_aPits.out).mono ?_
  rintro e w13_ ⟨v0_n13, rfl, ho0_, hb_⟩
  have hp_ : Below w12_.heap.size w12_ w13_ := below_step (by repeat (first | exact Below.refl _ _ | (with_reducible apply below_alloc) | (with_reducible apply pw_below_drewN) | (with_reducible apply below_drew1))) hb_
  obtain ⟨B16, H16, eB_, eH_, hi1_, hi2_, hi3_⟩ := spot (W0 := w12_) (by repeat (first | exact Below.refl _ _ | (with_reducible apply below_alloc) | (with_reducible apply pw_below_drewN) | (with_reducible apply below_drew1))) hb_
  have HZ16 := Aside0.mk (⟨hi1_, hi2_, hi3_, hp_.size⟩ : _ ∧ _ ∧ _ ∧ _)
  have N16_0 := Aside0.mk (OwnS.new (W0 := w12_) (b := w.heap.size) (by repeat (first | exact Below.refl _ _ | (with_reducible apply below_alloc) | (with_reducible apply pw_below_drewN) | (with_reducible apply below_drew1))) ho0_ hb_ HB.out.size _ _ eB_ eH_)
  clear eB_ eH_ hi1_ hi2_ hi3_ ho0_
  replace HZ := Aside0.mk (And.intro HZ.out HZ16.out)
  clear HZ16
  replace HB := Aside0.mk (more HB.out hp_)
  replace Vw0 := Aside0.mk (Vw0.out.step hp_)
  replace Vx00 := Aside0.mk (Vx00.out.step hp_)
  replace Vx01 := Aside0.mk (Vx01.out.step hp_)
  replace Vx02 := Aside0.mk (Vx02.out.step hp_)
  replace Vx10 := Aside0.mk (Vx10.out.step hp_)
  clear hcz_am_0 hfz_am_0 hcz_am_1 hfz_am_1 hcz_am_2 hfz_am_2 hcz_am_3 hfz_am_3 hcz_am_4 hfz_am_4 hcz_am_5 hfz_am_5
  replace BK_am := Aside0.mk (blk_below BK_am.out hp_)
  obtain ⟨hcz_am_0, hfz_am_0, hcz_am_1, hfz_am_1, hcz_am_2, hfz_am_2, hcz_am_3, hfz_am_3, hcz_am_4, hfz_am_4, hcz_am_5, hfz_am_5⟩ := cells6_ BK_am.out
  clear hcz_x0_0 hfz_x0_0 hcz_x0_1 hfz_x0_1 hcz_x0_2 hfz_x0_2 hcz_x0_3 hfz_x0_3 hcz_x0_4 hfz_x0_4 hcz_x0_5 hfz_x0_5
  replace BK_x0 := Aside0.mk (blk_below BK_x0.out hp_)
  obtain ⟨hcz_x0_0, hfz_x0_0, hcz_x0_1, hfz_x0_1, hcz_x0_2, hfz_x0_2, hcz_x0_3, hfz_x0_3, hcz_x0_4, hfz_x0_4, hcz_x0_5, hfz_x0_5⟩ := cells6_ BK_x0.out
  clear hb_ hp_
  have Vx20 := N16_0
  clear N16_0
  obtain ⟨AVx20, cVx20, rfl, hc_⟩ := Vx20.out.reads
  have HCVx20 := Aside0.mk hc_
  clear hc_
  go_wp2_with fail
  refine (impl_JoinPhases.calls kei_ am_0 am_1 am_2 _ _ am_3 _ _ am_4 _ _ am_5 _ _ aarcs _ _ apits aleast r1v r2v _ (by repeat (first | exact Vx00.out.C | (with_reducible refine Kd.C_alloc ?_ _) | (with_reducible refine Kd.C_drewN ?_ _) | (with_reducible refine Kd.C_drew ?_))) HCVx00.out (by repeat (first | exact Vx01.out.C | (with_reducible refine Kd.C_alloc ?_ _) | (with_reducible refine Kd.C_drewN ?_ _) | (with_reducible refine Kd.C_drew ?_))) HCVx01.out (by repeat (first | exact Vx02.out.C | (with_reducible refine Kd.C_alloc ?_ _) | (with_reducible refine Kd.C_drewN ?_ _) | (with_reducible refine Kd.C_drew ?_))) HCVx02.out (by repeat (first | exact Vx10.out.C | (with_reducible refine Kd.C_alloc ?_ _) | (with_reducible refine Kd.C_drewN ?_ _) | (with_reducible refine Kd.C_drew ?_))) HCVx10.out (by repeat (first | exact Vx20.out.C | (with_reducible refine Kd.C_alloc ?_ _) | (with_reducible refine Kd.C_drewN ?_ _) | (with_reducible refine Kd.C_drew ?_))) HCVx20.out HEI.out).mono ?_
  rintro e w14_ ⟨v0_n14, rfl, ho0_, hb_⟩
  have hp_ : Below w13_.heap.size w13_ w14_ := below_step (by repeat (first | exact Below.refl _ _ | (with_reducible apply below_alloc) | (with_reducible apply pw_below_drewN) | (with_reducible apply below_drew1))) hb_
  obtain ⟨B17, H17, eB_, eH_, hi1_, hi2_, hi3_⟩ := spot (W0 := w13_) (by repeat (first | exact Below.refl _ _ | (with_reducible apply below_alloc) | (with_reducible apply pw_below_drewN) | (with_reducible apply below_drew1))) hb_
  have HZ17 := Aside0.mk (⟨hi1_, hi2_, hi3_, hp_.size⟩ : _ ∧ _ ∧ _ ∧ _)
  have N17_0 := Aside0.mk (OwnS.new (W0 := w13_) (b := w.heap.size) (by repeat (first | exact Below.refl _ _ | (with_reducible apply below_alloc) | (with_reducible apply pw_below_drewN) | (with_reducible apply below_drew1))) ho0_ hb_ HB.out.size _ _ eB_ eH_)
  clear eB_ eH_ hi1_ hi2_ hi3_ ho0_
  replace HZ := Aside0.mk (And.intro HZ.out HZ17.out)
  clear HZ17
  replace HB := Aside0.mk (more HB.out hp_)
  replace Vw0 := Aside0.mk (Vw0.out.step hp_)
  replace Vx00 := Aside0.mk (Vx00.out.step hp_)
  replace Vx01 := Aside0.mk (Vx01.out.step hp_)
  replace Vx02 := Aside0.mk (Vx02.out.step hp_)
  replace Vx10 := Aside0.mk (Vx10.out.step hp_)
  replace Vx20 := Aside0.mk (Vx20.out.step hp_)
  clear hcz_am_0 hfz_am_0 hcz_am_1 hfz_am_1 hcz_am_2 hfz_am_2 hcz_am_3 hfz_am_3 hcz_am_4 hfz_am_4 hcz_am_5 hfz_am_5
  replace BK_am := Aside0.mk (blk_below BK_am.out hp_)
  obtain ⟨hcz_am_0, hfz_am_0, hcz_am_1, hfz_am_1, hcz_am_2, hfz_am_2, hcz_am_3, hfz_am_3, hcz_am_4, hfz_am_4, hcz_am_5, hfz_am_5⟩ := cells6_ BK_am.out
  clear hcz_x0_0 hfz_x0_0 hcz_x0_1 hfz_x0_1 hcz_x0_2 hfz_x0_2 hcz_x0_3 hfz_x0_3 hcz_x0_4 hfz_x0_4 hcz_x0_5 hfz_x0_5
  replace BK_x0 := Aside0.mk (blk_below BK_x0.out hp_)
  obtain ⟨hcz_x0_0, hfz_x0_0, hcz_x0_1, hfz_x0_1, hcz_x0_2, hfz_x0_2, hcz_x0_3, hfz_x0_3, hcz_x0_4, hfz_x0_4, hcz_x0_5, hfz_x0_5⟩ := cells6_ BK_x0.out
  clear hb_ hp_
  have Vg0 := N17_0
  clear N17_0
  obtain ⟨AVg0, cVg0, rfl, hc_⟩ := Vg0.out.reads
  have HCVg0 := Aside0.mk hc_
  clear hc_
  go_wp2_with fail
  refine (laws_eqIntSS.calls kgq _ _ r1v _ _ r1v true _ (by repeat (first | exact Vg0.out.C | (with_reducible refine Kd.C_alloc ?_ _) | (with_reducible refine Kd.C_drewN ?_ _) | (with_reducible refine Kd.C_drew ?_))) HCVg0.out (by repeat (first | exact Vw0.out.C | (with_reducible refine Kd.C_alloc ?_ _) | (with_reducible refine Kd.C_drewN ?_ _) | (with_reducible refine Kd.C_drew ?_))) HCVw0.out Hkgq.out).mono ?_
  rintro e w15_ ⟨rfl, hd_⟩
  have hb_ := drawn_below hd_
  clear hd_
  have hp_ : Below w14_.heap.size w14_ w15_ := below_step (by repeat (first | exact Below.refl _ _ | (with_reducible apply below_alloc) | (with_reducible apply pw_below_drewN) | (with_reducible apply below_drew1))) hb_
  have HZ18 := Aside0.mk hp_.size
  replace HZ := Aside0.mk (And.intro HZ.out HZ18.out)
  clear HZ18
  replace HB := Aside0.mk (more HB.out hp_)
  replace Vw0 := Aside0.mk (Vw0.out.step hp_)
  replace Vx00 := Aside0.mk (Vx00.out.step hp_)
  replace Vx01 := Aside0.mk (Vx01.out.step hp_)
  replace Vx02 := Aside0.mk (Vx02.out.step hp_)
  replace Vx10 := Aside0.mk (Vx10.out.step hp_)
  replace Vx20 := Aside0.mk (Vx20.out.step hp_)
  replace Vg0 := Aside0.mk (Vg0.out.step hp_)
  clear hcz_am_0 hfz_am_0 hcz_am_1 hfz_am_1 hcz_am_2 hfz_am_2 hcz_am_3 hfz_am_3 hcz_am_4 hfz_am_4 hcz_am_5 hfz_am_5
  replace BK_am := Aside0.mk (blk_below BK_am.out hp_)
  obtain ⟨hcz_am_0, hfz_am_0, hcz_am_1, hfz_am_1, hcz_am_2, hfz_am_2, hcz_am_3, hfz_am_3, hcz_am_4, hfz_am_4, hcz_am_5, hfz_am_5⟩ := cells6_ BK_am.out
  clear hcz_x0_0 hfz_x0_0 hcz_x0_1 hfz_x0_1 hcz_x0_2 hfz_x0_2 hcz_x0_3 hfz_x0_3 hcz_x0_4 hfz_x0_4 hcz_x0_5 hfz_x0_5
  replace BK_x0 := Aside0.mk (blk_below BK_x0.out hp_)
  obtain ⟨hcz_x0_0, hfz_x0_0, hcz_x0_1, hfz_x0_1, hcz_x0_2, hfz_x0_2, hcz_x0_3, hfz_x0_3, hcz_x0_4, hfz_x0_4, hcz_x0_5, hfz_x0_5⟩ := cells6_ BK_x0.out
  clear hb_ hp_
  go_wp2_with fail
  have hp_ : Below w15_.heap.size w15_ w15_.drew := below_drew1 (Below.refl _ _)
  replace HB := Aside0.mk (more HB.out hp_)
  replace Vw0 := Aside0.mk (Vw0.out.step hp_)
  replace Vx00 := Aside0.mk (Vx00.out.step hp_)
  replace Vx01 := Aside0.mk (Vx01.out.step hp_)
  replace Vx02 := Aside0.mk (Vx02.out.step hp_)
  replace Vx10 := Aside0.mk (Vx10.out.step hp_)
  replace Vx20 := Aside0.mk (Vx20.out.step hp_)
  replace Vg0 := Aside0.mk (Vg0.out.step hp_)
  clear hcz_am_0 hfz_am_0 hcz_am_1 hfz_am_1 hcz_am_2 hfz_am_2 hcz_am_3 hfz_am_3 hcz_am_4 hfz_am_4 hcz_am_5 hfz_am_5
  replace BK_am := Aside0.mk (blk_below BK_am.out hp_)
  clear hcz_x0_0 hfz_x0_0 hcz_x0_1 hfz_x0_1 hcz_x0_2 hfz_x0_2 hcz_x0_3 hfz_x0_3 hcz_x0_4 hfz_x0_4 hcz_x0_5 hfz_x0_5
  replace BK_x0 := Aside0.mk (blk_below BK_x0.out hp_)
  have HZ19 := Aside0.mk hp_.size
  clear hp_
  refine start_ (n := 5) (S := fun w' => w'.heap[g_am]? = some (.cells #[.int .i64 am_0, .int .i64 am_1, .int .i64 am_2, .slice A_am_3 am_3.length c_am_3, .slice A_am_4 am_4.length c_am_4, .slice A_am_5 am_5.length c_am_5] 67 (0, 0)) ∧ w'.heap[g_x0]? = some (.cells #[.int .i64 am_0, .int .i64 am_1, .int .i64 am_2, .slice AVx00 am_3.length cVx00, .slice AVx01 am_4.length cVx01, .slice AVx02 am_5.length cVx02] 71 (0, 0))) (ds := []) #[false, false, false, false, false] (by kernel_rfl) rfl rfl ⟨BK_am.out, BK_x0.out⟩ (fun hHeld => ?_)
  generalize w15_.drew = w16_ at HB HZ19 Vw0 Vx00 Vx01 Vx02 Vx10 Vx20 Vg0 BK_am BK_x0 hHeld ⊢
  replace HZ := Aside0.mk (And.intro HZ.out HZ19.out)
  clear HZ19
  refine take_ (i := 0) (N := some 71) (v := ?_) (a' := ?_) #[true, false, false, false, false] rfl rfl (by kernel_rfl) (fun _ _ _ h => h) (Or.inl ⟨by rfl, ?_⟩) hHeld ?_ ?_
  rotate_left
  · rintro w' ⟨s0_, s1_⟩; obtain ⟨s0, f0, s1, f1, s2, f2, s3, f3, s4, f4, s5, f5⟩ := cells6_ s0_; obtain ⟨s6, f6, s7, f7, s8, f8, s9, f9, s10, f10, s11, f11⟩ := cells6_ s1_
    go_simp
    with_reducible rfl
  rotate_left
  · simp only [Act.put, List.setIfInBounds_toArray, List.set_cons_zero, List.set_cons_succ, i64_w, i32_w]
    rfl
  refine take_ (i := 1) (N := some 72) (v := ?_) (a' := ?_) #[true, true, false, false, false] rfl rfl (by kernel_rfl) (fun _ _ _ h => h) (Or.inl ⟨by rfl, ?_⟩) hHeld ?_ ?_
  rotate_left
  · rintro w' ⟨s0_, s1_⟩; obtain ⟨s0, f0, s1, f1, s2, f2, s3, f3, s4, f4, s5, f5⟩ := cells6_ s0_; obtain ⟨s6, f6, s7, f7, s8, f8, s9, f9, s10, f10, s11, f11⟩ := cells6_ s1_
    go_simp
    with_reducible rfl
  rotate_left
  · simp only [Act.put, List.setIfInBounds_toArray, List.set_cons_zero, List.set_cons_succ, i64_w, i32_w]
    rfl
  refine one_ (i := 2) (N := some 73) #[true, true, true, false, false] rfl rfl (by kernel_rfl) (by decide) (fun K hK => ?_)
  refine goes_ Try.func70 (by kernel_rfl) rfl #[.agg #[.int .i64 (am_0), .int .i64 (am_1), .int .i64 (am_2), .slice A_am_3 am_3.length c_am_3, .slice A_am_4 am_4.length c_am_4, .slice A_am_5 am_5.length c_am_5]] (by rfl) rfl rfl (by (try simp only [List.map_toArray, List.map_cons, List.map_nil]); first | done | rfl | (simp only [List.length_drop, List.length_take]; rfl)) ?_
  refine (laws_toModel.calls kt_aM am_0 am_1 am_2 _ _ am_3 _ _ am_4 _ _ am_5 am_0 am_1 am_2 am_3 am_4 am_5 _ (by repeat (first | exact (Kd.C_below HR_am_3.out HB.out) | (with_reducible refine Kd.C_alloc ?_ _) | (with_reducible refine Kd.C_drewN ?_ _) | (with_reducible refine Kd.C_drew ?_))) HC_am_3.out (by repeat (first | exact (Kd.C_below HR_am_4.out HB.out) | (with_reducible refine Kd.C_alloc ?_ _) | (with_reducible refine Kd.C_drewN ?_ _) | (with_reducible refine Kd.C_drew ?_))) HC_am_4.out (by repeat (first | exact (Kd.C_below HR_am_5.out HB.out) | (with_reducible refine Kd.C_alloc ?_ _) | (with_reducible refine Kd.C_drewN ?_ _) | (with_reducible refine Kd.C_drew ?_))) HC_am_5.out Hkt_aM.out).mono ?_
  rintro e w17_ ⟨v3_n17, v4_n17, v5_n17, rfl, ho0_, ho1_, ho2_, hb_⟩
  refine ⟨_, rfl, ?_⟩
  have hp_ : Below w16_.heap.size w16_ w17_ := below_step (by repeat (first | exact Below.refl _ _ | (with_reducible apply below_alloc) | (with_reducible apply pw_below_drewN) | (with_reducible apply below_drew1))) hb_
  obtain ⟨B20, H20, eB_, eH_, hi1_, hi2_, hi3_⟩ := spot (W0 := w16_) (by repeat (first | exact Below.refl _ _ | (with_reducible apply below_alloc) | (with_reducible apply pw_below_drewN) | (with_reducible apply below_drew1))) hb_
  have HZ20 := Aside0.mk (⟨hi1_, hi2_, hi3_, hp_.size⟩ : _ ∧ _ ∧ _ ∧ _)
  have N20_0 := Aside0.mk (Own.new (W0 := w16_) (b := w.heap.size) (by repeat (first | exact Below.refl _ _ | (with_reducible apply below_alloc) | (with_reducible apply pw_below_drewN) | (with_reducible apply below_drew1))) (tightRow rfl ho0_) hb_ HB.out.size _ _ eB_ eH_)
  have N20_1 := Aside0.mk (Own.new (W0 := w16_) (b := w.heap.size) (by repeat (first | exact Below.refl _ _ | (with_reducible apply below_alloc) | (with_reducible apply pw_below_drewN) | (with_reducible apply below_drew1))) (tightRow rfl ho1_) hb_ HB.out.size _ _ eB_ eH_)
  have N20_2 := Aside0.mk (Own.new (W0 := w16_) (b := w.heap.size) (by repeat (first | exact Below.refl _ _ | (with_reducible apply below_alloc) | (with_reducible apply pw_below_drewN) | (with_reducible apply below_drew1))) (tightRow rfl ho2_) hb_ HB.out.size _ _ eB_ eH_)
  clear eB_ eH_ hi1_ hi2_ hi3_ ho0_ ho1_ ho2_
  replace HZ := Aside0.mk (And.intro HZ.out HZ20.out)
  clear HZ20
  replace HB := Aside0.mk (more HB.out hp_)
  replace Vw0 := Aside0.mk (Vw0.out.step hp_)
  replace Vx00 := Aside0.mk (Vx00.out.step hp_)
  replace Vx01 := Aside0.mk (Vx01.out.step hp_)
  replace Vx02 := Aside0.mk (Vx02.out.step hp_)
  replace Vx10 := Aside0.mk (Vx10.out.step hp_)
  replace Vx20 := Aside0.mk (Vx20.out.step hp_)
  replace Vg0 := Aside0.mk (Vg0.out.step hp_)
  replace BK_am := Aside0.mk (blk_below BK_am.out hp_)
  replace BK_x0 := Aside0.mk (blk_below BK_x0.out hp_)
  clear hb_ hp_
  have T20_0 := N20_0
  clear N20_0
  obtain ⟨AT20_0, cT20_0, rfl, hc_⟩ := T20_0.out.reads
  have HCT20_0 := Aside0.mk hc_
  clear hc_
  have T20_1 := N20_1
  clear N20_1
  obtain ⟨AT20_1, cT20_1, rfl, hc_⟩ := T20_1.out.reads
  have HCT20_1 := Aside0.mk hc_
  clear hc_
  have T20_2 := N20_2
  clear N20_2
  obtain ⟨AT20_2, cT20_2, rfl, hc_⟩ := T20_2.out.reads
  have HCT20_2 := Aside0.mk hc_
  clear hc_
  refine hK.out _ _ ⟨BK_am.out, BK_x0.out⟩ (fun hHeld => ?_)
  clear hK K
  refine norm_ (a' := ?_) ?_ ?_
  rotate_left
  · show Act.put _ (some 73) _ = _
    simp only [Act.put, List.setIfInBounds_toArray, List.set_cons_zero, List.set_cons_succ, i64_w, i32_w]
    rfl
  refine one_ (i := 3) (N := some 74) #[true, true, true, true, false] rfl rfl (by kernel_rfl) (by decide) (fun K hK => ?_)
  refine goes_ Try.func72 (by kernel_rfl) rfl #[.agg #[.int .i64 (am_0), .int .i64 (am_1), .int .i64 (am_2), .slice AVx00 am_3.length cVx00, .slice AVx01 am_4.length cVx01, .slice AVx02 am_5.length cVx02], .agg #[.int .i64 (am_0), .int .i64 (am_1), .int .i64 (am_2), .slice AT20_0 am_3.length cT20_0, .slice AT20_1 am_4.length cT20_1, .slice AT20_2 am_5.length cT20_2]] (by rfl) rfl rfl (by (try simp only [List.map_toArray, List.map_cons, List.map_nil]); first | done | rfl | (simp only [List.length_drop, List.length_take]; rfl)) ?_
  refine (laws_eqModel.calls kq_aM am_0 am_1 am_2 _ _ am_3 _ _ am_4 _ _ am_5 am_0 am_1 am_2 _ _ am_3 _ _ am_4 _ _ am_5 true _ (by repeat (first | exact Vx00.out.C | (with_reducible refine Kd.C_alloc ?_ _) | (with_reducible refine Kd.C_drewN ?_ _) | (with_reducible refine Kd.C_drew ?_))) HCVx00.out (by repeat (first | exact Vx01.out.C | (with_reducible refine Kd.C_alloc ?_ _) | (with_reducible refine Kd.C_drewN ?_ _) | (with_reducible refine Kd.C_drew ?_))) HCVx01.out (by repeat (first | exact Vx02.out.C | (with_reducible refine Kd.C_alloc ?_ _) | (with_reducible refine Kd.C_drewN ?_ _) | (with_reducible refine Kd.C_drew ?_))) HCVx02.out (by repeat (first | exact T20_0.out.C | (with_reducible refine Kd.C_alloc ?_ _) | (with_reducible refine Kd.C_drewN ?_ _) | (with_reducible refine Kd.C_drew ?_))) HCT20_0.out (by repeat (first | exact T20_1.out.C | (with_reducible refine Kd.C_alloc ?_ _) | (with_reducible refine Kd.C_drewN ?_ _) | (with_reducible refine Kd.C_drew ?_))) HCT20_1.out (by repeat (first | exact T20_2.out.C | (with_reducible refine Kd.C_alloc ?_ _) | (with_reducible refine Kd.C_drewN ?_ _) | (with_reducible refine Kd.C_drew ?_))) HCT20_2.out Hkq_aM.out).mono ?_
  rintro e w18_ ⟨rfl, hd_⟩
  refine ⟨_, rfl, ?_⟩
  have hb_ := hd_
  clear hd_
  have hp_ : Below w17_.heap.size w17_ w18_ := below_step (by repeat (first | exact Below.refl _ _ | (with_reducible apply below_alloc) | (with_reducible apply pw_below_drewN) | (with_reducible apply below_drew1))) hb_
  have HZ21 := Aside0.mk hp_.size
  replace HZ := Aside0.mk (And.intro HZ.out HZ21.out)
  clear HZ21
  replace HB := Aside0.mk (more HB.out hp_)
  replace Vw0 := Aside0.mk (Vw0.out.step hp_)
  replace Vx00 := Aside0.mk (Vx00.out.step hp_)
  replace Vx01 := Aside0.mk (Vx01.out.step hp_)
  replace Vx02 := Aside0.mk (Vx02.out.step hp_)
  replace Vx10 := Aside0.mk (Vx10.out.step hp_)
  replace Vx20 := Aside0.mk (Vx20.out.step hp_)
  replace Vg0 := Aside0.mk (Vg0.out.step hp_)
  replace T20_0 := Aside0.mk (T20_0.out.step hp_)
  replace T20_1 := Aside0.mk (T20_1.out.step hp_)
  replace T20_2 := Aside0.mk (T20_2.out.step hp_)
  replace BK_am := Aside0.mk (blk_below BK_am.out hp_)
  replace BK_x0 := Aside0.mk (blk_below BK_x0.out hp_)
  clear hb_ hp_
  refine hK.out _ _ ⟨BK_am.out, BK_x0.out⟩ (fun hHeld => ?_)
  clear hK K
  refine norm_ (a' := ?_) ?_ ?_
  rotate_left
  · show Act.put _ (some 74) _ = _
    simp only [Act.put, List.setIfInBounds_toArray, List.set_cons_zero, List.set_cons_succ, i64_w, i32_w]
    rfl
  refine pure_ (i := 4) (N := some 75) (v := ?_) (a' := ?_) #[true, true, true, true, true] rfl rfl (by kernel_rfl) (fun _ _ _ h => h) (Or.inl ⟨by rfl, ?_⟩) ?_ ?_
  rotate_left
  · intro w'
    go_simp
    with_reducible rfl
  rotate_left
  · simp only [Act.put, List.setIfInBounds_toArray, List.set_cons_zero, List.set_cons_succ, i64_w, i32_w]
    rfl
  refine done_ (by kernel_rfl) ?_
  obtain ⟨hcz_am_0, hfz_am_0, hcz_am_1, hfz_am_1, hcz_am_2, hfz_am_2, hcz_am_3, hfz_am_3, hcz_am_4, hfz_am_4, hcz_am_5, hfz_am_5⟩ := cells6_ BK_am.out
  obtain ⟨hcz_x0_0, hfz_x0_0, hcz_x0_1, hfz_x0_1, hcz_x0_2, hfz_x0_2, hcz_x0_3, hfz_x0_3, hcz_x0_4, hfz_x0_4, hcz_x0_5, hfz_x0_5⟩ := cells6_ BK_x0.out
  clear T20_0 HCT20_0
  clear T20_1 HCT20_1
  clear T20_2 HCT20_2
  go_wp2_with fail
  refine (laws_toIntSS.calls kt_aArcs _ _ aarcs aarcs _ (by repeat (first | exact (Kd.C_below HR_aarcs.out HB.out) | (with_reducible refine Kd.C_alloc ?_ _) | (with_reducible refine Kd.C_drewN ?_ _) | (with_reducible refine Kd.C_drew ?_))) HC_aarcs.out Hkt_aArcs.out).mono ?_
  rintro e w19_ ⟨v0_n19, rfl, ho0_, hb_⟩
  have hp_ : Below w18_.heap.size w18_ w19_ := below_step (by repeat (first | exact Below.refl _ _ | (with_reducible apply below_alloc) | (with_reducible apply pw_below_drewN) | (with_reducible apply below_drew1))) hb_
  obtain ⟨B22, H22, eB_, eH_, hi1_, hi2_, hi3_⟩ := spot (W0 := w18_) (by repeat (first | exact Below.refl _ _ | (with_reducible apply below_alloc) | (with_reducible apply pw_below_drewN) | (with_reducible apply below_drew1))) hb_
  have HZ22 := Aside0.mk (⟨hi1_, hi2_, hi3_, hp_.size⟩ : _ ∧ _ ∧ _ ∧ _)
  have N22_0 := Aside0.mk (OwnS.new (W0 := w18_) (b := w.heap.size) (by repeat (first | exact Below.refl _ _ | (with_reducible apply below_alloc) | (with_reducible apply pw_below_drewN) | (with_reducible apply below_drew1))) ho0_ hb_ HB.out.size _ _ eB_ eH_)
  clear eB_ eH_ hi1_ hi2_ hi3_ ho0_
  replace HZ := Aside0.mk (And.intro HZ.out HZ22.out)
  clear HZ22
  replace HB := Aside0.mk (more HB.out hp_)
  replace Vw0 := Aside0.mk (Vw0.out.step hp_)
  replace Vx00 := Aside0.mk (Vx00.out.step hp_)
  replace Vx01 := Aside0.mk (Vx01.out.step hp_)
  replace Vx02 := Aside0.mk (Vx02.out.step hp_)
  replace Vx10 := Aside0.mk (Vx10.out.step hp_)
  replace Vx20 := Aside0.mk (Vx20.out.step hp_)
  replace Vg0 := Aside0.mk (Vg0.out.step hp_)
  clear hcz_am_0 hfz_am_0 hcz_am_1 hfz_am_1 hcz_am_2 hfz_am_2 hcz_am_3 hfz_am_3 hcz_am_4 hfz_am_4 hcz_am_5 hfz_am_5
  replace BK_am := Aside0.mk (blk_below BK_am.out hp_)
  obtain ⟨hcz_am_0, hfz_am_0, hcz_am_1, hfz_am_1, hcz_am_2, hfz_am_2, hcz_am_3, hfz_am_3, hcz_am_4, hfz_am_4, hcz_am_5, hfz_am_5⟩ := cells6_ BK_am.out
  clear hcz_x0_0 hfz_x0_0 hcz_x0_1 hfz_x0_1 hcz_x0_2 hfz_x0_2 hcz_x0_3 hfz_x0_3 hcz_x0_4 hfz_x0_4 hcz_x0_5 hfz_x0_5
  replace BK_x0 := Aside0.mk (blk_below BK_x0.out hp_)
  obtain ⟨hcz_x0_0, hfz_x0_0, hcz_x0_1, hfz_x0_1, hcz_x0_2, hfz_x0_2, hcz_x0_3, hfz_x0_3, hcz_x0_4, hfz_x0_4, hcz_x0_5, hfz_x0_5⟩ := cells6_ BK_x0.out
  clear hb_ hp_
  have T22_0 := N22_0
  clear N22_0
  obtain ⟨AT22_0, cT22_0, rfl, hc_⟩ := T22_0.out.reads
  have HCT22_0 := Aside0.mk hc_
  clear hc_
  go_wp2_with fail
  refine (laws_eqIntSS.calls kq_aArcs _ _ aarcs _ _ aarcs true _ (by repeat (first | exact Vx10.out.C | (with_reducible refine Kd.C_alloc ?_ _) | (with_reducible refine Kd.C_drewN ?_ _) | (with_reducible refine Kd.C_drew ?_))) HCVx10.out (by repeat (first | exact T22_0.out.C | (with_reducible refine Kd.C_alloc ?_ _) | (with_reducible refine Kd.C_drewN ?_ _) | (with_reducible refine Kd.C_drew ?_))) HCT22_0.out Hkq_aArcs.out).mono ?_
  rintro e w20_ ⟨rfl, hd_⟩
  have hb_ := drawn_below hd_
  clear hd_
  have hp_ : Below w19_.heap.size w19_ w20_ := below_step (by repeat (first | exact Below.refl _ _ | (with_reducible apply below_alloc) | (with_reducible apply pw_below_drewN) | (with_reducible apply below_drew1))) hb_
  have HZ23 := Aside0.mk hp_.size
  replace HZ := Aside0.mk (And.intro HZ.out HZ23.out)
  clear HZ23
  replace HB := Aside0.mk (more HB.out hp_)
  replace Vw0 := Aside0.mk (Vw0.out.step hp_)
  replace Vx00 := Aside0.mk (Vx00.out.step hp_)
  replace Vx01 := Aside0.mk (Vx01.out.step hp_)
  replace Vx02 := Aside0.mk (Vx02.out.step hp_)
  replace Vx10 := Aside0.mk (Vx10.out.step hp_)
  replace Vx20 := Aside0.mk (Vx20.out.step hp_)
  replace Vg0 := Aside0.mk (Vg0.out.step hp_)
  replace T22_0 := Aside0.mk (T22_0.out.step hp_)
  clear hcz_am_0 hfz_am_0 hcz_am_1 hfz_am_1 hcz_am_2 hfz_am_2 hcz_am_3 hfz_am_3 hcz_am_4 hfz_am_4 hcz_am_5 hfz_am_5
  replace BK_am := Aside0.mk (blk_below BK_am.out hp_)
  obtain ⟨hcz_am_0, hfz_am_0, hcz_am_1, hfz_am_1, hcz_am_2, hfz_am_2, hcz_am_3, hfz_am_3, hcz_am_4, hfz_am_4, hcz_am_5, hfz_am_5⟩ := cells6_ BK_am.out
  clear hcz_x0_0 hfz_x0_0 hcz_x0_1 hfz_x0_1 hcz_x0_2 hfz_x0_2 hcz_x0_3 hfz_x0_3 hcz_x0_4 hfz_x0_4 hcz_x0_5 hfz_x0_5
  replace BK_x0 := Aside0.mk (blk_below BK_x0.out hp_)
  obtain ⟨hcz_x0_0, hfz_x0_0, hcz_x0_1, hfz_x0_1, hcz_x0_2, hfz_x0_2, hcz_x0_3, hfz_x0_3, hcz_x0_4, hfz_x0_4, hcz_x0_5, hfz_x0_5⟩ := cells6_ BK_x0.out
  clear hb_ hp_
  clear T22_0 HCT22_0
  go_wp2_with fail
  refine (laws_toIntSS.calls kt_aPits _ _ apits apits _ (by repeat (first | exact (Kd.C_below HR_apits.out HB.out) | (with_reducible refine Kd.C_alloc ?_ _) | (with_reducible refine Kd.C_drewN ?_ _) | (with_reducible refine Kd.C_drew ?_))) HC_apits.out Hkt_aPits.out).mono ?_
  rintro e w21_ ⟨v0_n21, rfl, ho0_, hb_⟩
  have hp_ : Below w20_.heap.size w20_ w21_ := below_step (by repeat (first | exact Below.refl _ _ | (with_reducible apply below_alloc) | (with_reducible apply pw_below_drewN) | (with_reducible apply below_drew1))) hb_
  obtain ⟨B24, H24, eB_, eH_, hi1_, hi2_, hi3_⟩ := spot (W0 := w20_) (by repeat (first | exact Below.refl _ _ | (with_reducible apply below_alloc) | (with_reducible apply pw_below_drewN) | (with_reducible apply below_drew1))) hb_
  have HZ24 := Aside0.mk (⟨hi1_, hi2_, hi3_, hp_.size⟩ : _ ∧ _ ∧ _ ∧ _)
  have N24_0 := Aside0.mk (OwnS.new (W0 := w20_) (b := w.heap.size) (by repeat (first | exact Below.refl _ _ | (with_reducible apply below_alloc) | (with_reducible apply pw_below_drewN) | (with_reducible apply below_drew1))) ho0_ hb_ HB.out.size _ _ eB_ eH_)
  clear eB_ eH_ hi1_ hi2_ hi3_ ho0_
  replace HZ := Aside0.mk (And.intro HZ.out HZ24.out)
  clear HZ24
  replace HB := Aside0.mk (more HB.out hp_)
  replace Vw0 := Aside0.mk (Vw0.out.step hp_)
  replace Vx00 := Aside0.mk (Vx00.out.step hp_)
  replace Vx01 := Aside0.mk (Vx01.out.step hp_)
  replace Vx02 := Aside0.mk (Vx02.out.step hp_)
  replace Vx10 := Aside0.mk (Vx10.out.step hp_)
  replace Vx20 := Aside0.mk (Vx20.out.step hp_)
  replace Vg0 := Aside0.mk (Vg0.out.step hp_)
  clear hcz_am_0 hfz_am_0 hcz_am_1 hfz_am_1 hcz_am_2 hfz_am_2 hcz_am_3 hfz_am_3 hcz_am_4 hfz_am_4 hcz_am_5 hfz_am_5
  replace BK_am := Aside0.mk (blk_below BK_am.out hp_)
  obtain ⟨hcz_am_0, hfz_am_0, hcz_am_1, hfz_am_1, hcz_am_2, hfz_am_2, hcz_am_3, hfz_am_3, hcz_am_4, hfz_am_4, hcz_am_5, hfz_am_5⟩ := cells6_ BK_am.out
  clear hcz_x0_0 hfz_x0_0 hcz_x0_1 hfz_x0_1 hcz_x0_2 hfz_x0_2 hcz_x0_3 hfz_x0_3 hcz_x0_4 hfz_x0_4 hcz_x0_5 hfz_x0_5
  replace BK_x0 := Aside0.mk (blk_below BK_x0.out hp_)
  obtain ⟨hcz_x0_0, hfz_x0_0, hcz_x0_1, hfz_x0_1, hcz_x0_2, hfz_x0_2, hcz_x0_3, hfz_x0_3, hcz_x0_4, hfz_x0_4, hcz_x0_5, hfz_x0_5⟩ := cells6_ BK_x0.out
  clear hb_ hp_
  have T24_0 := N24_0
  clear N24_0
  obtain ⟨AT24_0, cT24_0, rfl, hc_⟩ := T24_0.out.reads
  have HCT24_0 := Aside0.mk hc_
  clear hc_
  go_wp2_with fail
  refine (laws_eqIntSS.calls kq_aPits _ _ apits _ _ apits true _ (by repeat (first | exact Vx20.out.C | (with_reducible refine Kd.C_alloc ?_ _) | (with_reducible refine Kd.C_drewN ?_ _) | (with_reducible refine Kd.C_drew ?_))) HCVx20.out (by repeat (first | exact T24_0.out.C | (with_reducible refine Kd.C_alloc ?_ _) | (with_reducible refine Kd.C_drewN ?_ _) | (with_reducible refine Kd.C_drew ?_))) HCT24_0.out Hkq_aPits.out).mono ?_
  rintro e w22_ ⟨rfl, hd_⟩
  have hb_ := drawn_below hd_
  clear hd_
  have hp_ : Below w21_.heap.size w21_ w22_ := below_step (by repeat (first | exact Below.refl _ _ | (with_reducible apply below_alloc) | (with_reducible apply pw_below_drewN) | (with_reducible apply below_drew1))) hb_
  have HZ25 := Aside0.mk hp_.size
  replace HZ := Aside0.mk (And.intro HZ.out HZ25.out)
  clear HZ25
  replace HB := Aside0.mk (more HB.out hp_)
  replace Vw0 := Aside0.mk (Vw0.out.step hp_)
  replace Vx00 := Aside0.mk (Vx00.out.step hp_)
  replace Vx01 := Aside0.mk (Vx01.out.step hp_)
  replace Vx02 := Aside0.mk (Vx02.out.step hp_)
  replace Vx10 := Aside0.mk (Vx10.out.step hp_)
  replace Vx20 := Aside0.mk (Vx20.out.step hp_)
  replace Vg0 := Aside0.mk (Vg0.out.step hp_)
  replace T24_0 := Aside0.mk (T24_0.out.step hp_)
  clear hcz_am_0 hfz_am_0 hcz_am_1 hfz_am_1 hcz_am_2 hfz_am_2 hcz_am_3 hfz_am_3 hcz_am_4 hfz_am_4 hcz_am_5 hfz_am_5
  replace BK_am := Aside0.mk (blk_below BK_am.out hp_)
  obtain ⟨hcz_am_0, hfz_am_0, hcz_am_1, hfz_am_1, hcz_am_2, hfz_am_2, hcz_am_3, hfz_am_3, hcz_am_4, hfz_am_4, hcz_am_5, hfz_am_5⟩ := cells6_ BK_am.out
  clear hcz_x0_0 hfz_x0_0 hcz_x0_1 hfz_x0_1 hcz_x0_2 hfz_x0_2 hcz_x0_3 hfz_x0_3 hcz_x0_4 hfz_x0_4 hcz_x0_5 hfz_x0_5
  replace BK_x0 := Aside0.mk (blk_below BK_x0.out hp_)
  obtain ⟨hcz_x0_0, hfz_x0_0, hcz_x0_1, hfz_x0_1, hcz_x0_2, hfz_x0_2, hcz_x0_3, hfz_x0_3, hcz_x0_4, hfz_x0_4, hcz_x0_5, hfz_x0_5⟩ := cells6_ BK_x0.out
  clear hb_ hp_
  clear T24_0 HCT24_0
  have hlam_3_ := HBD_am_3.out
  have hlam_4_ := HBD_am_4.out
  have hlam_5_ := HBD_am_5.out
  obtain ⟨km26, h_⟩ := (markModel_ev am_0 am_1 am_2 am_3 am_4 am_5 (1) (by omega) (by omega)).rounds
  have HM26 := Aside0.mk h_
  clear h_
  have hs_ : 1 + (am_3.length : Int) + (am_4.length : Int) + (am_5.length : Int) < 1000000000000 := by omega
  have HSM26 := Aside0.mk hs_
  clear hs_ hlam_3_ hlam_4_ hlam_5_
  go_wp2_with fail
  refine (laws_markModel.calls km26 am_0 am_1 am_2 _ _ am_3 _ _ am_4 _ _ am_5 1 _ _ _ _ w _ (more HB.out (by repeat (first | exact Below.refl _ _ | (with_reducible apply below_alloc) | (with_reducible apply pw_below_drewN) | (with_reducible apply below_drew1)))) (by have q_ := Vx00.out.r; repeat (first | exact q_ | (with_reducible refine Kd.R_alloc ?_ _) | (with_reducible refine Kd.S_alloc ?_ _))) ?dis0_ ?dis1_ (by have q_ := Vx01.out.r; repeat (first | exact q_ | (with_reducible refine Kd.R_alloc ?_ _) | (with_reducible refine Kd.S_alloc ?_ _))) ?dis2_ ?dis3_ (by have q_ := Vx02.out.r; repeat (first | exact q_ | (with_reducible refine Kd.R_alloc ?_ _) | (with_reducible refine Kd.S_alloc ?_ _))) ?dis4_ ?dis5_ HM26.out).mono ?_
  case dis0_ => exact (fun k h1_ h2_ => by have q1_ := h1_.2; have q2_ := h2_.2; first | (with_reducible exact q2_.1.1 q1_.2) | (with_reducible exact q2_.1.2 q1_.2) | (with_reducible exact q1_.1.1 q2_.2) | (with_reducible exact q1_.1.2 q2_.2) | (with_reducible exact q2_.1 q1_.2) | (with_reducible exact q1_.1 q2_.2) | exact q2_.1 q1_.2 | exact q2_.2 q1_.2 | exact q2_.1.1 q1_.2 | exact q2_.1.2 q1_.2 | exact q1_.1 q2_.2 | exact q1_.2 q2_.2 | exact q1_.1.1 q2_.2 | exact q1_.1.2 q2_.2)
  case dis1_ => exact (fun k h1_ h2_ => by have q1_ := h1_.2; have q2_ := h2_.2; first | (with_reducible exact q2_.1.1 q1_.2) | (with_reducible exact q2_.1.2 q1_.2) | (with_reducible exact q1_.1.1 q2_.2) | (with_reducible exact q1_.1.2 q2_.2) | (with_reducible exact q2_.1 q1_.2) | (with_reducible exact q1_.1 q2_.2) | exact q2_.1 q1_.2 | exact q2_.2 q1_.2 | exact q2_.1.1 q1_.2 | exact q2_.1.2 q1_.2 | exact q1_.1 q2_.2 | exact q1_.2 q2_.2 | exact q1_.1.1 q2_.2 | exact q1_.1.2 q2_.2)
  case dis2_ => exact (fun k h1_ h2_ => by have q1_ := h1_.2; have q2_ := h2_.2; first | (with_reducible exact q2_.1.1 q1_.2) | (with_reducible exact q2_.1.2 q1_.2) | (with_reducible exact q1_.1.1 q2_.2) | (with_reducible exact q1_.1.2 q2_.2) | (with_reducible exact q2_.1 q1_.2) | (with_reducible exact q1_.1 q2_.2) | exact q2_.1 q1_.2 | exact q2_.2 q1_.2 | exact q2_.1.1 q1_.2 | exact q2_.1.2 q1_.2 | exact q1_.1 q2_.2 | exact q1_.2 q2_.2 | exact q1_.1.1 q2_.2 | exact q1_.1.2 q2_.2)
  case dis3_ => exact (fun k h1_ h2_ => by have q1_ := h1_.2; have q2_ := h2_.2; first | (with_reducible exact q2_.1.1 q1_.2) | (with_reducible exact q2_.1.2 q1_.2) | (with_reducible exact q1_.1.1 q2_.2) | (with_reducible exact q1_.1.2 q2_.2) | (with_reducible exact q2_.1 q1_.2) | (with_reducible exact q1_.1 q2_.2) | exact q2_.1 q1_.2 | exact q2_.2 q1_.2 | exact q2_.1.1 q1_.2 | exact q2_.1.2 q1_.2 | exact q1_.1 q2_.2 | exact q1_.2 q2_.2 | exact q1_.1.1 q2_.2 | exact q1_.1.2 q2_.2)
  case dis4_ => exact (fun k h1_ h2_ => by have q1_ := h1_.2; have q2_ := h2_.2; first | (with_reducible exact q2_.1.1 q1_.2) | (with_reducible exact q2_.1.2 q1_.2) | (with_reducible exact q1_.1.1 q2_.2) | (with_reducible exact q1_.1.2 q2_.2) | (with_reducible exact q2_.1 q1_.2) | (with_reducible exact q1_.1 q2_.2) | exact q2_.1 q1_.2 | exact q2_.2 q1_.2 | exact q2_.1.1 q1_.2 | exact q2_.1.2 q1_.2 | exact q1_.1 q2_.2 | exact q1_.2 q2_.2 | exact q1_.1.1 q2_.2 | exact q1_.1.2 q2_.2)
  case dis5_ => exact (fun k h1_ h2_ => by have q1_ := h1_.2; have q2_ := h2_.2; first | (with_reducible exact q2_.1.1 q1_.2) | (with_reducible exact q2_.1.2 q1_.2) | (with_reducible exact q1_.1.1 q2_.2) | (with_reducible exact q1_.1.2 q2_.2) | (with_reducible exact q2_.1 q1_.2) | (with_reducible exact q1_.1 q2_.2) | exact q2_.1 q1_.2 | exact q2_.2 q1_.2 | exact q2_.1.1 q1_.2 | exact q2_.1.2 q1_.2 | exact q1_.1 q2_.2 | exact q1_.2 q2_.2 | exact q1_.1.1 q2_.2 | exact q1_.1.2 q2_.2)
  rintro e w23_ ⟨rfl, _, _, _, hb_, hk0_⟩
  have hk_ := Kept.then_ (w := w22_) (Kept.of_below (by repeat (first | exact Below.refl _ _ | (with_reducible apply below_alloc) | (with_reducible apply pw_below_drewN) | (with_reducible apply below_drew1))) _) hk0_ (fun _ h_ => Or.inl h_)
  have HZ27 := Aside0.mk hk_.1
  replace HZ := Aside0.mk (And.intro HZ.out HZ27.out)
  clear HZ27
  clear HB
  have HB := Aside0.mk hb_
  have X_ := Aside0.mk (Vw0.out.kept hk_ (fun k h1_ h2_ h3_ => by rcases h3_ with h3_ | h3_ | h3_ <;> (have h4_ := h3_.1; have z_ := HZ.out; omega)))
  clear Vw0
  have Vw0 := X_
  clear X_
  have X_ := Aside0.mk (Vx10.out.kept hk_ (fun k h1_ h2_ h3_ => by rcases h3_ with h3_ | h3_ | h3_ <;> (have h4_ := h3_.1; have z_ := HZ.out; omega)))
  clear Vx10
  have Vx10 := X_
  clear X_
  have X_ := Aside0.mk (Vx20.out.kept hk_ (fun k h1_ h2_ h3_ => by rcases h3_ with h3_ | h3_ | h3_ <;> (have h4_ := h3_.1; have z_ := HZ.out; omega)))
  clear Vx20
  have Vx20 := X_
  clear X_
  have X_ := Aside0.mk (Vg0.out.kept hk_ (fun k h1_ h2_ h3_ => by rcases h3_ with h3_ | h3_ | h3_ <;> (have h4_ := h3_.1; have z_ := HZ.out; omega)))
  clear Vg0
  have Vg0 := X_
  clear X_
  clear hcz_am_0 hfz_am_0 hcz_am_1 hfz_am_1 hcz_am_2 hfz_am_2 hcz_am_3 hfz_am_3 hcz_am_4 hfz_am_4 hcz_am_5 hfz_am_5
  have X_ := Aside0.mk (blk_kept BK_am.out hk_ (fun h3_ => by rcases h3_ with h3_ | h3_ | h3_ <;> (have h4_ := h3_.1; have z_ := HZ.out; omega)))
  clear BK_am
  have BK_am := X_
  clear X_
  obtain ⟨hcz_am_0, hfz_am_0, hcz_am_1, hfz_am_1, hcz_am_2, hfz_am_2, hcz_am_3, hfz_am_3, hcz_am_4, hfz_am_4, hcz_am_5, hfz_am_5⟩ := cells6_ BK_am.out
  clear hcz_x0_0 hfz_x0_0 hcz_x0_1 hfz_x0_1 hcz_x0_2 hfz_x0_2 hcz_x0_3 hfz_x0_3 hcz_x0_4 hfz_x0_4 hcz_x0_5 hfz_x0_5
  have X_ := Aside0.mk (blk_kept BK_x0.out hk_ (fun h3_ => by rcases h3_ with h3_ | h3_ | h3_ <;> (have h4_ := h3_.1; have z_ := HZ.out; omega)))
  clear BK_x0
  have BK_x0 := X_
  clear X_
  obtain ⟨hcz_x0_0, hfz_x0_0, hcz_x0_1, hfz_x0_1, hcz_x0_2, hfz_x0_2, hcz_x0_3, hfz_x0_3, hcz_x0_4, hfz_x0_4, hcz_x0_5, hfz_x0_5⟩ := cells6_ BK_x0.out
  clear Vx00
  clear Vx01
  clear Vx02
  clear hb_ hk_ hk0_
  obtain ⟨a28, ea_⟩ : ∃ a_ : Int, a_ = 1 + (am_3.length : Int) + (am_4.length : Int) + (am_5.length : Int) := ⟨_, rfl⟩
  rw [← ea_]
  have ha28 : 1 ≤ a28 ∧ a28 ≤ 1 + 3145728 := by have := HBD_am_3.out; have := HBD_am_4.out; have := HBD_am_5.out; omega
  clear ea_
  go_wp2_with fail
  refine (markSS_calls aarcs (a28) (by omega) (by have := HTO_aarcs.out; omega) _ _ w _ (more HB.out (by repeat (first | exact Below.refl _ _ | (with_reducible apply below_alloc) | (with_reducible apply pw_below_drewN) | (with_reducible apply below_drew1)))) (by have q_ := Vx10.out.r; repeat (first | exact q_ | (with_reducible refine Kd.R_alloc ?_ _) | (with_reducible refine Kd.S_alloc ?_ _)))).mono ?_
  rintro e w24_ ⟨rfl, hr_, hb_, hk0_⟩
  have hk_ := Kept.then_ (w := w23_) (Kept.of_below (by repeat (first | exact Below.refl _ _ | (with_reducible apply below_alloc) | (with_reducible apply pw_below_drewN) | (with_reducible apply below_drew1))) _) hk0_ (fun _ h_ => Or.inl h_)
  have HZ30 := Aside0.mk hk_.1
  replace HZ := Aside0.mk (And.intro HZ.out HZ30.out)
  clear HZ30
  clear HB
  have HB := Aside0.mk hb_
  have X_ := Aside0.mk (Vw0.out.kept hk_ (fun k h1_ h2_ h3_ => by have h4_ := h3_.1; have z_ := HZ.out; omega))
  clear Vw0
  have Vw0 := X_
  clear X_
  have X_ := Aside0.mk (Vx20.out.kept hk_ (fun k h1_ h2_ h3_ => by have h4_ := h3_.1; have z_ := HZ.out; omega))
  clear Vx20
  have Vx20 := X_
  clear X_
  have X_ := Aside0.mk (Vg0.out.kept hk_ (fun k h1_ h2_ h3_ => by have h4_ := h3_.1; have z_ := HZ.out; omega))
  clear Vg0
  have Vg0 := X_
  clear X_
  clear hcz_am_0 hfz_am_0 hcz_am_1 hfz_am_1 hcz_am_2 hfz_am_2 hcz_am_3 hfz_am_3 hcz_am_4 hfz_am_4 hcz_am_5 hfz_am_5
  have X_ := Aside0.mk (blk_kept BK_am.out hk_ (fun h3_ => by have h4_ := h3_.1; have z_ := HZ.out; omega))
  clear BK_am
  have BK_am := X_
  clear X_
  obtain ⟨hcz_am_0, hfz_am_0, hcz_am_1, hfz_am_1, hcz_am_2, hfz_am_2, hcz_am_3, hfz_am_3, hcz_am_4, hfz_am_4, hcz_am_5, hfz_am_5⟩ := cells6_ BK_am.out
  clear hcz_x0_0 hfz_x0_0 hcz_x0_1 hfz_x0_1 hcz_x0_2 hfz_x0_2 hcz_x0_3 hfz_x0_3 hcz_x0_4 hfz_x0_4 hcz_x0_5 hfz_x0_5
  have X_ := Aside0.mk (blk_kept BK_x0.out hk_ (fun h3_ => by have h4_ := h3_.1; have z_ := HZ.out; omega))
  clear BK_x0
  have BK_x0 := X_
  clear X_
  obtain ⟨hcz_x0_0, hfz_x0_0, hcz_x0_1, hfz_x0_1, hcz_x0_2, hfz_x0_2, hcz_x0_3, hfz_x0_3, hcz_x0_4, hfz_x0_4, hcz_x0_5, hfz_x0_5⟩ := cells6_ BK_x0.out
  clear Vx10
  clear hr_ hb_ hk_ hk0_
  obtain ⟨a29, ea_⟩ : ∃ a_ : Int, a_ = a28 + (totL aarcs : Int) := ⟨_, rfl⟩
  rw [← ea_]
  have ha29 : 1 ≤ a29 ∧ a29 ≤ a28 + 1048576 := by have := HTO_aarcs.out; omega
  clear ea_
  go_wp2_with fail
  refine (markSS_calls apits (a29) (by omega) (by have := HTO_apits.out; omega) _ _ w _ (more HB.out (by repeat (first | exact Below.refl _ _ | (with_reducible apply below_alloc) | (with_reducible apply pw_below_drewN) | (with_reducible apply below_drew1)))) (by have q_ := Vx20.out.r; repeat (first | exact q_ | (with_reducible refine Kd.R_alloc ?_ _) | (with_reducible refine Kd.S_alloc ?_ _)))).mono ?_
  rintro e w25_ ⟨rfl, hr_, hb_, hk0_⟩
  have hk_ := Kept.then_ (w := w24_) (Kept.of_below (by repeat (first | exact Below.refl _ _ | (with_reducible apply below_alloc) | (with_reducible apply pw_below_drewN) | (with_reducible apply below_drew1))) _) hk0_ (fun _ h_ => Or.inl h_)
  have HZ32 := Aside0.mk hk_.1
  replace HZ := Aside0.mk (And.intro HZ.out HZ32.out)
  clear HZ32
  clear HB
  have HB := Aside0.mk hb_
  have X_ := Aside0.mk (Vw0.out.kept hk_ (fun k h1_ h2_ h3_ => by have h4_ := h3_.1; have z_ := HZ.out; omega))
  clear Vw0
  have Vw0 := X_
  clear X_
  have X_ := Aside0.mk (Vg0.out.kept hk_ (fun k h1_ h2_ h3_ => by have h4_ := h3_.1; have z_ := HZ.out; omega))
  clear Vg0
  have Vg0 := X_
  clear X_
  clear hcz_am_0 hfz_am_0 hcz_am_1 hfz_am_1 hcz_am_2 hfz_am_2 hcz_am_3 hfz_am_3 hcz_am_4 hfz_am_4 hcz_am_5 hfz_am_5
  have X_ := Aside0.mk (blk_kept BK_am.out hk_ (fun h3_ => by have h4_ := h3_.1; have z_ := HZ.out; omega))
  clear BK_am
  have BK_am := X_
  clear X_
  obtain ⟨hcz_am_0, hfz_am_0, hcz_am_1, hfz_am_1, hcz_am_2, hfz_am_2, hcz_am_3, hfz_am_3, hcz_am_4, hfz_am_4, hcz_am_5, hfz_am_5⟩ := cells6_ BK_am.out
  clear hcz_x0_0 hfz_x0_0 hcz_x0_1 hfz_x0_1 hcz_x0_2 hfz_x0_2 hcz_x0_3 hfz_x0_3 hcz_x0_4 hfz_x0_4 hcz_x0_5 hfz_x0_5
  have X_ := Aside0.mk (blk_kept BK_x0.out hk_ (fun h3_ => by have h4_ := h3_.1; have z_ := HZ.out; omega))
  clear BK_x0
  have BK_x0 := X_
  clear X_
  obtain ⟨hcz_x0_0, hfz_x0_0, hcz_x0_1, hfz_x0_1, hcz_x0_2, hfz_x0_2, hcz_x0_3, hfz_x0_3, hcz_x0_4, hfz_x0_4, hcz_x0_5, hfz_x0_5⟩ := cells6_ BK_x0.out
  clear Vx20
  clear hr_ hb_ hk_ hk0_
  obtain ⟨a31, ea_⟩ : ∃ a_ : Int, a_ = a29 + (totL apits : Int) := ⟨_, rfl⟩
  rw [← ea_]
  have ha31 : 1 ≤ a31 ∧ a31 ≤ a29 + 1048576 := by have := HTO_apits.out; omega
  clear ea_
  have dk_ : decide (a31 < 0) = false := decide_eq_false (by omega)
  go_wp2_with fail
  refine (laws_eqIntSS.calls kgq _ _ r1v _ _ r1v true _ (by repeat (first | exact Vg0.out.C | (with_reducible refine Kd.C_alloc ?_ _) | (with_reducible refine Kd.C_drewN ?_ _) | (with_reducible refine Kd.C_drew ?_))) HCVg0.out (by repeat (first | exact Vw0.out.C | (with_reducible refine Kd.C_alloc ?_ _) | (with_reducible refine Kd.C_drewN ?_ _) | (with_reducible refine Kd.C_drew ?_))) HCVw0.out Hkgq.out).mono ?_
  rintro e w26_ ⟨rfl, hd_⟩
  have hb_ := drawn_below hd_
  clear hd_
  have hp_ : Below w25_.heap.size w25_ w26_ := below_step (by repeat (first | exact Below.refl _ _ | (with_reducible apply below_alloc) | (with_reducible apply pw_below_drewN) | (with_reducible apply below_drew1))) hb_
  have HZ33 := Aside0.mk hp_.size
  replace HZ := Aside0.mk (And.intro HZ.out HZ33.out)
  clear HZ33
  replace HB := Aside0.mk (more HB.out hp_)
  replace Vw0 := Aside0.mk (Vw0.out.step hp_)
  replace Vg0 := Aside0.mk (Vg0.out.step hp_)
  clear hcz_am_0 hfz_am_0 hcz_am_1 hfz_am_1 hcz_am_2 hfz_am_2 hcz_am_3 hfz_am_3 hcz_am_4 hfz_am_4 hcz_am_5 hfz_am_5
  replace BK_am := Aside0.mk (blk_below BK_am.out hp_)
  obtain ⟨hcz_am_0, hfz_am_0, hcz_am_1, hfz_am_1, hcz_am_2, hfz_am_2, hcz_am_3, hfz_am_3, hcz_am_4, hfz_am_4, hcz_am_5, hfz_am_5⟩ := cells6_ BK_am.out
  clear hcz_x0_0 hfz_x0_0 hcz_x0_1 hfz_x0_1 hcz_x0_2 hfz_x0_2 hcz_x0_3 hfz_x0_3 hcz_x0_4 hfz_x0_4 hcz_x0_5 hfz_x0_5
  replace BK_x0 := Aside0.mk (blk_below BK_x0.out hp_)
  obtain ⟨hcz_x0_0, hfz_x0_0, hcz_x0_1, hfz_x0_1, hcz_x0_2, hfz_x0_2, hcz_x0_3, hfz_x0_3, hcz_x0_4, hfz_x0_4, hcz_x0_5, hfz_x0_5⟩ := cells6_ BK_x0.out
  clear hb_ hp_
  obtain ⟨kh34, h_⟩ := (heldIntSS_ev r1v 1 (by omega) (by have := HN_r1.out.2; omega) (by have := HL_r1.out; omega)).rounds
  have HH34 := Aside0.mk h_
  clear h_
  go_wp2_with fail
  refine (markSS_calls r1v 1 (by omega) (by have := HN_r1.out.2; omega) _ _ w _ (more HB.out (by repeat (first | exact Below.refl _ _ | (with_reducible apply below_alloc) | (with_reducible apply pw_below_drewN) | (with_reducible apply below_drew1)))) (by have q_ := Vg0.out.r; repeat (first | exact q_ | (with_reducible refine Kd.R_alloc ?_ _) | (with_reducible refine Kd.S_alloc ?_ _)))).mono ?_
  rintro e w27_ ⟨rfl, hr_, hb_, hk0_⟩
  have hk_ := Kept.then_ (w := w26_) (Kept.of_below (by repeat (first | exact Below.refl _ _ | (with_reducible apply below_alloc) | (with_reducible apply pw_below_drewN) | (with_reducible apply below_drew1))) _) hk0_ (fun _ h_ => Or.inl h_)
  have HZ35 := Aside0.mk hk_.1
  replace HZ := Aside0.mk (And.intro HZ.out HZ35.out)
  clear HZ35
  clear HB
  have HB := Aside0.mk hb_
  have X_ := Aside0.mk (Vw0.out.kept hk_ (fun k h1_ h2_ h3_ => by have h4_ := h3_.1; have z_ := HZ.out; omega))
  clear Vw0
  have Vw0 := X_
  clear X_
  clear hcz_am_0 hfz_am_0 hcz_am_1 hfz_am_1 hcz_am_2 hfz_am_2 hcz_am_3 hfz_am_3 hcz_am_4 hfz_am_4 hcz_am_5 hfz_am_5
  have X_ := Aside0.mk (blk_kept BK_am.out hk_ (fun h3_ => by have h4_ := h3_.1; have z_ := HZ.out; omega))
  clear BK_am
  have BK_am := X_
  clear X_
  obtain ⟨hcz_am_0, hfz_am_0, hcz_am_1, hfz_am_1, hcz_am_2, hfz_am_2, hcz_am_3, hfz_am_3, hcz_am_4, hfz_am_4, hcz_am_5, hfz_am_5⟩ := cells6_ BK_am.out
  clear hcz_x0_0 hfz_x0_0 hcz_x0_1 hfz_x0_1 hcz_x0_2 hfz_x0_2 hcz_x0_3 hfz_x0_3 hcz_x0_4 hfz_x0_4 hcz_x0_5 hfz_x0_5
  have X_ := Aside0.mk (blk_kept BK_x0.out hk_ (fun h3_ => by have h4_ := h3_.1; have z_ := HZ.out; omega))
  clear BK_x0
  have BK_x0 := X_
  clear X_
  obtain ⟨hcz_x0_0, hfz_x0_0, hcz_x0_1, hfz_x0_1, hcz_x0_2, hfz_x0_2, hcz_x0_3, hfz_x0_3, hcz_x0_4, hfz_x0_4, hcz_x0_5, hfz_x0_5⟩ := cells6_ BK_x0.out
  replace Vg0 := Aside0.mk (Vg0.out.marked hr_ hk_)
  clear hr_ hb_ hk_ hk0_
  have hml_ : (marksSS r1v 1).length = r1v.length := marksSS_len _ _
  have HML := Aside0.mk hml_
  clear hml_
  obtain ⟨mt, em_⟩ : ∃ m_ : Int, m_ = (1 + (totL r1v : Int)) := ⟨_, rfl⟩
  have EM := Aside0.mk em_
  rw [← em_]
  have HH34' := Aside0.mk (show _ = some mt from em_ ▸ HH34.out)
  have hmt : 0 ≤ mt := by omega
  have dm_ : decide (mt < 0) = false := decide_eq_false (by omega)
  clear em_ hmt
  have HCm := Aside0.mk (show (marksSS r1v 1).length ≤ cVg0 from by rw [HML.out]; exact HCVg0.out)
  go_wp2_with fail
  try rw [show (Value.slice AVg0 r1v.length cVg0) = .slice AVg0 (marksSS r1v 1).length cVg0 from by rw [HML.out]]
  refine (laws_heldIntSS.calls kh34 _ _ (marksSS r1v 1) 1 mt _ (by repeat (first | exact Vg0.out.C | (with_reducible refine Kd.C_alloc ?_ _) | (with_reducible refine Kd.C_drewN ?_ _) | (with_reducible refine Kd.C_drew ?_))) HCm.out HH34'.out).mono ?_
  rintro e w28_ ⟨rfl, hd_⟩
  have hp_ : Below w27_.heap.size w27_ w28_ := below_step (by repeat (first | exact Below.refl _ _ | (with_reducible apply below_alloc) | (with_reducible apply pw_below_drewN) | (with_reducible apply below_drew1))) (drawn_below hd_)
  have HZ36 := Aside0.mk hp_.size
  replace HZ := Aside0.mk (And.intro HZ.out HZ36.out)
  clear HZ36
  replace HB := Aside0.mk (more HB.out hp_)
  replace Vw0 := Aside0.mk (Vw0.out.step hp_)
  replace Vg0 := Aside0.mk (Vg0.out.step hp_)
  clear hcz_am_0 hfz_am_0 hcz_am_1 hfz_am_1 hcz_am_2 hfz_am_2 hcz_am_3 hfz_am_3 hcz_am_4 hfz_am_4 hcz_am_5 hfz_am_5
  replace BK_am := Aside0.mk (blk_below BK_am.out hp_)
  obtain ⟨hcz_am_0, hfz_am_0, hcz_am_1, hfz_am_1, hcz_am_2, hfz_am_2, hcz_am_3, hfz_am_3, hcz_am_4, hfz_am_4, hcz_am_5, hfz_am_5⟩ := cells6_ BK_am.out
  clear hcz_x0_0 hfz_x0_0 hcz_x0_1 hfz_x0_1 hcz_x0_2 hfz_x0_2 hcz_x0_3 hfz_x0_3 hcz_x0_4 hfz_x0_4 hcz_x0_5 hfz_x0_5
  replace BK_x0 := Aside0.mk (blk_below BK_x0.out hp_)
  obtain ⟨hcz_x0_0, hfz_x0_0, hcz_x0_1, hfz_x0_1, hcz_x0_2, hfz_x0_2, hcz_x0_3, hfz_x0_3, hcz_x0_4, hfz_x0_4, hcz_x0_5, hfz_x0_5⟩ := cells6_ BK_x0.out
  clear hd_ hp_
  go_wp2_with fail
  refine (laws_toModel.calls kt_aM am_0 am_1 am_2 _ _ am_3 _ _ am_4 _ _ am_5 am_0 am_1 am_2 am_3 am_4 am_5 _ (by repeat (first | exact (Kd.C_below HR_am_3.out HB.out) | (with_reducible refine Kd.C_alloc ?_ _) | (with_reducible refine Kd.C_drewN ?_ _) | (with_reducible refine Kd.C_drew ?_))) HC_am_3.out (by repeat (first | exact (Kd.C_below HR_am_4.out HB.out) | (with_reducible refine Kd.C_alloc ?_ _) | (with_reducible refine Kd.C_drewN ?_ _) | (with_reducible refine Kd.C_drew ?_))) HC_am_4.out (by repeat (first | exact (Kd.C_below HR_am_5.out HB.out) | (with_reducible refine Kd.C_alloc ?_ _) | (with_reducible refine Kd.C_drewN ?_ _) | (with_reducible refine Kd.C_drew ?_))) HC_am_5.out Hkt_aM.out).mono ?_
  rintro e w29_ ⟨v3_n29, v4_n29, v5_n29, rfl, ho0_, ho1_, ho2_, hb_⟩
  have hp_ : Below w28_.heap.size w28_ w29_ := below_step (by repeat (first | exact Below.refl _ _ | (with_reducible apply below_alloc) | (with_reducible apply pw_below_drewN) | (with_reducible apply below_drew1))) hb_
  obtain ⟨B37, H37, eB_, eH_, hi1_, hi2_, hi3_⟩ := spot (W0 := w28_) (by repeat (first | exact Below.refl _ _ | (with_reducible apply below_alloc) | (with_reducible apply pw_below_drewN) | (with_reducible apply below_drew1))) hb_
  have HZ37 := Aside0.mk (⟨hi1_, hi2_, hi3_, hp_.size⟩ : _ ∧ _ ∧ _ ∧ _)
  have N37_0 := Aside0.mk (Own.new (W0 := w28_) (b := w.heap.size) (by repeat (first | exact Below.refl _ _ | (with_reducible apply below_alloc) | (with_reducible apply pw_below_drewN) | (with_reducible apply below_drew1))) (tightRow rfl ho0_) hb_ HB.out.size _ _ eB_ eH_)
  have N37_1 := Aside0.mk (Own.new (W0 := w28_) (b := w.heap.size) (by repeat (first | exact Below.refl _ _ | (with_reducible apply below_alloc) | (with_reducible apply pw_below_drewN) | (with_reducible apply below_drew1))) (tightRow rfl ho1_) hb_ HB.out.size _ _ eB_ eH_)
  have N37_2 := Aside0.mk (Own.new (W0 := w28_) (b := w.heap.size) (by repeat (first | exact Below.refl _ _ | (with_reducible apply below_alloc) | (with_reducible apply pw_below_drewN) | (with_reducible apply below_drew1))) (tightRow rfl ho2_) hb_ HB.out.size _ _ eB_ eH_)
  clear eB_ eH_ hi1_ hi2_ hi3_ ho0_ ho1_ ho2_
  replace HZ := Aside0.mk (And.intro HZ.out HZ37.out)
  clear HZ37
  replace HB := Aside0.mk (more HB.out hp_)
  replace Vw0 := Aside0.mk (Vw0.out.step hp_)
  replace Vg0 := Aside0.mk (Vg0.out.step hp_)
  clear hcz_am_0 hfz_am_0 hcz_am_1 hfz_am_1 hcz_am_2 hfz_am_2 hcz_am_3 hfz_am_3 hcz_am_4 hfz_am_4 hcz_am_5 hfz_am_5
  replace BK_am := Aside0.mk (blk_below BK_am.out hp_)
  obtain ⟨hcz_am_0, hfz_am_0, hcz_am_1, hfz_am_1, hcz_am_2, hfz_am_2, hcz_am_3, hfz_am_3, hcz_am_4, hfz_am_4, hcz_am_5, hfz_am_5⟩ := cells6_ BK_am.out
  clear hcz_x0_0 hfz_x0_0 hcz_x0_1 hfz_x0_1 hcz_x0_2 hfz_x0_2 hcz_x0_3 hfz_x0_3 hcz_x0_4 hfz_x0_4 hcz_x0_5 hfz_x0_5
  replace BK_x0 := Aside0.mk (blk_below BK_x0.out hp_)
  obtain ⟨hcz_x0_0, hfz_x0_0, hcz_x0_1, hfz_x0_1, hcz_x0_2, hfz_x0_2, hcz_x0_3, hfz_x0_3, hcz_x0_4, hfz_x0_4, hcz_x0_5, hfz_x0_5⟩ := cells6_ BK_x0.out
  clear hb_ hp_
  have T37_0 := N37_0
  clear N37_0
  obtain ⟨AT37_0, cT37_0, rfl, hc_⟩ := T37_0.out.reads
  have HCT37_0 := Aside0.mk hc_
  clear hc_
  have T37_1 := N37_1
  clear N37_1
  obtain ⟨AT37_1, cT37_1, rfl, hc_⟩ := T37_1.out.reads
  have HCT37_1 := Aside0.mk hc_
  clear hc_
  have T37_2 := N37_2
  clear N37_2
  obtain ⟨AT37_2, cT37_2, rfl, hc_⟩ := T37_2.out.reads
  have HCT37_2 := Aside0.mk hc_
  clear hc_
  go_wp2_with fail
  refine (laws_toIntSS.calls kt_aArcs _ _ aarcs aarcs _ (by repeat (first | exact (Kd.C_below HR_aarcs.out HB.out) | (with_reducible refine Kd.C_alloc ?_ _) | (with_reducible refine Kd.C_drewN ?_ _) | (with_reducible refine Kd.C_drew ?_))) HC_aarcs.out Hkt_aArcs.out).mono ?_
  rintro e w30_ ⟨v0_n30, rfl, ho0_, hb_⟩
  have hp_ : Below w29_.heap.size w29_ w30_ := below_step (by repeat (first | exact Below.refl _ _ | (with_reducible apply below_alloc) | (with_reducible apply pw_below_drewN) | (with_reducible apply below_drew1))) hb_
  obtain ⟨B38, H38, eB_, eH_, hi1_, hi2_, hi3_⟩ := spot (W0 := w29_) (by repeat (first | exact Below.refl _ _ | (with_reducible apply below_alloc) | (with_reducible apply pw_below_drewN) | (with_reducible apply below_drew1))) hb_
  have HZ38 := Aside0.mk (⟨hi1_, hi2_, hi3_, hp_.size⟩ : _ ∧ _ ∧ _ ∧ _)
  have N38_0 := Aside0.mk (OwnS.new (W0 := w29_) (b := w.heap.size) (by repeat (first | exact Below.refl _ _ | (with_reducible apply below_alloc) | (with_reducible apply pw_below_drewN) | (with_reducible apply below_drew1))) ho0_ hb_ HB.out.size _ _ eB_ eH_)
  clear eB_ eH_ hi1_ hi2_ hi3_ ho0_
  replace HZ := Aside0.mk (And.intro HZ.out HZ38.out)
  clear HZ38
  replace HB := Aside0.mk (more HB.out hp_)
  replace Vw0 := Aside0.mk (Vw0.out.step hp_)
  replace Vg0 := Aside0.mk (Vg0.out.step hp_)
  replace T37_0 := Aside0.mk (T37_0.out.step hp_)
  replace T37_1 := Aside0.mk (T37_1.out.step hp_)
  replace T37_2 := Aside0.mk (T37_2.out.step hp_)
  clear hcz_am_0 hfz_am_0 hcz_am_1 hfz_am_1 hcz_am_2 hfz_am_2 hcz_am_3 hfz_am_3 hcz_am_4 hfz_am_4 hcz_am_5 hfz_am_5
  replace BK_am := Aside0.mk (blk_below BK_am.out hp_)
  obtain ⟨hcz_am_0, hfz_am_0, hcz_am_1, hfz_am_1, hcz_am_2, hfz_am_2, hcz_am_3, hfz_am_3, hcz_am_4, hfz_am_4, hcz_am_5, hfz_am_5⟩ := cells6_ BK_am.out
  clear hcz_x0_0 hfz_x0_0 hcz_x0_1 hfz_x0_1 hcz_x0_2 hfz_x0_2 hcz_x0_3 hfz_x0_3 hcz_x0_4 hfz_x0_4 hcz_x0_5 hfz_x0_5
  replace BK_x0 := Aside0.mk (blk_below BK_x0.out hp_)
  obtain ⟨hcz_x0_0, hfz_x0_0, hcz_x0_1, hfz_x0_1, hcz_x0_2, hfz_x0_2, hcz_x0_3, hfz_x0_3, hcz_x0_4, hfz_x0_4, hcz_x0_5, hfz_x0_5⟩ := cells6_ BK_x0.out
  clear hb_ hp_
  have T38_0 := N38_0
  clear N38_0
  obtain ⟨AT38_0, cT38_0, rfl, hc_⟩ := T38_0.out.reads
  have HCT38_0 := Aside0.mk hc_
  clear hc_
  go_wp2_with fail
  refine (laws_toIntSS.calls kt_aPits _ _ apits apits _ (by repeat (first | exact (Kd.C_below HR_apits.out HB.out) | (with_reducible refine Kd.C_alloc ?_ _) | (with_reducible refine Kd.C_drewN ?_ _) | (with_reducible refine Kd.C_drew ?_))) HC_apits.out Hkt_aPits.out).mono ?_
  rintro e w31_ ⟨v0_n31, rfl, ho0_, hb_⟩
  have hp_ : Below w30_.heap.size w30_ w31_ := below_step (by repeat (first | exact Below.refl _ _ | (with_reducible apply below_alloc) | (with_reducible apply pw_below_drewN) | (with_reducible apply below_drew1))) hb_
  obtain ⟨B39, H39, eB_, eH_, hi1_, hi2_, hi3_⟩ := spot (W0 := w30_) (by repeat (first | exact Below.refl _ _ | (with_reducible apply below_alloc) | (with_reducible apply pw_below_drewN) | (with_reducible apply below_drew1))) hb_
  have HZ39 := Aside0.mk (⟨hi1_, hi2_, hi3_, hp_.size⟩ : _ ∧ _ ∧ _ ∧ _)
  have N39_0 := Aside0.mk (OwnS.new (W0 := w30_) (b := w.heap.size) (by repeat (first | exact Below.refl _ _ | (with_reducible apply below_alloc) | (with_reducible apply pw_below_drewN) | (with_reducible apply below_drew1))) ho0_ hb_ HB.out.size _ _ eB_ eH_)
  clear eB_ eH_ hi1_ hi2_ hi3_ ho0_
  replace HZ := Aside0.mk (And.intro HZ.out HZ39.out)
  clear HZ39
  replace HB := Aside0.mk (more HB.out hp_)
  replace Vw0 := Aside0.mk (Vw0.out.step hp_)
  replace Vg0 := Aside0.mk (Vg0.out.step hp_)
  replace T37_0 := Aside0.mk (T37_0.out.step hp_)
  replace T37_1 := Aside0.mk (T37_1.out.step hp_)
  replace T37_2 := Aside0.mk (T37_2.out.step hp_)
  replace T38_0 := Aside0.mk (T38_0.out.step hp_)
  clear hcz_am_0 hfz_am_0 hcz_am_1 hfz_am_1 hcz_am_2 hfz_am_2 hcz_am_3 hfz_am_3 hcz_am_4 hfz_am_4 hcz_am_5 hfz_am_5
  replace BK_am := Aside0.mk (blk_below BK_am.out hp_)
  obtain ⟨hcz_am_0, hfz_am_0, hcz_am_1, hfz_am_1, hcz_am_2, hfz_am_2, hcz_am_3, hfz_am_3, hcz_am_4, hfz_am_4, hcz_am_5, hfz_am_5⟩ := cells6_ BK_am.out
  clear hcz_x0_0 hfz_x0_0 hcz_x0_1 hfz_x0_1 hcz_x0_2 hfz_x0_2 hcz_x0_3 hfz_x0_3 hcz_x0_4 hfz_x0_4 hcz_x0_5 hfz_x0_5
  replace BK_x0 := Aside0.mk (blk_below BK_x0.out hp_)
  obtain ⟨hcz_x0_0, hfz_x0_0, hcz_x0_1, hfz_x0_1, hcz_x0_2, hfz_x0_2, hcz_x0_3, hfz_x0_3, hcz_x0_4, hfz_x0_4, hcz_x0_5, hfz_x0_5⟩ := cells6_ BK_x0.out
  clear hb_ hp_
  have T39_0 := N39_0
  clear N39_0
  obtain ⟨AT39_0, cT39_0, rfl, hc_⟩ := T39_0.out.reads
  have HCT39_0 := Aside0.mk hc_
  clear hc_
  go_wp2_with fail
  refine (impl_JoinPhases.calls kei_ am_0 am_1 am_2 _ _ am_3 _ _ am_4 _ _ am_5 _ _ aarcs _ _ apits aleast r1v r2v _ (by repeat (first | exact T37_0.out.C | (with_reducible refine Kd.C_alloc ?_ _) | (with_reducible refine Kd.C_drewN ?_ _) | (with_reducible refine Kd.C_drew ?_))) HCT37_0.out (by repeat (first | exact T37_1.out.C | (with_reducible refine Kd.C_alloc ?_ _) | (with_reducible refine Kd.C_drewN ?_ _) | (with_reducible refine Kd.C_drew ?_))) HCT37_1.out (by repeat (first | exact T37_2.out.C | (with_reducible refine Kd.C_alloc ?_ _) | (with_reducible refine Kd.C_drewN ?_ _) | (with_reducible refine Kd.C_drew ?_))) HCT37_2.out (by repeat (first | exact T38_0.out.C | (with_reducible refine Kd.C_alloc ?_ _) | (with_reducible refine Kd.C_drewN ?_ _) | (with_reducible refine Kd.C_drew ?_))) HCT38_0.out (by repeat (first | exact T39_0.out.C | (with_reducible refine Kd.C_alloc ?_ _) | (with_reducible refine Kd.C_drewN ?_ _) | (with_reducible refine Kd.C_drew ?_))) HCT39_0.out HEI.out).mono ?_
  rintro e w32_ ⟨v0_n32, rfl, ho0_, hb_⟩
  have hp_ : Below w31_.heap.size w31_ w32_ := below_step (by repeat (first | exact Below.refl _ _ | (with_reducible apply below_alloc) | (with_reducible apply pw_below_drewN) | (with_reducible apply below_drew1))) hb_
  obtain ⟨B40, H40, eB_, eH_, hi1_, hi2_, hi3_⟩ := spot (W0 := w31_) (by repeat (first | exact Below.refl _ _ | (with_reducible apply below_alloc) | (with_reducible apply pw_below_drewN) | (with_reducible apply below_drew1))) hb_
  have HZ40 := Aside0.mk (⟨hi1_, hi2_, hi3_, hp_.size⟩ : _ ∧ _ ∧ _ ∧ _)
  have N40_0 := Aside0.mk (OwnS.new (W0 := w31_) (b := w.heap.size) (by repeat (first | exact Below.refl _ _ | (with_reducible apply below_alloc) | (with_reducible apply pw_below_drewN) | (with_reducible apply below_drew1))) ho0_ hb_ HB.out.size _ _ eB_ eH_)
  clear eB_ eH_ hi1_ hi2_ hi3_ ho0_
  replace HZ := Aside0.mk (And.intro HZ.out HZ40.out)
  clear HZ40
  replace HB := Aside0.mk (more HB.out hp_)
  replace Vw0 := Aside0.mk (Vw0.out.step hp_)
  replace Vg0 := Aside0.mk (Vg0.out.step hp_)
  replace T37_0 := Aside0.mk (T37_0.out.step hp_)
  replace T37_1 := Aside0.mk (T37_1.out.step hp_)
  replace T37_2 := Aside0.mk (T37_2.out.step hp_)
  replace T38_0 := Aside0.mk (T38_0.out.step hp_)
  replace T39_0 := Aside0.mk (T39_0.out.step hp_)
  clear hcz_am_0 hfz_am_0 hcz_am_1 hfz_am_1 hcz_am_2 hfz_am_2 hcz_am_3 hfz_am_3 hcz_am_4 hfz_am_4 hcz_am_5 hfz_am_5
  replace BK_am := Aside0.mk (blk_below BK_am.out hp_)
  obtain ⟨hcz_am_0, hfz_am_0, hcz_am_1, hfz_am_1, hcz_am_2, hfz_am_2, hcz_am_3, hfz_am_3, hcz_am_4, hfz_am_4, hcz_am_5, hfz_am_5⟩ := cells6_ BK_am.out
  clear hcz_x0_0 hfz_x0_0 hcz_x0_1 hfz_x0_1 hcz_x0_2 hfz_x0_2 hcz_x0_3 hfz_x0_3 hcz_x0_4 hfz_x0_4 hcz_x0_5 hfz_x0_5
  replace BK_x0 := Aside0.mk (blk_below BK_x0.out hp_)
  obtain ⟨hcz_x0_0, hfz_x0_0, hcz_x0_1, hfz_x0_1, hcz_x0_2, hfz_x0_2, hcz_x0_3, hfz_x0_3, hcz_x0_4, hfz_x0_4, hcz_x0_5, hfz_x0_5⟩ := cells6_ BK_x0.out
  clear hb_ hp_
  have Vh0 := N40_0
  clear N40_0
  obtain ⟨AVh0, cVh0, rfl, hc_⟩ := Vh0.out.reads
  have HCVh0 := Aside0.mk hc_
  clear hc_
  clear T37_0 HCT37_0
  clear T37_1 HCT37_1
  clear T37_2 HCT37_2
  clear T38_0 HCT38_0
  clear T39_0 HCT39_0
  go_wp2_with fail
  refine (laws_eqIntSS.calls kgq _ _ r1v _ _ r1v true _ (by repeat (first | exact Vh0.out.C | (with_reducible refine Kd.C_alloc ?_ _) | (with_reducible refine Kd.C_drewN ?_ _) | (with_reducible refine Kd.C_drew ?_))) HCVh0.out (by repeat (first | exact Vw0.out.C | (with_reducible refine Kd.C_alloc ?_ _) | (with_reducible refine Kd.C_drewN ?_ _) | (with_reducible refine Kd.C_drew ?_))) HCVw0.out Hkgq.out).mono ?_
  rintro e w33_ ⟨rfl, hd_⟩
  have hb_ := drawn_below hd_
  clear hd_
  have hp_ : Below w32_.heap.size w32_ w33_ := below_step (by repeat (first | exact Below.refl _ _ | (with_reducible apply below_alloc) | (with_reducible apply pw_below_drewN) | (with_reducible apply below_drew1))) hb_
  have HZ41 := Aside0.mk hp_.size
  replace HZ := Aside0.mk (And.intro HZ.out HZ41.out)
  clear HZ41
  replace HB := Aside0.mk (more HB.out hp_)
  replace Vw0 := Aside0.mk (Vw0.out.step hp_)
  replace Vg0 := Aside0.mk (Vg0.out.step hp_)
  replace Vh0 := Aside0.mk (Vh0.out.step hp_)
  clear hcz_am_0 hfz_am_0 hcz_am_1 hfz_am_1 hcz_am_2 hfz_am_2 hcz_am_3 hfz_am_3 hcz_am_4 hfz_am_4 hcz_am_5 hfz_am_5
  replace BK_am := Aside0.mk (blk_below BK_am.out hp_)
  obtain ⟨hcz_am_0, hfz_am_0, hcz_am_1, hfz_am_1, hcz_am_2, hfz_am_2, hcz_am_3, hfz_am_3, hcz_am_4, hfz_am_4, hcz_am_5, hfz_am_5⟩ := cells6_ BK_am.out
  clear hcz_x0_0 hfz_x0_0 hcz_x0_1 hfz_x0_1 hcz_x0_2 hfz_x0_2 hcz_x0_3 hfz_x0_3 hcz_x0_4 hfz_x0_4 hcz_x0_5 hfz_x0_5
  replace BK_x0 := Aside0.mk (blk_below BK_x0.out hp_)
  obtain ⟨hcz_x0_0, hfz_x0_0, hcz_x0_1, hfz_x0_1, hcz_x0_2, hfz_x0_2, hcz_x0_3, hfz_x0_3, hcz_x0_4, hfz_x0_4, hcz_x0_5, hfz_x0_5⟩ := cells6_ BK_x0.out
  clear hb_ hp_
  go_wp2_with fail
  try rw [show (Value.slice AVg0 r1v.length cVg0) = .slice AVg0 (marksSS r1v 1).length cVg0 from by rw [HML.out]]
  refine (laws_heldIntSS.calls kh34 _ _ (marksSS r1v 1) 1 mt _ (by repeat (first | exact Vg0.out.C | (with_reducible refine Kd.C_alloc ?_ _) | (with_reducible refine Kd.C_drewN ?_ _) | (with_reducible refine Kd.C_drew ?_))) HCm.out HH34'.out).mono ?_
  rintro e w34_ ⟨rfl, hd_⟩
  have hp_ : Below w33_.heap.size w33_ w34_ := below_step (by repeat (first | exact Below.refl _ _ | (with_reducible apply below_alloc) | (with_reducible apply pw_below_drewN) | (with_reducible apply below_drew1))) (drawn_below hd_)
  have HZ42 := Aside0.mk hp_.size
  replace HZ := Aside0.mk (And.intro HZ.out HZ42.out)
  clear HZ42
  replace HB := Aside0.mk (more HB.out hp_)
  replace Vw0 := Aside0.mk (Vw0.out.step hp_)
  replace Vg0 := Aside0.mk (Vg0.out.step hp_)
  replace Vh0 := Aside0.mk (Vh0.out.step hp_)
  clear hcz_am_0 hfz_am_0 hcz_am_1 hfz_am_1 hcz_am_2 hfz_am_2 hcz_am_3 hfz_am_3 hcz_am_4 hfz_am_4 hcz_am_5 hfz_am_5
  replace BK_am := Aside0.mk (blk_below BK_am.out hp_)
  obtain ⟨hcz_am_0, hfz_am_0, hcz_am_1, hfz_am_1, hcz_am_2, hfz_am_2, hcz_am_3, hfz_am_3, hcz_am_4, hfz_am_4, hcz_am_5, hfz_am_5⟩ := cells6_ BK_am.out
  clear hcz_x0_0 hfz_x0_0 hcz_x0_1 hfz_x0_1 hcz_x0_2 hfz_x0_2 hcz_x0_3 hfz_x0_3 hcz_x0_4 hfz_x0_4 hcz_x0_5 hfz_x0_5
  replace BK_x0 := Aside0.mk (blk_below BK_x0.out hp_)
  obtain ⟨hcz_x0_0, hfz_x0_0, hcz_x0_1, hfz_x0_1, hcz_x0_2, hfz_x0_2, hcz_x0_3, hfz_x0_3, hcz_x0_4, hfz_x0_4, hcz_x0_5, hfz_x0_5⟩ := cells6_ BK_x0.out
  clear hd_ hp_
  go_wp2_with fail
  go_ret
  exact ⟨rfl, by repeat (first | exact HB.out | (with_reducible apply below_alloc) | (with_reducible apply pw_below_drewN) | (with_reducible apply below_drew1))⟩
end Go.Proofs.Ytdipbpckmcmljaa.WalkFnExactJoinPhases

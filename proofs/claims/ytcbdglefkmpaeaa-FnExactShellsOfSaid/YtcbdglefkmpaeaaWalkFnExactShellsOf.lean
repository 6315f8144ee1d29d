/- The walk of FnExactShellsOf's own text: for all arguments it returns true, and nothing that lay in memory before has turned; over the contracts of what it calls; no further condition. -/
import Derived.Test.YtcbdglefkmpaeaaPureFnExactShellsOf
import Derived.Test.YtcbdglefkmpaeaaLaw
namespace Go.Proofs.Ytcbdglefkmpaeaa.WalkFnExactShellsOf
open Go.RowKit Go.Proofs.YtcbdglefkmpaeaaW.PrintWords Go.Proofs.YtcbdglefkmpaeaaW.PrintLast Go.Proofs.YtcbdglefkmpaeaaW.PrintMore Go.Proofs.Ytcbdglefkmpaeaa.PFnExactShellsOf Go.Proofs.Ytcbdglefkmpaeaa.Gen Go.Proofs.Ytcbdglefkmpaeaa.Pure Go.Proofs.Ytcbdglefkmpaeaa.Law Go.Proofs.Ytcbdglefkmpaeaa.Opn
set_option linter.unusedVariables false
set_option linter.unusedSimpArgs false
theorem markSS_calls (l0 : List (List Int)) (a1 : Int) (ha : 0 ≤ a1) (hb : a1 + (totL l0 : Int) < 1000000000000) (P0 : Nat → Prop) (u : Value) (w0 w : World) (hB : Below w0.heap.size w0 w) (ho : Kd.S (Kd.slice 3 (Kd.int .i64)) 23 w w0.heap.size P0 u l0) :
    Calls Try.prog 20 #[u, .int .i64 a1] w fun e w' => e = .returned (.int .i64 (a1 + (totL l0 : Int))) ∧ Kd.S (Kd.slice 3 (Kd.int .i64)) 23 w' w0.heap.size (fun k_ => P0 k_ ∨ w.heap.size ≤ k_) u (marksSS l0 a1) ∧ Below w0.heap.size w0 w' ∧ Kept w w' (fun k_ => P0 k_) := by
  have HO := Aside0.mk (Kd.S_mono ho (fun k_ hk => (Or.inl hk : P0 k_ ∨ w.heap.size ≤ k_)))
  have HK := Aside0.mk (Kept.refl w (fun k_ => P0 k_))
  have HB := Aside0.mk hB
  obtain ⟨A, c, rfl⟩ := Kd.S_slice ho
  have HL := (Kd.S_reads' ho).1
  have hmax : l0.length ≤ 9223372036854775807 := (Kd.S_reads' ho).2.2.2.1
  clear ho hB
  go_enter Try.func20, Try.ntmps20
  go_wp2
  go_loopg [1, 5] l0.length (fun kq v1 v5 w' => ∃ pre suf : List (List Int), pre ++ suf = l0 ∧ v5 = .int .i64 (pre.length : Int) ∧ v1 = .int .i64 (a1 + (totL pre : Int)) ∧ Aside0 (kq = suf.length) ∧ Aside0 (Kd.S (Kd.slice 3 (Kd.int .i64)) 23 w' w0.heap.size (fun k_ => P0 k_ ∨ w.heap.size ≤ k_) (.slice A l0.length c) (marksSS pre a1 ++ suf)) ∧ Aside0 (Below w0.heap.size w0 w') ∧ Aside0 (Kept w w' (fun k_ => P0 k_)))
  case atStart => exact ⟨[], l0, rfl, rfl, by simp [totL], ⟨rfl⟩, HO, HB, HK⟩
  case round =>
    obtain ⟨pre, suf, hl, rfl, rfl, HQ, HO, HB, HK⟩ := hrel
    cases suf with
    | nil =>
      have hpl : l0.length = pre.length := by rw [← hl]; simp
      have c1 : decide ((pre.length : Int) < (l0.length : Int)) = false := decide_eq_false (by omega)
      have c2 : decide (pre.length < l0.length) = false := decide_eq_false (by omega)
      have HP := Aside0.mk hpl
      have HE := Aside0.mk hl
      clear hl hpl
      go_wp2
      go_ret
      have e := HE.out
      rw [List.append_nil] at e
      subst e
      have o := HO.out
      rw [List.append_nil] at o
      exact ⟨rfl, o, HB.out, HK.out⟩
    | cons x suf =>
      have hpl : l0.length = pre.length + suf.length + 1 := by rw [← hl]; simp; omega
      have hlt : (pre.length : Int) < (l0.length : Int) := by omega
      have c1 : decide ((pre.length : Int) < (l0.length : Int)) = true := decide_eq_true hlt
      have c2 : decide (pre.length < l0.length) = true := decide_eq_true (by omega)
      have hcl : (marksSS pre a1 ++ x :: suf).length = l0.length := by rw [List.length_append, marksSS_len, List.length_cons]; omega
      obtain ⟨g, cap, eo, hg1, hg2, _⟩ := Kd.S_form HO.out (by rw [hcl]; omega)
      rw [hcl] at eo
      cases eo
      obtain ⟨oki, ce, hcel, hM, hcc, hfr, hoki, hH⟩ := Kd.S_elem HO.out [] (pre.length : Int) (Int.natCast_nonneg _) hlt
      obtain ⟨ve, rfl, hR⟩ := hM
      have hx := hcc 0 _ rfl
      simp only [show (Kd.slice 3 (Kd.int .i64)).sz = 1 from rfl, Nat.mul_one, Nat.add_zero, Int.toNat_natCast] at hx
      rw [Int.toNat_natCast, show (marksSS pre a1 ++ x :: suf).getD pre.length [] = x by rw [← marksSS_len pre a1]; simp] at hR
      have htot : totL l0 = totL pre + x.length + totL suf := by rw [← hl]; simp [totL]; omega
      obtain ⟨kk, hk⟩ := (markIntS_ev x (a1 + (totL pre : Int)) (by omega) (by omega)).rounds
      have HR := Aside0.mk hR
      have HH := Aside0.mk hH
      have HE := Aside0.mk hl
      have HP := Aside0.mk hpl
      have HT := Aside0.mk htot
      have HMK := Aside0.mk hk
      have HOK := Aside0.mk hoki
      have HC := Aside0.mk hcl
      clear hl hpl htot hk hoki hcl hcc hcel hfr hR hH
      go_wp2_with fail
      refine (laws_markIntS.calls kk oki ve x _ _ _ w0 wr HB.out HR.out HMK.out).mono ?_
      rintro e w2 ⟨rfl, hr2, hb2, hk2⟩
      have HS2 := Aside0.mk (show Kd.S (Kd.slice 3 (Kd.int .i64)) 23 w2 w0.heap.size (fun k_ => P0 k_ ∨ w.heap.size ≤ k_) (.slice (some ⟨g, 0, none⟩) l0.length c) (marksSS (pre ++ [x]) a1 ++ suf) from by
        have h1 := Kd.H_kept (Kd.H_widen HH.out) hk2 (fun k _ hn hk => hn (Or.inl hk))
        have h2 := Kd.H_back h1 (x' := markedI x.length (a1 + (totL pre : Int))) (okp := fun k_ => oki k_ ∨ wr.heap.size ≤ k_) ⟨ve, rfl, hr2⟩ (fun k hk => hk.elim (fun q => Or.inl q) (fun q => Or.inr ⟨Or.inr (Nat.le_trans HK.out.1 q), q⟩))
        rw [Int.toNat_natCast] at h2
        have e2 : (marksSS pre a1 ++ x :: suf).set pre.length (markedI x.length (a1 + (totL pre : Int))) = marksSS (pre ++ [x]) a1 ++ suf := by
          have s := set_mid (marksSS pre a1) x (markedI x.length (a1 + (totL pre : Int))) suf
          rw [marksSS_len, Int.toNat_natCast] at s
          rw [s, marksSS_snoc]
        rw [e2] at h2
        exact h2)
      have HB2 := Aside0.mk hb2
      have HK2 := Aside0.mk (Kept.then_ HK.out hk2 (fun k hk => (HOK.out k hk).1))
      clear hr2 hb2 hk2 HO HB HK HH HR
      have e3 : a1 + (totL pre : Int) + (x.length : Int) = a1 + (totL (pre ++ [x]) : Int) := by rw [totL_snoc]; omega
      rw [e3]
      clear e3
      go_wp2_with fail
      go_roundg suf.length
      case measure => have := HQ.out; rw [this, List.length_cons]; omega
      case rel => exact ⟨pre ++ [x], suf, by rw [List.append_assoc]; exact HE.out, by simp, rfl, ⟨rfl⟩, HS2, HB2, HK2⟩

set_option maxRecDepth 100000 in
set_option maxHeartbeats 40000000 in
theorem law (A_aarcs : Option Addr) (c_aarcs : Nat) (aarcs : List (List Int)) (A_agains : Option Addr) (c_agains : Nat) (agains : List Int) (A_acosts : Option Addr) (c_acosts : Nat) (acosts : List Int) (amost : Int) (w : World) (hr_aarcs : Kd.C (Kd.slice 3 (Kd.int .i64)) w A_aarcs aarcs.length aarcs) (hc_aarcs : aarcs.length ≤ c_aarcs) (hr_agains : Kd.C (Kd.int .i64) w A_agains agains.length agains) (hc_agains : agains.length ≤ c_agains) (hr_acosts : Kd.C (Kd.int .i64) w A_acosts acosts.length acosts) (hc_acosts : acosts.length ≤ c_acosts) (hm_aarcs : aarcs.length ≤ maxLen) (hi_aarcs : ∀ z ∈ aarcs, z.length ≤ maxLen) (hw_aarcs : ∀ z ∈ aarcs, okI .i64 z) (hm_agains : agains.length * 8 ≤ 140737488351232) (hw_agains : okI .i64 agains) (hm_acosts : acosts.length * 8 ≤ 140737488351232) (hw_acosts : okI .i64 acosts) (hw_amost : (Lit.int .i64 amost).wf = true) :
    Calls Try.prog 11 #[.slice A_aarcs aarcs.length c_aarcs, .slice A_agains agains.length c_agains, .slice A_acosts acosts.length c_acosts, .int .i64 amost] w fun e w' => e = .returned (.bool true) ∧ Below w.heap.size w w' := by
  have HR_aarcs := Aside0.mk hr_aarcs
  have HC_aarcs := Aside0.mk hc_aarcs
  clear hr_aarcs hc_aarcs
  have HR_agains := Aside0.mk hr_agains
  have HC_agains := Aside0.mk hc_agains
  clear hr_agains hc_agains
  have HR_acosts := Aside0.mk hr_acosts
  have HC_acosts := Aside0.mk hc_acosts
  clear hr_acosts hc_acosts
  have HB := Aside0.mk (Below.refl w.heap.size w)
  have HMI_aarcs := Aside0.mk hi_aarcs
  clear hi_aarcs
  clear hw_aarcs
  clear hw_agains
  clear hw_acosts
  by_cases g_agains : (agains.length : Int) > 1048576
  · have d_ : decide ((1048576 : Int) < (agains.length : Int)) = true := decide_eq_true (by omega)
    have d2_ : decide (1048576 < agains.length) = true := decide_eq_true (by omega)
    go_enter Try.func11, Try.ntmps11
    go_wp2_with fail
    go_ret
    exact ⟨rfl, by repeat (first | exact HB.out | (with_reducible apply below_alloc) | (with_reducible apply pw_below_drewN) | (with_reducible apply below_drew1))⟩
  have d_agains : decide ((1048576 : Int) < (agains.length : Int)) = false := decide_eq_false (by omega)
  have d2_agains : decide (1048576 < agains.length) = false := decide_eq_false (by omega)
  have b_agains : agains.length ≤ 1048576 := by omega
  have HBD_agains := Aside0.mk b_agains
  clear b_agains g_agains
  by_cases g_acosts : (acosts.length : Int) > 1048576
  · have d_ : decide ((1048576 : Int) < (acosts.length : Int)) = true := decide_eq_true (by omega)
    have d2_ : decide (1048576 < acosts.length) = true := decide_eq_true (by omega)
    go_enter Try.func11, Try.ntmps11
    go_wp2_with fail
    go_ret
    exact ⟨rfl, by repeat (first | exact HB.out | (with_reducible apply below_alloc) | (with_reducible apply pw_below_drewN) | (with_reducible apply below_drew1))⟩
  have d_acosts : decide ((1048576 : Int) < (acosts.length : Int)) = false := decide_eq_false (by omega)
  have d2_acosts : decide (1048576 < acosts.length) = false := decide_eq_false (by omega)
  have b_acosts : acosts.length ≤ 1048576 := by omega
  have HBD_acosts := Aside0.mk b_acosts
  clear b_acosts g_acosts
  have cl1_ : 0 ≤ (1048576 : Int) := by omega
  have cu1_ : (1048576 : Int) ≤ 1048576 := by omega
  obtain ⟨s1, hs_, hsa_, hsb_⟩ := szIntSS_ev aarcs 1048576 cl1_ cu1_ hm_aarcs HMI_aarcs.out
  obtain ⟨ks_, hs_⟩ := hs_.rounds
  have HS1 := Aside0.mk hs_
  have HSB1 := Aside0.mk hsb_
  clear hs_ hsb_ cl1_ cu1_
  go_enter Try.func11, Try.ntmps11
  go_wp2_with fail
  refine (laws_szIntSS.calls ks_ _ _ aarcs 1048576 s1 _ (by repeat (first | exact (Kd.C_below HR_aarcs.out HB.out) | (with_reducible refine Kd.C_alloc ?_ _) | (with_reducible refine Kd.C_drewN ?_ _) | (with_reducible refine Kd.C_drew ?_))) HC_aarcs.out HS1.out).mono ?_
  rintro e w1_ ⟨rfl, hd_⟩
  have hb_ := drawn_below hd_
  clear hd_
  have hp_ : Below w.heap.size w w1_ := below_step (by repeat (first | exact Below.refl _ _ | (with_reducible apply below_alloc) | (with_reducible apply pw_below_drewN) | (with_reducible apply below_drew1))) hb_
  have HZ2 := Aside0.mk hp_.size
  have HZ := HZ2
  clear HZ2
  replace HB := Aside0.mk (more HB.out hp_)
  clear hb_ hp_
  by_cases g_ : s1 < 0
  · have d_ : decide (s1 < 0) = true := decide_eq_true g_
    go_wp2_with fail
    go_ret
    exact ⟨rfl, by repeat (first | exact HB.out | (with_reducible apply below_alloc) | (with_reducible apply pw_below_drewN) | (with_reducible apply below_drew1))⟩
  have d1_ : decide (s1 < 0) = false := decide_eq_false g_
  have hb1_ := HSB1.out (by omega)
  clear HSB1
  have HQ1 := Aside0.mk hb1_
  have ga1 : 0 ≤ s1 := by omega
  clear hb1_ g_
  have b_aarcs : aarcs.length ≤ 1048576 := by have := HQ1.out; omega
  have HBD_aarcs := Aside0.mk b_aarcs
  have bi_aarcs : ∀ z ∈ aarcs, z.length ≤ 1048576 := fun z hz => by have := tot_mem hz; have := HQ1.out; omega
  have HBI_aarcs := Aside0.mk bi_aarcs
  have HTO_aarcs : Aside0 (totL aarcs ≤ 1048576) := ⟨by have := HQ1.out; omega⟩
  clear b_aarcs bi_aarcs
  obtain ⟨r1v, r2v, es_, ei_, hl_r1, hn_r1⟩ := FnExactShellsOf aarcs agains acosts amost HBD_aarcs.out HBI_aarcs.out HBD_agains.out HBD_acosts.out
  obtain ⟨kes_, h_⟩ := es_.rounds
  have HES := Aside0.mk h_
  clear h_ es_
  obtain ⟨kei_, h_⟩ := ei_.rounds
  have HEI := Aside0.mk h_
  clear h_ ei_
  have HL_r1 := Aside0.mk hl_r1
  clear hl_r1
  have HN_r1 := Aside0.mk hn_r1
  clear hn_r1
  obtain ⟨kt_aArcs, h_⟩ := (toIntSS_ev aarcs HBD_aarcs.out HBI_aarcs.out).rounds
  have Hkt_aArcs := Aside0.mk h_
  clear h_
  obtain ⟨kq_aArcs, h_⟩ := (eqIntSS_ev aarcs HBD_aarcs.out HBI_aarcs.out).rounds
  have Hkq_aArcs := Aside0.mk h_
  clear h_
  obtain ⟨kt_aGains, h_⟩ := (toIntS_ev agains (by have := HBD_agains.out; omega)).rounds
  have Hkt_aGains := Aside0.mk h_
  clear h_
  obtain ⟨kq_aGains, h_⟩ := (eqIntS_ev agains agains (by have := HBD_agains.out; omega)).rounds
  rw [decide_eq_true rfl] at h_
  have Hkq_aGains := Aside0.mk h_
  clear h_
  obtain ⟨kt_aCosts, h_⟩ := (toIntS_ev acosts (by have := HBD_acosts.out; omega)).rounds
  have Hkt_aCosts := Aside0.mk h_
  clear h_
  obtain ⟨kq_aCosts, h_⟩ := (eqIntS_ev acosts acosts (by have := HBD_acosts.out; omega)).rounds
  rw [decide_eq_true rfl] at h_
  have Hkq_aCosts := Aside0.mk h_
  clear h_
  obtain ⟨kgq, h_⟩ := (eqIntSS_ev r1v HL_r1.out HN_r1.out.1).rounds
  have Hkgq := Aside0.mk h_
  clear h_
  go_wp2_with fail
  refine (laws_toIntSS.calls kt_aArcs _ _ aarcs aarcs _ (by repeat (first | exact (Kd.C_below HR_aarcs.out HB.out) | (with_reducible refine Kd.C_alloc ?_ _) | (with_reducible refine Kd.C_drewN ?_ _) | (with_reducible refine Kd.C_drew ?_))) HC_aarcs.out Hkt_aArcs.out).mono ?_
  rintro e w2_ ⟨v0_n2, rfl, ho0_, hb_⟩
  have hp_ : Below w1_.heap.size w1_ w2_ := below_step (by repeat (first | exact Below.refl _ _ | (with_reducible apply below_alloc) | (with_reducible apply pw_below_drewN) | (with_reducible apply below_drew1))) hb_
  obtain ⟨B3, H3, eB_, eH_, hi1_, hi2_, hi3_⟩ := spot (W0 := w1_) (by repeat (first | exact Below.refl _ _ | (with_reducible apply below_alloc) | (with_reducible apply pw_below_drewN) | (with_reducible apply below_drew1))) hb_
  have HZ3 := Aside0.mk (⟨hi1_, hi2_, hi3_, hp_.size⟩ : _ ∧ _ ∧ _ ∧ _)
  have N3_0 := Aside0.mk (OwnS.new (W0 := w1_) (b := w.heap.size) (by repeat (first | exact Below.refl _ _ | (with_reducible apply below_alloc) | (with_reducible apply pw_below_drewN) | (with_reducible apply below_drew1))) ho0_ hb_ HB.out.size _ _ eB_ eH_)
  clear eB_ eH_ hi1_ hi2_ hi3_ ho0_
  replace HZ := Aside0.mk (And.intro HZ.out HZ3.out)
  clear HZ3
  replace HB := Aside0.mk (more HB.out hp_)
  clear hb_ hp_
  have T3_0 := N3_0
  clear N3_0
  obtain ⟨AT3_0, cT3_0, rfl, hc_⟩ := T3_0.out.reads
  have HCT3_0 := Aside0.mk hc_
  clear hc_
  go_wp2_with fail
  refine (laws_toIntS.calls kt_aGains _ _ agains agains _ (by repeat (first | exact (Kd.C_below HR_agains.out HB.out) | (with_reducible refine Kd.C_alloc ?_ _) | (with_reducible refine Kd.C_drewN ?_ _) | (with_reducible refine Kd.C_drew ?_))) HC_agains.out Hkt_aGains.out).mono ?_
  rintro e w3_ ⟨v0_n3, rfl, ho0_, hb_⟩
  have hp_ : Below w2_.heap.size w2_ w3_ := below_step (by repeat (first | exact Below.refl _ _ | (with_reducible apply below_alloc) | (with_reducible apply pw_below_drewN) | (with_reducible apply below_drew1))) hb_
  obtain ⟨B4, H4, eB_, eH_, hi1_, hi2_, hi3_⟩ := spot (W0 := w2_) (by repeat (first | exact Below.refl _ _ | (with_reducible apply below_alloc) | (with_reducible apply pw_below_drewN) | (with_reducible apply below_drew1))) hb_
  have HZ4 := Aside0.mk (⟨hi1_, hi2_, hi3_, hp_.size⟩ : _ ∧ _ ∧ _ ∧ _)
  have N4_0 := Aside0.mk (Own.new (W0 := w2_) (b := w.heap.size) (by repeat (first | exact Below.refl _ _ | (with_reducible apply below_alloc) | (with_reducible apply pw_below_drewN) | (with_reducible apply below_drew1))) ho0_ hb_ HB.out.size _ _ eB_ eH_)
  clear eB_ eH_ hi1_ hi2_ hi3_ ho0_
  replace HZ := Aside0.mk (And.intro HZ.out HZ4.out)
  clear HZ4
  replace HB := Aside0.mk (more HB.out hp_)
  replace T3_0 := Aside0.mk (T3_0.out.step hp_)
  clear hb_ hp_
  have T4_0 := N4_0
  clear N4_0
  obtain ⟨AT4_0, cT4_0, rfl, hc_⟩ := T4_0.out.reads
  have HCT4_0 := Aside0.mk hc_
  clear hc_
  go_wp2_with fail
  refine (laws_toIntS.calls kt_aCosts _ _ acosts acosts _ (by repeat (first | exact (Kd.C_below HR_acosts.out HB.out) | (with_reducible refine Kd.C_alloc ?_ _) | (with_reducible refine Kd.C_drewN ?_ _) | (with_reducible refine Kd.C_drew ?_))) HC_acosts.out Hkt_aCosts.out).mono ?_
  rintro e w4_ ⟨v0_n4, rfl, ho0_, hb_⟩
  have hp_ : Below w3_.heap.size w3_ w4_ := below_step (by repeat (first | exact Below.refl _ _ | (with_reducible apply below_alloc) | (with_reducible apply pw_below_drewN) | (with_reducible apply below_drew1))) hb_
  obtain ⟨B5, H5, eB_, eH_, hi1_, hi2_, hi3_⟩ := spot (W0 := w3_) (by repeat (first | exact Below.refl _ _ | (with_reducible apply below_alloc) | (with_reducible apply pw_below_drewN) | (with_reducible apply below_drew1))) hb_
  have HZ5 := Aside0.mk (⟨hi1_, hi2_, hi3_, hp_.size⟩ : _ ∧ _ ∧ _ ∧ _)
  have N5_0 := Aside0.mk (Own.new (W0 := w3_) (b := w.heap.size) (by repeat (first | exact Below.refl _ _ | (with_reducible apply below_alloc) | (with_reducible apply pw_below_drewN) | (with_reducible apply below_drew1))) ho0_ hb_ HB.out.size _ _ eB_ eH_)
  clear eB_ eH_ hi1_ hi2_ hi3_ ho0_
  replace HZ := Aside0.mk (And.intro HZ.out HZ5.out)
  clear HZ5
  replace HB := Aside0.mk (more HB.out hp_)
  replace T3_0 := Aside0.mk (T3_0.out.step hp_)
  replace T4_0 := Aside0.mk (T4_0.out.step hp_)
  clear hb_ hp_
  have T5_0 := N5_0
  clear N5_0
  obtain ⟨AT5_0, cT5_0, rfl, hc_⟩ := T5_0.out.reads
  have HCT5_0 := Aside0.mk hc_
  clear hc_
  go_wp2_with fail
  refine (spec_ShellsOf.calls kes_ _ _ aarcs _ _ agains _ _ acosts amost r1v r2v _ (by repeat (first | exact T3_0.out.C | (with_reducible refine Kd.C_alloc ?_ _) | (with_reducible refine Kd.C_drewN ?_ _) | (with_reducible refine Kd.C_drew ?_))) HCT3_0.out (by repeat (first | exact T4_0.out.C | (with_reducible refine Kd.C_alloc ?_ _) | (with_reducible refine Kd.C_drewN ?_ _) | (with_reducible refine Kd.C_drew ?_))) HCT4_0.out (by repeat (first | exact T5_0.out.C | (with_reducible refine Kd.C_alloc ?_ _) | (with_reducible refine Kd.C_drewN ?_ _) | (with_reducible refine Kd.C_drew ?_))) HCT5_0.out HES.out).mono ?_
  rintro e w5_ ⟨v0_n5, rfl, ho0_, hb_⟩
  have hp_ : Below w4_.heap.size w4_ w5_ := below_step (by repeat (first | exact Below.refl _ _ | (with_reducible apply below_alloc) | (with_reducible apply pw_below_drewN) | (with_reducible apply below_drew1))) hb_
  obtain ⟨B6, H6, eB_, eH_, hi1_, hi2_, hi3_⟩ := spot (W0 := w4_) (by repeat (first | exact Below.refl _ _ | (with_reducible apply below_alloc) | (with_reducible apply pw_below_drewN) | (with_reducible apply below_drew1))) hb_
  have HZ6 := Aside0.mk (⟨hi1_, hi2_, hi3_, hp_.size⟩ : _ ∧ _ ∧ _ ∧ _)
  have N6_0 := Aside0.mk (OwnS.new (W0 := w4_) (b := w.heap.size) (by repeat (first | exact Below.refl _ _ | (with_reducible apply below_alloc) | (with_reducible apply pw_below_drewN) | (with_reducible apply below_drew1))) ho0_ hb_ HB.out.size _ _ eB_ eH_)
  clear eB_ eH_ hi1_ hi2_ hi3_ ho0_
  replace HZ := Aside0.mk (And.intro HZ.out HZ6.out)
  clear HZ6
  replace HB := Aside0.mk (more HB.out hp_)
  replace T3_0 := Aside0.mk (T3_0.out.step hp_)
  replace T4_0 := Aside0.mk (T4_0.out.step hp_)
  replace T5_0 := Aside0.mk (T5_0.out.step hp_)
  clear hb_ hp_
  have Vw0 := N6_0
  clear N6_0
  obtain ⟨AVw0, cVw0, rfl, hc_⟩ := Vw0.out.reads
  have HCVw0 := Aside0.mk hc_
  clear hc_
  clear T3_0 HCT3_0
  clear T4_0 HCT4_0
  clear T5_0 HCT5_0
  go_wp2_with fail
  refine (laws_toIntSS.calls kt_aArcs _ _ aarcs aarcs _ (by repeat (first | exact (Kd.C_below HR_aarcs.out HB.out) | (with_reducible refine Kd.C_alloc ?_ _) | (with_reducible refine Kd.C_drewN ?_ _) | (with_reducible refine Kd.C_drew ?_))) HC_aarcs.out Hkt_aArcs.out).mono ?_
  rintro e w6_ ⟨v0_n6, rfl, ho0_, hb_⟩
  have hp_ : Below w5_.heap.size w5_ w6_ := below_step (by repeat (first | exact Below.refl _ _ | (with_reducible apply below_alloc) | (with_reducible apply pw_below_drewN) | (with_reducible apply below_drew1))) hb_
  obtain ⟨B7, H7, eB_, eH_, hi1_, hi2_, hi3_⟩ := spot (W0 := w5_) (by repeat (first | exact Below.refl _ _ | (with_reducible apply below_alloc) | (with_reducible apply pw_below_drewN) | (with_reducible apply below_drew1))) hb_
  have HZ7 := Aside0.mk (⟨hi1_, hi2_, hi3_, hp_.size⟩ : _ ∧ _ ∧ _ ∧ _)
  have N7_0 := Aside0.mk (OwnS.new (W0 := w5_) (b := w.heap.size) (by repeat (first | exact Below.refl _ _ | (with_reducible apply below_alloc) | (with_reducible apply pw_below_drewN) | (with_reducible apply below_drew1))) ho0_ hb_ HB.out.size _ _ eB_ eH_)
  clear eB_ eH_ hi1_ hi2_ hi3_ ho0_
  replace HZ := Aside0.mk (And.intro HZ.out HZ7.out)
  clear HZ7
  replace HB := Aside0.mk (more HB.out hp_)
  replace Vw0 := Aside0.mk (Vw0.out.step hp_)
  clear hb_ hp_
  have Vx00 := N7_0
  clear N7_0
  obtain ⟨AVx00, cVx00, rfl, hc_⟩ := Vx00.out.reads
  have HCVx00 := Aside0.mk hc_
  clear hc_
  go_wp2_with fail
  refine (laws_toIntS.calls kt_aGains _ _ agains agains _ (by repeat (first | exact (Kd.C_below HR_agains.out HB.out) | (with_reducible refine Kd.C_alloc ?_ _) | (with_reducible refine Kd.C_drewN ?_ _) | (with_reducible refine Kd.C_drew ?_))) HC_agains.out Hkt_aGains.out).mono ?_
  rintro e w7_ ⟨v0_n7, rfl, ho0_, hb_⟩
  have hp_ : Below w6_.heap.size w6_ w7_ := below_step (by repeat (first | exact Below.refl _ _ | (with_reducible apply below_alloc) | (with_reducible apply pw_below_drewN) | (with_reducible apply below_drew1))) hb_
  obtain ⟨B8, H8, eB_, eH_, hi1_, hi2_, hi3_⟩ := spot (W0 := w6_) (by repeat (first | exact Below.refl _ _ | (with_reducible apply below_alloc) | (with_reducible apply pw_below_drewN) | (with_reducible apply below_drew1))) hb_
  have HZ8 := Aside0.mk (⟨hi1_, hi2_, hi3_, hp_.size⟩ : _ ∧ _ ∧ _ ∧ _)
  have N8_0 := Aside0.mk (Own.new (W0 := w6_) (b := w.heap.size) (by repeat (first | exact Below.refl _ _ | (with_reducible apply below_alloc) | (with_reducible apply pw_below_drewN) | (with_reducible apply below_drew1))) ho0_ hb_ HB.out.size _ _ eB_ eH_)
  clear eB_ eH_ hi1_ hi2_ hi3_ ho0_
  replace HZ := Aside0.mk (And.intro HZ.out HZ8.out)
  clear HZ8
  replace HB := Aside0.mk (more HB.out hp_)
  replace Vw0 := Aside0.mk (Vw0.out.step hp_)
  replace Vx00 := Aside0.mk (Vx00.out.step hp_)
  clear hb_ hp_
  have Vx10 := N8_0
  clear N8_0
  obtain ⟨AVx10, cVx10, rfl, hc_⟩ := Vx10.out.reads
  have HCVx10 := Aside0.mk hc_
  clear hc_
  go_wp2_with fail
  refine (laws_toIntS.calls kt_aCosts _ _ acosts acosts _ (by repeat (first | exact (Kd.C_below HR_acosts.out HB.out) | (with_reducible refine Kd.C_alloc ?_ _) | (with_reducible refine Kd.C_drewN ?_ _) | (with_reducible refine Kd.C_drew ?_))) HC_acosts.out Hkt_aCosts.out).mono ?_
  rintro e w8_ ⟨v0_n8, rfl, ho0_, hb_⟩
  have hp_ : Below w7_.heap.size w7_ w8_ := below_step (by repeat (first | exact Below.refl _ _ | (with_reducible apply below_alloc) | (with_reducible apply pw_below_drewN) | (with_reducible apply below_drew1))) hb_
  obtain ⟨B9, H9, eB_, eH_, hi1_, hi2_, hi3_⟩ := spot (W0 := w7_) (by repeat (first | exact Below.refl _ _ | (with_reducible apply below_alloc) | (with_reducible apply pw_below_drewN) | (with_reducible apply below_drew1))) hb_
  have HZ9 := Aside0.mk (⟨hi1_, hi2_, hi3_, hp_.size⟩ : _ ∧ _ ∧ _ ∧ _)
  have N9_0 := Aside0.mk (Own.new (W0 := w7_) (b := w.heap.size) (by repeat (first | exact Below.refl _ _ | (with_reducible apply below_alloc) | (with_reducible apply pw_below_drewN) | (with_reducible apply below_drew1))) ho0_ hb_ HB.out.size _ _ eB_ eH_)
  clear eB_ eH_ hi1_ hi2_ hi3_ ho0_
  replace HZ := Aside0.mk (And.intro HZ.out HZ9.out)
  clear HZ9
  replace HB := Aside0.mk (more HB.out hp_)
  replace Vw0 := Aside0.mk (Vw0.out.step hp_)
  replace Vx00 := Aside0.mk (Vx00.out.step hp_)
  replace Vx10 := Aside0.mk (Vx10.out.step hp_)
  clear hb_ hp_
  have Vx20 := N9_0
  clear N9_0
  obtain ⟨AVx20, cVx20, rfl, hc_⟩ := Vx20.out.reads
  have HCVx20 := Aside0.mk hc_
  clear hc_
  go_wp2_with fail
  refine (impl_ShellsOf.calls kei_ _ _ aarcs _ _ agains _ _ acosts amost r1v r2v _ (by repeat (first | exact Vx00.out.C | (with_reducible refine Kd.C_alloc ?_ _) | (with_reducible refine Kd.C_drewN ?_ _) | (with_reducible refine Kd.C_drew ?_))) HCVx00.out (by repeat (first | exact Vx10.out.C | (with_reducible refine Kd.C_alloc ?_ _) | (with_reducible refine Kd.C_drewN ?_ _) | (with_reducible refine Kd.C_drew ?_))) HCVx10.out (by repeat (first | exact Vx20.out.C | (with_reducible refine Kd.C_alloc ?_ _) | (with_reducible refine Kd.C_drewN ?_ _) | (with_reducible refine Kd.C_drew ?_))) HCVx20.out HEI.out).mono ?_
  rintro e w9_ ⟨v0_n9, rfl, ho0_, hb_⟩
  have hp_ : Below w8_.heap.size w8_ w9_ := below_step (by repeat (first | exact Below.refl _ _ | (with_reducible apply below_alloc) | (with_reducible apply pw_below_drewN) | (with_reducible apply below_drew1))) hb_
  obtain ⟨B10, H10, eB_, eH_, hi1_, hi2_, hi3_⟩ := spot (W0 := w8_) (by repeat (first | exact Below.refl _ _ | (with_reducible apply below_alloc) | (with_reducible apply pw_below_drewN) | (with_reducible apply below_drew1))) hb_
  have HZ10 := Aside0.mk (⟨hi1_, hi2_, hi3_, hp_.size⟩ : _ ∧ _ ∧ _ ∧ _)
  have N10_0 := Aside0.mk (OwnS.new (W0 := w8_) (b := w.heap.size) (by repeat (first | exact Below.refl _ _ | (with_reducible apply below_alloc) | (with_reducible apply pw_below_drewN) | (with_reducible apply below_drew1))) ho0_ hb_ HB.out.size _ _ eB_ eH_)
  clear eB_ eH_ hi1_ hi2_ hi3_ ho0_
  replace HZ := Aside0.mk (And.intro HZ.out HZ10.out)
  clear HZ10
  replace HB := Aside0.mk (more HB.out hp_)
  replace Vw0 := Aside0.mk (Vw0.out.step hp_)
  replace Vx00 := Aside0.mk (Vx00.out.step hp_)
  replace Vx10 := Aside0.mk (Vx10.out.step hp_)
  replace Vx20 := Aside0.mk (Vx20.out.step hp_)
  clear hb_ hp_
  have Vg0 := N10_0
  clear N10_0
  obtain ⟨AVg0, cVg0, rfl, hc_⟩ := Vg0.out.reads
  have HCVg0 := Aside0.mk hc_
  clear hc_
  go_wp2_with fail
  refine (laws_eqIntSS.calls kgq _ _ r1v _ _ r1v true _ (by repeat (first | exact Vg0.out.C | (with_reducible refine Kd.C_alloc ?_ _) | (with_reducible refine Kd.C_drewN ?_ _) | (with_reducible refine Kd.C_drew ?_))) HCVg0.out (by repeat (first | exact Vw0.out.C | (with_reducible refine Kd.C_alloc ?_ _) | (with_reducible refine Kd.C_drewN ?_ _) | (with_reducible refine Kd.C_drew ?_))) HCVw0.out Hkgq.out).mono ?_
  rintro e w10_ ⟨rfl, hd_⟩
  have hb_ := drawn_below hd_
  clear hd_
  have hp_ : Below w9_.heap.size w9_ w10_ := below_step (by repeat (first | exact Below.refl _ _ | (with_reducible apply below_alloc) | (with_reducible apply pw_below_drewN) | (with_reducible apply below_drew1))) hb_
  have HZ11 := Aside0.mk hp_.size
  replace HZ := Aside0.mk (And.intro HZ.out HZ11.out)
  clear HZ11
  replace HB := Aside0.mk (more HB.out hp_)
  replace Vw0 := Aside0.mk (Vw0.out.step hp_)
  replace Vx00 := Aside0.mk (Vx00.out.step hp_)
  replace Vx10 := Aside0.mk (Vx10.out.step hp_)
  replace Vx20 := Aside0.mk (Vx20.out.step hp_)
  replace Vg0 := Aside0.mk (Vg0.out.step hp_)
  clear hb_ hp_
  go_wp2_with fail
  refine (laws_toIntSS.calls kt_aArcs _ _ aarcs aarcs _ (by repeat (first | exact (Kd.C_below HR_aarcs.out HB.out) | (with_reducible refine Kd.C_alloc ?_ _) | (with_reducible refine Kd.C_drewN ?_ _) | (with_reducible refine Kd.C_drew ?_))) HC_aarcs.out Hkt_aArcs.out).mono ?_
  rintro e w11_ ⟨v0_n11, rfl, ho0_, hb_⟩
  have hp_ : Below w10_.heap.size w10_ w11_ := below_step (by repeat (first | exact Below.refl _ _ | (with_reducible apply below_alloc) | (with_reducible apply pw_below_drewN) | (with_reducible apply below_drew1))) hb_
  obtain ⟨B12, H12, eB_, eH_, hi1_, hi2_, hi3_⟩ := spot (W0 := w10_) (by repeat (first | exact Below.refl _ _ | (with_reducible apply below_alloc) | (with_reducible apply pw_below_drewN) | (with_reducible apply below_drew1))) hb_
  have HZ12 := Aside0.mk (⟨hi1_, hi2_, hi3_, hp_.size⟩ : _ ∧ _ ∧ _ ∧ _)
  have N12_0 := Aside0.mk (OwnS.new (W0 := w10_) (b := w.heap.size) (by repeat (first | exact Below.refl _ _ | (with_reducible apply below_alloc) | (with_reducible apply pw_below_drewN) | (with_reducible apply below_drew1))) ho0_ hb_ HB.out.size _ _ eB_ eH_)
  clear eB_ eH_ hi1_ hi2_ hi3_ ho0_
  replace HZ := Aside0.mk (And.intro HZ.out HZ12.out)
  clear HZ12
  replace HB := Aside0.mk (more HB.out hp_)
  replace Vw0 := Aside0.mk (Vw0.out.step hp_)
  replace Vx00 := Aside0.mk (Vx00.out.step hp_)
  replace Vx10 := Aside0.mk (Vx10.out.step hp_)
  replace Vx20 := Aside0.mk (Vx20.out.step hp_)
  replace Vg0 := Aside0.mk (Vg0.out.step hp_)
  clear hb_ hp_
  have T12_0 := N12_0
  clear N12_0
  obtain ⟨AT12_0, cT12_0, rfl, hc_⟩ := T12_0.out.reads
  have HCT12_0 := Aside0.mk hc_
  clear hc_
  go_wp2_with fail
  refine (laws_eqIntSS.calls kq_aArcs _ _ aarcs _ _ aarcs true _ (by repeat (first | exact Vx00.out.C | (with_reducible refine Kd.C_alloc ?_ _) | (with_reducible refine Kd.C_drewN ?_ _) | (with_reducible refine Kd.C_drew ?_))) HCVx00.out (by repeat (first | exact T12_0.out.C | (with_reducible refine Kd.C_alloc ?_ _) | (with_reducible refine Kd.C_drewN ?_ _) | (with_reducible refine Kd.C_drew ?_))) HCT12_0.out Hkq_aArcs.out).mono ?_
  rintro e w12_ ⟨rfl, hd_⟩
  have hb_ := drawn_below hd_
  clear hd_
  have hp_ : Below w11_.heap.size w11_ w12_ := below_step (by repeat (first | exact Below.refl _ _ | (with_reducible apply below_alloc) | (with_reducible apply pw_below_drewN) | (with_reducible apply below_drew1))) hb_
  have HZ13 := Aside0.mk hp_.size
  replace HZ := Aside0.mk (And.intro HZ.out HZ13.out)
  clear HZ13
  replace HB := Aside0.mk (more HB.out hp_)
  replace Vw0 := Aside0.mk (Vw0.out.step hp_)
  replace Vx00 := Aside0.mk (Vx00.out.step hp_)
  replace Vx10 := Aside0.mk (Vx10.out.step hp_)
  replace Vx20 := Aside0.mk (Vx20.out.step hp_)
  replace Vg0 := Aside0.mk (Vg0.out.step hp_)
  replace T12_0 := Aside0.mk (T12_0.out.step hp_)
  clear hb_ hp_
  clear T12_0 HCT12_0
  go_wp2_with fail
  refine (laws_toIntS.calls kt_aGains _ _ agains agains _ (by repeat (first | exact (Kd.C_below HR_agains.out HB.out) | (with_reducible refine Kd.C_alloc ?_ _) | (with_reducible refine Kd.C_drewN ?_ _) | (with_reducible refine Kd.C_drew ?_))) HC_agains.out Hkt_aGains.out).mono ?_
  rintro e w13_ ⟨v0_n13, rfl, ho0_, hb_⟩
  have hp_ : Below w12_.heap.size w12_ w13_ := below_step (by repeat (first | exact Below.refl _ _ | (with_reducible apply below_alloc) | (with_reducible apply pw_below_drewN) | (with_reducible apply below_drew1))) hb_
  obtain ⟨B14, H14, eB_, eH_, hi1_, hi2_, hi3_⟩ := spot (W0 := w12_) (by repeat (first | exact Below.refl _ _ | (with_reducible apply below_alloc) | (with_reducible apply pw_below_drewN) | (with_reducible apply below_drew1))) hb_
  have HZ14 := Aside0.mk (⟨hi1_, hi2_, hi3_, hp_.size⟩ : _ ∧ _ ∧ _ ∧ _)
  have N14_0 := Aside0.mk (Own.new (W0 := w12_) (b := w.heap.size) (by repeat (first | exact Below.refl _ _ | (with_reducible apply below_alloc) | (with_reducible apply pw_below_drewN) | (with_reducible apply below_drew1))) ho0_ hb_ HB.out.size _ _ eB_ eH_)
  clear eB_ eH_ hi1_ hi2_ hi3_ ho0_
  replace HZ := Aside0.mk (And.intro HZ.out HZ14.out)
  clear HZ14
  replace HB := Aside0.mk (more HB.out hp_)
  replace Vw0 := Aside0.mk (Vw0.out.step hp_)
  replace Vx00 := Aside0.mk (Vx00.out.step hp_)
  replace Vx10 := Aside0.mk (Vx10.out.step hp_)
  replace Vx20 := Aside0.mk (Vx20.out.step hp_)
  replace Vg0 := Aside0.mk (Vg0.out.step hp_)
  clear hb_ hp_
  have T14_0 := N14_0
  clear N14_0
  obtain ⟨AT14_0, cT14_0, rfl, hc_⟩ := T14_0.out.reads
  have HCT14_0 := Aside0.mk hc_
  clear hc_
  go_wp2_with fail
  refine (laws_eqIntS.calls kq_aGains _ _ agains _ _ agains true _ (by repeat (first | exact Vx10.out.C | (with_reducible refine Kd.C_alloc ?_ _) | (with_reducible refine Kd.C_drewN ?_ _) | (with_reducible refine Kd.C_drew ?_))) HCVx10.out (by repeat (first | exact T14_0.out.C | (with_reducible refine Kd.C_alloc ?_ _) | (with_reducible refine Kd.C_drewN ?_ _) | (with_reducible refine Kd.C_drew ?_))) HCT14_0.out Hkq_aGains.out).mono ?_
  rintro e w14_ ⟨rfl, hd_⟩
  have hb_ := drawn_below hd_
  clear hd_
  have hp_ : Below w13_.heap.size w13_ w14_ := below_step (by repeat (first | exact Below.refl _ _ | (with_reducible apply below_alloc) | (with_reducible apply pw_below_drewN) | (with_reducible apply below_drew1))) hb_
  have HZ15 := Aside0.mk hp_.size
  replace HZ := Aside0.mk (And.intro HZ.out HZ15.out)
  clear HZ15
  replace HB := Aside0.mk (more HB.out hp_)
  replace Vw0 := Aside0.mk (Vw0.out.step hp_)
  replace Vx00 := Aside0.mk (Vx00.out.step hp_)
  replace Vx10 := Aside0.mk (Vx10.out.step hp_)
  replace Vx20 := Aside0.mk (Vx20.out.step hp_)
  replace Vg0 := Aside0.mk (Vg0.out.step hp_)
  replace T14_0 := Aside0.mk (T14_0.out.step hp_)
  clear hb_ hp_
  clear T14_0 HCT14_0
  go_wp2_with fail
  refine (laws_toIntS.calls kt_aCosts _ _ acosts acosts _ (by repeat (first | exact (Kd.C_below HR_acosts.out HB.out) | (with_reducible refine Kd.C_alloc ?_ _) | (with_reducible refine Kd.C_drewN ?_ _) | (with_reducible refine Kd.C_drew ?_))) HC_acosts.out Hkt_aCosts.out).mono ?_
  rintro e w15_ ⟨v0_n15, rfl, ho0_, hb_⟩
  have hp_ : Below w14_.heap.size w14_ w15_ := below_step (by repeat (first | exact Below.refl _ _ | (with_reducible apply below_alloc) | (with_reducible apply pw_below_drewN) | (with_reducible apply below_drew1))) hb_
  obtain ⟨B16, H16, eB_, eH_, hi1_, hi2_, hi3_⟩ := spot (W0 := w14_) (by repeat (first | exact Below.refl _ _ | (with_reducible apply below_alloc) | (with_reducible apply pw_below_drewN) | (with_reducible apply below_drew1))) hb_
  have HZ16 := Aside0.mk (⟨hi1_, hi2_, hi3_, hp_.size⟩ : _ ∧ _ ∧ _ ∧ _)
  have N16_0 := Aside0.mk (Own.new (W0 := w14_) (b := w.heap.size) (by repeat (first | exact Below.refl _ _ | (with_reducible apply below_alloc) | (with_reducible apply pw_below_drewN) | (with_reducible apply below_drew1))) ho0_ hb_ HB.out.size _ _ eB_ eH_)
  clear eB_ eH_ hi1_ hi2_ hi3_ ho0_
  replace HZ := Aside0.mk (And.intro HZ.out HZ16.out)
  clear HZ16
  replace HB := Aside0.mk (more HB.out hp_)
  replace Vw0 := Aside0.mk (Vw0.out.step hp_)
  replace Vx00 := Aside0.mk (Vx00.out.step hp_)
  replace Vx10 := Aside0.mk (Vx10.out.step hp_)
  replace Vx20 := Aside0.mk (Vx20.out.step hp_)
  replace Vg0 := Aside0.mk (Vg0.out.step hp_)
  clear hb_ hp_
  have T16_0 := N16_0
  clear N16_0
  obtain ⟨AT16_0, cT16_0, rfl, hc_⟩ := T16_0.out.reads
  have HCT16_0 := Aside0.mk hc_
  clear hc_
  go_wp2_with fail
  refine (laws_eqIntS.calls kq_aCosts _ _ acosts _ _ acosts true _ (by repeat (first | exact Vx20.out.C | (with_reducible refine Kd.C_alloc ?_ _) | (with_reducible refine Kd.C_drewN ?_ _) | (with_reducible refine Kd.C_drew ?_))) HCVx20.out (by repeat (first | exact T16_0.out.C | (with_reducible refine Kd.C_alloc ?_ _) | (with_reducible refine Kd.C_drewN ?_ _) | (with_reducible refine Kd.C_drew ?_))) HCT16_0.out Hkq_aCosts.out).mono ?_
  rintro e w16_ ⟨rfl, hd_⟩
  have hb_ := drawn_below hd_
  clear hd_
  have hp_ : Below w15_.heap.size w15_ w16_ := below_step (by repeat (first | exact Below.refl _ _ | (with_reducible apply below_alloc) | (with_reducible apply pw_below_drewN) | (with_reducible apply below_drew1))) hb_
  have HZ17 := Aside0.mk hp_.size
  replace HZ := Aside0.mk (And.intro HZ.out HZ17.out)
  clear HZ17
  replace HB := Aside0.mk (more HB.out hp_)
  replace Vw0 := Aside0.mk (Vw0.out.step hp_)
  replace Vx00 := Aside0.mk (Vx00.out.step hp_)
  replace Vx10 := Aside0.mk (Vx10.out.step hp_)
  replace Vx20 := Aside0.mk (Vx20.out.step hp_)
  replace Vg0 := Aside0.mk (Vg0.out.step hp_)
  replace T16_0 := Aside0.mk (T16_0.out.step hp_)
  clear hb_ hp_
  clear T16_0 HCT16_0
  go_wp2_with fail
  refine (markSS_calls aarcs (1) (by omega) (by have := HTO_aarcs.out; omega) _ _ w _ (more HB.out (by repeat (first | exact Below.refl _ _ | (with_reducible apply below_alloc) | (with_reducible apply pw_below_drewN) | (with_reducible apply below_drew1)))) (by have q_ := Vx00.out.r; repeat (first | exact q_ | (with_reducible refine Kd.R_alloc ?_ _) | (with_reducible refine Kd.S_alloc ?_ _)))).mono ?_
  rintro e w17_ ⟨rfl, hr_, hb_, hk0_⟩
  have hk_ := Kept.then_ (w := w16_) (Kept.of_below (by repeat (first | exact Below.refl _ _ | (with_reducible apply below_alloc) | (with_reducible apply pw_below_drewN) | (with_reducible apply below_drew1))) _) hk0_ (fun _ h_ => Or.inl h_)
  have HZ19 := Aside0.mk hk_.1
  replace HZ := Aside0.mk (And.intro HZ.out HZ19.out)
  clear HZ19
  clear HB
  have HB := Aside0.mk hb_
  have X_ := Aside0.mk (Vw0.out.kept hk_ (fun k h1_ h2_ h3_ => by have h4_ := h3_.1; have z_ := HZ.out; omega))
  clear Vw0
  have Vw0 := X_
  clear X_
  have X_ := Aside0.mk (Vx10.out.kept hk_ (fun k h1_ h2_ h3_ => by have h4_ := h3_.1; have z_ := HZ.out; omega))
  clear Vx10
  have Vx10 := X_
  clear X_
  have X_ := Aside0.mk (Vx20.out.kept hk_ (fun k h1_ h2_ h3_ => by have h4_ := h3_.1; have z_ := HZ.out; omega))
  clear Vx20
  have Vx20 := X_
  clear X_
  have X_ := Aside0.mk (Vg0.out.kept hk_ (fun k h1_ h2_ h3_ => by have h4_ := h3_.1; have z_ := HZ.out; omega))
  clear Vg0
  have Vg0 := X_
  clear X_
  clear Vx00
  clear hr_ hb_ hk_ hk0_
  obtain ⟨a18, ea_⟩ : ∃ a_ : Int, a_ = 1 + (totL aarcs : Int) := ⟨_, rfl⟩
  rw [← ea_]
  have ha18 : 1 ≤ a18 ∧ a18 ≤ 1 + 1048576 := by have := HTO_aarcs.out; omega
  clear ea_
  have hl_ := HBD_agains.out
  obtain ⟨km20, h_⟩ := (markIntS_ev agains (a18) (by omega) (by omega)).rounds
  have HM20 := Aside0.mk h_
  clear h_ hl_
  go_wp2_with fail
  refine (laws_markIntS.calls km20 _ _ agains (a18) _ _ w _ (more HB.out (by repeat (first | exact Below.refl _ _ | (with_reducible apply below_alloc) | (with_reducible apply pw_below_drewN) | (with_reducible apply below_drew1)))) (by have q_ := Vx10.out.r; repeat (first | exact q_ | (with_reducible refine Kd.R_alloc ?_ _) | (with_reducible refine Kd.S_alloc ?_ _))) HM20.out).mono ?_
  rintro e w18_ ⟨rfl, hr_, hb_, hk0_⟩
  have hk_ := Kept.then_ (w := w17_) (Kept.of_below (by repeat (first | exact Below.refl _ _ | (with_reducible apply below_alloc) | (with_reducible apply pw_below_drewN) | (with_reducible apply below_drew1))) _) hk0_ (fun _ h_ => Or.inl h_)
  have HZ21 := Aside0.mk hk_.1
  replace HZ := Aside0.mk (And.intro HZ.out HZ21.out)
  clear HZ21
  clear HB
  have HB := Aside0.mk hb_
  have X_ := Aside0.mk (Vw0.out.kept hk_ (fun k h1_ h2_ h3_ => by have h4_ := h3_.1; have z_ := HZ.out; omega))
  clear Vw0
  have Vw0 := X_
  clear X_
  have X_ := Aside0.mk (Vx20.out.kept hk_ (fun k h1_ h2_ h3_ => by have h4_ := h3_.1; have z_ := HZ.out; omega))
  clear Vx20
  have Vx20 := X_
  clear X_
  have X_ := Aside0.mk (Vg0.out.kept hk_ (fun k h1_ h2_ h3_ => by have h4_ := h3_.1; have z_ := HZ.out; omega))
  clear Vg0
  have Vg0 := X_
  clear X_
  clear Vx10
  clear hr_ hb_ hk_ hk0_
  obtain ⟨a22, ea_⟩ : ∃ a_ : Int, a_ = a18 + (agains.length : Int) := ⟨_, rfl⟩
  rw [← ea_]
  have ha22 : 1 ≤ a22 ∧ a22 ≤ a18 + 1048576 := by have := HBD_agains.out; omega
  clear ea_
  have hl_ := HBD_acosts.out
  obtain ⟨km23, h_⟩ := (markIntS_ev acosts (a22) (by omega) (by omega)).rounds
  have HM23 := Aside0.mk h_
  clear h_ hl_
  go_wp2_with fail
  refine (laws_markIntS.calls km23 _ _ acosts (a22) _ _ w _ (more HB.out (by repeat (first | exact Below.refl _ _ | (with_reducible apply below_alloc) | (with_reducible apply pw_below_drewN) | (with_reducible apply below_drew1)))) (by have q_ := Vx20.out.r; repeat (first | exact q_ | (with_reducible refine Kd.R_alloc ?_ _) | (with_reducible refine Kd.S_alloc ?_ _))) HM23.out).mono ?_
  rintro e w19_ ⟨rfl, hr_, hb_, hk0_⟩
  have hk_ := Kept.then_ (w := w18_) (Kept.of_below (by repeat (first | exact Below.refl _ _ | (with_reducible apply below_alloc) | (with_reducible apply pw_below_drewN) | (with_reducible apply below_drew1))) _) hk0_ (fun _ h_ => Or.inl h_)
  have HZ24 := Aside0.mk hk_.1
  replace HZ := Aside0.mk (And.intro HZ.out HZ24.out)
  clear HZ24
  clear HB
  have HB := Aside0.mk hb_
  have X_ := Aside0.mk (Vw0.out.kept hk_ (fun k h1_ h2_ h3_ => by have h4_ := h3_.1; have z_ := HZ.out; omega))
  clear Vw0
  have Vw0 := X_
  clear X_
  have X_ := Aside0.mk (Vg0.out.kept hk_ (fun k h1_ h2_ h3_ => by have h4_ := h3_.1; have z_ := HZ.out; omega))
  clear Vg0
  have Vg0 := X_
  clear X_
  clear Vx20
  clear hr_ hb_ hk_ hk0_
  obtain ⟨a25, ea_⟩ : ∃ a_ : Int, a_ = a22 + (acosts.length : Int) := ⟨_, rfl⟩
  rw [← ea_]
  have ha25 : 1 ≤ a25 ∧ a25 ≤ a22 + 1048576 := by have := HBD_acosts.out; omega
  clear ea_
  have dk_ : decide (a25 < 0) = false := decide_eq_false (by omega)
  go_wp2_with fail
  refine (laws_eqIntSS.calls kgq _ _ r1v _ _ r1v true _ (by repeat (first | exact Vg0.out.C | (with_reducible refine Kd.C_alloc ?_ _) | (with_reducible refine Kd.C_drewN ?_ _) | (with_reducible refine Kd.C_drew ?_))) HCVg0.out (by repeat (first | exact Vw0.out.C | (with_reducible refine Kd.C_alloc ?_ _) | (with_reducible refine Kd.C_drewN ?_ _) | (with_reducible refine Kd.C_drew ?_))) HCVw0.out Hkgq.out).mono ?_
  rintro e w20_ ⟨rfl, hd_⟩
  have hb_ := drawn_below hd_
  clear hd_
  have hp_ : Below w19_.heap.size w19_ w20_ := below_step (by repeat (first | exact Below.refl _ _ | (with_reducible apply below_alloc) | (with_reducible apply pw_below_drewN) | (with_reducible apply below_drew1))) hb_
  have HZ26 := Aside0.mk hp_.size
  replace HZ := Aside0.mk (And.intro HZ.out HZ26.out)
  clear HZ26
  replace HB := Aside0.mk (more HB.out hp_)
  replace Vw0 := Aside0.mk (Vw0.out.step hp_)
  replace Vg0 := Aside0.mk (Vg0.out.step hp_)
  clear hb_ hp_
  obtain ⟨kh27, h_⟩ := (heldIntSS_ev r1v 1 (by omega) (by have := HN_r1.out.2; omega) (by have := HL_r1.out; omega)).rounds
  have HH27 := Aside0.mk h_
  clear h_
  go_wp2_with fail
  refine (markSS_calls r1v 1 (by omega) (by have := HN_r1.out.2; omega) _ _ w _ (more HB.out (by repeat (first | exact Below.refl _ _ | (with_reducible apply below_alloc) | (with_reducible apply pw_below_drewN) | (with_reducible apply below_drew1)))) (by have q_ := Vg0.out.r; repeat (first | exact q_ | (with_reducible refine Kd.R_alloc ?_ _) | (with_reducible refine Kd.S_alloc ?_ _)))).mono ?_
  rintro e w21_ ⟨rfl, hr_, hb_, hk0_⟩
  have hk_ := Kept.then_ (w := w20_) (Kept.of_below (by repeat (first | exact Below.refl _ _ | (with_reducible apply below_alloc) | (with_reducible apply pw_below_drewN) | (with_reducible apply below_drew1))) _) hk0_ (fun _ h_ => Or.inl h_)
  have HZ28 := Aside0.mk hk_.1
  replace HZ := Aside0.mk (And.intro HZ.out HZ28.out)
  clear HZ28
  clear HB
  have HB := Aside0.mk hb_
  have X_ := Aside0.mk (Vw0.out.kept hk_ (fun k h1_ h2_ h3_ => by have h4_ := h3_.1; have z_ := HZ.out; omega))
  clear Vw0
  have Vw0 := X_
  clear X_
  replace Vg0 := Aside0.mk (Vg0.out.marked hr_ hk_)
  clear hr_ hb_ hk_ hk0_
  have hml_ : (marksSS r1v 1).length = r1v.length := marksSS_len _ _
  have HML := Aside0.mk hml_
  clear hml_
  obtain ⟨mt, em_⟩ : ∃ m_ : Int, m_ = (1 + (totL r1v : Int)) := ⟨_, rfl⟩
  have EM := Aside0.mk em_
  rw [← em_]
  have HH27' := Aside0.mk (show _ = some mt from em_ ▸ HH27.out)
  have hmt : 0 ≤ mt := by omega
  have dm_ : decide (mt < 0) = false := decide_eq_false (by omega)
  clear em_ hmt
  have HCm := Aside0.mk (show (marksSS r1v 1).length ≤ cVg0 from by rw [HML.out]; exact HCVg0.out)
  go_wp2_with fail
  try rw [show (Value.slice AVg0 r1v.length cVg0) = .slice AVg0 (marksSS r1v 1).length cVg0 from by rw [HML.out]]
  refine (laws_heldIntSS.calls kh27 _ _ (marksSS r1v 1) 1 mt _ (by repeat (first | exact Vg0.out.C | (with_reducible refine Kd.C_alloc ?_ _) | (with_reducible refine Kd.C_drewN ?_ _) | (with_reducible refine Kd.C_drew ?_))) HCm.out HH27'.out).mono ?_
  rintro e w22_ ⟨rfl, hd_⟩
  have hp_ : Below w21_.heap.size w21_ w22_ := below_step (by repeat (first | exact Below.refl _ _ | (with_reducible apply below_alloc) | (with_reducible apply pw_below_drewN) | (with_reducible apply below_drew1))) (drawn_below hd_)
  have HZ29 := Aside0.mk hp_.size
  replace HZ := Aside0.mk (And.intro HZ.out HZ29.out)
  clear HZ29
  replace HB := Aside0.mk (more HB.out hp_)
  replace Vw0 := Aside0.mk (Vw0.out.step hp_)
  replace Vg0 := Aside0.mk (Vg0.out.step hp_)
  clear hd_ hp_
  go_wp2_with fail
  refine (laws_toIntSS.calls kt_aArcs _ _ aarcs aarcs _ (by repeat (first | exact (Kd.C_below HR_aarcs.out HB.out) | (with_reducible refine Kd.C_alloc ?_ _) | (with_reducible refine Kd.C_drewN ?_ _) | (with_reducible refine Kd.C_drew ?_))) HC_aarcs.out Hkt_aArcs.out).mono ?_
  rintro e w23_ ⟨v0_n23, rfl, ho0_, hb_⟩
  have hp_ : Below w22_.heap.size w22_ w23_ := below_step (by repeat (first | exact Below.refl _ _ | (with_reducible apply below_alloc) | (with_reducible apply pw_below_drewN) | (with_reducible apply below_drew1))) hb_
  obtain ⟨B30, H30, eB_, eH_, hi1_, hi2_, hi3_⟩ := spot (W0 := w22_) (by repeat (first | exact Below.refl _ _ | (with_reducible apply below_alloc) | (with_reducible apply pw_below_drewN) | (with_reducible apply below_drew1))) hb_
  have HZ30 := Aside0.mk (⟨hi1_, hi2_, hi3_, hp_.size⟩ : _ ∧ _ ∧ _ ∧ _)
  have N30_0 := Aside0.mk (OwnS.new (W0 := w22_) (b := w.heap.size) (by repeat (first | exact Below.refl _ _ | (with_reducible apply below_alloc) | (with_reducible apply pw_below_drewN) | (with_reducible apply below_drew1))) ho0_ hb_ HB.out.size _ _ eB_ eH_)
  clear eB_ eH_ hi1_ hi2_ hi3_ ho0_
  replace HZ := Aside0.mk (And.intro HZ.out HZ30.out)
  clear HZ30
  replace HB := Aside0.mk (more HB.out hp_)
  replace Vw0 := Aside0.mk (Vw0.out.step hp_)
  replace Vg0 := Aside0.mk (Vg0.out.step hp_)
  clear hb_ hp_
  have T30_0 := N30_0
  clear N30_0
  obtain ⟨AT30_0, cT30_0, rfl, hc_⟩ := T30_0.out.reads
  have HCT30_0 := Aside0.mk hc_
  clear hc_
  go_wp2_with fail
  refine (laws_toIntS.calls kt_aGains _ _ agains agains _ (by repeat (first | exact (Kd.C_below HR_agains.out HB.out) | (with_reducible refine Kd.C_alloc ?_ _) | (with_reducible refine Kd.C_drewN ?_ _) | (with_reducible refine Kd.C_drew ?_))) HC_agains.out Hkt_aGains.out).mono ?_
  rintro e w24_ ⟨v0_n24, rfl, ho0_, hb_⟩
  have hp_ : Below w23_.heap.size w23_ w24_ := below_step (by repeat (first | exact Below.refl _ _ | (with_reducible apply below_alloc) | (with_reducible apply pw_below_drewN) | (with_reducible apply below_drew1))) hb_
  obtain ⟨B31, H31, eB_, eH_, hi1_, hi2_, hi3_⟩ := spot (W0 := w23_) (by repeat (first | exact Below.refl _ _ | (with_reducible apply below_alloc) | (with_reducible apply pw_below_drewN) | (with_reducible apply below_drew1))) hb_
  have HZ31 := Aside0.mk (⟨hi1_, hi2_, hi3_, hp_.size⟩ : _ ∧ _ ∧ _ ∧ _)
  have N31_0 := Aside0.mk (Own.new (W0 := w23_) (b := w.heap.size) (by repeat (first | exact Below.refl _ _ | (with_reducible apply below_alloc) | (with_reducible apply pw_below_drewN) | (with_reducible apply below_drew1))) ho0_ hb_ HB.out.size _ _ eB_ eH_)
  clear eB_ eH_ hi1_ hi2_ hi3_ ho0_
  replace HZ := Aside0.mk (And.intro HZ.out HZ31.out)
  clear HZ31
  replace HB := Aside0.mk (more HB.out hp_)
  replace Vw0 := Aside0.mk (Vw0.out.step hp_)
  replace Vg0 := Aside0.mk (Vg0.out.step hp_)
  replace T30_0 := Aside0.mk (T30_0.out.step hp_)
  clear hb_ hp_
  have T31_0 := N31_0
  clear N31_0
  obtain ⟨AT31_0, cT31_0, rfl, hc_⟩ := T31_0.out.reads
  have HCT31_0 := Aside0.mk hc_
  clear hc_
  go_wp2_with fail
  refine (laws_toIntS.calls kt_aCosts _ _ acosts acosts _ (by repeat (first | exact (Kd.C_below HR_acosts.out HB.out) | (with_reducible refine Kd.C_alloc ?_ _) | (with_reducible refine Kd.C_drewN ?_ _) | (with_reducible refine Kd.C_drew ?_))) HC_acosts.out Hkt_aCosts.out).mono ?_
  rintro e w25_ ⟨v0_n25, rfl, ho0_, hb_⟩
  have hp_ : Below w24_.heap.size w24_ w25_ := below_step (by repeat (first | exact Below.refl _ _ | (with_reducible apply below_alloc) | (with_reducible apply pw_below_drewN) | (with_reducible apply below_drew1))) hb_
  obtain ⟨B32, H32, eB_, eH_, hi1_, hi2_, hi3_⟩ := spot (W0 := w24_) (by repeat (first | exact Below.refl _ _ | (with_reducible apply below_alloc) | (with_reducible apply pw_below_drewN) | (with_reducible apply below_drew1))) hb_
  have HZ32 := Aside0.mk (⟨hi1_, hi2_, hi3_, hp_.size⟩ : _ ∧ _ ∧ _ ∧ _)
  have N32_0 := Aside0.mk (Own.new (W0 := w24_) (b := w.heap.size) (by repeat (first | exact Below.refl _ _ | (with_reducible apply below_alloc) | (with_reducible apply pw_below_drewN) | (with_reducible apply below_drew1))) ho0_ hb_ HB.out.size _ _ eB_ eH_)
  clear eB_ eH_ hi1_ hi2_ hi3_ ho0_
  replace HZ := Aside0.mk (And.intro HZ.out HZ32.out)
  clear HZ32
  replace HB := Aside0.mk (more HB.out hp_)
  replace Vw0 := Aside0.mk (Vw0.out.step hp_)
  replace Vg0 := Aside0.mk (Vg0.out.step hp_)
  replace T30_0 := Aside0.mk (T30_0.out.step hp_)
  replace T31_0 := Aside0.mk (T31_0.out.step hp_)
  clear hb_ hp_
  have T32_0 := N32_0
  clear N32_0
  obtain ⟨AT32_0, cT32_0, rfl, hc_⟩ := T32_0.out.reads
  have HCT32_0 := Aside0.mk hc_
  clear hc_
  go_wp2_with fail
  refine (impl_ShellsOf.calls kei_ _ _ aarcs _ _ agains _ _ acosts amost r1v r2v _ (by repeat (first | exact T30_0.out.C | (with_reducible refine Kd.C_alloc ?_ _) | (with_reducible refine Kd.C_drewN ?_ _) | (with_reducible refine Kd.C_drew ?_))) HCT30_0.out (by repeat (first | exact T31_0.out.C | (with_reducible refine Kd.C_alloc ?_ _) | (with_reducible refine Kd.C_drewN ?_ _) | (with_reducible refine Kd.C_drew ?_))) HCT31_0.out (by repeat (first | exact T32_0.out.C | (with_reducible refine Kd.C_alloc ?_ _) | (with_reducible refine Kd.C_drewN ?_ _) | (with_reducible refine Kd.C_drew ?_))) HCT32_0.out HEI.out).mono ?_
  rintro e w26_ ⟨v0_n26, rfl, ho0_, hb_⟩
  have hp_ : Below w25_.heap.size w25_ w26_ := below_step (by repeat (first | exact Below.refl _ _ | (with_reducible apply below_alloc) | (with_reducible apply pw_below_drewN) | (with_reducible apply below_drew1))) hb_
  obtain ⟨B33, H33, eB_, eH_, hi1_, hi2_, hi3_⟩ := spot (W0 := w25_) (by repeat (first | exact Below.refl _ _ | (with_reducible apply below_alloc) | (with_reducible apply pw_below_drewN) | (with_reducible apply below_drew1))) hb_
  have HZ33 := Aside0.mk (⟨hi1_, hi2_, hi3_, hp_.size⟩ : _ ∧ _ ∧ _ ∧ _)
  have N33_0 := Aside0.mk (OwnS.new (W0 := w25_) (b := w.heap.size) (by repeat (first | exact Below.refl _ _ | (with_reducible apply below_alloc) | (with_reducible apply pw_below_drewN) | (with_reducible apply below_drew1))) ho0_ hb_ HB.out.size _ _ eB_ eH_)
  clear eB_ eH_ hi1_ hi2_ hi3_ ho0_
  replace HZ := Aside0.mk (And.intro HZ.out HZ33.out)
  clear HZ33
  replace HB := Aside0.mk (more HB.out hp_)
  replace Vw0 := Aside0.mk (Vw0.out.step hp_)
  replace Vg0 := Aside0.mk (Vg0.out.step hp_)
  replace T30_0 := Aside0.mk (T30_0.out.step hp_)
  replace T31_0 := Aside0.mk (T31_0.out.step hp_)
  replace T32_0 := Aside0.mk (T32_0.out.step hp_)
  clear hb_ hp_
  have Vh0 := N33_0
  clear N33_0
  obtain ⟨AVh0, cVh0, rfl, hc_⟩ := Vh0.out.reads
  have HCVh0 := Aside0.mk hc_
  clear hc_
  clear T30_0 HCT30_0
  clear T31_0 HCT31_0
  clear T32_0 HCT32_0
  go_wp2_with fail
  refine (laws_eqIntSS.calls kgq _ _ r1v _ _ r1v true _ (by repeat (first | exact Vh0.out.C | (with_reducible refine Kd.C_alloc ?_ _) | (with_reducible refine Kd.C_drewN ?_ _) | (with_reducible refine Kd.C_drew ?_))) HCVh0.out (by repeat (first | exact Vw0.out.C | (with_reducible refine Kd.C_alloc ?_ _) | (with_reducible refine Kd.C_drewN ?_ _) | (with_reducible refine Kd.C_drew ?_))) HCVw0.out Hkgq.out).mono ?_
  rintro e w27_ ⟨rfl, hd_⟩
  have hb_ := drawn_below hd_
  clear hd_
  have hp_ : Below w26_.heap.size w26_ w27_ := below_step (by repeat (first | exact Below.refl _ _ | (with_reducible apply below_alloc) | (with_reducible apply pw_below_drewN) | (with_reducible apply below_drew1))) hb_
  have HZ34 := Aside0.mk hp_.size
  replace HZ := Aside0.mk (And.intro HZ.out HZ34.out)
  clear HZ34
  replace HB := Aside0.mk (more HB.out hp_)
  replace Vw0 := Aside0.mk (Vw0.out.step hp_)
  replace Vg0 := Aside0.mk (Vg0.out.step hp_)
  replace Vh0 := Aside0.mk (Vh0.out.step hp_)
  clear hb_ hp_
  go_wp2_with fail
  try rw [show (Value.slice AVg0 r1v.length cVg0) = .slice AVg0 (marksSS r1v 1).length cVg0 from by rw [HML.out]]
  refine (laws_heldIntSS.calls kh27 _ _ (marksSS r1v 1) 1 mt _ (by repeat (first | exact Vg0.out.C | (with_reducible refine Kd.C_alloc ?_ _) | (with_reducible refine Kd.C_drewN ?_ _) | (with_reducible refine Kd.C_drew ?_))) HCm.out HH27'.out).mono ?_
  rintro e w28_ ⟨rfl, hd_⟩
  have hp_ : Below w27_.heap.size w27_ w28_ := below_step (by repeat (first | exact Below.refl _ _ | (with_reducible apply below_alloc) | (with_reducible apply pw_below_drewN) | (with_reducible apply below_drew1))) (drawn_below hd_)
  have HZ35 := Aside0.mk hp_.size
  replace HZ := Aside0.mk (And.intro HZ.out HZ35.out)
  clear HZ35
  replace HB := Aside0.mk (more HB.out hp_)
  replace Vw0 := Aside0.mk (Vw0.out.step hp_)
  replace Vg0 := Aside0.mk (Vg0.out.step hp_)
  replace Vh0 := Aside0.mk (Vh0.out.step hp_)
  clear hd_ hp_
  go_wp2_with fail
  go_ret
  exact ⟨rfl, by repeat (first | exact HB.out | (with_reducible apply below_alloc) | (with_reducible apply pw_below_drewN) | (with_reducible apply below_drew1))⟩
end Go.Proofs.Ytcbdglefkmpaeaa.WalkFnExactShellsOf

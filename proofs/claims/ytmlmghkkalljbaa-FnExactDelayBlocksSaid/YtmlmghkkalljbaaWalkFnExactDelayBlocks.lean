/- The walk of FnExactDelayBlocks's own text: for all arguments it returns true, and nothing that lay in memory before has turned; over the contracts of what it calls; no further condition. -/
import Derived.Test.YtmlmghkkalljbaaPureFnExactDelayBlocks
import Derived.Test.YtmlmghkkalljbaaLaw
namespace Go.Proofs.Ytmlmghkkalljbaa.WalkFnExactDelayBlocks
open Go.RowKit Go.Proofs.YtmlmghkkalljbaaW.PrintWords Go.Proofs.YtmlmghkkalljbaaW.PrintLast Go.Proofs.YtmlmghkkalljbaaW.PrintMore Go.Proofs.Ytmlmghkkalljbaa.PFnExactDelayBlocks Go.Proofs.Ytmlmghkkalljbaa.Gen Go.Proofs.Ytmlmghkkalljbaa.Pure Go.Proofs.Ytmlmghkkalljbaa.Law Go.Proofs.Ytmlmghkkalljbaa.Opn
set_option linter.unusedVariables false
set_option linter.unusedSimpArgs false
theorem markSS_calls (l0 : List (List Int)) (a1 : Int) (ha : 0 ≤ a1) (hb : a1 + (totL l0 : Int) < 1000000000000) (P0 : Nat → Prop) (u : Value) (w0 w : World) (hB : Below w0.heap.size w0 w) (ho : Kd.S (Kd.slice 3 (Kd.int .i64)) 23 w w0.heap.size P0 u l0) :
    Calls Try.prog 37 #[u, .int .i64 a1] w fun e w' => e = .returned (.int .i64 (a1 + (totL l0 : Int))) ∧ Kd.S (Kd.slice 3 (Kd.int .i64)) 23 w' w0.heap.size (fun k_ => P0 k_ ∨ w.heap.size ≤ k_) u (marksSS l0 a1) ∧ Below w0.heap.size w0 w' ∧ Kept w w' (fun k_ => P0 k_) := by
  have HO := Aside0.mk (Kd.S_mono ho (fun k_ hk => (Or.inl hk : P0 k_ ∨ w.heap.size ≤ k_)))
  have HK := Aside0.mk (Kept.refl w (fun k_ => P0 k_))
  have HB := Aside0.mk hB
  obtain ⟨A, c, rfl⟩ := Kd.S_slice ho
  have HL := (Kd.S_reads' ho).1
  have hmax : l0.length ≤ 9223372036854775807 := (Kd.S_reads' ho).2.2.2.1
  clear ho hB
  go_enter Try.func37, Try.ntmps37
  go_wp2
  go_loopg [1, 5] l0.length (fun kq v1 v5 w' => ∃ pre suf : List (List Int), pre ++ suf = l0 ∧ v5 = .int .i64 (pre.length : Int) ∧ v1 = .int .i64 (a1 + (totL pre : Int)) ∧ Aside0 (kq = suf.length) ∧ Aside0 (Kd.S (Kd.slice 3 (Kd.int .i64)) 23 w' w0.heap.size (fun k_ => P0 k_ ∨ w.heap.size ≤ k_) (.slice A l0.length c) (marksSS pre a1 ++ suf)) ∧ Aside0 (Below w0.heap.size w0 w') ∧ Aside0 (Kept w w' (fun k_ => P0 k_)))
  case atStart => exact ⟨[], l0, rfl, rfl, by simp [totL], ⟨rfl⟩, HO, HB, HK⟩
  case round =>
    obtain ⟨pre, suf, hl, rfl, rfl, HQ, HO, HB, HK⟩ := hrel
    cases suf with
    | nil =>
      have hpl : l0.length = pre.length := by rw [← hl]; simp
      have c1 : decide ((pre.length : Int) < (l0.length : Int)) = false := decide_eq_false (by omega)
      have c2 : decide (pre.length < l0.length) = false := decide_eq_false (by omega)
      have HP := Aside0.mk hpl
      have HE := Aside0.mk hl
      clear hl hpl
      go_wp2
      go_ret
      have e := HE.out
      rw [List.append_nil] at e
      subst e
      have o := HO.out
      rw [List.append_nil] at o
      exact ⟨rfl, o, HB.out, HK.out⟩
    | cons x suf =>
      have hpl : l0.length = pre.length + suf.length + 1 := by rw [← hl]; simp; omega
      have hlt : (pre.length : Int) < (l0.length : Int) := by omega
      have c1 : decide ((pre.length : Int) < (l0.length : Int)) = true := decide_eq_true hlt
      have c2 : decide (pre.length < l0.length) = true := decide_eq_true (by omega)
      have hcl : (marksSS pre a1 ++ x :: suf).length = l0.length := by rw [List.length_append, marksSS_len, List.length_cons]; omega
      obtain ⟨g, cap, eo, hg1, hg2, _⟩ := Kd.S_form HO.out (by rw [hcl]; omega)
      rw [hcl] at eo
      cases eo
      obtain ⟨oki, ce, hcel, hM, hcc, hfr, hoki, hH⟩ := Kd.S_elem HO.out [] (pre.length : Int) (Int.natCast_nonneg _) hlt
      obtain ⟨ve, rfl, hR⟩ := hM
      have hx := hcc 0 _ rfl
      simp only [show (Kd.slice 3 (Kd.int .i64)).sz = 1 from rfl, Nat.mul_one, Nat.add_zero, Int.toNat_natCast] at hx
      rw [Int.toNat_natCast, show (marksSS pre a1 ++ x :: suf).getD pre.length [] = x by rw [← marksSS_len pre a1]; simp] at hR
      have htot : totL l0 = totL pre + x.length + totL suf := by rw [← hl]; simp [totL]; omega
      obtain ⟨kk, hk⟩ := (markIntS_ev x (a1 + (totL pre : Int)) (by omega) (by omega)).rounds
      have HR := Aside0.mk hR
      have HH := Aside0.mk hH
      have HE := Aside0.mk hl
      have HP := Aside0.mk hpl
      have HT := Aside0.mk htot
      have HMK := Aside0.mk hk
      have HOK := Aside0.mk hoki
      have HC := Aside0.mk hcl
      clear hl hpl htot hk hoki hcl hcc hcel hfr hR hH
      go_wp2_with fail
      refine (laws_markIntS.calls kk oki ve x _ _ _ w0 wr HB.out HR.out HMK.out).mono ?_
      rintro e w2 ⟨rfl, hr2, hb2, hk2⟩
      have HS2 := Aside0.mk (show Kd.S (Kd.slice 3 (Kd.int .i64)) 23 w2 w0.heap.size (fun k_ => P0 k_ ∨ w.heap.size ≤ k_) (.slice (some ⟨g, 0, none⟩) l0.length c) (marksSS (pre ++ [x]) a1 ++ suf) from by
        have h1 := Kd.H_kept (Kd.H_widen HH.out) hk2 (fun k _ hn hk => hn (Or.inl hk))
        have h2 := Kd.H_back h1 (x' := markedI x.length (a1 + (totL pre : Int))) (okp := fun k_ => oki k_ ∨ wr.heap.size ≤ k_) ⟨ve, rfl, hr2⟩ (fun k hk => hk.elim (fun q => Or.inl q) (fun q => Or.inr ⟨Or.inr (Nat.le_trans HK.out.1 q), q⟩))
        rw [Int.toNat_natCast] at h2
        have e2 : (marksSS pre a1 ++ x :: suf).set pre.length (markedI x.length (a1 + (totL pre : Int))) = marksSS (pre ++ [x]) a1 ++ suf := by
          have s := set_mid (marksSS pre a1) x (markedI x.length (a1 + (totL pre : Int))) suf
          rw [marksSS_len, Int.toNat_natCast] at s
          rw [s, marksSS_snoc]
        rw [e2] at h2
        exact h2)
      have HB2 := Aside0.mk hb2
      have HK2 := Aside0.mk (Kept.then_ HK.out hk2 (fun k hk => (HOK.out k hk).1))
      clear hr2 hb2 hk2 HO HB HK HH HR
      have e3 : a1 + (totL pre : Int) + (x.length : Int) = a1 + (totL (pre ++ [x]) : Int) := by rw [totL_snoc]; omega
      rw [e3]
      clear e3
      go_wp2_with fail
      go_roundg suf.length
      case measure => have := HQ.out; rw [this, List.length_cons]; omega
      case rel => exact ⟨pre ++ [x], suf, by rw [List.append_assoc]; exact HE.out, by simp, rfl, ⟨rfl⟩, HS2, HB2, HK2⟩

theorem markJob_calls (l0 : List (List Int)) (l1 l2 : List Int) (b3 b4 b5 b6 b7 a1 : Int) (ha : 0 ≤ a1) (hb : a1 + (totL l0 : Int) + (l1.length : Int) + (l2.length : Int) < 1000000000000) (P0 P1 P2 : Nat → Prop) (u0 u1 u2 : Value) (w0 w : World) (hB : Below w0.heap.size w0 w)
    (ho0 : Kd.S (Kd.slice 3 (Kd.int .i64)) 23 w w0.heap.size P0 u0 l0) (ho1 : Kd.R (Kd.int .i64) 3 w w0.heap.size P1 u1 l1) (ho2 : Kd.R (Kd.int .i64) 3 w w0.heap.size P2 u2 l2)
    (h10 : ∀ k, P1 k → ¬ P0 k) (h20 : ∀ k, P2 k → ¬ P0 k) (h21 : ∀ k, P2 k → ¬ P1 k) :
    Calls Try.prog 31 #[.agg #[u0, u1, u2, .int .i64 b3, .int .i64 b4, .int .i64 b5, .int .i64 b6, .int .i64 b7], .int .i64 a1] w fun e w' => e = .returned (.int .i64 (a1 + (totL l0 : Int) + (l1.length : Int) + (l2.length : Int))) ∧ Below w0.heap.size w0 w' ∧ Kept w w' (fun k => P0 k ∨ P1 k ∨ P2 k) := by
  have hu_ := Try.underlying32
  obtain ⟨A0, c0, rfl⟩ := Kd.S_slice ho0
  obtain ⟨A1, c1, rfl⟩ := Kd.R_slice ho1
  obtain ⟨A2, c2, rfl⟩ := Kd.R_slice ho2
  have HB := Aside0.mk hB
  have HO0 := Aside0.mk (Kd.S_bound ho0)
  have HO1 := Aside0.mk (Kd.R_bound ho1)
  have HO2 := Aside0.mk (Kd.R_bound ho2)
  have H10 := Aside0.mk h10
  have H20 := Aside0.mk h20
  have H21 := Aside0.mk h21
  obtain ⟨k1, e1_⟩ := (markIntS_ev l1 (a1 + (totL l0 : Int)) (by omega) (by omega)).rounds
  obtain ⟨k2, e2_⟩ := (markIntS_ev l2 (a1 + (totL l0 : Int) + (l1.length : Int)) (by omega) (by omega)).rounds
  have HM1 := Aside0.mk e1_
  have HM2 := Aside0.mk e2_
  clear hB ho0 ho1 ho2 h10 h20 h21 e1_ e2_
  have HT := Aside0.mk hb
  clear hb
  go_enter Try.func31, Try.ntmps31
  go_wp2_with ((with_reducible refine gate_dst (N := 2) rfl ?_); refine box_event ?hg (N := 2) ?hd (cs := #[.slice A0 l0.length c0, .slice A1 l1.length c1, .slice A2 l2.length c2, .int .i64 b3, .int .i64 b4, .int .i64 b5, .int .i64 b6, .int .i64 b7]) (t := 32) ?hr ?_; (case hd => rfl); (case hg => rfl); (case hr => first | (go_simp; done) | (go_simp; rfl)); intro g hg w1 hbox hb1_; have HG := Aside0.mk hg; have HBK := Aside0.mk hbox; have HW := Aside0.mk hb1_; have hx1 : w1.cell? ⟨g, 0, none⟩ = some (.slice A0 l0.length c0) := (blk_cell hbox 0).trans rfl; have hx2 := blk_frozen hbox 0; clear hg hbox hb1_)
  refine (markSS_calls l0 a1 ha (by have := HT.out; omega) (fun k => P0 k ∧ w0.heap.size ≤ k ∧ k < w.heap.size ∧ True) _ w0 w1 (more HB.out HW.out) (Kd.S_mono (Kd.S_below HO0.out HW.out) (fun k hk => ⟨hk.1, hk.2.1, hk.2.2.1, trivial⟩))).mono ?_
  rintro e w2 ⟨rfl, _, hb1, hk1⟩
  have HB1 := Aside0.mk hb1
  have HK1 := Aside0.mk hk1
  have HBK1 := Aside0.mk (blk_kept HBK.out hk1 (fun h => by have := HG.out; omega))
  clear hb1 hk1 hx1 hx2 HBK
  have hx1 : w2.cell? ⟨g, 1, none⟩ = some (.slice A1 l1.length c1) := (blk_cell HBK1.out 1).trans rfl
  have hx2 := blk_frozen HBK1.out 1
  go_wp2_with fail
  refine (laws_markIntS.calls k1 (fun k => P1 k ∧ w0.heap.size ≤ k ∧ k < w.heap.size ∧ True) _ l1 _ _ _ w0 w2 HB1.out (Kd.R_kept (Kd.R_mono (Kd.R_below HO1.out HW.out) (fun k hk => ⟨hk.1, hk.2.1, hk.2.2.1, trivial⟩)) HK1.out (fun k h1 h2 => H10.out k h1.1 h2.1)) HM1.out).mono ?_
  rintro e w3 ⟨rfl, _, hb2, hk2⟩
  have HB2 := Aside0.mk hb2
  have HK2 := Aside0.mk hk2
  have HBK2 := Aside0.mk (blk_kept HBK1.out hk2 (fun h => by have := HG.out; omega))
  clear hb2 hk2 hx1 hx2 HBK1
  have hx1 : w3.cell? ⟨g, 2, none⟩ = some (.slice A2 l2.length c2) := (blk_cell HBK2.out 2).trans rfl
  have hx2 := blk_frozen HBK2.out 2
  go_wp2_with fail
  refine (laws_markIntS.calls k2 (fun k => P2 k ∧ w0.heap.size ≤ k ∧ k < w.heap.size ∧ True) _ l2 _ _ _ w0 w3 HB2.out (Kd.R_kept (Kd.R_kept (Kd.R_mono (Kd.R_below HO2.out HW.out) (fun k hk => ⟨hk.1, hk.2.1, hk.2.2.1, trivial⟩)) HK1.out (fun k h1 h2 => H20.out k h1.1 h2.1)) HK2.out (fun k h1 h2 => H21.out k h1.1 h2.1)) HM2.out).mono ?_
  rintro e w4 ⟨rfl, _, hb3, hk3⟩
  have HB3 := Aside0.mk hb3
  have HK3 := Aside0.mk hk3
  clear hb3 hk3 hx1 hx2
  go_wp2_with fail
  go_ret
  exact ⟨rfl, HB3.out, Kept.then_ (Kept.then_ (Kept.then_ (Kept.of_below HW.out _) HK1.out (fun k hk => Or.inl (Or.inl hk.1))) HK2.out (fun k hk => Or.inl (Or.inr (Or.inl hk.1)))) HK3.out (fun k hk => Or.inl (Or.inr (Or.inr hk.1)))⟩

/-- An alloc in a free region: its address gets a name. -/
theorem alloc_ {P : Program} {ops : Array Oper} {Q : Exit → Act → World → Prop} {oi : Oper} {N : Option Tmp} {a : Act} {W : World} {K : Act → World → Prop} {cs : Array Value} {t : TypeId} (hw : Region.wanted oi (yielded ops a.tmps) = true) (hN : oi.dst = N)
    (hrun : (execOp a.eval oi).run P W = .ok (.value (.pointer (some ⟨W.heap.size, 0, none⟩))) (W.alloc (.cells cs t (0, 0))))
    (h : ∀ g, g = W.heap.size → ∀ w1, w1.heap[g]? = some (.cells cs t (0, 0)) → Below W.heap.size W w1 → K (a.put N (.pointer (some ⟨g, 0, none⟩))) w1) : if Region.wanted oi (yielded ops a.tmps) = true then Oper.wp P oi a W K Q else K (a.put N undef) W :=
  value_ hw hN hrun (h _ rfl _ (blk_new W _) (below_alloc (Below.refl _ _) _))

set_option maxRecDepth 100000 in
set_option maxHeartbeats 40000000 in
theorem law (A_aj_0 : Option Addr) (c_aj_0 : Nat) (aj_0 : List (List Int)) (A_aj_1 : Option Addr) (c_aj_1 : Nat) (aj_1 : List Int) (A_aj_2 : Option Addr) (c_aj_2 : Nat) (aj_2 : List Int) (aj_3 : Int) (aj_4 : Int) (aj_5 : Int) (aj_6 : Int) (aj_7 : Int) (ap_0 : Int) (A_ap_1 : Option Addr) (c_ap_1 : Nat) (ap_1 : List Int) (w : World) (hr_aj_0 : Kd.C (Kd.slice 3 (Kd.int .i64)) w A_aj_0 aj_0.length aj_0) (hc_aj_0 : aj_0.length ≤ c_aj_0) (hr_aj_1 : Kd.C (Kd.int .i64) w A_aj_1 aj_1.length aj_1) (hc_aj_1 : aj_1.length ≤ c_aj_1) (hr_aj_2 : Kd.C (Kd.int .i64) w A_aj_2 aj_2.length aj_2) (hc_aj_2 : aj_2.length ≤ c_aj_2) (hr_ap_1 : Kd.C (Kd.int .i64) w A_ap_1 ap_1.length ap_1) (hc_ap_1 : ap_1.length ≤ c_ap_1) (hm_aj_0 : aj_0.length ≤ maxLen) (hi_aj_0 : ∀ z ∈ aj_0, z.length ≤ maxLen) (hw_aj_0 : ∀ z ∈ aj_0, okI .i64 z) (hm_aj_1 : aj_1.length ≤ maxLen) (hw_aj_1 : okI .i64 aj_1) (hm_aj_2 : aj_2.length ≤ maxLen) (hw_aj_2 : okI .i64 aj_2) (hw_aj_3 : (Lit.int .i64 aj_3).wf = true) (hw_aj_4 : (Lit.int .i64 aj_4).wf = true) (hw_aj_5 : (Lit.int .i64 aj_5).wf = true) (hw_aj_6 : (Lit.int .i64 aj_6).wf = true) (hw_aj_7 : (Lit.int .i64 aj_7).wf = true) (hw_ap_0 : (Lit.int .i64 ap_0).wf = true) (hm_ap_1 : ap_1.length ≤ maxLen) (hw_ap_1 : okI .i64 ap_1) :
    Calls Try.prog 10 #[.agg #[.slice A_aj_0 aj_0.length c_aj_0, .slice A_aj_1 aj_1.length c_aj_1, .slice A_aj_2 aj_2.length c_aj_2, .int .i64 aj_3, .int .i64 aj_4, .int .i64 aj_5, .int .i64 aj_6, .int .i64 aj_7], .agg #[.int .i64 ap_0, .slice A_ap_1 ap_1.length c_ap_1]] w fun e w' => e = .returned (.bool true) ∧ Below w.heap.size w w' := by
  have HR_aj_0 := Aside0.mk hr_aj_0
  have HC_aj_0 := Aside0.mk hc_aj_0
  clear hr_aj_0 hc_aj_0
  have HR_aj_1 := Aside0.mk hr_aj_1
  have HC_aj_1 := Aside0.mk hc_aj_1
  clear hr_aj_1 hc_aj_1
  have HR_aj_2 := Aside0.mk hr_aj_2
  have HC_aj_2 := Aside0.mk hc_aj_2
  clear hr_aj_2 hc_aj_2
  have HR_ap_1 := Aside0.mk hr_ap_1
  have HC_ap_1 := Aside0.mk hc_ap_1
  clear hr_ap_1 hc_ap_1
  have HB := Aside0.mk (Below.refl w.heap.size w)
  have hu27 := Try.underlying27
  have hu32 := Try.underlying32
  have hu37 := Try.underlying37
  have hu41 := Try.underlying41
  have HMI_aj_0 := Aside0.mk hi_aj_0
  clear hi_aj_0
  clear hw_aj_0
  clear hw_aj_1
  clear hw_aj_2
  clear hw_ap_1
  have cl1_ : 0 ≤ (1048576 : Int) := by omega
  have cu1_ : (1048576 : Int) ≤ 1048576 := by omega
  obtain ⟨s1, hs_, hsa_, hsb_⟩ := szJob_ev aj_0 aj_1 aj_2 aj_3 aj_4 aj_5 aj_6 aj_7 1048576 cl1_ cu1_ hm_aj_0 HMI_aj_0.out hm_aj_1 hm_aj_2
  obtain ⟨ks_, hs_⟩ := hs_.rounds
  have HS1 := Aside0.mk hs_
  have HSB1 := Aside0.mk hsb_
  clear hs_ hsb_ cl1_ cu1_
  go_enter Try.func10, Try.ntmps10
  go_wp2_with (first | ((with_reducible refine gate_dst (N := 2) rfl ?_); refine box_event ?hg (N := 2) ?hd (cs := #[.slice A_aj_0 aj_0.length c_aj_0, .slice A_aj_1 aj_1.length c_aj_1, .slice A_aj_2 aj_2.length c_aj_2, .int .i64 aj_3, .int .i64 aj_4, .int .i64 aj_5, .int .i64 aj_6, .int .i64 aj_7]) (t := 27) ?hr ?_; (case hd => rfl); (case hg => rfl); (case hr => first | (go_simp; done) | (go_simp; rfl)); intro g_aj hg_ w1_ hbox_ hb_; have hp_ : Below w.heap.size w w1_ := below_step (by repeat (first | exact Below.refl _ _ | (with_reducible apply below_alloc) | (with_reducible apply pw_below_drewN) | (with_reducible apply below_drew1))) hb_; have hz_ : w.heap.size ≤ g_aj := Nat.le_trans (below_size (by repeat (first | exact Below.refl _ _ | (with_reducible apply below_alloc) | (with_reducible apply pw_below_drewN) | (with_reducible apply below_drew1)))) (Nat.le_of_eq hg_.symm); have HZ2 := Aside0.mk (⟨hz_, blk_lt hbox_, hp_.size⟩ : _ ∧ _ ∧ _); have HZ := HZ2; clear HZ2; have HGW_aj := Aside0.mk (Nat.le_trans HB.out.size hz_ : w.heap.size ≤ g_aj); replace HB := Aside0.mk (more HB.out hp_); have BK_aj := Aside0.mk hbox_; obtain ⟨hcz_aj_0, hfz_aj_0, hcz_aj_1, hfz_aj_1, hcz_aj_2, hfz_aj_2, hcz_aj_3, hfz_aj_3, hcz_aj_4, hfz_aj_4, hcz_aj_5, hfz_aj_5, hcz_aj_6, hfz_aj_6, hcz_aj_7, hfz_aj_7⟩ := cells8_ BK_aj.out; clear hg_ hbox_ hb_ hp_ hz_) | ((with_reducible refine gate_dst (N := 3) rfl ?_); refine box_event ?hg (N := 3) ?hd (cs := #[.int .i64 ap_0, .slice A_ap_1 ap_1.length c_ap_1]) (t := 37) ?hr ?_; (case hd => rfl); (case hg => rfl); (case hr => first | (go_simp; done) | (go_simp; rfl)); intro g_ap hg_ w2_ hbox_ hb_; have hp_ : Below w1_.heap.size w1_ w2_ := below_step (by repeat (first | exact Below.refl _ _ | (with_reducible apply below_alloc) | (with_reducible apply pw_below_drewN) | (with_reducible apply below_drew1))) hb_; have hz_ : w1_.heap.size ≤ g_ap := Nat.le_trans (below_size (by repeat (first | exact Below.refl _ _ | (with_reducible apply below_alloc) | (with_reducible apply pw_below_drewN) | (with_reducible apply below_drew1)))) (Nat.le_of_eq hg_.symm); have HZ3 := Aside0.mk (⟨hz_, blk_lt hbox_, hp_.size⟩ : _ ∧ _ ∧ _); replace HZ := Aside0.mk (And.intro HZ.out HZ3.out); clear HZ3; have HGW_ap := Aside0.mk (Nat.le_trans HB.out.size hz_ : w.heap.size ≤ g_ap); have hnb_ap_aj : g_ap ≠ g_aj := Nat.ne_of_gt (Nat.lt_of_lt_of_le (blk_lt BK_aj.out) hz_); have hnb_aj_ap : g_aj ≠ g_ap := hnb_ap_aj.symm; replace HB := Aside0.mk (more HB.out hp_); clear hcz_aj_0 hfz_aj_0 hcz_aj_1 hfz_aj_1 hcz_aj_2 hfz_aj_2 hcz_aj_3 hfz_aj_3 hcz_aj_4 hfz_aj_4 hcz_aj_5 hfz_aj_5 hcz_aj_6 hfz_aj_6 hcz_aj_7 hfz_aj_7; replace BK_aj := Aside0.mk (blk_below BK_aj.out hp_); obtain ⟨hcz_aj_0, hfz_aj_0, hcz_aj_1, hfz_aj_1, hcz_aj_2, hfz_aj_2, hcz_aj_3, hfz_aj_3, hcz_aj_4, hfz_aj_4, hcz_aj_5, hfz_aj_5, hcz_aj_6, hfz_aj_6, hcz_aj_7, hfz_aj_7⟩ := cells8_ BK_aj.out; have BK_ap := Aside0.mk hbox_; obtain ⟨hcz_ap_0, hfz_ap_0, hcz_ap_1, hfz_ap_1⟩ := cells2_ BK_ap.out; clear hg_ hbox_ hb_ hp_ hz_))
  refine (laws_szJob.calls ks_ _ _ aj_0 _ _ aj_1 _ _ aj_2 aj_3 aj_4 aj_5 aj_6 aj_7 1048576 s1 _ (by repeat (first | exact (Kd.C_below HR_aj_0.out HB.out) | (with_reducible refine Kd.C_alloc ?_ _) | (with_reducible refine Kd.C_drewN ?_ _) | (with_reducible refine Kd.C_drew ?_))) HC_aj_0.out (by repeat (first | exact (Kd.C_below HR_aj_1.out HB.out) | (with_reducible refine Kd.C_alloc ?_ _) | (with_reducible refine Kd.C_drewN ?_ _) | (with_reducible refine Kd.C_drew ?_))) HC_aj_1.out (by repeat (first | exact (Kd.C_below HR_aj_2.out HB.out) | (with_reducible refine Kd.C_alloc ?_ _) | (with_reducible refine Kd.C_drewN ?_ _) | (with_reducible refine Kd.C_drew ?_))) HC_aj_2.out HS1.out).mono ?_
  rintro e w3_ ⟨rfl, hd_⟩
  have hb_ := hd_
  clear hd_
  have hp_ : Below w2_.heap.size w2_ w3_ := below_step (by repeat (first | exact Below.refl _ _ | (with_reducible apply below_alloc) | (with_reducible apply pw_below_drewN) | (with_reducible apply below_drew1))) hb_
  have HZ4 := Aside0.mk hp_.size
  replace HZ := Aside0.mk (And.intro HZ.out HZ4.out)
  clear HZ4
  replace HB := Aside0.mk (more HB.out hp_)
  clear hcz_aj_0 hfz_aj_0 hcz_aj_1 hfz_aj_1 hcz_aj_2 hfz_aj_2 hcz_aj_3 hfz_aj_3 hcz_aj_4 hfz_aj_4 hcz_aj_5 hfz_aj_5 hcz_aj_6 hfz_aj_6 hcz_aj_7 hfz_aj_7
  replace BK_aj := Aside0.mk (blk_below BK_aj.out hp_)
  obtain ⟨hcz_aj_0, hfz_aj_0, hcz_aj_1, hfz_aj_1, hcz_aj_2, hfz_aj_2, hcz_aj_3, hfz_aj_3, hcz_aj_4, hfz_aj_4, hcz_aj_5, hfz_aj_5, hcz_aj_6, hfz_aj_6, hcz_aj_7, hfz_aj_7⟩ := cells8_ BK_aj.out
  clear hcz_ap_0 hfz_ap_0 hcz_ap_1 hfz_ap_1
  replace BK_ap := Aside0.mk (blk_below BK_ap.out hp_)
  obtain ⟨hcz_ap_0, hfz_ap_0, hcz_ap_1, hfz_ap_1⟩ := cells2_ BK_ap.out
  clear hb_ hp_
  by_cases g_ : s1 < 0
  · have d_ : decide (s1 < 0) = true := decide_eq_true g_
    go_wp2_with fail
    go_ret
    exact ⟨rfl, by repeat (first | exact HB.out | (with_reducible apply below_alloc) | (with_reducible apply pw_below_drewN) | (with_reducible apply below_drew1))⟩
  have d1_ : decide (s1 < 0) = false := decide_eq_false g_
  have hb1_ := HSB1.out (by omega)
  clear HSB1
  have HQ1 := Aside0.mk hb1_
  have ga1 : 0 ≤ s1 := by omega
  clear hb1_ g_
  have b_aj_0 : aj_0.length ≤ 1048576 := by have := HQ1.out; omega
  have HBD_aj_0 := Aside0.mk b_aj_0
  have bi_aj_0 : ∀ z ∈ aj_0, z.length ≤ 1048576 := fun z hz => by have := tot_mem hz; have := HQ1.out; omega
  have HBI_aj_0 := Aside0.mk bi_aj_0
  have HTO_aj_0 : Aside0 (totL aj_0 ≤ 1048576) := ⟨by have := HQ1.out; omega⟩
  clear b_aj_0 bi_aj_0
  have b_aj_1 : aj_1.length ≤ 1048576 := by have := HQ1.out; omega
  have HBD_aj_1 := Aside0.mk b_aj_1
  clear b_aj_1
  have b_aj_2 : aj_2.length ≤ 1048576 := by have := HQ1.out; omega
  have HBD_aj_2 := Aside0.mk b_aj_2
  clear b_aj_2
  have cl5_ : 0 ≤ (s1 : Int) := by omega
  have cu5_ : (s1 : Int) ≤ 1048576 := by omega
  obtain ⟨s5, hs_, hsa_, hsb_⟩ := szPlan_eq ap_0 ap_1 s1 cl5_ cu5_ hm_ap_1
  have HS5 := Aside0.mk hs_
  have HSB5 := Aside0.mk hsb_
  clear hs_ hsb_ cl5_ cu5_
  go_wp2_with fail
  refine (laws_szPlan.calls ap_0 _ _ ap_1 s1 s5 _ (by repeat (first | exact (Kd.C_below HR_ap_1.out HB.out) | (with_reducible refine Kd.C_alloc ?_ _) | (with_reducible refine Kd.C_drewN ?_ _) | (with_reducible refine Kd.C_drew ?_))) HC_ap_1.out HS5.out).mono ?_
  rintro e w4_ ⟨rfl, hd_⟩
  have hb_ := hd_
  clear hd_
  have hp_ : Below w3_.heap.size w3_ w4_ := below_step (by repeat (first | exact Below.refl _ _ | (with_reducible apply below_alloc) | (with_reducible apply pw_below_drewN) | (with_reducible apply below_drew1))) hb_
  have HZ6 := Aside0.mk hp_.size
  replace HZ := Aside0.mk (And.intro HZ.out HZ6.out)
  clear HZ6
  replace HB := Aside0.mk (more HB.out hp_)
  clear hcz_aj_0 hfz_aj_0 hcz_aj_1 hfz_aj_1 hcz_aj_2 hfz_aj_2 hcz_aj_3 hfz_aj_3 hcz_aj_4 hfz_aj_4 hcz_aj_5 hfz_aj_5 hcz_aj_6 hfz_aj_6 hcz_aj_7 hfz_aj_7
  replace BK_aj := Aside0.mk (blk_below BK_aj.out hp_)
  obtain ⟨hcz_aj_0, hfz_aj_0, hcz_aj_1, hfz_aj_1, hcz_aj_2, hfz_aj_2, hcz_aj_3, hfz_aj_3, hcz_aj_4, hfz_aj_4, hcz_aj_5, hfz_aj_5, hcz_aj_6, hfz_aj_6, hcz_aj_7, hfz_aj_7⟩ := cells8_ BK_aj.out
  clear hcz_ap_0 hfz_ap_0 hcz_ap_1 hfz_ap_1
  replace BK_ap := Aside0.mk (blk_below BK_ap.out hp_)
  obtain ⟨hcz_ap_0, hfz_ap_0, hcz_ap_1, hfz_ap_1⟩ := cells2_ BK_ap.out
  clear hb_ hp_
  by_cases g_ : s5 < 0
  · have d_ : decide (s5 < 0) = true := decide_eq_true g_
    go_wp2_with fail
    go_ret
    exact ⟨rfl, by repeat (first | exact HB.out | (with_reducible apply below_alloc) | (with_reducible apply pw_below_drewN) | (with_reducible apply below_drew1))⟩
  have d5_ : decide (s5 < 0) = false := decide_eq_false g_
  have hb5_ := HSB5.out (by omega)
  clear HSB5
  have HQ5 := Aside0.mk hb5_
  have ga5 : 0 ≤ s5 := by omega
  clear hb5_ g_
  have b_ap_1 : ap_1.length ≤ 1048576 := by have := HQ5.out; omega
  have HBD_ap_1 := Aside0.mk b_ap_1
  clear b_ap_1
  obtain ⟨r1v, r2v, r3v, es_, ei_, hl_r2⟩ := FnExactDelayBlocks aj_0 aj_1 aj_2 aj_3 aj_4 aj_5 aj_6 aj_7 ap_0 ap_1 HBD_aj_0.out HBI_aj_0.out HBD_aj_1.out HBD_aj_2.out HBD_ap_1.out
  obtain ⟨kes_, h_⟩ := es_.rounds
  have HES := Aside0.mk h_
  clear h_ es_
  obtain ⟨kei_, h_⟩ := ei_.rounds
  have HEI := Aside0.mk h_
  clear h_ ei_
  have HL_r2 := Aside0.mk hl_r2
  clear hl_r2
  obtain ⟨kt_aJ, h_⟩ := (toJob_ev aj_0 aj_1 aj_2 aj_3 aj_4 aj_5 aj_6 aj_7 HBD_aj_0.out HBI_aj_0.out HBD_aj_1.out HBD_aj_2.out).rounds
  have Hkt_aJ := Aside0.mk h_
  clear h_
  obtain ⟨kq_aJ, h_⟩ := (eqJob_ev aj_0 aj_1 aj_2 aj_3 aj_4 aj_5 aj_6 aj_7 HBD_aj_0.out HBI_aj_0.out HBD_aj_1.out HBD_aj_2.out).rounds
  have Hkq_aJ := Aside0.mk h_
  clear h_
  obtain ⟨kt_aP, h_⟩ := (toPlan_ev ap_0 ap_1 HBD_ap_1.out).rounds
  have Hkt_aP := Aside0.mk h_
  clear h_
  obtain ⟨kq_aP, h_⟩ := (eqPlan_ev ap_0 ap_1 HBD_ap_1.out).rounds
  have Hkq_aP := Aside0.mk h_
  clear h_
  obtain ⟨kgq, h_⟩ := (eqPlan_ev r1v r2v HL_r2.out).rounds
  have Hkgq := Aside0.mk h_
  clear h_
  go_wp2_with fail
  have hp_ : Below w4_.heap.size w4_ w4_.drew := below_drew1 (Below.refl _ _)
  replace HB := Aside0.mk (more HB.out hp_)
  clear hcz_aj_0 hfz_aj_0 hcz_aj_1 hfz_aj_1 hcz_aj_2 hfz_aj_2 hcz_aj_3 hfz_aj_3 hcz_aj_4 hfz_aj_4 hcz_aj_5 hfz_aj_5 hcz_aj_6 hfz_aj_6 hcz_aj_7 hfz_aj_7
  replace BK_aj := Aside0.mk (blk_below BK_aj.out hp_)
  clear hcz_ap_0 hfz_ap_0 hcz_ap_1 hfz_ap_1
  replace BK_ap := Aside0.mk (blk_below BK_ap.out hp_)
  have HZ7 := Aside0.mk hp_.size
  clear hp_
  refine start_ (n := 11) (S := fun w' => w'.heap[g_aj]? = some (.cells #[.slice A_aj_0 aj_0.length c_aj_0, .slice A_aj_1 aj_1.length c_aj_1, .slice A_aj_2 aj_2.length c_aj_2, .int .i64 aj_3, .int .i64 aj_4, .int .i64 aj_5, .int .i64 aj_6, .int .i64 aj_7] 27 (0, 0)) ∧ w'.heap[g_ap]? = some (.cells #[.int .i64 ap_0, .slice A_ap_1 ap_1.length c_ap_1] 37 (0, 0))) (ds := []) #[false, false, false, false, false, false, false, false, false, false, false] (by kernel_rfl) rfl rfl ⟨BK_aj.out, BK_ap.out⟩ (fun hHeld => ?_)
  generalize w4_.drew = w5_ at HB HZ7 BK_aj BK_ap hHeld ⊢
  replace HZ := Aside0.mk (And.intro HZ.out HZ7.out)
  clear HZ7
  have HBK := Aside0.mk (Below.refl w5_.heap.size w5_)
  refine join_ (σ := Value × Value × Option Addr × Nat × Nat × Nat × (Nat → Prop) × Nat) 2 #[true, true, true, true, true, true, true, true, true, false, false] (fun s_ => [(28, .agg #[.slice A_aj_0 aj_0.length c_aj_0, .slice A_aj_1 aj_1.length c_aj_1, .slice A_aj_2 aj_2.length c_aj_2, .int .i64 aj_3, .int .i64 aj_4, .int .i64 aj_5, .int .i64 aj_6, .int .i64 aj_7]), (29, s_.1), (30, .agg #[.int .i64 ap_0, .slice A_ap_1 ap_1.length c_ap_1]), (31, s_.2.1), (32, .tuple #[.agg #[.int .i64 r1v, .slice s_.2.2.1 r2v.length s_.2.2.2.1], .bool r3v]), (27, .tuple #[.agg #[.int .i64 r1v, .slice s_.2.2.1 r2v.length s_.2.2.2.1], .bool r3v]), (33, .agg #[.int .i64 r1v, .slice s_.2.2.1 r2v.length s_.2.2.2.1]), (34, .bool r3v), (6, .pointer (some ⟨s_.2.2.2.2.2.2.2, 0, none⟩))]) (fun s_ w_ => Below w5_.heap.size w5_ w_ ∧ Own (Kd.int .i64) 3 w_ w.heap.size s_.2.2.2.2.1 s_.2.2.2.2.2.1 s_.2.2.2.2.2.2.1 (.slice s_.2.2.1 r2v.length s_.2.2.2.1) r2v ∧ r2v.length ≤ s_.2.2.2.1 ∧ w5_.heap.size ≤ s_.2.2.2.2.1 ∧ s_.2.2.2.2.1 ≤ s_.2.2.2.2.2.1 ∧ s_.2.2.2.2.2.1 ≤ w_.heap.size ∧ (s_.2.2.2.2.2.2.2 < s_.2.2.2.2.1 ∨ s_.2.2.2.2.2.1 ≤ s_.2.2.2.2.2.2.2) ∧ w_.heap[s_.2.2.2.2.2.2.2]? = some (.cells #[.int .i64 0, .slice none 0 0] 41 (0, 0)) ∧ w5_.heap.size ≤ s_.2.2.2.2.2.2.2) ?_ ?_
  rotate_left
  · intro hJ_
    refine take_ (i := 0) (N := some 28) (v := ?_) (a' := ?_) #[true, false, false, false, false, false, false, false, false, false, false] rfl rfl (by kernel_rfl) (fun _ _ _ h => h) (Or.inl ⟨by rfl, ?_⟩) hHeld ?_ ?_
    rotate_left
    · rintro w' ⟨s0_, s1_⟩; obtain ⟨s0, f0, s1, f1, s2, f2, s3, f3, s4, f4, s5, f5, s6, f6, s7, f7⟩ := cells8_ s0_; obtain ⟨s8, f8, s9, f9⟩ := cells2_ s1_
      go_simp
      with_reducible rfl
    rotate_left
    · simp only [Act.put, List.setIfInBounds_toArray, List.set_cons_zero, List.set_cons_succ, i64_w, i32_w]
      rfl
    refine take_ (i := 2) (N := some 30) (v := ?_) (a' := ?_) #[true, false, true, false, false, false, false, false, false, false, false] rfl rfl (by kernel_rfl) (fun _ _ _ h => h) (Or.inl ⟨by rfl, ?_⟩) hHeld ?_ ?_
    rotate_left
    · rintro w' ⟨s0_, s1_⟩; obtain ⟨s0, f0, s1, f1, s2, f2, s3, f3, s4, f4, s5, f5, s6, f6, s7, f7⟩ := cells8_ s0_; obtain ⟨s8, f8, s9, f9⟩ := cells2_ s1_
      go_simp
      with_reducible rfl
    rotate_left
    · simp only [Act.put, List.setIfInBounds_toArray, List.set_cons_zero, List.set_cons_succ, i64_w, i32_w]
      rfl
    refine two_ (i := 1) (j := 8) (Ni := some 29) (Nj := some 6) #[true, true, true, false, false, false, false, false, false, false, false] #[true, false, true, false, false, false, false, false, true, false, false] rfl rfl rfl rfl (by kernel_rfl) (by decide) (by decide) (fun K hK => ?_) (fun K hK => ?_)
    · skip
      refine goes_ Try.func17 (by kernel_rfl) rfl #[.agg #[.slice A_aj_0 aj_0.length c_aj_0, .slice A_aj_1 aj_1.length c_aj_1, .slice A_aj_2 aj_2.length c_aj_2, .int .i64 (aj_3), .int .i64 (aj_4), .int .i64 (aj_5), .int .i64 (aj_6), .int .i64 (aj_7)]] (by rfl) rfl rfl (by (try simp only [List.map_toArray, List.map_cons, List.map_nil]); first | done | rfl | (simp only [List.length_drop, List.length_take]; rfl)) ?_
      refine (laws_toJob.calls kt_aJ _ _ aj_0 _ _ aj_1 _ _ aj_2 aj_3 aj_4 aj_5 aj_6 aj_7 aj_0 aj_1 aj_2 aj_3 aj_4 aj_5 aj_6 aj_7 _ (by repeat (first | exact (Kd.C_below HR_aj_0.out HB.out) | (with_reducible refine Kd.C_alloc ?_ _) | (with_reducible refine Kd.C_drewN ?_ _) | (with_reducible refine Kd.C_drew ?_))) HC_aj_0.out (by repeat (first | exact (Kd.C_below HR_aj_1.out HB.out) | (with_reducible refine Kd.C_alloc ?_ _) | (with_reducible refine Kd.C_drewN ?_ _) | (with_reducible refine Kd.C_drew ?_))) HC_aj_1.out (by repeat (first | exact (Kd.C_below HR_aj_2.out HB.out) | (with_reducible refine Kd.C_alloc ?_ _) | (with_reducible refine Kd.C_drewN ?_ _) | (with_reducible refine Kd.C_drew ?_))) HC_aj_2.out Hkt_aJ.out).mono ?_
      rintro e w6_ ⟨v0_n6, v1_n6, v2_n6, rfl, ho0_, ho1_, ho2_, hb_⟩
      refine ⟨_, rfl, ?_⟩
      have hp_ : Below w5_.heap.size w5_ w6_ := below_step (by repeat (first | exact Below.refl _ _ | (with_reducible apply below_alloc) | (with_reducible apply pw_below_drewN) | (with_reducible apply below_drew1))) hb_
      obtain ⟨B8, H8, eB_, eH_, hi1_, hi2_, hi3_⟩ := spot (W0 := w5_) (by repeat (first | exact Below.refl _ _ | (with_reducible apply below_alloc) | (with_reducible apply pw_below_drewN) | (with_reducible apply below_drew1))) hb_
      have HZ8 := Aside0.mk (⟨hi1_, hi2_, hi3_, hp_.size⟩ : _ ∧ _ ∧ _ ∧ _)
      have N8_0 := Aside0.mk (OwnS.new (W0 := w5_) (b := w.heap.size) (by repeat (first | exact Below.refl _ _ | (with_reducible apply below_alloc) | (with_reducible apply pw_below_drewN) | (with_reducible apply below_drew1))) ho0_ hb_ HB.out.size _ _ eB_ eH_)
      have N8_1 := Aside0.mk (Own.new (W0 := w5_) (b := w.heap.size) (by repeat (first | exact Below.refl _ _ | (with_reducible apply below_alloc) | (with_reducible apply pw_below_drewN) | (with_reducible apply below_drew1))) (tightRow rfl ho1_) hb_ HB.out.size _ _ eB_ eH_)
      have N8_2 := Aside0.mk (Own.new (W0 := w5_) (b := w.heap.size) (by repeat (first | exact Below.refl _ _ | (with_reducible apply below_alloc) | (with_reducible apply pw_below_drewN) | (with_reducible apply below_drew1))) (tightRow rfl ho2_) hb_ HB.out.size _ _ eB_ eH_)
      clear eB_ eH_ hi1_ hi2_ hi3_ ho0_ ho1_ ho2_
      replace HZ := Aside0.mk (And.intro HZ.out HZ8.out)
      clear HZ8
      replace HB := Aside0.mk (more HB.out hp_)
      replace HBK := Aside0.mk (more HBK.out hp_)
      replace BK_aj := Aside0.mk (blk_below BK_aj.out hp_)
      replace BK_ap := Aside0.mk (blk_below BK_ap.out hp_)
      clear hb_ hp_
      have TaJ0_0 := N8_0
      clear N8_0
      obtain ⟨ATaJ0_0, cTaJ0_0, rfl, hc_⟩ := TaJ0_0.out.reads
      have HCTaJ0_0 := Aside0.mk hc_
      clear hc_
      have TaJ0_1 := N8_1
      clear N8_1
      obtain ⟨ATaJ0_1, cTaJ0_1, rfl, hc_⟩ := TaJ0_1.out.reads
      have HCTaJ0_1 := Aside0.mk hc_
      clear hc_
      have TaJ0_2 := N8_2
      clear N8_2
      obtain ⟨ATaJ0_2, cTaJ0_2, rfl, hc_⟩ := TaJ0_2.out.reads
      have HCTaJ0_2 := Aside0.mk hc_
      clear hc_
      refine hK.out _ _ ⟨BK_aj.out, BK_ap.out⟩ (fun hHeld => ?_)
      clear hK K
      refine norm_ (a' := ?_) ?_ ?_
      rotate_left
      · show Act.put _ (some 29) _ = _
        simp only [Act.put, List.setIfInBounds_toArray, List.set_cons_zero, List.set_cons_succ, i64_w, i32_w]
        rfl
      refine two_ (i := 3) (j := 8) (Ni := some 31) (Nj := some 6) #[true, true, true, true, false, false, false, false, false, false, false] #[true, true, true, false, false, false, false, false, true, false, false] rfl rfl rfl rfl (by kernel_rfl) (by decide) (by decide) (fun K hK => ?_) (fun K hK => ?_)
      · skip
        refine goes_ Try.func22 (by kernel_rfl) rfl #[.agg #[.int .i64 (ap_0), .slice A_ap_1 ap_1.length c_ap_1]] (by rfl) rfl rfl (by (try simp only [List.map_toArray, List.map_cons, List.map_nil]); first | done | rfl | (simp only [List.length_drop, List.length_take]; rfl)) ?_
        refine (laws_toPlan.calls kt_aP ap_0 _ _ ap_1 ap_0 ap_1 _ (by repeat (first | exact (Kd.C_below HR_ap_1.out HB.out) | (with_reducible refine Kd.C_alloc ?_ _) | (with_reducible refine Kd.C_drewN ?_ _) | (with_reducible refine Kd.C_drew ?_))) HC_ap_1.out Hkt_aP.out).mono ?_
        rintro e w7_ ⟨v1_n7, rfl, ho0_, hb_⟩
        refine ⟨_, rfl, ?_⟩
        have hp_ : Below w6_.heap.size w6_ w7_ := below_step (by repeat (first | exact Below.refl _ _ | (with_reducible apply below_alloc) | (with_reducible apply pw_below_drewN) | (with_reducible apply below_drew1))) hb_
        obtain ⟨B9, H9, eB_, eH_, hi1_, hi2_, hi3_⟩ := spot (W0 := w6_) (by repeat (first | exact Below.refl _ _ | (with_reducible apply below_alloc) | (with_reducible apply pw_below_drewN) | (with_reducible apply below_drew1))) hb_
        have HZ9 := Aside0.mk (⟨hi1_, hi2_, hi3_, hp_.size⟩ : _ ∧ _ ∧ _ ∧ _)
        have N9_0 := Aside0.mk (Own.new (W0 := w6_) (b := w.heap.size) (by repeat (first | exact Below.refl _ _ | (with_reducible apply below_alloc) | (with_reducible apply pw_below_drewN) | (with_reducible apply below_drew1))) ho0_ hb_ HB.out.size _ _ eB_ eH_)
        clear eB_ eH_ hi1_ hi2_ hi3_ ho0_
        replace HZ := Aside0.mk (And.intro HZ.out HZ9.out)
        clear HZ9
        replace HB := Aside0.mk (more HB.out hp_)
        replace HBK := Aside0.mk (more HBK.out hp_)
        replace TaJ0_0 := Aside0.mk (TaJ0_0.out.step hp_)
        replace TaJ0_1 := Aside0.mk (TaJ0_1.out.step hp_)
        replace TaJ0_2 := Aside0.mk (TaJ0_2.out.step hp_)
        replace BK_aj := Aside0.mk (blk_below BK_aj.out hp_)
        replace BK_ap := Aside0.mk (blk_below BK_ap.out hp_)
        clear hb_ hp_
        have TaP1_0 := N9_0
        clear N9_0
        obtain ⟨ATaP1_0, cTaP1_0, rfl, hc_⟩ := TaP1_0.out.reads
        have HCTaP1_0 := Aside0.mk hc_
        clear hc_
        refine hK.out _ _ ⟨BK_aj.out, BK_ap.out⟩ (fun hHeld => ?_)
        clear hK K
        refine norm_ (a' := ?_) ?_ ?_
        rotate_left
        · show Act.put _ (some 31) _ = _
          simp only [Act.put, List.setIfInBounds_toArray, List.set_cons_zero, List.set_cons_succ, i64_w, i32_w]
          rfl
        refine two_ (i := 4) (j := 8) (Ni := some 32) (Nj := some 6) #[true, true, true, true, true, false, false, false, false, false, false] #[true, true, true, true, false, false, false, false, true, false, false] rfl rfl rfl rfl (by kernel_rfl) (by decide) (by decide) (fun K hK => ?_) (fun K hK => ?_)
        · skip
          refine goes_ Try.func41 (by kernel_rfl) rfl #[.agg #[.slice ATaJ0_0 aj_0.length cTaJ0_0, .slice ATaJ0_1 aj_1.length cTaJ0_1, .slice ATaJ0_2 aj_2.length cTaJ0_2, .int .i64 (aj_3), .int .i64 (aj_4), .int .i64 (aj_5), .int .i64 (aj_6), .int .i64 (aj_7)], .agg #[.int .i64 (ap_0), .slice ATaP1_0 ap_1.length cTaP1_0]] (by rfl) rfl rfl (by (try simp only [List.map_toArray, List.map_cons, List.map_nil]); first | done | rfl | (simp only [List.length_drop, List.length_take]; rfl)) ?_
          refine (spec_DelayBlocks.calls kes_ _ _ aj_0 _ _ aj_1 _ _ aj_2 aj_3 aj_4 aj_5 aj_6 aj_7 ap_0 _ _ ap_1 r1v r2v r3v _ (by repeat (first | exact TaJ0_0.out.C | (with_reducible refine Kd.C_alloc ?_ _) | (with_reducible refine Kd.C_drewN ?_ _) | (with_reducible refine Kd.C_drew ?_))) HCTaJ0_0.out (by repeat (first | exact TaJ0_1.out.C | (with_reducible refine Kd.C_alloc ?_ _) | (with_reducible refine Kd.C_drewN ?_ _) | (with_reducible refine Kd.C_drew ?_))) HCTaJ0_1.out (by repeat (first | exact TaJ0_2.out.C | (with_reducible refine Kd.C_alloc ?_ _) | (with_reducible refine Kd.C_drewN ?_ _) | (with_reducible refine Kd.C_drew ?_))) HCTaJ0_2.out (by repeat (first | exact TaP1_0.out.C | (with_reducible refine Kd.C_alloc ?_ _) | (with_reducible refine Kd.C_drewN ?_ _) | (with_reducible refine Kd.C_drew ?_))) HCTaP1_0.out HES.out).mono ?_
          rintro e w8_ ⟨v1_n8, rfl, ho0_, hb_⟩
          refine ⟨_, rfl, ?_⟩
          have hp_ : Below w7_.heap.size w7_ w8_ := below_step (by repeat (first | exact Below.refl _ _ | (with_reducible apply below_alloc) | (with_reducible apply pw_below_drewN) | (with_reducible apply below_drew1))) hb_
          obtain ⟨B10, H10, eB_, eH_, hi1_, hi2_, hi3_⟩ := spot (W0 := w7_) (by repeat (first | exact Below.refl _ _ | (with_reducible apply below_alloc) | (with_reducible apply pw_below_drewN) | (with_reducible apply below_drew1))) hb_
          have HZ10 := Aside0.mk (⟨hi1_, hi2_, hi3_, hp_.size⟩ : _ ∧ _ ∧ _ ∧ _)
          have N10_0 := Aside0.mk (Own.new (W0 := w7_) (b := w.heap.size) (by repeat (first | exact Below.refl _ _ | (with_reducible apply below_alloc) | (with_reducible apply pw_below_drewN) | (with_reducible apply below_drew1))) ho0_ hb_ HB.out.size _ _ eB_ eH_)
          clear eB_ eH_ hi1_ hi2_ hi3_ ho0_
          replace HZ := Aside0.mk (And.intro HZ.out HZ10.out)
          clear HZ10
          replace HB := Aside0.mk (more HB.out hp_)
          replace HBK := Aside0.mk (more HBK.out hp_)
          replace TaJ0_0 := Aside0.mk (TaJ0_0.out.step hp_)
          replace TaJ0_1 := Aside0.mk (TaJ0_1.out.step hp_)
          replace TaJ0_2 := Aside0.mk (TaJ0_2.out.step hp_)
          replace TaP1_0 := Aside0.mk (TaP1_0.out.step hp_)
          replace BK_aj := Aside0.mk (blk_below BK_aj.out hp_)
          replace BK_ap := Aside0.mk (blk_below BK_ap.out hp_)
          clear hb_ hp_
          have Vw0 := N10_0
          clear N10_0
          obtain ⟨AVw0, cVw0, rfl, hc_⟩ := Vw0.out.reads
          have HCVw0 := Aside0.mk hc_
          clear hc_
          refine hK.out _ _ ⟨BK_aj.out, BK_ap.out⟩ (fun hHeld => ?_)
          clear hK K
          refine norm_ (a' := ?_) ?_ ?_
          rotate_left
          · show Act.put _ (some 32) _ = _
            simp only [Act.put, List.setIfInBounds_toArray, List.set_cons_zero, List.set_cons_succ, i64_w, i32_w]
            rfl
          refine pure_ (i := 5) (N := some 27) (v := ?_) (a' := ?_) #[true, true, true, true, true, true, false, false, false, false, false] rfl rfl (by kernel_rfl) (fun _ _ _ h => h) (Or.inl ⟨by rfl, ?_⟩) ?_ ?_
          rotate_left
          · intro w'
            go_simp
            with_reducible rfl
          rotate_left
          · simp only [Act.put, List.setIfInBounds_toArray, List.set_cons_zero, List.set_cons_succ, i64_w, i32_w]
            rfl
          refine pure_ (i := 6) (N := some 33) (v := ?_) (a' := ?_) #[true, true, true, true, true, true, true, false, false, false, false] rfl rfl (by kernel_rfl) (fun _ _ _ h => h) (Or.inl ⟨by rfl, ?_⟩) ?_ ?_
          rotate_left
          · intro w'
            go_simp
            with_reducible rfl
          rotate_left
          · simp only [Act.put, List.setIfInBounds_toArray, List.set_cons_zero, List.set_cons_succ, i64_w, i32_w]
            rfl
          refine pure_ (i := 7) (N := some 34) (v := ?_) (a' := ?_) #[true, true, true, true, true, true, true, true, false, false, false] rfl rfl (by kernel_rfl) (fun _ _ _ h => h) (Or.inl ⟨by rfl, ?_⟩) ?_ ?_
          rotate_left
          · intro w'
            go_simp
            with_reducible rfl
          rotate_left
          · simp only [Act.put, List.setIfInBounds_toArray, List.set_cons_zero, List.set_cons_succ, i64_w, i32_w]
            rfl
          refine one_ (i := 8) (N := some 6) #[true, true, true, true, true, true, true, true, true, false, false] rfl rfl (by kernel_rfl) (by decide) (fun K hK => ?_)
          refine alloc_ (cs := #[.int .i64 0, .slice none 0 0]) (t := 41) (by rfl) rfl ?hr ?_
          (case hr => first | (go_simp; done) | (go_simp; rfl))
          intro g_w0 hg_ w9_ hbox_ hb_
          have hp_ : Below w8_.heap.size w8_ w9_ := below_step (by repeat (first | exact Below.refl _ _ | (with_reducible apply below_alloc) | (with_reducible apply pw_below_drewN) | (with_reducible apply below_drew1))) hb_
          have hz_ : w8_.heap.size ≤ g_w0 := Nat.le_trans (below_size (by repeat (first | exact Below.refl _ _ | (with_reducible apply below_alloc) | (with_reducible apply pw_below_drewN) | (with_reducible apply below_drew1)))) (Nat.le_of_eq hg_.symm)
          have HZ11 := Aside0.mk (⟨hz_, blk_lt hbox_, hp_.size⟩ : _ ∧ _ ∧ _)
          replace HZ := Aside0.mk (And.intro HZ.out HZ11.out)
          clear HZ11
          have HGW_w0 := Aside0.mk (Nat.le_trans HB.out.size hz_ : w.heap.size ≤ g_w0)
          have hnb_w0_aj : g_w0 ≠ g_aj := Nat.ne_of_gt (Nat.lt_of_lt_of_le (blk_lt BK_aj.out) hz_)
          have hnb_aj_w0 : g_aj ≠ g_w0 := hnb_w0_aj.symm
          have hnb_w0_ap : g_w0 ≠ g_ap := Nat.ne_of_gt (Nat.lt_of_lt_of_le (blk_lt BK_ap.out) hz_)
          have hnb_ap_w0 : g_ap ≠ g_w0 := hnb_w0_ap.symm
          replace HBK := Aside0.mk (more HBK.out hp_)
          replace HB := Aside0.mk (more HB.out hp_)
          replace TaJ0_0 := Aside0.mk (TaJ0_0.out.step hp_)
          replace TaJ0_1 := Aside0.mk (TaJ0_1.out.step hp_)
          replace TaJ0_2 := Aside0.mk (TaJ0_2.out.step hp_)
          replace TaP1_0 := Aside0.mk (TaP1_0.out.step hp_)
          replace Vw0 := Aside0.mk (Vw0.out.step hp_)
          replace BK_aj := Aside0.mk (blk_below BK_aj.out hp_)
          replace BK_ap := Aside0.mk (blk_below BK_ap.out hp_)
          have BK_w0 := Aside0.mk hbox_
          clear hg_ hbox_ hb_ hp_ hz_
          refine hK.out _ _ ⟨BK_aj.out, BK_ap.out⟩ (fun hHeld => ?_)
          clear hK K
          refine norm_ (a' := ?_) ?_ ?_
          rotate_left
          · show Act.put _ (some 6) _ = _
            simp only [Act.put, List.setIfInBounds_toArray, List.set_cons_zero, List.set_cons_succ, i64_w, i32_w]
            rfl
          have hq_ := hJ_ (.agg #[.slice ATaJ0_0 aj_0.length cTaJ0_0, .slice ATaJ0_1 aj_1.length cTaJ0_1, .slice ATaJ0_2 aj_2.length cTaJ0_2, .int .i64 aj_3, .int .i64 aj_4, .int .i64 aj_5, .int .i64 aj_6, .int .i64 aj_7], .agg #[.int .i64 ap_0, .slice ATaP1_0 ap_1.length cTaP1_0], AVw0, cVw0, B10, H10, _, g_w0) w9_ ⟨HBK.out, Vw0.out, HCVw0.out, (by try dsimp only; have z_ := HZ.out; omega), (by try dsimp only; have z_ := HZ.out; omega), (by try dsimp only; have z_ := HZ.out; omega), (by try dsimp only; have z_ := HZ.out; omega), BK_w0.out, (by try dsimp only; have z_ := HZ.out; omega)⟩
          refine norm_ ?_ hq_
          simp only [putAll, Act.put, List.setIfInBounds_toArray, List.set_cons_zero, List.set_cons_succ] <;> rfl
        · skip
          refine alloc_ (cs := #[.int .i64 0, .slice none 0 0]) (t := 41) (by rfl) rfl ?hr ?_
          (case hr => first | (go_simp; done) | (go_simp; rfl))
          intro g_w0 hg_ w8_ hbox_ hb_
          have hp_ : Below w7_.heap.size w7_ w8_ := below_step (by repeat (first | exact Below.refl _ _ | (with_reducible apply below_alloc) | (with_reducible apply pw_below_drewN) | (with_reducible apply below_drew1))) hb_
          have hz_ : w7_.heap.size ≤ g_w0 := Nat.le_trans (below_size (by repeat (first | exact Below.refl _ _ | (with_reducible apply below_alloc) | (with_reducible apply pw_below_drewN) | (with_reducible apply below_drew1)))) (Nat.le_of_eq hg_.symm)
          have HZ12 := Aside0.mk (⟨hz_, blk_lt hbox_, hp_.size⟩ : _ ∧ _ ∧ _)
          replace HZ := Aside0.mk (And.intro HZ.out HZ12.out)
          clear HZ12
          have HGW_w0 := Aside0.mk (Nat.le_trans HB.out.size hz_ : w.heap.size ≤ g_w0)
          have hnb_w0_aj : g_w0 ≠ g_aj := Nat.ne_of_gt (Nat.lt_of_lt_of_le (blk_lt BK_aj.out) hz_)
          have hnb_aj_w0 : g_aj ≠ g_w0 := hnb_w0_aj.symm
          have hnb_w0_ap : g_w0 ≠ g_ap := Nat.ne_of_gt (Nat.lt_of_lt_of_le (blk_lt BK_ap.out) hz_)
          have hnb_ap_w0 : g_ap ≠ g_w0 := hnb_w0_ap.symm
          replace HBK := Aside0.mk (more HBK.out hp_)
          replace HB := Aside0.mk (more HB.out hp_)
          replace TaJ0_0 := Aside0.mk (TaJ0_0.out.step hp_)
          replace TaJ0_1 := Aside0.mk (TaJ0_1.out.step hp_)
          replace TaJ0_2 := Aside0.mk (TaJ0_2.out.step hp_)
          replace TaP1_0 := Aside0.mk (TaP1_0.out.step hp_)
          replace BK_aj := Aside0.mk (blk_below BK_aj.out hp_)
          replace BK_ap := Aside0.mk (blk_below BK_ap.out hp_)
          have BK_w0 := Aside0.mk hbox_
          clear hg_ hbox_ hb_ hp_ hz_
          refine hK.out _ _ ⟨BK_aj.out, BK_ap.out⟩ (fun hHeld => ?_)
          clear hK K
          refine norm_ (a' := ?_) ?_ ?_
          rotate_left
          · show Act.put _ (some 6) _ = _
            simp only [Act.put, List.setIfInBounds_toArray, List.set_cons_zero, List.set_cons_succ, i64_w, i32_w]
            rfl
          refine one_ (i := 4) (N := some 32) #[true, true, true, true, true, false, false, false, true, false, false] rfl rfl (by kernel_rfl) (by decide) (fun K hK => ?_)
          refine goes_ Try.func41 (by kernel_rfl) rfl #[.agg #[.slice ATaJ0_0 aj_0.length cTaJ0_0, .slice ATaJ0_1 aj_1.length cTaJ0_1, .slice ATaJ0_2 aj_2.length cTaJ0_2, .int .i64 (aj_3), .int .i64 (aj_4), .int .i64 (aj_5), .int .i64 (aj_6), .int .i64 (aj_7)], .agg #[.int .i64 (ap_0), .slice ATaP1_0 ap_1.length cTaP1_0]] (by rfl) rfl rfl (by (try simp only [List.map_toArray, List.map_cons, List.map_nil]); first | done | rfl | (simp only [List.length_drop, List.length_take]; rfl)) ?_
          refine (spec_DelayBlocks.calls kes_ _ _ aj_0 _ _ aj_1 _ _ aj_2 aj_3 aj_4 aj_5 aj_6 aj_7 ap_0 _ _ ap_1 r1v r2v r3v _ (by repeat (first | exact TaJ0_0.out.C | (with_reducible refine Kd.C_alloc ?_ _) | (with_reducible refine Kd.C_drewN ?_ _) | (with_reducible refine Kd.C_drew ?_))) HCTaJ0_0.out (by repeat (first | exact TaJ0_1.out.C | (with_reducible refine Kd.C_alloc ?_ _) | (with_reducible refine Kd.C_drewN ?_ _) | (with_reducible refine Kd.C_drew ?_))) HCTaJ0_1.out (by repeat (first | exact TaJ0_2.out.C | (with_reducible refine Kd.C_alloc ?_ _) | (with_reducible refine Kd.C_drewN ?_ _) | (with_reducible refine Kd.C_drew ?_))) HCTaJ0_2.out (by repeat (first | exact TaP1_0.out.C | (with_reducible refine Kd.C_alloc ?_ _) | (with_reducible refine Kd.C_drewN ?_ _) | (with_reducible refine Kd.C_drew ?_))) HCTaP1_0.out HES.out).mono ?_
          rintro e w9_ ⟨v1_n9, rfl, ho0_, hb_⟩
          refine ⟨_, rfl, ?_⟩
          have hp_ : Below w8_.heap.size w8_ w9_ := below_step (by repeat (first | exact Below.refl _ _ | (with_reducible apply below_alloc) | (with_reducible apply pw_below_drewN) | (with_reducible apply below_drew1))) hb_
          obtain ⟨B13, H13, eB_, eH_, hi1_, hi2_, hi3_⟩ := spot (W0 := w8_) (by repeat (first | exact Below.refl _ _ | (with_reducible apply below_alloc) | (with_reducible apply pw_below_drewN) | (with_reducible apply below_drew1))) hb_
          have HZ13 := Aside0.mk (⟨hi1_, hi2_, hi3_, hp_.size⟩ : _ ∧ _ ∧ _ ∧ _)
          have N13_0 := Aside0.mk (Own.new (W0 := w8_) (b := w.heap.size) (by repeat (first | exact Below.refl _ _ | (with_reducible apply below_alloc) | (with_reducible apply pw_below_drewN) | (with_reducible apply below_drew1))) ho0_ hb_ HB.out.size _ _ eB_ eH_)
          clear eB_ eH_ hi1_ hi2_ hi3_ ho0_
          replace HZ := Aside0.mk (And.intro HZ.out HZ13.out)
          clear HZ13
          replace HB := Aside0.mk (more HB.out hp_)
          replace HBK := Aside0.mk (more HBK.out hp_)
          replace TaJ0_0 := Aside0.mk (TaJ0_0.out.step hp_)
          replace TaJ0_1 := Aside0.mk (TaJ0_1.out.step hp_)
          replace TaJ0_2 := Aside0.mk (TaJ0_2.out.step hp_)
          replace TaP1_0 := Aside0.mk (TaP1_0.out.step hp_)
          replace BK_aj := Aside0.mk (blk_below BK_aj.out hp_)
          replace BK_ap := Aside0.mk (blk_below BK_ap.out hp_)
          replace BK_w0 := Aside0.mk (blk_below BK_w0.out hp_)
          clear hb_ hp_
          have Vw0 := N13_0
          clear N13_0
          obtain ⟨AVw0, cVw0, rfl, hc_⟩ := Vw0.out.reads
          have HCVw0 := Aside0.mk hc_
          clear hc_
          refine hK.out _ _ ⟨BK_aj.out, BK_ap.out⟩ (fun hHeld => ?_)
          clear hK K
          refine norm_ (a' := ?_) ?_ ?_
          rotate_left
          · show Act.put _ (some 32) _ = _
            simp only [Act.put, List.setIfInBounds_toArray, List.set_cons_zero, List.set_cons_succ, i64_w, i32_w]
            rfl
          refine pure_ (i := 5) (N := some 27) (v := ?_) (a' := ?_) #[true, true, true, true, true, true, false, false, true, false, false] rfl rfl (by kernel_rfl) (fun _ _ _ h => h) (Or.inl ⟨by rfl, ?_⟩) ?_ ?_
          rotate_left
          · intro w'
            go_simp
            with_reducible rfl
          rotate_left
          · simp only [Act.put, List.setIfInBounds_toArray, List.set_cons_zero, List.set_cons_succ, i64_w, i32_w]
            rfl
          refine pure_ (i := 6) (N := some 33) (v := ?_) (a' := ?_) #[true, true, true, true, true, true, true, false, true, false, false] rfl rfl (by kernel_rfl) (fun _ _ _ h => h) (Or.inl ⟨by rfl, ?_⟩) ?_ ?_
          rotate_left
          · intro w'
            go_simp
            with_reducible rfl
          rotate_left
          · simp only [Act.put, List.setIfInBounds_toArray, List.set_cons_zero, List.set_cons_succ, i64_w, i32_w]
            rfl
          refine pure_ (i := 7) (N := some 34) (v := ?_) (a' := ?_) #[true, true, true, true, true, true, true, true, true, false, false] rfl rfl (by kernel_rfl) (fun _ _ _ h => h) (Or.inl ⟨by rfl, ?_⟩) ?_ ?_
          rotate_left
          · intro w'
            go_simp
            with_reducible rfl
          rotate_left
          · simp only [Act.put, List.setIfInBounds_toArray, List.set_cons_zero, List.set_cons_succ, i64_w, i32_w]
            rfl
          have hq_ := hJ_ (.agg #[.slice ATaJ0_0 aj_0.length cTaJ0_0, .slice ATaJ0_1 aj_1.length cTaJ0_1, .slice ATaJ0_2 aj_2.length cTaJ0_2, .int .i64 aj_3, .int .i64 aj_4, .int .i64 aj_5, .int .i64 aj_6, .int .i64 aj_7], .agg #[.int .i64 ap_0, .slice ATaP1_0 ap_1.length cTaP1_0], AVw0, cVw0, B13, H13, _, g_w0) w9_ ⟨HBK.out, Vw0.out, HCVw0.out, (by try dsimp only; have z_ := HZ.out; omega), (by try dsimp only; have z_ := HZ.out; omega), (by try dsimp only; have z_ := HZ.out; omega), (by try dsimp only; have z_ := HZ.out; omega), BK_w0.out, (by try dsimp only; have z_ := HZ.out; omega)⟩
          refine norm_ ?_ hq_
          simp only [putAll, Act.put, List.setIfInBounds_toArray, List.set_cons_zero, List.set_cons_succ] <;> rfl
      · skip
        refine alloc_ (cs := #[.int .i64 0, .slice none 0 0]) (t := 41) (by rfl) rfl ?hr ?_
        (case hr => first | (go_simp; done) | (go_simp; rfl))
        intro g_w0 hg_ w7_ hbox_ hb_
        have hp_ : Below w6_.heap.size w6_ w7_ := below_step (by repeat (first | exact Below.refl _ _ | (with_reducible apply below_alloc) | (with_reducible apply pw_below_drewN) | (with_reducible apply below_drew1))) hb_
        have hz_ : w6_.heap.size ≤ g_w0 := Nat.le_trans (below_size (by repeat (first | exact Below.refl _ _ | (with_reducible apply below_alloc) | (with_reducible apply pw_below_drewN) | (with_reducible apply below_drew1)))) (Nat.le_of_eq hg_.symm)
        have HZ14 := Aside0.mk (⟨hz_, blk_lt hbox_, hp_.size⟩ : _ ∧ _ ∧ _)
        replace HZ := Aside0.mk (And.intro HZ.out HZ14.out)
        clear HZ14
        have HGW_w0 := Aside0.mk (Nat.le_trans HB.out.size hz_ : w.heap.size ≤ g_w0)
        have hnb_w0_aj : g_w0 ≠ g_aj := Nat.ne_of_gt (Nat.lt_of_lt_of_le (blk_lt BK_aj.out) hz_)
        have hnb_aj_w0 : g_aj ≠ g_w0 := hnb_w0_aj.symm
        have hnb_w0_ap : g_w0 ≠ g_ap := Nat.ne_of_gt (Nat.lt_of_lt_of_le (blk_lt BK_ap.out) hz_)
        have hnb_ap_w0 : g_ap ≠ g_w0 := hnb_w0_ap.symm
        replace HBK := Aside0.mk (more HBK.out hp_)
        replace HB := Aside0.mk (more HB.out hp_)
        replace TaJ0_0 := Aside0.mk (TaJ0_0.out.step hp_)
        replace TaJ0_1 := Aside0.mk (TaJ0_1.out.step hp_)
        replace TaJ0_2 := Aside0.mk (TaJ0_2.out.step hp_)
        replace BK_aj := Aside0.mk (blk_below BK_aj.out hp_)
        replace BK_ap := Aside0.mk (blk_below BK_ap.out hp_)
        have BK_w0 := Aside0.mk hbox_
        clear hg_ hbox_ hb_ hp_ hz_
        refine hK.out _ _ ⟨BK_aj.out, BK_ap.out⟩ (fun hHeld => ?_)
        clear hK K
        refine norm_ (a' := ?_) ?_ ?_
        rotate_left
        · show Act.put _ (some 6) _ = _
          simp only [Act.put, List.setIfInBounds_toArray, List.set_cons_zero, List.set_cons_succ, i64_w, i32_w]
          rfl
        refine one_ (i := 3) (N := some 31) #[true, true, true, true, false, false, false, false, true, false, false] rfl rfl (by kernel_rfl) (by decide) (fun K hK => ?_)
        refine goes_ Try.func22 (by kernel_rfl) rfl #[.agg #[.int .i64 (ap_0), .slice A_ap_1 ap_1.length c_ap_1]] (by rfl) rfl rfl (by (try simp only [List.map_toArray, List.map_cons, List.map_nil]); first | done | rfl | (simp only [List.length_drop, List.length_take]; rfl)) ?_
        refine (laws_toPlan.calls kt_aP ap_0 _ _ ap_1 ap_0 ap_1 _ (by repeat (first | exact (Kd.C_below HR_ap_1.out HB.out) | (with_reducible refine Kd.C_alloc ?_ _) | (with_reducible refine Kd.C_drewN ?_ _) | (with_reducible refine Kd.C_drew ?_))) HC_ap_1.out Hkt_aP.out).mono ?_
        rintro e w8_ ⟨v1_n8, rfl, ho0_, hb_⟩
        refine ⟨_, rfl, ?_⟩
        have hp_ : Below w7_.heap.size w7_ w8_ := below_step (by repeat (first | exact Below.refl _ _ | (with_reducible apply below_alloc) | (with_reducible apply pw_below_drewN) | (with_reducible apply below_drew1))) hb_
        obtain ⟨B15, H15, eB_, eH_, hi1_, hi2_, hi3_⟩ := spot (W0 := w7_) (by repeat (first | exact Below.refl _ _ | (with_reducible apply below_alloc) | (with_reducible apply pw_below_drewN) | (with_reducible apply below_drew1))) hb_
        have HZ15 := Aside0.mk (⟨hi1_, hi2_, hi3_, hp_.size⟩ : _ ∧ _ ∧ _ ∧ _)
        have N15_0 := Aside0.mk (Own.new (W0 := w7_) (b := w.heap.size) (by repeat (first | exact Below.refl _ _ | (with_reducible apply below_alloc) | (with_reducible apply pw_below_drewN) | (with_reducible apply below_drew1))) ho0_ hb_ HB.out.size _ _ eB_ eH_)
        clear eB_ eH_ hi1_ hi2_ hi3_ ho0_
        replace HZ := Aside0.mk (And.intro HZ.out HZ15.out)
        clear HZ15
        replace HB := Aside0.mk (more HB.out hp_)
        replace HBK := Aside0.mk (more HBK.out hp_)
        replace TaJ0_0 := Aside0.mk (TaJ0_0.out.step hp_)
        replace TaJ0_1 := Aside0.mk (TaJ0_1.out.step hp_)
        replace TaJ0_2 := Aside0.mk (TaJ0_2.out.step hp_)
        replace BK_aj := Aside0.mk (blk_below BK_aj.out hp_)
        replace BK_ap := Aside0.mk (blk_below BK_ap.out hp_)
        replace BK_w0 := Aside0.mk (blk_below BK_w0.out hp_)
        clear hb_ hp_
        have TaP1_0 := N15_0
        clear N15_0
        obtain ⟨ATaP1_0, cTaP1_0, rfl, hc_⟩ := TaP1_0.out.reads
        have HCTaP1_0 := Aside0.mk hc_
        clear hc_
        refine hK.out _ _ ⟨BK_aj.out, BK_ap.out⟩ (fun hHeld => ?_)
        clear hK K
        refine norm_ (a' := ?_) ?_ ?_
        rotate_left
        · show Act.put _ (some 31) _ = _
          simp only [Act.put, List.setIfInBounds_toArray, List.set_cons_zero, List.set_cons_succ, i64_w, i32_w]
          rfl
        refine one_ (i := 4) (N := some 32) #[true, true, true, true, true, false, false, false, true, false, false] rfl rfl (by kernel_rfl) (by decide) (fun K hK => ?_)
        refine goes_ Try.func41 (by kernel_rfl) rfl #[.agg #[.slice ATaJ0_0 aj_0.length cTaJ0_0, .slice ATaJ0_1 aj_1.length cTaJ0_1, .slice ATaJ0_2 aj_2.length cTaJ0_2, .int .i64 (aj_3), .int .i64 (aj_4), .int .i64 (aj_5), .int .i64 (aj_6), .int .i64 (aj_7)], .agg #[.int .i64 (ap_0), .slice ATaP1_0 ap_1.length cTaP1_0]] (by rfl) rfl rfl (by (try simp only [List.map_toArray, List.map_cons, List.map_nil]); first | done | rfl | (simp only [List.length_drop, List.length_take]; rfl)) ?_
        refine (spec_DelayBlocks.calls kes_ _ _ aj_0 _ _ aj_1 _ _ aj_2 aj_3 aj_4 aj_5 aj_6 aj_7 ap_0 _ _ ap_1 r1v r2v r3v _ (by repeat (first | exact TaJ0_0.out.C | (with_reducible refine Kd.C_alloc ?_ _) | (with_reducible refine Kd.C_drewN ?_ _) | (with_reducible refine Kd.C_drew ?_))) HCTaJ0_0.out (by repeat (first | exact TaJ0_1.out.C | (with_reducible refine Kd.C_alloc ?_ _) | (with_reducible refine Kd.C_drewN ?_ _) | (with_reducible refine Kd.C_drew ?_))) HCTaJ0_1.out (by repeat (first | exact TaJ0_2.out.C | (with_reducible refine Kd.C_alloc ?_ _) | (with_reducible refine Kd.C_drewN ?_ _) | (with_reducible refine Kd.C_drew ?_))) HCTaJ0_2.out (by repeat (first | exact TaP1_0.out.C | (with_reducible refine Kd.C_alloc ?_ _) | (with_reducible refine Kd.C_drewN ?_ _) | (with_reducible refine Kd.C_drew ?_))) HCTaP1_0.out HES.out).mono ?_
        rintro e w9_ ⟨v1_n9, rfl, ho0_, hb_⟩
        refine ⟨_, rfl, ?_⟩
        have hp_ : Below w8_.heap.size w8_ w9_ := below_step (by repeat (first | exact Below.refl _ _ | (with_reducible apply below_alloc) | (with_reducible apply pw_below_drewN) | (with_reducible apply below_drew1))) hb_
        obtain ⟨B16, H16, eB_, eH_, hi1_, hi2_, hi3_⟩ := spot (W0 := w8_) (by repeat (first | exact Below.refl _ _ | (with_reducible apply below_alloc) | (with_reducible apply pw_below_drewN) | (with_reducible apply below_drew1))) hb_
        have HZ16 := Aside0.mk (⟨hi1_, hi2_, hi3_, hp_.size⟩ : _ ∧ _ ∧ _ ∧ _)
        have N16_0 := Aside0.mk (Own.new (W0 := w8_) (b := w.heap.size) (by repeat (first | exact Below.refl _ _ | (with_reducible apply below_alloc) | (with_reducible apply pw_below_drewN) | (with_reducible apply below_drew1))) ho0_ hb_ HB.out.size _ _ eB_ eH_)
        clear eB_ eH_ hi1_ hi2_ hi3_ ho0_
        replace HZ := Aside0.mk (And.intro HZ.out HZ16.out)
        clear HZ16
        replace HB := Aside0.mk (more HB.out hp_)
        replace HBK := Aside0.mk (more HBK.out hp_)
        replace TaJ0_0 := Aside0.mk (TaJ0_0.out.step hp_)
        replace TaJ0_1 := Aside0.mk (TaJ0_1.out.step hp_)
        replace TaJ0_2 := Aside0.mk (TaJ0_2.out.step hp_)
        replace TaP1_0 := Aside0.mk (TaP1_0.out.step hp_)
        replace BK_aj := Aside0.mk (blk_below BK_aj.out hp_)
        replace BK_ap := Aside0.mk (blk_below BK_ap.out hp_)
        replace BK_w0 := Aside0.mk (blk_below BK_w0.out hp_)
        clear hb_ hp_
        have Vw0 := N16_0
        clear N16_0
        obtain ⟨AVw0, cVw0, rfl, hc_⟩ := Vw0.out.reads
        have HCVw0 := Aside0.mk hc_
        clear hc_
        refine hK.out _ _ ⟨BK_aj.out, BK_ap.out⟩ (fun hHeld => ?_)
        clear hK K
        refine norm_ (a' := ?_) ?_ ?_
        rotate_left
        · show Act.put _ (some 32) _ = _
          simp only [Act.put, List.setIfInBounds_toArray, List.set_cons_zero, List.set_cons_succ, i64_w, i32_w]
          rfl
        refine pure_ (i := 5) (N := some 27) (v := ?_) (a' := ?_) #[true, true, true, true, true, true, false, false, true, false, false] rfl rfl (by kernel_rfl) (fun _ _ _ h => h) (Or.inl ⟨by rfl, ?_⟩) ?_ ?_
        rotate_left
        · intro w'
          go_simp
          with_reducible rfl
        rotate_left
        · simp only [Act.put, List.setIfInBounds_toArray, List.set_cons_zero, List.set_cons_succ, i64_w, i32_w]
          rfl
        refine pure_ (i := 6) (N := some 33) (v := ?_) (a' := ?_) #[true, true, true, true, true, true, true, false, true, false, false] rfl rfl (by kernel_rfl) (fun _ _ _ h => h) (Or.inl ⟨by rfl, ?_⟩) ?_ ?_
        rotate_left
        · intro w'
          go_simp
          with_reducible rfl
        rotate_left
        · simp only [Act.put, List.setIfInBounds_toArray, List.set_cons_zero, List.set_cons_succ, i64_w, i32_w]
          rfl
        refine pure_ (i := 7) (N := some 34) (v := ?_) (a' := ?_) #[true, true, true, true, true, true, true, true, true, false, false] rfl rfl (by kernel_rfl) (fun _ _ _ h => h) (Or.inl ⟨by rfl, ?_⟩) ?_ ?_
        rotate_left
        · intro w'
          go_simp
          with_reducible rfl
        rotate_left
        · simp only [Act.put, List.setIfInBounds_toArray, List.set_cons_zero, List.set_cons_succ, i64_w, i32_w]
          rfl
        have hq_ := hJ_ (.agg #[.slice ATaJ0_0 aj_0.length cTaJ0_0, .slice ATaJ0_1 aj_1.length cTaJ0_1, .slice ATaJ0_2 aj_2.length cTaJ0_2, .int .i64 aj_3, .int .i64 aj_4, .int .i64 aj_5, .int .i64 aj_6, .int .i64 aj_7], .agg #[.int .i64 ap_0, .slice ATaP1_0 ap_1.length cTaP1_0], AVw0, cVw0, B16, H16, _, g_w0) w9_ ⟨HBK.out, Vw0.out, HCVw0.out, (by try dsimp only; have z_ := HZ.out; omega), (by try dsimp only; have z_ := HZ.out; omega), (by try dsimp only; have z_ := HZ.out; omega), (by try dsimp only; have z_ := HZ.out; omega), BK_w0.out, (by try dsimp only; have z_ := HZ.out; omega)⟩
        refine norm_ ?_ hq_
        simp only [putAll, Act.put, List.setIfInBounds_toArray, List.set_cons_zero, List.set_cons_succ] <;> rfl
    · skip
      refine alloc_ (cs := #[.int .i64 0, .slice none 0 0]) (t := 41) (by rfl) rfl ?hr ?_
      (case hr => first | (go_simp; done) | (go_simp; rfl))
      intro g_w0 hg_ w6_ hbox_ hb_
      have hp_ : Below w5_.heap.size w5_ w6_ := below_step (by repeat (first | exact Below.refl _ _ | (with_reducible apply below_alloc) | (with_reducible apply pw_below_drewN) | (with_reducible apply below_drew1))) hb_
      have hz_ : w5_.heap.size ≤ g_w0 := Nat.le_trans (below_size (by repeat (first | exact Below.refl _ _ | (with_reducible apply below_alloc) | (with_reducible apply pw_below_drewN) | (with_reducible apply below_drew1)))) (Nat.le_of_eq hg_.symm)
      have HZ17 := Aside0.mk (⟨hz_, blk_lt hbox_, hp_.size⟩ : _ ∧ _ ∧ _)
      replace HZ := Aside0.mk (And.intro HZ.out HZ17.out)
      clear HZ17
      have HGW_w0 := Aside0.mk (Nat.le_trans HB.out.size hz_ : w.heap.size ≤ g_w0)
      have hnb_w0_aj : g_w0 ≠ g_aj := Nat.ne_of_gt (Nat.lt_of_lt_of_le (blk_lt BK_aj.out) hz_)
      have hnb_aj_w0 : g_aj ≠ g_w0 := hnb_w0_aj.symm
      have hnb_w0_ap : g_w0 ≠ g_ap := Nat.ne_of_gt (Nat.lt_of_lt_of_le (blk_lt BK_ap.out) hz_)
      have hnb_ap_w0 : g_ap ≠ g_w0 := hnb_w0_ap.symm
      replace HBK := Aside0.mk (more HBK.out hp_)
      replace HB := Aside0.mk (more HB.out hp_)
      replace BK_aj := Aside0.mk (blk_below BK_aj.out hp_)
      replace BK_ap := Aside0.mk (blk_below BK_ap.out hp_)
      have BK_w0 := Aside0.mk hbox_
      clear hg_ hbox_ hb_ hp_ hz_
      refine hK.out _ _ ⟨BK_aj.out, BK_ap.out⟩ (fun hHeld => ?_)
      clear hK K
      refine norm_ (a' := ?_) ?_ ?_
      rotate_left
      · show Act.put _ (some 6) _ = _
        simp only [Act.put, List.setIfInBounds_toArray, List.set_cons_zero, List.set_cons_succ, i64_w, i32_w]
        rfl
      refine one_ (i := 1) (N := some 29) #[true, true, true, false, false, false, false, false, true, false, false] rfl rfl (by kernel_rfl) (by decide) (fun K hK => ?_)
      refine goes_ Try.func17 (by kernel_rfl) rfl #[.agg #[.slice A_aj_0 aj_0.length c_aj_0, .slice A_aj_1 aj_1.length c_aj_1, .slice A_aj_2 aj_2.length c_aj_2, .int .i64 (aj_3), .int .i64 (aj_4), .int .i64 (aj_5), .int .i64 (aj_6), .int .i64 (aj_7)]] (by rfl) rfl rfl (by (try simp only [List.map_toArray, List.map_cons, List.map_nil]); first | done | rfl | (simp only [List.length_drop, List.length_take]; rfl)) ?_
      refine (laws_toJob.calls kt_aJ _ _ aj_0 _ _ aj_1 _ _ aj_2 aj_3 aj_4 aj_5 aj_6 aj_7 aj_0 aj_1 aj_2 aj_3 aj_4 aj_5 aj_6 aj_7 _ (by repeat (first | exact (Kd.C_below HR_aj_0.out HB.out) | (with_reducible refine Kd.C_alloc ?_ _) | (with_reducible refine Kd.C_drewN ?_ _) | (with_reducible refine Kd.C_drew ?_))) HC_aj_0.out (by repeat (first | exact (Kd.C_below HR_aj_1.out HB.out) | (with_reducible refine Kd.C_alloc ?_ _) | (with_reducible refine Kd.C_drewN ?_ _) | (with_reducible refine Kd.C_drew ?_))) HC_aj_1.out (by repeat (first | exact (Kd.C_below HR_aj_2.out HB.out) | (with_reducible refine Kd.C_alloc ?_ _) | (with_reducible refine Kd.C_drewN ?_ _) | (with_reducible refine Kd.C_drew ?_))) HC_aj_2.out Hkt_aJ.out).mono ?_
      rintro e w7_ ⟨v0_n7, v1_n7, v2_n7, rfl, ho0_, ho1_, ho2_, hb_⟩
      refine ⟨_, rfl, ?_⟩
      have hp_ : Below w6_.heap.size w6_ w7_ := below_step (by repeat (first | exact Below.refl _ _ | (with_reducible apply below_alloc) | (with_reducible apply pw_below_drewN) | (with_reducible apply below_drew1))) hb_
      obtain ⟨B18, H18, eB_, eH_, hi1_, hi2_, hi3_⟩ := spot (W0 := w6_) (by repeat (first | exact Below.refl _ _ | (with_reducible apply below_alloc) | (with_reducible apply pw_below_drewN) | (with_reducible apply below_drew1))) hb_
      have HZ18 := Aside0.mk (⟨hi1_, hi2_, hi3_, hp_.size⟩ : _ ∧ _ ∧ _ ∧ _)
      have N18_0 := Aside0.mk (OwnS.new (W0 := w6_) (b := w.heap.size) (by repeat (first | exact Below.refl _ _ | (with_reducible apply below_alloc) | (with_reducible apply pw_below_drewN) | (with_reducible apply below_drew1))) ho0_ hb_ HB.out.size _ _ eB_ eH_)
      have N18_1 := Aside0.mk (Own.new (W0 := w6_) (b := w.heap.size) (by repeat (first | exact Below.refl _ _ | (with_reducible apply below_alloc) | (with_reducible apply pw_below_drewN) | (with_reducible apply below_drew1))) (tightRow rfl ho1_) hb_ HB.out.size _ _ eB_ eH_)
      have N18_2 := Aside0.mk (Own.new (W0 := w6_) (b := w.heap.size) (by repeat (first | exact Below.refl _ _ | (with_reducible apply below_alloc) | (with_reducible apply pw_below_drewN) | (with_reducible apply below_drew1))) (tightRow rfl ho2_) hb_ HB.out.size _ _ eB_ eH_)
      clear eB_ eH_ hi1_ hi2_ hi3_ ho0_ ho1_ ho2_
      replace HZ := Aside0.mk (And.intro HZ.out HZ18.out)
      clear HZ18
      replace HB := Aside0.mk (more HB.out hp_)
      replace HBK := Aside0.mk (more HBK.out hp_)
      replace BK_aj := Aside0.mk (blk_below BK_aj.out hp_)
      replace BK_ap := Aside0.mk (blk_below BK_ap.out hp_)
      replace BK_w0 := Aside0.mk (blk_below BK_w0.out hp_)
      clear hb_ hp_
      have TaJ0_0 := N18_0
      clear N18_0
      obtain ⟨ATaJ0_0, cTaJ0_0, rfl, hc_⟩ := TaJ0_0.out.reads
      have HCTaJ0_0 := Aside0.mk hc_
      clear hc_
      have TaJ0_1 := N18_1
      clear N18_1
      obtain ⟨ATaJ0_1, cTaJ0_1, rfl, hc_⟩ := TaJ0_1.out.reads
      have HCTaJ0_1 := Aside0.mk hc_
      clear hc_
      have TaJ0_2 := N18_2
      clear N18_2
      obtain ⟨ATaJ0_2, cTaJ0_2, rfl, hc_⟩ := TaJ0_2.out.reads
      have HCTaJ0_2 := Aside0.mk hc_
      clear hc_
      refine hK.out _ _ ⟨BK_aj.out, BK_ap.out⟩ (fun hHeld => ?_)
      clear hK K
      refine norm_ (a' := ?_) ?_ ?_
      rotate_left
      · show Act.put _ (some 29) _ = _
        simp only [Act.put, List.setIfInBounds_toArray, List.set_cons_zero, List.set_cons_succ, i64_w, i32_w]
        rfl
      refine one_ (i := 3) (N := some 31) #[true, true, true, true, false, false, false, false, true, false, false] rfl rfl (by kernel_rfl) (by decide) (fun K hK => ?_)
      refine goes_ Try.func22 (by kernel_rfl) rfl #[.agg #[.int .i64 (ap_0), .slice A_ap_1 ap_1.length c_ap_1]] (by rfl) rfl rfl (by (try simp only [List.map_toArray, List.map_cons, List.map_nil]); first | done | rfl | (simp only [List.length_drop, List.length_take]; rfl)) ?_
      refine (laws_toPlan.calls kt_aP ap_0 _ _ ap_1 ap_0 ap_1 _ (by repeat (first | exact (Kd.C_below HR_ap_1.out HB.out) | (with_reducible refine Kd.C_alloc ?_ _) | (with_reducible refine Kd.C_drewN ?_ _) | (with_reducible refine Kd.C_drew ?_))) HC_ap_1.out Hkt_aP.out).mono ?_
      rintro e w8_ ⟨v1_n8, rfl, ho0_, hb_⟩
      refine ⟨_, rfl, ?_⟩
      have hp_ : Below w7_.heap.size w7_ w8_ := below_step (by repeat (first | exact Below.refl _ _ | (with_reducible apply below_alloc) | (with_reducible apply pw_below_drewN) | (with_reducible apply below_drew1))) hb_
      obtain ⟨B19, H19, eB_, eH_, hi1_, hi2_, hi3_⟩ := spot (W0 := w7_) (by repeat (first | exact Below.refl _ _ | (with_reducible apply below_alloc) | (with_reducible apply pw_below_drewN) | (with_reducible apply below_drew1))) hb_
      have HZ19 := Aside0.mk (⟨hi1_, hi2_, hi3_, hp_.size⟩ : _ ∧ _ ∧ _ ∧ _)
      have N19_0 := Aside0.mk (Own.new (W0 := w7_) (b := w.heap.size) (by repeat (first | exact Below.refl _ _ | (with_reducible apply below_alloc) | (with_reducible apply pw_below_drewN) | (with_reducible apply below_drew1))) ho0_ hb_ HB.out.size _ _ eB_ eH_)
      clear eB_ eH_ hi1_ hi2_ hi3_ ho0_
      replace HZ := Aside0.mk (And.intro HZ.out HZ19.out)
      clear HZ19
      replace HB := Aside0.mk (more HB.out hp_)
      replace HBK := Aside0.mk (more HBK.out hp_)
      replace TaJ0_0 := Aside0.mk (TaJ0_0.out.step hp_)
      replace TaJ0_1 := Aside0.mk (TaJ0_1.out.step hp_)
      replace TaJ0_2 := Aside0.mk (TaJ0_2.out.step hp_)
      replace BK_aj := Aside0.mk (blk_below BK_aj.out hp_)
      replace BK_ap := Aside0.mk (blk_below BK_ap.out hp_)
      replace BK_w0 := Aside0.mk (blk_below BK_w0.out hp_)
      clear hb_ hp_
      have TaP1_0 := N19_0
      clear N19_0
      obtain ⟨ATaP1_0, cTaP1_0, rfl, hc_⟩ := TaP1_0.out.reads
      have HCTaP1_0 := Aside0.mk hc_
      clear hc_
      refine hK.out _ _ ⟨BK_aj.out, BK_ap.out⟩ (fun hHeld => ?_)
      clear hK K
      refine norm_ (a' := ?_) ?_ ?_
      rotate_left
      · show Act.put _ (some 31) _ = _
        simp only [Act.put, List.setIfInBounds_toArray, List.set_cons_zero, List.set_cons_succ, i64_w, i32_w]
        rfl
      refine one_ (i := 4) (N := some 32) #[true, true, true, true, true, false, false, false, true, false, false] rfl rfl (by kernel_rfl) (by decide) (fun K hK => ?_)
      refine goes_ Try.func41 (by kernel_rfl) rfl #[.agg #[.slice ATaJ0_0 aj_0.length cTaJ0_0, .slice ATaJ0_1 aj_1.length cTaJ0_1, .slice ATaJ0_2 aj_2.length cTaJ0_2, .int .i64 (aj_3), .int .i64 (aj_4), .int .i64 (aj_5), .int .i64 (aj_6), .int .i64 (aj_7)], .agg #[.int .i64 (ap_0), .slice ATaP1_0 ap_1.length cTaP1_0]] (by rfl) rfl rfl (by (try simp only [List.map_toArray, List.map_cons, List.map_nil]); first | done | rfl | (simp only [List.length_drop, List.length_take]; rfl)) ?_
      refine (spec_DelayBlocks.calls kes_ _ _ aj_0 _ _ aj_1 _ _ aj_2 aj_3 aj_4 aj_5 aj_6 aj_7 ap_0 _ _ ap_1 r1v r2v r3v _ (by repeat (first | exact TaJ0_0.out.C | (with_reducible refine Kd.C_alloc ?_ _) | (with_reducible refine Kd.C_drewN ?_ _) | (with_reducible refine Kd.C_drew ?_))) HCTaJ0_0.out (by repeat (first | exact TaJ0_1.out.C | (with_reducible refine Kd.C_alloc ?_ _) | (with_reducible refine Kd.C_drewN ?_ _) | (with_reducible refine Kd.C_drew ?_))) HCTaJ0_1.out (by repeat (first | exact TaJ0_2.out.C | (with_reducible refine Kd.C_alloc ?_ _) | (with_reducible refine Kd.C_drewN ?_ _) | (with_reducible refine Kd.C_drew ?_))) HCTaJ0_2.out (by repeat (first | exact TaP1_0.out.C | (with_reducible refine Kd.C_alloc ?_ _) | (with_reducible refine Kd.C_drewN ?_ _) | (with_reducible refine Kd.C_drew ?_))) HCTaP1_0.out HES.out).mono ?_
      rintro e w9_ ⟨v1_n9, rfl, ho0_, hb_⟩
      refine ⟨_, rfl, ?_⟩
      have hp_ : Below w8_.heap.size w8_ w9_ := below_step (by repeat (first | exact Below.refl _ _ | (with_reducible apply below_alloc) | (with_reducible apply pw_below_drewN) | (with_reducible apply below_drew1))) hb_
      obtain ⟨B20, H20, eB_, eH_, hi1_, hi2_, hi3_⟩ := spot (W0 := w8_) (by repeat (first | exact Below.refl _ _ | (with_reducible apply below_alloc) | (with_reducible apply pw_below_drewN) | (with_reducible apply below_drew1))) hb_
      have HZ20 := Aside0.mk (⟨hi1_, hi2_, hi3_, hp_.size⟩ : _ ∧ _ ∧ _ ∧ _)
      have N20_0 := Aside0.mk (Own.new (W0 := w8_) (b := w.heap.size) (by repeat (first | exact Below.refl _ _ | (with_reducible apply below_alloc) | (with_reducible apply pw_below_drewN) | (with_reducible apply below_drew1))) ho0_ hb_ HB.out.size _ _ eB_ eH_)
      clear eB_ eH_ hi1_ hi2_ hi3_ ho0_
      replace HZ := Aside0.mk (And.intro HZ.out HZ20.out)
      clear HZ20
      replace HB := Aside0.mk (more HB.out hp_)
      replace HBK := Aside0.mk (more HBK.out hp_)
      replace TaJ0_0 := Aside0.mk (TaJ0_0.out.step hp_)
      replace TaJ0_1 := Aside0.mk (TaJ0_1.out.step hp_)
      replace TaJ0_2 := Aside0.mk (TaJ0_2.out.step hp_)
      replace TaP1_0 := Aside0.mk (TaP1_0.out.step hp_)
      replace BK_aj := Aside0.mk (blk_below BK_aj.out hp_)
      replace BK_ap := Aside0.mk (blk_below BK_ap.out hp_)
      replace BK_w0 := Aside0.mk (blk_below BK_w0.out hp_)
      clear hb_ hp_
      have Vw0 := N20_0
      clear N20_0
      obtain ⟨AVw0, cVw0, rfl, hc_⟩ := Vw0.out.reads
      have HCVw0 := Aside0.mk hc_
      clear hc_
      refine hK.out _ _ ⟨BK_aj.out, BK_ap.out⟩ (fun hHeld => ?_)
      clear hK K
      refine norm_ (a' := ?_) ?_ ?_
      rotate_left
      · show Act.put _ (some 32) _ = _
        simp only [Act.put, List.setIfInBounds_toArray, List.set_cons_zero, List.set_cons_succ, i64_w, i32_w]
        rfl
      refine pure_ (i := 5) (N := some 27) (v := ?_) (a' := ?_) #[true, true, true, true, true, true, false, false, true, false, false] rfl rfl (by kernel_rfl) (fun _ _ _ h => h) (Or.inl ⟨by rfl, ?_⟩) ?_ ?_
      rotate_left
      · intro w'
        go_simp
        with_reducible rfl
      rotate_left
      · simp only [Act.put, List.setIfInBounds_toArray, List.set_cons_zero, List.set_cons_succ, i64_w, i32_w]
        rfl
      refine pure_ (i := 6) (N := some 33) (v := ?_) (a' := ?_) #[true, true, true, true, true, true, true, false, true, false, false] rfl rfl (by kernel_rfl) (fun _ _ _ h => h) (Or.inl ⟨by rfl, ?_⟩) ?_ ?_
      rotate_left
      · intro w'
        go_simp
        with_reducible rfl
      rotate_left
      · simp only [Act.put, List.setIfInBounds_toArray, List.set_cons_zero, List.set_cons_succ, i64_w, i32_w]
        rfl
      refine pure_ (i := 7) (N := some 34) (v := ?_) (a' := ?_) #[true, true, true, true, true, true, true, true, true, false, false] rfl rfl (by kernel_rfl) (fun _ _ _ h => h) (Or.inl ⟨by rfl, ?_⟩) ?_ ?_
      rotate_left
      · intro w'
        go_simp
        with_reducible rfl
      rotate_left
      · simp only [Act.put, List.setIfInBounds_toArray, List.set_cons_zero, List.set_cons_succ, i64_w, i32_w]
        rfl
      have hq_ := hJ_ (.agg #[.slice ATaJ0_0 aj_0.length cTaJ0_0, .slice ATaJ0_1 aj_1.length cTaJ0_1, .slice ATaJ0_2 aj_2.length cTaJ0_2, .int .i64 aj_3, .int .i64 aj_4, .int .i64 aj_5, .int .i64 aj_6, .int .i64 aj_7], .agg #[.int .i64 ap_0, .slice ATaP1_0 ap_1.length cTaP1_0], AVw0, cVw0, B20, H20, _, g_w0) w9_ ⟨HBK.out, Vw0.out, HCVw0.out, (by try dsimp only; have z_ := HZ.out; omega), (by try dsimp only; have z_ := HZ.out; omega), (by try dsimp only; have z_ := HZ.out; omega), (by try dsimp only; have z_ := HZ.out; omega), BK_w0.out, (by try dsimp only; have z_ := HZ.out; omega)⟩
      refine norm_ ?_ hq_
      simp only [putAll, Act.put, List.setIfInBounds_toArray, List.set_cons_zero, List.set_cons_succ] <;> rfl
  rintro ⟨v_1, v_3, AVw0, cVw0, B21_0, H21_0, ex21_0, g_w0⟩ w6_ ⟨hp_, ho0_, hc0_, z01_, z02_, z03_, z04_, hbox_, hz_⟩
  (try dsimp only at hp_ ho0_ hc0_ z01_ z02_ z03_ z04_ hbox_ hz_)
  have HZ21 := Aside0.mk (⟨hz_, blk_lt hbox_, hp_.size, z01_, z02_, z03_, z04_⟩ : _ ∧ _ ∧ _ ∧ _ ∧ _ ∧ _ ∧ _)
  replace HZ := Aside0.mk (And.intro HZ.out HZ21.out)
  clear HZ21
  have HGW_w0 := Aside0.mk (Nat.le_trans HB.out.size hz_ : w.heap.size ≤ g_w0)
  have hnb_w0_aj : g_w0 ≠ g_aj := Nat.ne_of_gt (Nat.lt_of_lt_of_le (blk_lt BK_aj.out) hz_)
  have hnb_aj_w0 : g_aj ≠ g_w0 := hnb_w0_aj.symm
  have hnb_w0_ap : g_w0 ≠ g_ap := Nat.ne_of_gt (Nat.lt_of_lt_of_le (blk_lt BK_ap.out) hz_)
  have hnb_ap_w0 : g_ap ≠ g_w0 := hnb_w0_ap.symm
  clear HBK
  replace HB := Aside0.mk (more HB.out hp_)
  replace BK_aj := Aside0.mk (blk_below BK_aj.out hp_)
  replace BK_ap := Aside0.mk (blk_below BK_ap.out hp_)
  have BK_w0 := Aside0.mk hbox_
  have Vw0 := Aside0.mk ho0_
  have HCVw0 := Aside0.mk hc0_
  clear hp_ hbox_ hz_ ho0_ hc0_ z01_ z02_ z03_ z04_
  have hHeld : w6_.heap[g_aj]? = some (.cells #[.slice A_aj_0 aj_0.length c_aj_0, .slice A_aj_1 aj_1.length c_aj_1, .slice A_aj_2 aj_2.length c_aj_2, .int .i64 aj_3, .int .i64 aj_4, .int .i64 aj_5, .int .i64 aj_6, .int .i64 aj_7] 27 (0, 0)) ∧ w6_.heap[g_ap]? = some (.cells #[.int .i64 ap_0, .slice A_ap_1 ap_1.length c_ap_1] 37 (0, 0)) := ⟨BK_aj.out, BK_ap.out⟩
  refine norm_ (a' := ?_) ?_ ?_
  rotate_left
  · simp only [putAll, Act.put, List.setIfInBounds_toArray, List.set_cons_zero, List.set_cons_succ]
    rfl
  obtain ⟨hcz_aj_0, hfz_aj_0, hcz_aj_1, hfz_aj_1, hcz_aj_2, hfz_aj_2, hcz_aj_3, hfz_aj_3, hcz_aj_4, hfz_aj_4, hcz_aj_5, hfz_aj_5, hcz_aj_6, hfz_aj_6, hcz_aj_7, hfz_aj_7⟩ := cells8_ BK_aj.out
  obtain ⟨hcz_ap_0, hfz_ap_0, hcz_ap_1, hfz_ap_1⟩ := cells2_ BK_ap.out
  obtain ⟨hcz_w0_0, hfz_w0_0, hcz_w0_1, hfz_w0_1⟩ := cells2_ BK_w0.out
  refine one_ (i := 9) (N := none) #[true, true, true, true, true, true, true, true, true, true, false] rfl rfl (by kernel_rfl) (by decide) (fun K hK => ?_)
  refine skip_ (w1 := (World.setCell (World.setCell w6_ ⟨g_w0, 0, none⟩ (.int .i64 r1v)) ⟨g_w0, 1, none⟩ (.slice AVw0 r2v.length cVw0))) (by rfl) rfl ?hr ?_
  (case hr => first | (go_simp; done) | (go_simp; rfl))
  obtain ⟨w7_, ew_⟩ : ∃ w_ : World, w_ = (World.setCell (World.setCell w6_ ⟨g_w0, 0, none⟩ (.int .i64 r1v)) ⟨g_w0, 1, none⟩ (.slice AVw0 r2v.length cVw0)) := ⟨_, rfl⟩
  rw [← ew_]
  have hbk_ : w7_.heap[g_w0]? = some (.cells #[.int .i64 r1v, .slice AVw0 r2v.length cVw0] 41 (0, 0)) := by rw [ew_]; exact blk_set (blk_set (BK_w0.out) 0 (.int .i64 r1v)) 1 (.slice AVw0 r2v.length cVw0)
  have hk_ : Kept w6_ w7_ (fun k_ => k_ = g_w0) := by rw [ew_]; exact Kept.setCell (Kept.setCell (Kept.refl _ (fun k_ => k_ = g_w0)) (Or.inl rfl) (.int .i64 r1v)) (Or.inl rfl) (.slice AVw0 r2v.length cVw0)
  have hb_ : Below w.heap.size w w7_ := by rw [ew_]; exact below_set (below_set (HB.out) HGW_w0.out) HGW_w0.out
  have HZ22 := Aside0.mk hk_.1
  replace HZ := Aside0.mk (And.intro HZ.out HZ22.out)
  clear HZ22
  clear ew_ HB
  have HB := Aside0.mk hb_
  have X_ := Aside0.mk (Vw0.out.kept hk_ (fun k h1_ h2_ h3_ => by have z_ := HZ.out; omega))
  clear Vw0
  have Vw0 := X_
  clear X_
  clear hcz_w0_0 hfz_w0_0 hcz_w0_1 hfz_w0_1
  clear hcz_aj_0 hfz_aj_0 hcz_aj_1 hfz_aj_1 hcz_aj_2 hfz_aj_2 hcz_aj_3 hfz_aj_3 hcz_aj_4 hfz_aj_4 hcz_aj_5 hfz_aj_5 hcz_aj_6 hfz_aj_6 hcz_aj_7 hfz_aj_7
  have X_ := Aside0.mk (blk_kept BK_aj.out hk_ (fun h3_ => by have z_ := HZ.out; omega))
  clear BK_aj
  have BK_aj := X_
  clear X_
  obtain ⟨hcz_aj_0, hfz_aj_0, hcz_aj_1, hfz_aj_1, hcz_aj_2, hfz_aj_2, hcz_aj_3, hfz_aj_3, hcz_aj_4, hfz_aj_4, hcz_aj_5, hfz_aj_5, hcz_aj_6, hfz_aj_6, hcz_aj_7, hfz_aj_7⟩ := cells8_ BK_aj.out
  clear hcz_ap_0 hfz_ap_0 hcz_ap_1 hfz_ap_1
  have X_ := Aside0.mk (blk_kept BK_ap.out hk_ (fun h3_ => by have z_ := HZ.out; omega))
  clear BK_ap
  have BK_ap := X_
  clear X_
  obtain ⟨hcz_ap_0, hfz_ap_0, hcz_ap_1, hfz_ap_1⟩ := cells2_ BK_ap.out
  clear BK_w0
  have BK_w0 := Aside0.mk hbk_
  obtain ⟨hcz_w0_0, hfz_w0_0, hcz_w0_1, hfz_w0_1⟩ := cells2_ BK_w0.out
  clear hbk_ hk_ hb_
  clear hcz_aj_0 hfz_aj_0 hcz_aj_1 hfz_aj_1 hcz_aj_2 hfz_aj_2 hcz_aj_3 hfz_aj_3 hcz_aj_4 hfz_aj_4 hcz_aj_5 hfz_aj_5 hcz_aj_6 hfz_aj_6 hcz_aj_7 hfz_aj_7
  clear hcz_ap_0 hfz_ap_0 hcz_ap_1 hfz_ap_1
  clear hcz_w0_0 hfz_w0_0 hcz_w0_1 hfz_w0_1
  refine hK.out _ _ ⟨BK_aj.out, BK_ap.out⟩ (fun hHeld => ?_)
  clear hK K
  refine pure_ (i := 10) (N := some 7) (v := ?_) (a' := ?_) #[true, true, true, true, true, true, true, true, true, true, true] rfl rfl (by kernel_rfl) (fun _ _ _ h => h) (Or.inl ⟨by rfl, ?_⟩) ?_ ?_
  rotate_left
  · intro w'
    go_simp
    with_reducible rfl
  rotate_left
  · simp only [Act.put, List.setIfInBounds_toArray, List.set_cons_zero, List.set_cons_succ, i64_w, i32_w]
    rfl
  refine done_ (by kernel_rfl) ?_
  obtain ⟨hcz_aj_0, hfz_aj_0, hcz_aj_1, hfz_aj_1, hcz_aj_2, hfz_aj_2, hcz_aj_3, hfz_aj_3, hcz_aj_4, hfz_aj_4, hcz_aj_5, hfz_aj_5, hcz_aj_6, hfz_aj_6, hcz_aj_7, hfz_aj_7⟩ := cells8_ BK_aj.out
  obtain ⟨hcz_ap_0, hfz_ap_0, hcz_ap_1, hfz_ap_1⟩ := cells2_ BK_ap.out
  obtain ⟨hcz_w0_0, hfz_w0_0, hcz_w0_1, hfz_w0_1⟩ := cells2_ BK_w0.out
  go_wp2_with fail
  refine (laws_toJob.calls kt_aJ _ _ aj_0 _ _ aj_1 _ _ aj_2 aj_3 aj_4 aj_5 aj_6 aj_7 aj_0 aj_1 aj_2 aj_3 aj_4 aj_5 aj_6 aj_7 _ (by repeat (first | exact (Kd.C_below HR_aj_0.out HB.out) | (with_reducible refine Kd.C_alloc ?_ _) | (with_reducible refine Kd.C_drewN ?_ _) | (with_reducible refine Kd.C_drew ?_))) HC_aj_0.out (by repeat (first | exact (Kd.C_below HR_aj_1.out HB.out) | (with_reducible refine Kd.C_alloc ?_ _) | (with_reducible refine Kd.C_drewN ?_ _) | (with_reducible refine Kd.C_drew ?_))) HC_aj_1.out (by repeat (first | exact (Kd.C_below HR_aj_2.out HB.out) | (with_reducible refine Kd.C_alloc ?_ _) | (with_reducible refine Kd.C_drewN ?_ _) | (with_reducible refine Kd.C_drew ?_))) HC_aj_2.out Hkt_aJ.out).mono ?_
  rintro e w8_ ⟨v0_n8, v1_n8, v2_n8, rfl, ho0_, ho1_, ho2_, hb_⟩
  have hp_ : Below w7_.heap.size w7_ w8_ := below_step (by repeat (first | exact Below.refl _ _ | (with_reducible apply below_alloc) | (with_reducible apply pw_below_drewN) | (with_reducible apply below_drew1))) hb_
  obtain ⟨B23, H23, eB_, eH_, hi1_, hi2_, hi3_⟩ := spot (W0 := w7_) (by repeat (first | exact Below.refl _ _ | (with_reducible apply below_alloc) | (with_reducible apply pw_below_drewN) | (with_reducible apply below_drew1))) hb_
  have HZ23 := Aside0.mk (⟨hi1_, hi2_, hi3_, hp_.size⟩ : _ ∧ _ ∧ _ ∧ _)
  have N23_0 := Aside0.mk (OwnS.new (W0 := w7_) (b := w.heap.size) (by repeat (first | exact Below.refl _ _ | (with_reducible apply below_alloc) | (with_reducible apply pw_below_drewN) | (with_reducible apply below_drew1))) ho0_ hb_ HB.out.size _ _ eB_ eH_)
  have N23_1 := Aside0.mk (Own.new (W0 := w7_) (b := w.heap.size) (by repeat (first | exact Below.refl _ _ | (with_reducible apply below_alloc) | (with_reducible apply pw_below_drewN) | (with_reducible apply below_drew1))) (tightRow rfl ho1_) hb_ HB.out.size _ _ eB_ eH_)
  have N23_2 := Aside0.mk (Own.new (W0 := w7_) (b := w.heap.size) (by repeat (first | exact Below.refl _ _ | (with_reducible apply below_alloc) | (with_reducible apply pw_below_drewN) | (with_reducible apply below_drew1))) (tightRow rfl ho2_) hb_ HB.out.size _ _ eB_ eH_)
  clear eB_ eH_ hi1_ hi2_ hi3_ ho0_ ho1_ ho2_
  replace HZ := Aside0.mk (And.intro HZ.out HZ23.out)
  clear HZ23
  replace HB := Aside0.mk (more HB.out hp_)
  replace Vw0 := Aside0.mk (Vw0.out.step hp_)
  clear hcz_aj_0 hfz_aj_0 hcz_aj_1 hfz_aj_1 hcz_aj_2 hfz_aj_2 hcz_aj_3 hfz_aj_3 hcz_aj_4 hfz_aj_4 hcz_aj_5 hfz_aj_5 hcz_aj_6 hfz_aj_6 hcz_aj_7 hfz_aj_7
  replace BK_aj := Aside0.mk (blk_below BK_aj.out hp_)
  obtain ⟨hcz_aj_0, hfz_aj_0, hcz_aj_1, hfz_aj_1, hcz_aj_2, hfz_aj_2, hcz_aj_3, hfz_aj_3, hcz_aj_4, hfz_aj_4, hcz_aj_5, hfz_aj_5, hcz_aj_6, hfz_aj_6, hcz_aj_7, hfz_aj_7⟩ := cells8_ BK_aj.out
  clear hcz_ap_0 hfz_ap_0 hcz_ap_1 hfz_ap_1
  replace BK_ap := Aside0.mk (blk_below BK_ap.out hp_)
  obtain ⟨hcz_ap_0, hfz_ap_0, hcz_ap_1, hfz_ap_1⟩ := cells2_ BK_ap.out
  clear hcz_w0_0 hfz_w0_0 hcz_w0_1 hfz_w0_1
  replace BK_w0 := Aside0.mk (blk_below BK_w0.out hp_)
  obtain ⟨hcz_w0_0, hfz_w0_0, hcz_w0_1, hfz_w0_1⟩ := cells2_ BK_w0.out
  clear hb_ hp_
  have Vx00 := N23_0
  clear N23_0
  obtain ⟨AVx00, cVx00, rfl, hc_⟩ := Vx00.out.reads
  have HCVx00 := Aside0.mk hc_
  clear hc_
  have Vx01 := N23_1
  clear N23_1
  obtain ⟨AVx01, cVx01, rfl, hc_⟩ := Vx01.out.reads
  have HCVx01 := Aside0.mk hc_
  clear hc_
  have Vx02 := N23_2
  clear N23_2
  obtain ⟨AVx02, cVx02, rfl, hc_⟩ := Vx02.out.reads
  have HCVx02 := Aside0.mk hc_
  clear hc_
  go_wp2_with (first | ((with_reducible refine gate_dst (N := 8) rfl ?_); refine box_event ?hg (N := 8) ?hd (cs := #[.slice none 0 0, .slice none 0 0, .slice none 0 0, .int .i64 0, .int .i64 0, .int .i64 0, .int .i64 0, .int .i64 0]) (t := 32) ?hr ?_; (case hd => rfl); (case hg => rfl); (case hr => first | (go_simp; done) | (go_simp; rfl)); intro g_x0 hg_ w9_ hbox_ hb_; have hp_ : Below w8_.heap.size w8_ w9_ := below_step (by repeat (first | exact Below.refl _ _ | (with_reducible apply below_alloc) | (with_reducible apply pw_below_drewN) | (with_reducible apply below_drew1))) hb_; have hz_ : w8_.heap.size ≤ g_x0 := Nat.le_trans (below_size (by repeat (first | exact Below.refl _ _ | (with_reducible apply below_alloc) | (with_reducible apply pw_below_drewN) | (with_reducible apply below_drew1)))) (Nat.le_of_eq hg_.symm); have HZ24 := Aside0.mk (⟨hz_, blk_lt hbox_, hp_.size⟩ : _ ∧ _ ∧ _); replace HZ := Aside0.mk (And.intro HZ.out HZ24.out); clear HZ24; have HGW_x0 := Aside0.mk (Nat.le_trans HB.out.size hz_ : w.heap.size ≤ g_x0); have hnb_x0_aj : g_x0 ≠ g_aj := Nat.ne_of_gt (Nat.lt_of_lt_of_le (blk_lt BK_aj.out) hz_); have hnb_aj_x0 : g_aj ≠ g_x0 := hnb_x0_aj.symm; have hnb_x0_ap : g_x0 ≠ g_ap := Nat.ne_of_gt (Nat.lt_of_lt_of_le (blk_lt BK_ap.out) hz_); have hnb_ap_x0 : g_ap ≠ g_x0 := hnb_x0_ap.symm; have hnb_x0_w0 : g_x0 ≠ g_w0 := Nat.ne_of_gt (Nat.lt_of_lt_of_le (blk_lt BK_w0.out) hz_); have hnb_w0_x0 : g_w0 ≠ g_x0 := hnb_x0_w0.symm; replace HB := Aside0.mk (more HB.out hp_); replace Vw0 := Aside0.mk (Vw0.out.step hp_); replace Vx00 := Aside0.mk (Vx00.out.step hp_); replace Vx01 := Aside0.mk (Vx01.out.step hp_); replace Vx02 := Aside0.mk (Vx02.out.step hp_); clear hcz_aj_0 hfz_aj_0 hcz_aj_1 hfz_aj_1 hcz_aj_2 hfz_aj_2 hcz_aj_3 hfz_aj_3 hcz_aj_4 hfz_aj_4 hcz_aj_5 hfz_aj_5 hcz_aj_6 hfz_aj_6 hcz_aj_7 hfz_aj_7; replace BK_aj := Aside0.mk (blk_below BK_aj.out hp_); obtain ⟨hcz_aj_0, hfz_aj_0, hcz_aj_1, hfz_aj_1, hcz_aj_2, hfz_aj_2, hcz_aj_3, hfz_aj_3, hcz_aj_4, hfz_aj_4, hcz_aj_5, hfz_aj_5, hcz_aj_6, hfz_aj_6, hcz_aj_7, hfz_aj_7⟩ := cells8_ BK_aj.out; clear hcz_ap_0 hfz_ap_0 hcz_ap_1 hfz_ap_1; replace BK_ap := Aside0.mk (blk_below BK_ap.out hp_); obtain ⟨hcz_ap_0, hfz_ap_0, hcz_ap_1, hfz_ap_1⟩ := cells2_ BK_ap.out; clear hcz_w0_0 hfz_w0_0 hcz_w0_1 hfz_w0_1; replace BK_w0 := Aside0.mk (blk_below BK_w0.out hp_); obtain ⟨hcz_w0_0, hfz_w0_0, hcz_w0_1, hfz_w0_1⟩ := cells2_ BK_w0.out; have BK_x0 := Aside0.mk hbox_; obtain ⟨hcz_x0_0, hfz_x0_0, hcz_x0_1, hfz_x0_1, hcz_x0_2, hfz_x0_2, hcz_x0_3, hfz_x0_3, hcz_x0_4, hfz_x0_4, hcz_x0_5, hfz_x0_5, hcz_x0_6, hfz_x0_6, hcz_x0_7, hfz_x0_7⟩ := cells8_ BK_x0.out; clear hg_ hbox_ hb_ hp_ hz_))
  obtain ⟨w10_, ew_⟩ : ∃ w_ : World, w_ = (World.setCell (World.setCell (World.setCell (World.setCell (World.setCell (World.setCell (World.setCell (World.setCell w9_ ⟨g_x0, 0, none⟩ (.slice AVx00 aj_0.length cVx00)) ⟨g_x0, 1, none⟩ (.slice AVx01 aj_1.length cVx01)) ⟨g_x0, 2, none⟩ (.slice AVx02 aj_2.length cVx02)) ⟨g_x0, 3, none⟩ (.int .i64 aj_3)) ⟨g_x0, 4, none⟩ (.int .i64 aj_4)) ⟨g_x0, 5, none⟩ (.int .i64 aj_5)) ⟨g_x0, 6, none⟩ (.int .i64 aj_6)) ⟨g_x0, 7, none⟩ (.int .i64 aj_7)) := ⟨_, rfl⟩
  rw [← ew_]
  have hbk_ : w10_.heap[g_x0]? = some (.cells #[.slice AVx00 aj_0.length cVx00, .slice AVx01 aj_1.length cVx01, .slice AVx02 aj_2.length cVx02, .int .i64 aj_3, .int .i64 aj_4, .int .i64 aj_5, .int .i64 aj_6, .int .i64 aj_7] 32 (0, 0)) := by rw [ew_]; exact blk_set (blk_set (blk_set (blk_set (blk_set (blk_set (blk_set (blk_set (BK_x0.out) 0 (.slice AVx00 aj_0.length cVx00)) 1 (.slice AVx01 aj_1.length cVx01)) 2 (.slice AVx02 aj_2.length cVx02)) 3 (.int .i64 aj_3)) 4 (.int .i64 aj_4)) 5 (.int .i64 aj_5)) 6 (.int .i64 aj_6)) 7 (.int .i64 aj_7)
  have hk_ : Kept w9_ w10_ (fun k_ => k_ = g_x0) := by rw [ew_]; exact Kept.setCell (Kept.setCell (Kept.setCell (Kept.setCell (Kept.setCell (Kept.setCell (Kept.setCell (Kept.setCell (Kept.refl _ (fun k_ => k_ = g_x0)) (Or.inl rfl) (.slice AVx00 aj_0.length cVx00)) (Or.inl rfl) (.slice AVx01 aj_1.length cVx01)) (Or.inl rfl) (.slice AVx02 aj_2.length cVx02)) (Or.inl rfl) (.int .i64 aj_3)) (Or.inl rfl) (.int .i64 aj_4)) (Or.inl rfl) (.int .i64 aj_5)) (Or.inl rfl) (.int .i64 aj_6)) (Or.inl rfl) (.int .i64 aj_7)
  have hb_ : Below w.heap.size w w10_ := by rw [ew_]; exact below_set (below_set (below_set (below_set (below_set (below_set (below_set (below_set (HB.out) HGW_x0.out) HGW_x0.out) HGW_x0.out) HGW_x0.out) HGW_x0.out) HGW_x0.out) HGW_x0.out) HGW_x0.out
  have HZ25 := Aside0.mk hk_.1
  replace HZ := Aside0.mk (And.intro HZ.out HZ25.out)
  clear HZ25
  clear ew_ HB
  have HB := Aside0.mk hb_
  have X_ := Aside0.mk (Vw0.out.kept hk_ (fun k h1_ h2_ h3_ => by have z_ := HZ.out; omega))
  clear Vw0
  have Vw0 := X_
  clear X_
  have X_ := Aside0.mk (Vx00.out.kept hk_ (fun k h1_ h2_ h3_ => by have z_ := HZ.out; omega))
  clear Vx00
  have Vx00 := X_
  clear X_
  have X_ := Aside0.mk (Vx01.out.kept hk_ (fun k h1_ h2_ h3_ => by have z_ := HZ.out; omega))
  clear Vx01
  have Vx01 := X_
  clear X_
  have X_ := Aside0.mk (Vx02.out.kept hk_ (fun k h1_ h2_ h3_ => by have z_ := HZ.out; omega))
  clear Vx02
  have Vx02 := X_
  clear X_
  clear hcz_x0_0 hfz_x0_0 hcz_x0_1 hfz_x0_1 hcz_x0_2 hfz_x0_2 hcz_x0_3 hfz_x0_3 hcz_x0_4 hfz_x0_4 hcz_x0_5 hfz_x0_5 hcz_x0_6 hfz_x0_6 hcz_x0_7 hfz_x0_7
  clear hcz_aj_0 hfz_aj_0 hcz_aj_1 hfz_aj_1 hcz_aj_2 hfz_aj_2 hcz_aj_3 hfz_aj_3 hcz_aj_4 hfz_aj_4 hcz_aj_5 hfz_aj_5 hcz_aj_6 hfz_aj_6 hcz_aj_7 hfz_aj_7
  have X_ := Aside0.mk (blk_kept BK_aj.out hk_ (fun h3_ => by have z_ := HZ.out; omega))
  clear BK_aj
  have BK_aj := X_
  clear X_
  obtain ⟨hcz_aj_0, hfz_aj_0, hcz_aj_1, hfz_aj_1, hcz_aj_2, hfz_aj_2, hcz_aj_3, hfz_aj_3, hcz_aj_4, hfz_aj_4, hcz_aj_5, hfz_aj_5, hcz_aj_6, hfz_aj_6, hcz_aj_7, hfz_aj_7⟩ := cells8_ BK_aj.out
  clear hcz_ap_0 hfz_ap_0 hcz_ap_1 hfz_ap_1
  have X_ := Aside0.mk (blk_kept BK_ap.out hk_ (fun h3_ => by have z_ := HZ.out; omega))
  clear BK_ap
  have BK_ap := X_
  clear X_
  obtain ⟨hcz_ap_0, hfz_ap_0, hcz_ap_1, hfz_ap_1⟩ := cells2_ BK_ap.out
  clear hcz_w0_0 hfz_w0_0 hcz_w0_1 hfz_w0_1
  have X_ := Aside0.mk (blk_kept BK_w0.out hk_ (fun h3_ => by have z_ := HZ.out; omega))
  clear BK_w0
  have BK_w0 := X_
  clear X_
  obtain ⟨hcz_w0_0, hfz_w0_0, hcz_w0_1, hfz_w0_1⟩ := cells2_ BK_w0.out
  clear BK_x0
  have BK_x0 := Aside0.mk hbk_
  obtain ⟨hcz_x0_0, hfz_x0_0, hcz_x0_1, hfz_x0_1, hcz_x0_2, hfz_x0_2, hcz_x0_3, hfz_x0_3, hcz_x0_4, hfz_x0_4, hcz_x0_5, hfz_x0_5, hcz_x0_6, hfz_x0_6, hcz_x0_7, hfz_x0_7⟩ := cells8_ BK_x0.out
  clear hbk_ hk_ hb_
  refine (laws_toPlan.calls kt_aP ap_0 _ _ ap_1 ap_0 ap_1 _ (by repeat (first | exact (Kd.C_below HR_ap_1.out HB.out) | (with_reducible refine Kd.C_alloc ?_ _) | (with_reducible refine Kd.C_drewN ?_ _) | (with_reducible refine Kd.C_drew ?_))) HC_ap_1.out Hkt_aP.out).mono ?_
  rintro e w11_ ⟨v1_n11, rfl, ho0_, hb_⟩
  have hp_ : Below w10_.heap.size w10_ w11_ := below_step (by repeat (first | exact Below.refl _ _ | (with_reducible apply below_alloc) | (with_reducible apply pw_below_drewN) | (with_reducible apply below_drew1))) hb_
  obtain ⟨B26, H26, eB_, eH_, hi1_, hi2_, hi3_⟩ := spot (W0 := w10_) (by repeat (first | exact Below.refl _ _ | (with_reducible apply below_alloc) | (with_reducible apply pw_below_drewN) | (with_reducible apply below_drew1))) hb_
  have HZ26 := Aside0.mk (⟨hi1_, hi2_, hi3_, hp_.size⟩ : _ ∧ _ ∧ _ ∧ _)
  have N26_0 := Aside0.mk (Own.new (W0 := w10_) (b := w.heap.size) (by repeat (first | exact Below.refl _ _ | (with_reducible apply below_alloc) | (with_reducible apply pw_below_drewN) | (with_reducible apply below_drew1))) ho0_ hb_ HB.out.size _ _ eB_ eH_)
  clear eB_ eH_ hi1_ hi2_ hi3_ ho0_
  replace HZ := Aside0.mk (And.intro HZ.out HZ26.out)
  clear HZ26
  replace HB := Aside0.mk (more HB.out hp_)
  replace Vw0 := Aside0.mk (Vw0.out.step hp_)
  replace Vx00 := Aside0.mk (Vx00.out.step hp_)
  replace Vx01 := Aside0.mk (Vx01.out.step hp_)
  replace Vx02 := Aside0.mk (Vx02.out.step hp_)
  clear hcz_aj_0 hfz_aj_0 hcz_aj_1 hfz_aj_1 hcz_aj_2 hfz_aj_2 hcz_aj_3 hfz_aj_3 hcz_aj_4 hfz_aj_4 hcz_aj_5 hfz_aj_5 hcz_aj_6 hfz_aj_6 hcz_aj_7 hfz_aj_7
  replace BK_aj := Aside0.mk (blk_below BK_aj.out hp_)
  obtain ⟨hcz_aj_0, hfz_aj_0, hcz_aj_1, hfz_aj_1, hcz_aj_2, hfz_aj_2, hcz_aj_3, hfz_aj_3, hcz_aj_4, hfz_aj_4, hcz_aj_5, hfz_aj_5, hcz_aj_6, hfz_aj_6, hcz_aj_7, hfz_aj_7⟩ := cells8_ BK_aj.out
  clear hcz_ap_0 hfz_ap_0 hcz_ap_1 hfz_ap_1
  replace BK_ap := Aside0.mk (blk_below BK_ap.out hp_)
  obtain ⟨hcz_ap_0, hfz_ap_0, hcz_ap_1, hfz_ap_1⟩ := cells2_ BK_ap.out
  clear hcz_w0_0 hfz_w0_0 hcz_w0_1 hfz_w0_1
  replace BK_w0 := Aside0.mk (blk_below BK_w0.out hp_)
  obtain ⟨hcz_w0_0, hfz_w0_0, hcz_w0_1, hfz_w0_1⟩ := cells2_ BK_w0.out
  clear hcz_x0_0 hfz_x0_0 hcz_x0_1 hfz_x0_1 hcz_x0_2 hfz_x0_2 hcz_x0_3 hfz_x0_3 hcz_x0_4 hfz_x0_4 hcz_x0_5 hfz_x0_5 hcz_x0_6 hfz_x0_6 hcz_x0_7 hfz_x0_7
  replace BK_x0 := Aside0.mk (blk_below BK_x0.out hp_)
  obtain ⟨hcz_x0_0, hfz_x0_0, hcz_x0_1, hfz_x0_1, hcz_x0_2, hfz_x0_2, hcz_x0_3, hfz_x0_3, hcz_x0_4, hfz_x0_4, hcz_x0_5, hfz_x0_5, hcz_x0_6, hfz_x0_6, hcz_x0_7, hfz_x0_7⟩ := cells8_ BK_x0.out
  clear hb_ hp_
  have Vx10 := N26_0
  clear N26_0
  obtain ⟨AVx10, cVx10, rfl, hc_⟩ := Vx10.out.reads
  have HCVx10 := Aside0.mk hc_
  clear hc_
  go_wp2_with (first | ((with_reducible refine gate_dst (N := 9) rfl ?_); refine box_event ?hg (N := 9) ?hd (cs := #[.int .i64 0, .slice none 0 0]) (t := 41) ?hr ?_; (case hd => rfl); (case hg => rfl); (case hr => first | (go_simp; done) | (go_simp; rfl)); intro g_x1 hg_ w12_ hbox_ hb_; have hp_ : Below w11_.heap.size w11_ w12_ := below_step (by repeat (first | exact Below.refl _ _ | (with_reducible apply below_alloc) | (with_reducible apply pw_below_drewN) | (with_reducible apply below_drew1))) hb_; have hz_ : w11_.heap.size ≤ g_x1 := Nat.le_trans (below_size (by repeat (first | exact Below.refl _ _ | (with_reducible apply below_alloc) | (with_reducible apply pw_below_drewN) | (with_reducible apply below_drew1)))) (Nat.le_of_eq hg_.symm); have HZ27 := Aside0.mk (⟨hz_, blk_lt hbox_, hp_.size⟩ : _ ∧ _ ∧ _); replace HZ := Aside0.mk (And.intro HZ.out HZ27.out); clear HZ27; have HGW_x1 := Aside0.mk (Nat.le_trans HB.out.size hz_ : w.heap.size ≤ g_x1); have hnb_x1_aj : g_x1 ≠ g_aj := Nat.ne_of_gt (Nat.lt_of_lt_of_le (blk_lt BK_aj.out) hz_); have hnb_aj_x1 : g_aj ≠ g_x1 := hnb_x1_aj.symm; have hnb_x1_ap : g_x1 ≠ g_ap := Nat.ne_of_gt (Nat.lt_of_lt_of_le (blk_lt BK_ap.out) hz_); have hnb_ap_x1 : g_ap ≠ g_x1 := hnb_x1_ap.symm; have hnb_x1_w0 : g_x1 ≠ g_w0 := Nat.ne_of_gt (Nat.lt_of_lt_of_le (blk_lt BK_w0.out) hz_); have hnb_w0_x1 : g_w0 ≠ g_x1 := hnb_x1_w0.symm; have hnb_x1_x0 : g_x1 ≠ g_x0 := Nat.ne_of_gt (Nat.lt_of_lt_of_le (blk_lt BK_x0.out) hz_); have hnb_x0_x1 : g_x0 ≠ g_x1 := hnb_x1_x0.symm; replace HB := Aside0.mk (more HB.out hp_); replace Vw0 := Aside0.mk (Vw0.out.step hp_); replace Vx00 := Aside0.mk (Vx00.out.step hp_); replace Vx01 := Aside0.mk (Vx01.out.step hp_); replace Vx02 := Aside0.mk (Vx02.out.step hp_); replace Vx10 := Aside0.mk (Vx10.out.step hp_); clear hcz_aj_0 hfz_aj_0 hcz_aj_1 hfz_aj_1 hcz_aj_2 hfz_aj_2 hcz_aj_3 hfz_aj_3 hcz_aj_4 hfz_aj_4 hcz_aj_5 hfz_aj_5 hcz_aj_6 hfz_aj_6 hcz_aj_7 hfz_aj_7; replace BK_aj := Aside0.mk (blk_below BK_aj.out hp_); obtain ⟨hcz_aj_0, hfz_aj_0, hcz_aj_1, hfz_aj_1, hcz_aj_2, hfz_aj_2, hcz_aj_3, hfz_aj_3, hcz_aj_4, hfz_aj_4, hcz_aj_5, hfz_aj_5, hcz_aj_6, hfz_aj_6, hcz_aj_7, hfz_aj_7⟩ := cells8_ BK_aj.out; clear hcz_ap_0 hfz_ap_0 hcz_ap_1 hfz_ap_1; replace BK_ap := Aside0.mk (blk_below BK_ap.out hp_); obtain ⟨hcz_ap_0, hfz_ap_0, hcz_ap_1, hfz_ap_1⟩ := cells2_ BK_ap.out; clear hcz_w0_0 hfz_w0_0 hcz_w0_1 hfz_w0_1; replace BK_w0 := Aside0.mk (blk_below BK_w0.out hp_); obtain ⟨hcz_w0_0, hfz_w0_0, hcz_w0_1, hfz_w0_1⟩ := cells2_ BK_w0.out; clear hcz_x0_0 hfz_x0_0 hcz_x0_1 hfz_x0_1 hcz_x0_2 hfz_x0_2 hcz_x0_3 hfz_x0_3 hcz_x0_4 hfz_x0_4 hcz_x0_5 hfz_x0_5 hcz_x0_6 hfz_x0_6 hcz_x0_7 hfz_x0_7; replace BK_x0 := Aside0.mk (blk_below BK_x0.out hp_); obtain ⟨hcz_x0_0, hfz_x0_0, hcz_x0_1, hfz_x0_1, hcz_x0_2, hfz_x0_2, hcz_x0_3, hfz_x0_3, hcz_x0_4, hfz_x0_4, hcz_x0_5, hfz_x0_5, hcz_x0_6, hfz_x0_6, hcz_x0_7, hfz_x0_7⟩ := cells8_ BK_x0.out; have BK_x1 := Aside0.mk hbox_; obtain ⟨hcz_x1_0, hfz_x1_0, hcz_x1_1, hfz_x1_1⟩ := cells2_ BK_x1.out; clear hg_ hbox_ hb_ hp_ hz_))
  obtain ⟨w13_, ew_⟩ : ∃ w_ : World, w_ = (World.setCell (World.setCell w12_ ⟨g_x1, 0, none⟩ (.int .i64 ap_0)) ⟨g_x1, 1, none⟩ (.slice AVx10 ap_1.length cVx10)) := ⟨_, rfl⟩
  rw [← ew_]
  have hbk_ : w13_.heap[g_x1]? = some (.cells #[.int .i64 ap_0, .slice AVx10 ap_1.length cVx10] 41 (0, 0)) := by rw [ew_]; exact blk_set (blk_set (BK_x1.out) 0 (.int .i64 ap_0)) 1 (.slice AVx10 ap_1.length cVx10)
  have hk_ : Kept w12_ w13_ (fun k_ => k_ = g_x1) := by rw [ew_]; exact Kept.setCell (Kept.setCell (Kept.refl _ (fun k_ => k_ = g_x1)) (Or.inl rfl) (.int .i64 ap_0)) (Or.inl rfl) (.slice AVx10 ap_1.length cVx10)
  have hb_ : Below w.heap.size w w13_ := by rw [ew_]; exact below_set (below_set (HB.out) HGW_x1.out) HGW_x1.out
  have HZ28 := Aside0.mk hk_.1
  replace HZ := Aside0.mk (And.intro HZ.out HZ28.out)
  clear HZ28
  clear ew_ HB
  have HB := Aside0.mk hb_
  have X_ := Aside0.mk (Vw0.out.kept hk_ (fun k h1_ h2_ h3_ => by have z_ := HZ.out; omega))
  clear Vw0
  have Vw0 := X_
  clear X_
  have X_ := Aside0.mk (Vx00.out.kept hk_ (fun k h1_ h2_ h3_ => by have z_ := HZ.out; omega))
  clear Vx00
  have Vx00 := X_
  clear X_
  have X_ := Aside0.mk (Vx01.out.kept hk_ (fun k h1_ h2_ h3_ => by have z_ := HZ.out; omega))
  clear Vx01
  have Vx01 := X_
  clear X_
  have X_ := Aside0.mk (Vx02.out.kept hk_ (fun k h1_ h2_ h3_ => by have z_ := HZ.out; omega))
  clear Vx02
  have Vx02 := X_
  clear X_
  have X_ := Aside0.mk (Vx10.out.kept hk_ (fun k h1_ h2_ h3_ => by have z_ := HZ.out; omega))
  clear Vx10
  have Vx10 := X_
  clear X_
  clear hcz_x1_0 hfz_x1_0 hcz_x1_1 hfz_x1_1
  clear hcz_aj_0 hfz_aj_0 hcz_aj_1 hfz_aj_1 hcz_aj_2 hfz_aj_2 hcz_aj_3 hfz_aj_3 hcz_aj_4 hfz_aj_4 hcz_aj_5 hfz_aj_5 hcz_aj_6 hfz_aj_6 hcz_aj_7 hfz_aj_7
  have X_ := Aside0.mk (blk_kept BK_aj.out hk_ (fun h3_ => by have z_ := HZ.out; omega))
  clear BK_aj
  have BK_aj := X_
  clear X_
  obtain ⟨hcz_aj_0, hfz_aj_0, hcz_aj_1, hfz_aj_1, hcz_aj_2, hfz_aj_2, hcz_aj_3, hfz_aj_3, hcz_aj_4, hfz_aj_4, hcz_aj_5, hfz_aj_5, hcz_aj_6, hfz_aj_6, hcz_aj_7, hfz_aj_7⟩ := cells8_ BK_aj.out
  clear hcz_ap_0 hfz_ap_0 hcz_ap_1 hfz_ap_1
  have X_ := Aside0.mk (blk_kept BK_ap.out hk_ (fun h3_ => by have z_ := HZ.out; omega))
  clear BK_ap
  have BK_ap := X_
  clear X_
  obtain ⟨hcz_ap_0, hfz_ap_0, hcz_ap_1, hfz_ap_1⟩ := cells2_ BK_ap.out
  clear hcz_w0_0 hfz_w0_0 hcz_w0_1 hfz_w0_1
  have X_ := Aside0.mk (blk_kept BK_w0.out hk_ (fun h3_ => by have z_ := HZ.out; omega))
  clear BK_w0
  have BK_w0 := X_
  clear X_
  obtain ⟨hcz_w0_0, hfz_w0_0, hcz_w0_1, hfz_w0_1⟩ := cells2_ BK_w0.out
  clear hcz_x0_0 hfz_x0_0 hcz_x0_1 hfz_x0_1 hcz_x0_2 hfz_x0_2 hcz_x0_3 hfz_x0_3 hcz_x0_4 hfz_x0_4 hcz_x0_5 hfz_x0_5 hcz_x0_6 hfz_x0_6 hcz_x0_7 hfz_x0_7
  have X_ := Aside0.mk (blk_kept BK_x0.out hk_ (fun h3_ => by have z_ := HZ.out; omega))
  clear BK_x0
  have BK_x0 := X_
  clear X_
  obtain ⟨hcz_x0_0, hfz_x0_0, hcz_x0_1, hfz_x0_1, hcz_x0_2, hfz_x0_2, hcz_x0_3, hfz_x0_3, hcz_x0_4, hfz_x0_4, hcz_x0_5, hfz_x0_5, hcz_x0_6, hfz_x0_6, hcz_x0_7, hfz_x0_7⟩ := cells8_ BK_x0.out
  clear BK_x1
  have BK_x1 := Aside0.mk hbk_
  obtain ⟨hcz_x1_0, hfz_x1_0, hcz_x1_1, hfz_x1_1⟩ := cells2_ BK_x1.out
  clear hbk_ hk_ hb_
  refine (impl_DelayBlocks.calls kei_ _ _ aj_0 _ _ aj_1 _ _ aj_2 aj_3 aj_4 aj_5 aj_6 aj_7 ap_0 _ _ ap_1 r1v r2v r3v _ (by repeat (first | exact Vx00.out.C | (with_reducible refine Kd.C_alloc ?_ _) | (with_reducible refine Kd.C_drewN ?_ _) | (with_reducible refine Kd.C_drew ?_))) HCVx00.out (by repeat (first | exact Vx01.out.C | (with_reducible refine Kd.C_alloc ?_ _) | (with_reducible refine Kd.C_drewN ?_ _) | (with_reducible refine Kd.C_drew ?_))) HCVx01.out (by repeat (first | exact Vx02.out.C | (with_reducible refine Kd.C_alloc ?_ _) | (with_reducible refine Kd.C_drewN ?_ _) | (with_reducible refine Kd.C_drew ?_))) HCVx02.out (by repeat (first | exact Vx10.out.C | (with_reducible refine Kd.C_alloc ?_ _) | (with_reducible refine Kd.C_drewN ?_ _) | (with_reducible refine Kd.C_drew ?_))) HCVx10.out HEI.out).mono ?_
  rintro e w14_ ⟨v1_n14, rfl, ho0_, hb_⟩
  have hp_ : Below w13_.heap.size w13_ w14_ := below_step (by repeat (first | exact Below.refl _ _ | (with_reducible apply below_alloc) | (with_reducible apply pw_below_drewN) | (with_reducible apply below_drew1))) hb_
  obtain ⟨B29, H29, eB_, eH_, hi1_, hi2_, hi3_⟩ := spot (W0 := w13_) (by repeat (first | exact Below.refl _ _ | (with_reducible apply below_alloc) | (with_reducible apply pw_below_drewN) | (with_reducible apply below_drew1))) hb_
  have HZ29 := Aside0.mk (⟨hi1_, hi2_, hi3_, hp_.size⟩ : _ ∧ _ ∧ _ ∧ _)
  have N29_0 := Aside0.mk (Own.new (W0 := w13_) (b := w.heap.size) (by repeat (first | exact Below.refl _ _ | (with_reducible apply below_alloc) | (with_reducible apply pw_below_drewN) | (with_reducible apply below_drew1))) ho0_ hb_ HB.out.size _ _ eB_ eH_)
  clear eB_ eH_ hi1_ hi2_ hi3_ ho0_
  replace HZ := Aside0.mk (And.intro HZ.out HZ29.out)
  clear HZ29
  replace HB := Aside0.mk (more HB.out hp_)
  replace Vw0 := Aside0.mk (Vw0.out.step hp_)
  replace Vx00 := Aside0.mk (Vx00.out.step hp_)
  replace Vx01 := Aside0.mk (Vx01.out.step hp_)
  replace Vx02 := Aside0.mk (Vx02.out.step hp_)
  replace Vx10 := Aside0.mk (Vx10.out.step hp_)
  clear hcz_aj_0 hfz_aj_0 hcz_aj_1 hfz_aj_1 hcz_aj_2 hfz_aj_2 hcz_aj_3 hfz_aj_3 hcz_aj_4 hfz_aj_4 hcz_aj_5 hfz_aj_5 hcz_aj_6 hfz_aj_6 hcz_aj_7 hfz_aj_7
  replace BK_aj := Aside0.mk (blk_below BK_aj.out hp_)
  obtain ⟨hcz_aj_0, hfz_aj_0, hcz_aj_1, hfz_aj_1, hcz_aj_2, hfz_aj_2, hcz_aj_3, hfz_aj_3, hcz_aj_4, hfz_aj_4, hcz_aj_5, hfz_aj_5, hcz_aj_6, hfz_aj_6, hcz_aj_7, hfz_aj_7⟩ := cells8_ BK_aj.out
  clear hcz_ap_0 hfz_ap_0 hcz_ap_1 hfz_ap_1
  replace BK_ap := Aside0.mk (blk_below BK_ap.out hp_)
  obtain ⟨hcz_ap_0, hfz_ap_0, hcz_ap_1, hfz_ap_1⟩ := cells2_ BK_ap.out
  clear hcz_w0_0 hfz_w0_0 hcz_w0_1 hfz_w0_1
  replace BK_w0 := Aside0.mk (blk_below BK_w0.out hp_)
  obtain ⟨hcz_w0_0, hfz_w0_0, hcz_w0_1, hfz_w0_1⟩ := cells2_ BK_w0.out
  clear hcz_x0_0 hfz_x0_0 hcz_x0_1 hfz_x0_1 hcz_x0_2 hfz_x0_2 hcz_x0_3 hfz_x0_3 hcz_x0_4 hfz_x0_4 hcz_x0_5 hfz_x0_5 hcz_x0_6 hfz_x0_6 hcz_x0_7 hfz_x0_7
  replace BK_x0 := Aside0.mk (blk_below BK_x0.out hp_)
  obtain ⟨hcz_x0_0, hfz_x0_0, hcz_x0_1, hfz_x0_1, hcz_x0_2, hfz_x0_2, hcz_x0_3, hfz_x0_3, hcz_x0_4, hfz_x0_4, hcz_x0_5, hfz_x0_5, hcz_x0_6, hfz_x0_6, hcz_x0_7, hfz_x0_7⟩ := cells8_ BK_x0.out
  clear hcz_x1_0 hfz_x1_0 hcz_x1_1 hfz_x1_1
  replace BK_x1 := Aside0.mk (blk_below BK_x1.out hp_)
  obtain ⟨hcz_x1_0, hfz_x1_0, hcz_x1_1, hfz_x1_1⟩ := cells2_ BK_x1.out
  clear hb_ hp_
  have Vg0 := N29_0
  clear N29_0
  obtain ⟨AVg0, cVg0, rfl, hc_⟩ := Vg0.out.reads
  have HCVg0 := Aside0.mk hc_
  clear hc_
  go_wp2_with (first | ((with_reducible refine gate_dst (N := 10) rfl ?_); refine box_event ?hg (N := 10) ?hd (cs := #[.int .i64 0, .slice none 0 0]) (t := 41) ?hr ?_; (case hd => rfl); (case hg => rfl); (case hr => first | (go_simp; done) | (go_simp; rfl)); intro g_g0 hg_ w15_ hbox_ hb_; have hp_ : Below w14_.heap.size w14_ w15_ := below_step (by repeat (first | exact Below.refl _ _ | (with_reducible apply below_alloc) | (with_reducible apply pw_below_drewN) | (with_reducible apply below_drew1))) hb_; have hz_ : w14_.heap.size ≤ g_g0 := Nat.le_trans (below_size (by repeat (first | exact Below.refl _ _ | (with_reducible apply below_alloc) | (with_reducible apply pw_below_drewN) | (with_reducible apply below_drew1)))) (Nat.le_of_eq hg_.symm); have HZ30 := Aside0.mk (⟨hz_, blk_lt hbox_, hp_.size⟩ : _ ∧ _ ∧ _); replace HZ := Aside0.mk (And.intro HZ.out HZ30.out); clear HZ30; have HGW_g0 := Aside0.mk (Nat.le_trans HB.out.size hz_ : w.heap.size ≤ g_g0); have hnb_g0_aj : g_g0 ≠ g_aj := Nat.ne_of_gt (Nat.lt_of_lt_of_le (blk_lt BK_aj.out) hz_); have hnb_aj_g0 : g_aj ≠ g_g0 := hnb_g0_aj.symm; have hnb_g0_ap : g_g0 ≠ g_ap := Nat.ne_of_gt (Nat.lt_of_lt_of_le (blk_lt BK_ap.out) hz_); have hnb_ap_g0 : g_ap ≠ g_g0 := hnb_g0_ap.symm; have hnb_g0_w0 : g_g0 ≠ g_w0 := Nat.ne_of_gt (Nat.lt_of_lt_of_le (blk_lt BK_w0.out) hz_); have hnb_w0_g0 : g_w0 ≠ g_g0 := hnb_g0_w0.symm; have hnb_g0_x0 : g_g0 ≠ g_x0 := Nat.ne_of_gt (Nat.lt_of_lt_of_le (blk_lt BK_x0.out) hz_); have hnb_x0_g0 : g_x0 ≠ g_g0 := hnb_g0_x0.symm; have hnb_g0_x1 : g_g0 ≠ g_x1 := Nat.ne_of_gt (Nat.lt_of_lt_of_le (blk_lt BK_x1.out) hz_); have hnb_x1_g0 : g_x1 ≠ g_g0 := hnb_g0_x1.symm; replace HB := Aside0.mk (more HB.out hp_); replace Vw0 := Aside0.mk (Vw0.out.step hp_); replace Vx00 := Aside0.mk (Vx00.out.step hp_); replace Vx01 := Aside0.mk (Vx01.out.step hp_); replace Vx02 := Aside0.mk (Vx02.out.step hp_); replace Vx10 := Aside0.mk (Vx10.out.step hp_); replace Vg0 := Aside0.mk (Vg0.out.step hp_); clear hcz_aj_0 hfz_aj_0 hcz_aj_1 hfz_aj_1 hcz_aj_2 hfz_aj_2 hcz_aj_3 hfz_aj_3 hcz_aj_4 hfz_aj_4 hcz_aj_5 hfz_aj_5 hcz_aj_6 hfz_aj_6 hcz_aj_7 hfz_aj_7; replace BK_aj := Aside0.mk (blk_below BK_aj.out hp_); obtain ⟨hcz_aj_0, hfz_aj_0, hcz_aj_1, hfz_aj_1, hcz_aj_2, hfz_aj_2, hcz_aj_3, hfz_aj_3, hcz_aj_4, hfz_aj_4, hcz_aj_5, hfz_aj_5, hcz_aj_6, hfz_aj_6, hcz_aj_7, hfz_aj_7⟩ := cells8_ BK_aj.out; clear hcz_ap_0 hfz_ap_0 hcz_ap_1 hfz_ap_1; replace BK_ap := Aside0.mk (blk_below BK_ap.out hp_); obtain ⟨hcz_ap_0, hfz_ap_0, hcz_ap_1, hfz_ap_1⟩ := cells2_ BK_ap.out; clear hcz_w0_0 hfz_w0_0 hcz_w0_1 hfz_w0_1; replace BK_w0 := Aside0.mk (blk_below BK_w0.out hp_); obtain ⟨hcz_w0_0, hfz_w0_0, hcz_w0_1, hfz_w0_1⟩ := cells2_ BK_w0.out; clear hcz_x0_0 hfz_x0_0 hcz_x0_1 hfz_x0_1 hcz_x0_2 hfz_x0_2 hcz_x0_3 hfz_x0_3 hcz_x0_4 hfz_x0_4 hcz_x0_5 hfz_x0_5 hcz_x0_6 hfz_x0_6 hcz_x0_7 hfz_x0_7; replace BK_x0 := Aside0.mk (blk_below BK_x0.out hp_); obtain ⟨hcz_x0_0, hfz_x0_0, hcz_x0_1, hfz_x0_1, hcz_x0_2, hfz_x0_2, hcz_x0_3, hfz_x0_3, hcz_x0_4, hfz_x0_4, hcz_x0_5, hfz_x0_5, hcz_x0_6, hfz_x0_6, hcz_x0_7, hfz_x0_7⟩ := cells8_ BK_x0.out; clear hcz_x1_0 hfz_x1_0 hcz_x1_1 hfz_x1_1; replace BK_x1 := Aside0.mk (blk_below BK_x1.out hp_); obtain ⟨hcz_x1_0, hfz_x1_0, hcz_x1_1, hfz_x1_1⟩ := cells2_ BK_x1.out; have BK_g0 := Aside0.mk hbox_; obtain ⟨hcz_g0_0, hfz_g0_0, hcz_g0_1, hfz_g0_1⟩ := cells2_ BK_g0.out; clear hg_ hbox_ hb_ hp_ hz_))
  obtain ⟨w16_, ew_⟩ : ∃ w_ : World, w_ = (World.setCell (World.setCell w15_ ⟨g_g0, 0, none⟩ (.int .i64 r1v)) ⟨g_g0, 1, none⟩ (.slice AVg0 r2v.length cVg0)) := ⟨_, rfl⟩
  rw [← ew_]
  have hbk_ : w16_.heap[g_g0]? = some (.cells #[.int .i64 r1v, .slice AVg0 r2v.length cVg0] 41 (0, 0)) := by rw [ew_]; exact blk_set (blk_set (BK_g0.out) 0 (.int .i64 r1v)) 1 (.slice AVg0 r2v.length cVg0)
  have hk_ : Kept w15_ w16_ (fun k_ => k_ = g_g0) := by rw [ew_]; exact Kept.setCell (Kept.setCell (Kept.refl _ (fun k_ => k_ = g_g0)) (Or.inl rfl) (.int .i64 r1v)) (Or.inl rfl) (.slice AVg0 r2v.length cVg0)
  have hb_ : Below w.heap.size w w16_ := by rw [ew_]; exact below_set (below_set (HB.out) HGW_g0.out) HGW_g0.out
  have HZ31 := Aside0.mk hk_.1
  replace HZ := Aside0.mk (And.intro HZ.out HZ31.out)
  clear HZ31
  clear ew_ HB
  have HB := Aside0.mk hb_
  have X_ := Aside0.mk (Vw0.out.kept hk_ (fun k h1_ h2_ h3_ => by have z_ := HZ.out; omega))
  clear Vw0
  have Vw0 := X_
  clear X_
  have X_ := Aside0.mk (Vx00.out.kept hk_ (fun k h1_ h2_ h3_ => by have z_ := HZ.out; omega))
  clear Vx00
  have Vx00 := X_
  clear X_
  have X_ := Aside0.mk (Vx01.out.kept hk_ (fun k h1_ h2_ h3_ => by have z_ := HZ.out; omega))
  clear Vx01
  have Vx01 := X_
  clear X_
  have X_ := Aside0.mk (Vx02.out.kept hk_ (fun k h1_ h2_ h3_ => by have z_ := HZ.out; omega))
  clear Vx02
  have Vx02 := X_
  clear X_
  have X_ := Aside0.mk (Vx10.out.kept hk_ (fun k h1_ h2_ h3_ => by have z_ := HZ.out; omega))
  clear Vx10
  have Vx10 := X_
  clear X_
  have X_ := Aside0.mk (Vg0.out.kept hk_ (fun k h1_ h2_ h3_ => by have z_ := HZ.out; omega))
  clear Vg0
  have Vg0 := X_
  clear X_
  clear hcz_g0_0 hfz_g0_0 hcz_g0_1 hfz_g0_1
  clear hcz_aj_0 hfz_aj_0 hcz_aj_1 hfz_aj_1 hcz_aj_2 hfz_aj_2 hcz_aj_3 hfz_aj_3 hcz_aj_4 hfz_aj_4 hcz_aj_5 hfz_aj_5 hcz_aj_6 hfz_aj_6 hcz_aj_7 hfz_aj_7
  have X_ := Aside0.mk (blk_kept BK_aj.out hk_ (fun h3_ => by have z_ := HZ.out; omega))
  clear BK_aj
  have BK_aj := X_
  clear X_
  obtain ⟨hcz_aj_0, hfz_aj_0, hcz_aj_1, hfz_aj_1, hcz_aj_2, hfz_aj_2, hcz_aj_3, hfz_aj_3, hcz_aj_4, hfz_aj_4, hcz_aj_5, hfz_aj_5, hcz_aj_6, hfz_aj_6, hcz_aj_7, hfz_aj_7⟩ := cells8_ BK_aj.out
  clear hcz_ap_0 hfz_ap_0 hcz_ap_1 hfz_ap_1
  have X_ := Aside0.mk (blk_kept BK_ap.out hk_ (fun h3_ => by have z_ := HZ.out; omega))
  clear BK_ap
  have BK_ap := X_
  clear X_
  obtain ⟨hcz_ap_0, hfz_ap_0, hcz_ap_1, hfz_ap_1⟩ := cells2_ BK_ap.out
  clear hcz_w0_0 hfz_w0_0 hcz_w0_1 hfz_w0_1
  have X_ := Aside0.mk (blk_kept BK_w0.out hk_ (fun h3_ => by have z_ := HZ.out; omega))
  clear BK_w0
  have BK_w0 := X_
  clear X_
  obtain ⟨hcz_w0_0, hfz_w0_0, hcz_w0_1, hfz_w0_1⟩ := cells2_ BK_w0.out
  clear hcz_x0_0 hfz_x0_0 hcz_x0_1 hfz_x0_1 hcz_x0_2 hfz_x0_2 hcz_x0_3 hfz_x0_3 hcz_x0_4 hfz_x0_4 hcz_x0_5 hfz_x0_5 hcz_x0_6 hfz_x0_6 hcz_x0_7 hfz_x0_7
  have X_ := Aside0.mk (blk_kept BK_x0.out hk_ (fun h3_ => by have z_ := HZ.out; omega))
  clear BK_x0
  have BK_x0 := X_
  clear X_
  obtain ⟨hcz_x0_0, hfz_x0_0, hcz_x0_1, hfz_x0_1, hcz_x0_2, hfz_x0_2, hcz_x0_3, hfz_x0_3, hcz_x0_4, hfz_x0_4, hcz_x0_5, hfz_x0_5, hcz_x0_6, hfz_x0_6, hcz_x0_7, hfz_x0_7⟩ := cells8_ BK_x0.out
  clear hcz_x1_0 hfz_x1_0 hcz_x1_1 hfz_x1_1
  have X_ := Aside0.mk (blk_kept BK_x1.out hk_ (fun h3_ => by have z_ := HZ.out; omega))
  clear BK_x1
  have BK_x1 := X_
  clear X_
  obtain ⟨hcz_x1_0, hfz_x1_0, hcz_x1_1, hfz_x1_1⟩ := cells2_ BK_x1.out
  clear BK_g0
  have BK_g0 := Aside0.mk hbk_
  obtain ⟨hcz_g0_0, hfz_g0_0, hcz_g0_1, hfz_g0_1⟩ := cells2_ BK_g0.out
  clear hbk_ hk_ hb_
  refine (laws_eqPlan.calls kgq r1v _ _ r2v r1v _ _ r2v true _ (by repeat (first | exact Vg0.out.C | (with_reducible refine Kd.C_alloc ?_ _) | (with_reducible refine Kd.C_drewN ?_ _) | (with_reducible refine Kd.C_drew ?_))) HCVg0.out (by repeat (first | exact Vw0.out.C | (with_reducible refine Kd.C_alloc ?_ _) | (with_reducible refine Kd.C_drewN ?_ _) | (with_reducible refine Kd.C_drew ?_))) HCVw0.out Hkgq.out).mono ?_
  rintro e w17_ ⟨rfl, hd_⟩
  have hb_ := hd_
  clear hd_
  have hp_ : Below w16_.heap.size w16_ w17_ := below_step (by repeat (first | exact Below.refl _ _ | (with_reducible apply below_alloc) | (with_reducible apply pw_below_drewN) | (with_reducible apply below_drew1))) hb_
  have HZ32 := Aside0.mk hp_.size
  replace HZ := Aside0.mk (And.intro HZ.out HZ32.out)
  clear HZ32
  replace HB := Aside0.mk (more HB.out hp_)
  replace Vw0 := Aside0.mk (Vw0.out.step hp_)
  replace Vx00 := Aside0.mk (Vx00.out.step hp_)
  replace Vx01 := Aside0.mk (Vx01.out.step hp_)
  replace Vx02 := Aside0.mk (Vx02.out.step hp_)
  replace Vx10 := Aside0.mk (Vx10.out.step hp_)
  replace Vg0 := Aside0.mk (Vg0.out.step hp_)
  clear hcz_aj_0 hfz_aj_0 hcz_aj_1 hfz_aj_1 hcz_aj_2 hfz_aj_2 hcz_aj_3 hfz_aj_3 hcz_aj_4 hfz_aj_4 hcz_aj_5 hfz_aj_5 hcz_aj_6 hfz_aj_6 hcz_aj_7 hfz_aj_7
  replace BK_aj := Aside0.mk (blk_below BK_aj.out hp_)
  obtain ⟨hcz_aj_0, hfz_aj_0, hcz_aj_1, hfz_aj_1, hcz_aj_2, hfz_aj_2, hcz_aj_3, hfz_aj_3, hcz_aj_4, hfz_aj_4, hcz_aj_5, hfz_aj_5, hcz_aj_6, hfz_aj_6, hcz_aj_7, hfz_aj_7⟩ := cells8_ BK_aj.out
  clear hcz_ap_0 hfz_ap_0 hcz_ap_1 hfz_ap_1
  replace BK_ap := Aside0.mk (blk_below BK_ap.out hp_)
  obtain ⟨hcz_ap_0, hfz_ap_0, hcz_ap_1, hfz_ap_1⟩ := cells2_ BK_ap.out
  clear hcz_w0_0 hfz_w0_0 hcz_w0_1 hfz_w0_1
  replace BK_w0 := Aside0.mk (blk_below BK_w0.out hp_)
  obtain ⟨hcz_w0_0, hfz_w0_0, hcz_w0_1, hfz_w0_1⟩ := cells2_ BK_w0.out
  clear hcz_x0_0 hfz_x0_0 hcz_x0_1 hfz_x0_1 hcz_x0_2 hfz_x0_2 hcz_x0_3 hfz_x0_3 hcz_x0_4 hfz_x0_4 hcz_x0_5 hfz_x0_5 hcz_x0_6 hfz_x0_6 hcz_x0_7 hfz_x0_7
  replace BK_x0 := Aside0.mk (blk_below BK_x0.out hp_)
  obtain ⟨hcz_x0_0, hfz_x0_0, hcz_x0_1, hfz_x0_1, hcz_x0_2, hfz_x0_2, hcz_x0_3, hfz_x0_3, hcz_x0_4, hfz_x0_4, hcz_x0_5, hfz_x0_5, hcz_x0_6, hfz_x0_6, hcz_x0_7, hfz_x0_7⟩ := cells8_ BK_x0.out
  clear hcz_x1_0 hfz_x1_0 hcz_x1_1 hfz_x1_1
  replace BK_x1 := Aside0.mk (blk_below BK_x1.out hp_)
  obtain ⟨hcz_x1_0, hfz_x1_0, hcz_x1_1, hfz_x1_1⟩ := cells2_ BK_x1.out
  clear hcz_g0_0 hfz_g0_0 hcz_g0_1 hfz_g0_1
  replace BK_g0 := Aside0.mk (blk_below BK_g0.out hp_)
  obtain ⟨hcz_g0_0, hfz_g0_0, hcz_g0_1, hfz_g0_1⟩ := cells2_ BK_g0.out
  clear hb_ hp_
  go_wp2_with fail
  have hp_ : Below w17_.heap.size w17_ w17_.drew := below_drew1 (Below.refl _ _)
  replace HB := Aside0.mk (more HB.out hp_)
  replace Vw0 := Aside0.mk (Vw0.out.step hp_)
  replace Vx00 := Aside0.mk (Vx00.out.step hp_)
  replace Vx01 := Aside0.mk (Vx01.out.step hp_)
  replace Vx02 := Aside0.mk (Vx02.out.step hp_)
  replace Vx10 := Aside0.mk (Vx10.out.step hp_)
  replace Vg0 := Aside0.mk (Vg0.out.step hp_)
  clear hcz_aj_0 hfz_aj_0 hcz_aj_1 hfz_aj_1 hcz_aj_2 hfz_aj_2 hcz_aj_3 hfz_aj_3 hcz_aj_4 hfz_aj_4 hcz_aj_5 hfz_aj_5 hcz_aj_6 hfz_aj_6 hcz_aj_7 hfz_aj_7
  replace BK_aj := Aside0.mk (blk_below BK_aj.out hp_)
  clear hcz_ap_0 hfz_ap_0 hcz_ap_1 hfz_ap_1
  replace BK_ap := Aside0.mk (blk_below BK_ap.out hp_)
  clear hcz_w0_0 hfz_w0_0 hcz_w0_1 hfz_w0_1
  replace BK_w0 := Aside0.mk (blk_below BK_w0.out hp_)
  clear hcz_x0_0 hfz_x0_0 hcz_x0_1 hfz_x0_1 hcz_x0_2 hfz_x0_2 hcz_x0_3 hfz_x0_3 hcz_x0_4 hfz_x0_4 hcz_x0_5 hfz_x0_5 hcz_x0_6 hfz_x0_6 hcz_x0_7 hfz_x0_7
  replace BK_x0 := Aside0.mk (blk_below BK_x0.out hp_)
  clear hcz_x1_0 hfz_x1_0 hcz_x1_1 hfz_x1_1
  replace BK_x1 := Aside0.mk (blk_below BK_x1.out hp_)
  clear hcz_g0_0 hfz_g0_0 hcz_g0_1 hfz_g0_1
  replace BK_g0 := Aside0.mk (blk_below BK_g0.out hp_)
  have HZ33 := Aside0.mk hp_.size
  clear hp_
  refine start_ (n := 5) (S := fun w' => w'.heap[g_aj]? = some (.cells #[.slice A_aj_0 aj_0.length c_aj_0, .slice A_aj_1 aj_1.length c_aj_1, .slice A_aj_2 aj_2.length c_aj_2, .int .i64 aj_3, .int .i64 aj_4, .int .i64 aj_5, .int .i64 aj_6, .int .i64 aj_7] 27 (0, 0)) ∧ w'.heap[g_ap]? = some (.cells #[.int .i64 ap_0, .slice A_ap_1 ap_1.length c_ap_1] 37 (0, 0)) ∧ w'.heap[g_w0]? = some (.cells #[.int .i64 r1v, .slice AVw0 r2v.length cVw0] 41 (0, 0)) ∧ w'.heap[g_x0]? = some (.cells #[.slice AVx00 aj_0.length cVx00, .slice AVx01 aj_1.length cVx01, .slice AVx02 aj_2.length cVx02, .int .i64 aj_3, .int .i64 aj_4, .int .i64 aj_5, .int .i64 aj_6, .int .i64 aj_7] 32 (0, 0)) ∧ w'.heap[g_x1]? = some (.cells #[.int .i64 ap_0, .slice AVx10 ap_1.length cVx10] 41 (0, 0)) ∧ w'.heap[g_g0]? = some (.cells #[.int .i64 r1v, .slice AVg0 r2v.length cVg0] 41 (0, 0))) (ds := []) #[false, false, false, false, false] (by kernel_rfl) rfl rfl ⟨BK_aj.out, BK_ap.out, BK_w0.out, BK_x0.out, BK_x1.out, BK_g0.out⟩ (fun hHeld => ?_)
  generalize w17_.drew = w18_ at HB HZ33 Vw0 Vx00 Vx01 Vx02 Vx10 Vg0 BK_aj BK_ap BK_w0 BK_x0 BK_x1 BK_g0 hHeld ⊢
  replace HZ := Aside0.mk (And.intro HZ.out HZ33.out)
  clear HZ33
  refine take_ (i := 0) (N := some 54) (v := ?_) (a' := ?_) #[true, false, false, false, false] rfl rfl (by kernel_rfl) (fun _ _ _ h => h) (Or.inl ⟨by rfl, ?_⟩) hHeld ?_ ?_
  rotate_left
  · rintro w' ⟨s0_, s1_, s2_, s3_, s4_, s5_⟩; obtain ⟨s0, f0, s1, f1, s2, f2, s3, f3, s4, f4, s5, f5, s6, f6, s7, f7⟩ := cells8_ s0_; obtain ⟨s8, f8, s9, f9⟩ := cells2_ s1_; obtain ⟨s10, f10, s11, f11⟩ := cells2_ s2_; obtain ⟨s12, f12, s13, f13, s14, f14, s15, f15, s16, f16, s17, f17, s18, f18, s19, f19⟩ := cells8_ s3_; obtain ⟨s20, f20, s21, f21⟩ := cells2_ s4_; obtain ⟨s22, f22, s23, f23⟩ := cells2_ s5_
    go_simp
    with_reducible rfl
  rotate_left
  · simp only [Act.put, List.setIfInBounds_toArray, List.set_cons_zero, List.set_cons_succ, i64_w, i32_w]
    rfl
  refine take_ (i := 1) (N := some 55) (v := ?_) (a' := ?_) #[true, true, false, false, false] rfl rfl (by kernel_rfl) (fun _ _ _ h => h) (Or.inl ⟨by rfl, ?_⟩) hHeld ?_ ?_
  rotate_left
  · rintro w' ⟨s0_, s1_, s2_, s3_, s4_, s5_⟩; obtain ⟨s0, f0, s1, f1, s2, f2, s3, f3, s4, f4, s5, f5, s6, f6, s7, f7⟩ := cells8_ s0_; obtain ⟨s8, f8, s9, f9⟩ := cells2_ s1_; obtain ⟨s10, f10, s11, f11⟩ := cells2_ s2_; obtain ⟨s12, f12, s13, f13, s14, f14, s15, f15, s16, f16, s17, f17, s18, f18, s19, f19⟩ := cells8_ s3_; obtain ⟨s20, f20, s21, f21⟩ := cells2_ s4_; obtain ⟨s22, f22, s23, f23⟩ := cells2_ s5_
    go_simp
    with_reducible rfl
  rotate_left
  · simp only [Act.put, List.setIfInBounds_toArray, List.set_cons_zero, List.set_cons_succ, i64_w, i32_w]
    rfl
  refine one_ (i := 2) (N := some 56) #[true, true, true, false, false] rfl rfl (by kernel_rfl) (by decide) (fun K hK => ?_)
  refine goes_ Try.func17 (by kernel_rfl) rfl #[.agg #[.slice A_aj_0 aj_0.length c_aj_0, .slice A_aj_1 aj_1.length c_aj_1, .slice A_aj_2 aj_2.length c_aj_2, .int .i64 (aj_3), .int .i64 (aj_4), .int .i64 (aj_5), .int .i64 (aj_6), .int .i64 (aj_7)]] (by rfl) rfl rfl (by (try simp only [List.map_toArray, List.map_cons, List.map_nil]); first | done | rfl | (simp only [List.length_drop, List.length_take]; rfl)) ?_
  refine (laws_toJob.calls kt_aJ _ _ aj_0 _ _ aj_1 _ _ aj_2 aj_3 aj_4 aj_5 aj_6 aj_7 aj_0 aj_1 aj_2 aj_3 aj_4 aj_5 aj_6 aj_7 _ (by repeat (first | exact (Kd.C_below HR_aj_0.out HB.out) | (with_reducible refine Kd.C_alloc ?_ _) | (with_reducible refine Kd.C_drewN ?_ _) | (with_reducible refine Kd.C_drew ?_))) HC_aj_0.out (by repeat (first | exact (Kd.C_below HR_aj_1.out HB.out) | (with_reducible refine Kd.C_alloc ?_ _) | (with_reducible refine Kd.C_drewN ?_ _) | (with_reducible refine Kd.C_drew ?_))) HC_aj_1.out (by repeat (first | exact (Kd.C_below HR_aj_2.out HB.out) | (with_reducible refine Kd.C_alloc ?_ _) | (with_reducible refine Kd.C_drewN ?_ _) | (with_reducible refine Kd.C_drew ?_))) HC_aj_2.out Hkt_aJ.out).mono ?_
  rintro e w19_ ⟨v0_n19, v1_n19, v2_n19, rfl, ho0_, ho1_, ho2_, hb_⟩
  refine ⟨_, rfl, ?_⟩
  have hp_ : Below w18_.heap.size w18_ w19_ := below_step (by repeat (first | exact Below.refl _ _ | (with_reducible apply below_alloc) | (with_reducible apply pw_below_drewN) | (with_reducible apply below_drew1))) hb_
  obtain ⟨B34, H34, eB_, eH_, hi1_, hi2_, hi3_⟩ := spot (W0 := w18_) (by repeat (first | exact Below.refl _ _ | (with_reducible apply below_alloc) | (with_reducible apply pw_below_drewN) | (with_reducible apply below_drew1))) hb_
  have HZ34 := Aside0.mk (⟨hi1_, hi2_, hi3_, hp_.size⟩ : _ ∧ _ ∧ _ ∧ _)
  have N34_0 := Aside0.mk (OwnS.new (W0 := w18_) (b := w.heap.size) (by repeat (first | exact Below.refl _ _ | (with_reducible apply below_alloc) | (with_reducible apply pw_below_drewN) | (with_reducible apply below_drew1))) ho0_ hb_ HB.out.size _ _ eB_ eH_)
  have N34_1 := Aside0.mk (Own.new (W0 := w18_) (b := w.heap.size) (by repeat (first | exact Below.refl _ _ | (with_reducible apply below_alloc) | (with_reducible apply pw_below_drewN) | (with_reducible apply below_drew1))) (tightRow rfl ho1_) hb_ HB.out.size _ _ eB_ eH_)
  have N34_2 := Aside0.mk (Own.new (W0 := w18_) (b := w.heap.size) (by repeat (first | exact Below.refl _ _ | (with_reducible apply below_alloc) | (with_reducible apply pw_below_drewN) | (with_reducible apply below_drew1))) (tightRow rfl ho2_) hb_ HB.out.size _ _ eB_ eH_)
  clear eB_ eH_ hi1_ hi2_ hi3_ ho0_ ho1_ ho2_
  replace HZ := Aside0.mk (And.intro HZ.out HZ34.out)
  clear HZ34
  replace HB := Aside0.mk (more HB.out hp_)
  replace Vw0 := Aside0.mk (Vw0.out.step hp_)
  replace Vx00 := Aside0.mk (Vx00.out.step hp_)
  replace Vx01 := Aside0.mk (Vx01.out.step hp_)
  replace Vx02 := Aside0.mk (Vx02.out.step hp_)
  replace Vx10 := Aside0.mk (Vx10.out.step hp_)
  replace Vg0 := Aside0.mk (Vg0.out.step hp_)
  replace BK_aj := Aside0.mk (blk_below BK_aj.out hp_)
  replace BK_ap := Aside0.mk (blk_below BK_ap.out hp_)
  replace BK_w0 := Aside0.mk (blk_below BK_w0.out hp_)
  replace BK_x0 := Aside0.mk (blk_below BK_x0.out hp_)
  replace BK_x1 := Aside0.mk (blk_below BK_x1.out hp_)
  replace BK_g0 := Aside0.mk (blk_below BK_g0.out hp_)
  clear hb_ hp_
  have T34_0 := N34_0
  clear N34_0
  obtain ⟨AT34_0, cT34_0, rfl, hc_⟩ := T34_0.out.reads
  have HCT34_0 := Aside0.mk hc_
  clear hc_
  have T34_1 := N34_1
  clear N34_1
  obtain ⟨AT34_1, cT34_1, rfl, hc_⟩ := T34_1.out.reads
  have HCT34_1 := Aside0.mk hc_
  clear hc_
  have T34_2 := N34_2
  clear N34_2
  obtain ⟨AT34_2, cT34_2, rfl, hc_⟩ := T34_2.out.reads
  have HCT34_2 := Aside0.mk hc_
  clear hc_
  refine hK.out _ _ ⟨BK_aj.out, BK_ap.out, BK_w0.out, BK_x0.out, BK_x1.out, BK_g0.out⟩ (fun hHeld => ?_)
  clear hK K
  refine norm_ (a' := ?_) ?_ ?_
  rotate_left
  · show Act.put _ (some 56) _ = _
    simp only [Act.put, List.setIfInBounds_toArray, List.set_cons_zero, List.set_cons_succ, i64_w, i32_w]
    rfl
  refine one_ (i := 3) (N := some 57) #[true, true, true, true, false] rfl rfl (by kernel_rfl) (by decide) (fun K hK => ?_)
  refine goes_ Try.func19 (by kernel_rfl) rfl #[.agg #[.slice AVx00 aj_0.length cVx00, .slice AVx01 aj_1.length cVx01, .slice AVx02 aj_2.length cVx02, .int .i64 (aj_3), .int .i64 (aj_4), .int .i64 (aj_5), .int .i64 (aj_6), .int .i64 (aj_7)], .agg #[.slice AT34_0 aj_0.length cT34_0, .slice AT34_1 aj_1.length cT34_1, .slice AT34_2 aj_2.length cT34_2, .int .i64 (aj_3), .int .i64 (aj_4), .int .i64 (aj_5), .int .i64 (aj_6), .int .i64 (aj_7)]] (by rfl) rfl rfl (by (try simp only [List.map_toArray, List.map_cons, List.map_nil]); first | done | rfl | (simp only [List.length_drop, List.length_take]; rfl)) ?_
  refine (laws_eqJob.calls kq_aJ _ _ aj_0 _ _ aj_1 _ _ aj_2 aj_3 aj_4 aj_5 aj_6 aj_7 _ _ aj_0 _ _ aj_1 _ _ aj_2 aj_3 aj_4 aj_5 aj_6 aj_7 true _ (by repeat (first | exact Vx00.out.C | (with_reducible refine Kd.C_alloc ?_ _) | (with_reducible refine Kd.C_drewN ?_ _) | (with_reducible refine Kd.C_drew ?_))) HCVx00.out (by repeat (first | exact Vx01.out.C | (with_reducible refine Kd.C_alloc ?_ _) | (with_reducible refine Kd.C_drewN ?_ _) | (with_reducible refine Kd.C_drew ?_))) HCVx01.out (by repeat (first | exact Vx02.out.C | (with_reducible refine Kd.C_alloc ?_ _) | (with_reducible refine Kd.C_drewN ?_ _) | (with_reducible refine Kd.C_drew ?_))) HCVx02.out (by repeat (first | exact T34_0.out.C | (with_reducible refine Kd.C_alloc ?_ _) | (with_reducible refine Kd.C_drewN ?_ _) | (with_reducible refine Kd.C_drew ?_))) HCT34_0.out (by repeat (first | exact T34_1.out.C | (with_reducible refine Kd.C_alloc ?_ _) | (with_reducible refine Kd.C_drewN ?_ _) | (with_reducible refine Kd.C_drew ?_))) HCT34_1.out (by repeat (first | exact T34_2.out.C | (with_reducible refine Kd.C_alloc ?_ _) | (with_reducible refine Kd.C_drewN ?_ _) | (with_reducible refine Kd.C_drew ?_))) HCT34_2.out Hkq_aJ.out).mono ?_
  rintro e w20_ ⟨rfl, hd_⟩
  refine ⟨_, rfl, ?_⟩
  have hb_ := hd_
  clear hd_
  have hp_ : Below w19_.heap.size w19_ w20_ := below_step (by repeat (first | exact Below.refl _ _ | (with_reducible apply below_alloc) | (with_reducible apply pw_below_drewN) | (with_reducible apply below_drew1))) hb_
  have HZ35 := Aside0.mk hp_.size
  replace HZ := Aside0.mk (And.intro HZ.out HZ35.out)
  clear HZ35
  replace HB := Aside0.mk (more HB.out hp_)
  replace Vw0 := Aside0.mk (Vw0.out.step hp_)
  replace Vx00 := Aside0.mk (Vx00.out.step hp_)
  replace Vx01 := Aside0.mk (Vx01.out.step hp_)
  replace Vx02 := Aside0.mk (Vx02.out.step hp_)
  replace Vx10 := Aside0.mk (Vx10.out.step hp_)
  replace Vg0 := Aside0.mk (Vg0.out.step hp_)
  replace T34_0 := Aside0.mk (T34_0.out.step hp_)
  replace T34_1 := Aside0.mk (T34_1.out.step hp_)
  replace T34_2 := Aside0.mk (T34_2.out.step hp_)
  replace BK_aj := Aside0.mk (blk_below BK_aj.out hp_)
  replace BK_ap := Aside0.mk (blk_below BK_ap.out hp_)
  replace BK_w0 := Aside0.mk (blk_below BK_w0.out hp_)
  replace BK_x0 := Aside0.mk (blk_below BK_x0.out hp_)
  replace BK_x1 := Aside0.mk (blk_below BK_x1.out hp_)
  replace BK_g0 := Aside0.mk (blk_below BK_g0.out hp_)
  clear hb_ hp_
  refine hK.out _ _ ⟨BK_aj.out, BK_ap.out, BK_w0.out, BK_x0.out, BK_x1.out, BK_g0.out⟩ (fun hHeld => ?_)
  clear hK K
  refine norm_ (a' := ?_) ?_ ?_
  rotate_left
  · show Act.put _ (some 57) _ = _
    simp only [Act.put, List.setIfInBounds_toArray, List.set_cons_zero, List.set_cons_succ, i64_w, i32_w]
    rfl
  refine pure_ (i := 4) (N := some 58) (v := ?_) (a' := ?_) #[true, true, true, true, true] rfl rfl (by kernel_rfl) (fun _ _ _ h => h) (Or.inl ⟨by rfl, ?_⟩) ?_ ?_
  rotate_left
  · intro w'
    go_simp
    with_reducible rfl
  rotate_left
  · simp only [Act.put, List.setIfInBounds_toArray, List.set_cons_zero, List.set_cons_succ, i64_w, i32_w]
    rfl
  refine done_ (by kernel_rfl) ?_
  obtain ⟨hcz_aj_0, hfz_aj_0, hcz_aj_1, hfz_aj_1, hcz_aj_2, hfz_aj_2, hcz_aj_3, hfz_aj_3, hcz_aj_4, hfz_aj_4, hcz_aj_5, hfz_aj_5, hcz_aj_6, hfz_aj_6, hcz_aj_7, hfz_aj_7⟩ := cells8_ BK_aj.out
  obtain ⟨hcz_ap_0, hfz_ap_0, hcz_ap_1, hfz_ap_1⟩ := cells2_ BK_ap.out
  obtain ⟨hcz_w0_0, hfz_w0_0, hcz_w0_1, hfz_w0_1⟩ := cells2_ BK_w0.out
  obtain ⟨hcz_x0_0, hfz_x0_0, hcz_x0_1, hfz_x0_1, hcz_x0_2, hfz_x0_2, hcz_x0_3, hfz_x0_3, hcz_x0_4, hfz_x0_4, hcz_x0_5, hfz_x0_5, hcz_x0_6, hfz_x0_6, hcz_x0_7, hfz_x0_7⟩ := cells8_ BK_x0.out
  obtain ⟨hcz_x1_0, hfz_x1_0, hcz_x1_1, hfz_x1_1⟩ := cells2_ BK_x1.out
  obtain ⟨hcz_g0_0, hfz_g0_0, hcz_g0_1, hfz_g0_1⟩ := cells2_ BK_g0.out
  clear T34_0 HCT34_0
  clear T34_1 HCT34_1
  clear T34_2 HCT34_2
  go_wp2_with fail
  have hp_ : Below w20_.heap.size w20_ w20_.drew := below_drew1 (Below.refl _ _)
  replace HB := Aside0.mk (more HB.out hp_)
  replace Vw0 := Aside0.mk (Vw0.out.step hp_)
  replace Vx00 := Aside0.mk (Vx00.out.step hp_)
  replace Vx01 := Aside0.mk (Vx01.out.step hp_)
  replace Vx02 := Aside0.mk (Vx02.out.step hp_)
  replace Vx10 := Aside0.mk (Vx10.out.step hp_)
  replace Vg0 := Aside0.mk (Vg0.out.step hp_)
  clear hcz_aj_0 hfz_aj_0 hcz_aj_1 hfz_aj_1 hcz_aj_2 hfz_aj_2 hcz_aj_3 hfz_aj_3 hcz_aj_4 hfz_aj_4 hcz_aj_5 hfz_aj_5 hcz_aj_6 hfz_aj_6 hcz_aj_7 hfz_aj_7
  replace BK_aj := Aside0.mk (blk_below BK_aj.out hp_)
  clear hcz_ap_0 hfz_ap_0 hcz_ap_1 hfz_ap_1
  replace BK_ap := Aside0.mk (blk_below BK_ap.out hp_)
  clear hcz_w0_0 hfz_w0_0 hcz_w0_1 hfz_w0_1
  replace BK_w0 := Aside0.mk (blk_below BK_w0.out hp_)
  clear hcz_x0_0 hfz_x0_0 hcz_x0_1 hfz_x0_1 hcz_x0_2 hfz_x0_2 hcz_x0_3 hfz_x0_3 hcz_x0_4 hfz_x0_4 hcz_x0_5 hfz_x0_5 hcz_x0_6 hfz_x0_6 hcz_x0_7 hfz_x0_7
  replace BK_x0 := Aside0.mk (blk_below BK_x0.out hp_)
  clear hcz_x1_0 hfz_x1_0 hcz_x1_1 hfz_x1_1
  replace BK_x1 := Aside0.mk (blk_below BK_x1.out hp_)
  clear hcz_g0_0 hfz_g0_0 hcz_g0_1 hfz_g0_1
  replace BK_g0 := Aside0.mk (blk_below BK_g0.out hp_)
  have HZ36 := Aside0.mk hp_.size
  clear hp_
  refine start_ (n := 5) (S := fun w' => w'.heap[g_aj]? = some (.cells #[.slice A_aj_0 aj_0.length c_aj_0, .slice A_aj_1 aj_1.length c_aj_1, .slice A_aj_2 aj_2.length c_aj_2, .int .i64 aj_3, .int .i64 aj_4, .int .i64 aj_5, .int .i64 aj_6, .int .i64 aj_7] 27 (0, 0)) ∧ w'.heap[g_ap]? = some (.cells #[.int .i64 ap_0, .slice A_ap_1 ap_1.length c_ap_1] 37 (0, 0)) ∧ w'.heap[g_w0]? = some (.cells #[.int .i64 r1v, .slice AVw0 r2v.length cVw0] 41 (0, 0)) ∧ w'.heap[g_x0]? = some (.cells #[.slice AVx00 aj_0.length cVx00, .slice AVx01 aj_1.length cVx01, .slice AVx02 aj_2.length cVx02, .int .i64 aj_3, .int .i64 aj_4, .int .i64 aj_5, .int .i64 aj_6, .int .i64 aj_7] 32 (0, 0)) ∧ w'.heap[g_x1]? = some (.cells #[.int .i64 ap_0, .slice AVx10 ap_1.length cVx10] 41 (0, 0)) ∧ w'.heap[g_g0]? = some (.cells #[.int .i64 r1v, .slice AVg0 r2v.length cVg0] 41 (0, 0))) (ds := []) #[false, false, false, false, false] (by kernel_rfl) rfl rfl ⟨BK_aj.out, BK_ap.out, BK_w0.out, BK_x0.out, BK_x1.out, BK_g0.out⟩ (fun hHeld => ?_)
  generalize w20_.drew = w21_ at HB HZ36 Vw0 Vx00 Vx01 Vx02 Vx10 Vg0 BK_aj BK_ap BK_w0 BK_x0 BK_x1 BK_g0 hHeld ⊢
  replace HZ := Aside0.mk (And.intro HZ.out HZ36.out)
  clear HZ36
  refine take_ (i := 0) (N := some 59) (v := ?_) (a' := ?_) #[true, false, false, false, false] rfl rfl (by kernel_rfl) (fun _ _ _ h => h) (Or.inl ⟨by rfl, ?_⟩) hHeld ?_ ?_
  rotate_left
  · rintro w' ⟨s0_, s1_, s2_, s3_, s4_, s5_⟩; obtain ⟨s0, f0, s1, f1, s2, f2, s3, f3, s4, f4, s5, f5, s6, f6, s7, f7⟩ := cells8_ s0_; obtain ⟨s8, f8, s9, f9⟩ := cells2_ s1_; obtain ⟨s10, f10, s11, f11⟩ := cells2_ s2_; obtain ⟨s12, f12, s13, f13, s14, f14, s15, f15, s16, f16, s17, f17, s18, f18, s19, f19⟩ := cells8_ s3_; obtain ⟨s20, f20, s21, f21⟩ := cells2_ s4_; obtain ⟨s22, f22, s23, f23⟩ := cells2_ s5_
    go_simp
    with_reducible rfl
  rotate_left
  · simp only [Act.put, List.setIfInBounds_toArray, List.set_cons_zero, List.set_cons_succ, i64_w, i32_w]
    rfl
  refine take_ (i := 1) (N := some 60) (v := ?_) (a' := ?_) #[true, true, false, false, false] rfl rfl (by kernel_rfl) (fun _ _ _ h => h) (Or.inl ⟨by rfl, ?_⟩) hHeld ?_ ?_
  rotate_left
  · rintro w' ⟨s0_, s1_, s2_, s3_, s4_, s5_⟩; obtain ⟨s0, f0, s1, f1, s2, f2, s3, f3, s4, f4, s5, f5, s6, f6, s7, f7⟩ := cells8_ s0_; obtain ⟨s8, f8, s9, f9⟩ := cells2_ s1_; obtain ⟨s10, f10, s11, f11⟩ := cells2_ s2_; obtain ⟨s12, f12, s13, f13, s14, f14, s15, f15, s16, f16, s17, f17, s18, f18, s19, f19⟩ := cells8_ s3_; obtain ⟨s20, f20, s21, f21⟩ := cells2_ s4_; obtain ⟨s22, f22, s23, f23⟩ := cells2_ s5_
    go_simp
    with_reducible rfl
  rotate_left
  · simp only [Act.put, List.setIfInBounds_toArray, List.set_cons_zero, List.set_cons_succ, i64_w, i32_w]
    rfl
  refine one_ (i := 2) (N := some 61) #[true, true, true, false, false] rfl rfl (by kernel_rfl) (by decide) (fun K hK => ?_)
  refine goes_ Try.func22 (by kernel_rfl) rfl #[.agg #[.int .i64 (ap_0), .slice A_ap_1 ap_1.length c_ap_1]] (by rfl) rfl rfl (by (try simp only [List.map_toArray, List.map_cons, List.map_nil]); first | done | rfl | (simp only [List.length_drop, List.length_take]; rfl)) ?_
  refine (laws_toPlan.calls kt_aP ap_0 _ _ ap_1 ap_0 ap_1 _ (by repeat (first | exact (Kd.C_below HR_ap_1.out HB.out) | (with_reducible refine Kd.C_alloc ?_ _) | (with_reducible refine Kd.C_drewN ?_ _) | (with_reducible refine Kd.C_drew ?_))) HC_ap_1.out Hkt_aP.out).mono ?_
  rintro e w22_ ⟨v1_n22, rfl, ho0_, hb_⟩
  refine ⟨_, rfl, ?_⟩
  have hp_ : Below w21_.heap.size w21_ w22_ := below_step (by repeat (first | exact Below.refl _ _ | (with_reducible apply below_alloc) | (with_reducible apply pw_below_drewN) | (with_reducible apply below_drew1))) hb_
  obtain ⟨B37, H37, eB_, eH_, hi1_, hi2_, hi3_⟩ := spot (W0 := w21_) (by repeat (first | exact Below.refl _ _ | (with_reducible apply below_alloc) | (with_reducible apply pw_below_drewN) | (with_reducible apply below_drew1))) hb_
  have HZ37 := Aside0.mk (⟨hi1_, hi2_, hi3_, hp_.size⟩ : _ ∧ _ ∧ _ ∧ _)
  have N37_0 := Aside0.mk (Own.new (W0 := w21_) (b := w.heap.size) (by repeat (first | exact Below.refl _ _ | (with_reducible apply below_alloc) | (with_reducible apply pw_below_drewN) | (with_reducible apply below_drew1))) ho0_ hb_ HB.out.size _ _ eB_ eH_)
  clear eB_ eH_ hi1_ hi2_ hi3_ ho0_
  replace HZ := Aside0.mk (And.intro HZ.out HZ37.out)
  clear HZ37
  replace HB := Aside0.mk (more HB.out hp_)
  replace Vw0 := Aside0.mk (Vw0.out.step hp_)
  replace Vx00 := Aside0.mk (Vx00.out.step hp_)
  replace Vx01 := Aside0.mk (Vx01.out.step hp_)
  replace Vx02 := Aside0.mk (Vx02.out.step hp_)
  replace Vx10 := Aside0.mk (Vx10.out.step hp_)
  replace Vg0 := Aside0.mk (Vg0.out.step hp_)
  replace BK_aj := Aside0.mk (blk_below BK_aj.out hp_)
  replace BK_ap := Aside0.mk (blk_below BK_ap.out hp_)
  replace BK_w0 := Aside0.mk (blk_below BK_w0.out hp_)
  replace BK_x0 := Aside0.mk (blk_below BK_x0.out hp_)
  replace BK_x1 := Aside0.mk (blk_below BK_x1.out hp_)
  replace BK_g0 := Aside0.mk (blk_below BK_g0.out hp_)
  clear hb_ hp_
  have T37_0 := N37_0
  clear N37_0
  obtain ⟨AT37_0, cT37_0, rfl, hc_⟩ := T37_0.out.reads
  have HCT37_0 := Aside0.mk hc_
  clear hc_
  refine hK.out _ _ ⟨BK_aj.out, BK_ap.out, BK_w0.out, BK_x0.out, BK_x1.out, BK_g0.out⟩ (fun hHeld => ?_)
  clear hK K
  refine norm_ (a' := ?_) ?_ ?_
  rotate_left
  · show Act.put _ (some 61) _ = _
    simp only [Act.put, List.setIfInBounds_toArray, List.set_cons_zero, List.set_cons_succ, i64_w, i32_w]
    rfl
  refine one_ (i := 3) (N := some 62) #[true, true, true, true, false] rfl rfl (by kernel_rfl) (by decide) (fun K hK => ?_)
  refine goes_ Try.func24 (by kernel_rfl) rfl #[.agg #[.int .i64 (ap_0), .slice AVx10 ap_1.length cVx10], .agg #[.int .i64 (ap_0), .slice AT37_0 ap_1.length cT37_0]] (by rfl) rfl rfl (by (try simp only [List.map_toArray, List.map_cons, List.map_nil]); first | done | rfl | (simp only [List.length_drop, List.length_take]; rfl)) ?_
  refine (laws_eqPlan.calls kq_aP ap_0 _ _ ap_1 ap_0 _ _ ap_1 true _ (by repeat (first | exact Vx10.out.C | (with_reducible refine Kd.C_alloc ?_ _) | (with_reducible refine Kd.C_drewN ?_ _) | (with_reducible refine Kd.C_drew ?_))) HCVx10.out (by repeat (first | exact T37_0.out.C | (with_reducible refine Kd.C_alloc ?_ _) | (with_reducible refine Kd.C_drewN ?_ _) | (with_reducible refine Kd.C_drew ?_))) HCT37_0.out Hkq_aP.out).mono ?_
  rintro e w23_ ⟨rfl, hd_⟩
  refine ⟨_, rfl, ?_⟩
  have hb_ := hd_
  clear hd_
  have hp_ : Below w22_.heap.size w22_ w23_ := below_step (by repeat (first | exact Below.refl _ _ | (with_reducible apply below_alloc) | (with_reducible apply pw_below_drewN) | (with_reducible apply below_drew1))) hb_
  have HZ38 := Aside0.mk hp_.size
  replace HZ := Aside0.mk (And.intro HZ.out HZ38.out)
  clear HZ38
  replace HB := Aside0.mk (more HB.out hp_)
  replace Vw0 := Aside0.mk (Vw0.out.step hp_)
  replace Vx00 := Aside0.mk (Vx00.out.step hp_)
  replace Vx01 := Aside0.mk (Vx01.out.step hp_)
  replace Vx02 := Aside0.mk (Vx02.out.step hp_)
  replace Vx10 := Aside0.mk (Vx10.out.step hp_)
  replace Vg0 := Aside0.mk (Vg0.out.step hp_)
  replace T37_0 := Aside0.mk (T37_0.out.step hp_)
  replace BK_aj := Aside0.mk (blk_below BK_aj.out hp_)
  replace BK_ap := Aside0.mk (blk_below BK_ap.out hp_)
  replace BK_w0 := Aside0.mk (blk_below BK_w0.out hp_)
  replace BK_x0 := Aside0.mk (blk_below BK_x0.out hp_)
  replace BK_x1 := Aside0.mk (blk_below BK_x1.out hp_)
  replace BK_g0 := Aside0.mk (blk_below BK_g0.out hp_)
  clear hb_ hp_
  refine hK.out _ _ ⟨BK_aj.out, BK_ap.out, BK_w0.out, BK_x0.out, BK_x1.out, BK_g0.out⟩ (fun hHeld => ?_)
  clear hK K
  refine norm_ (a' := ?_) ?_ ?_
  rotate_left
  · show Act.put _ (some 62) _ = _
    simp only [Act.put, List.setIfInBounds_toArray, List.set_cons_zero, List.set_cons_succ, i64_w, i32_w]
    rfl
  refine pure_ (i := 4) (N := some 63) (v := ?_) (a' := ?_) #[true, true, true, true, true] rfl rfl (by kernel_rfl) (fun _ _ _ h => h) (Or.inl ⟨by rfl, ?_⟩) ?_ ?_
  rotate_left
  · intro w'
    go_simp
    with_reducible rfl
  rotate_left
  · simp only [Act.put, List.setIfInBounds_toArray, List.set_cons_zero, List.set_cons_succ, i64_w, i32_w]
    rfl
  refine done_ (by kernel_rfl) ?_
  obtain ⟨hcz_aj_0, hfz_aj_0, hcz_aj_1, hfz_aj_1, hcz_aj_2, hfz_aj_2, hcz_aj_3, hfz_aj_3, hcz_aj_4, hfz_aj_4, hcz_aj_5, hfz_aj_5, hcz_aj_6, hfz_aj_6, hcz_aj_7, hfz_aj_7⟩ := cells8_ BK_aj.out
  obtain ⟨hcz_ap_0, hfz_ap_0, hcz_ap_1, hfz_ap_1⟩ := cells2_ BK_ap.out
  obtain ⟨hcz_w0_0, hfz_w0_0, hcz_w0_1, hfz_w0_1⟩ := cells2_ BK_w0.out
  obtain ⟨hcz_x0_0, hfz_x0_0, hcz_x0_1, hfz_x0_1, hcz_x0_2, hfz_x0_2, hcz_x0_3, hfz_x0_3, hcz_x0_4, hfz_x0_4, hcz_x0_5, hfz_x0_5, hcz_x0_6, hfz_x0_6, hcz_x0_7, hfz_x0_7⟩ := cells8_ BK_x0.out
  obtain ⟨hcz_x1_0, hfz_x1_0, hcz_x1_1, hfz_x1_1⟩ := cells2_ BK_x1.out
  obtain ⟨hcz_g0_0, hfz_g0_0, hcz_g0_1, hfz_g0_1⟩ := cells2_ BK_g0.out
  clear T37_0 HCT37_0
  have hlaj_0_ := HTO_aj_0.out
  have hlaj_1_ := HBD_aj_1.out
  have hlaj_2_ := HBD_aj_2.out
  have hs_ : 1 + (totL aj_0 : Int) + (aj_1.length : Int) + (aj_2.length : Int) < 1000000000000 := by omega
  have HSM39 := Aside0.mk hs_
  clear hs_ hlaj_0_ hlaj_1_ hlaj_2_
  go_wp2_with fail
  refine (markJob_calls aj_0 aj_1 aj_2 aj_3 aj_4 aj_5 aj_6 aj_7 1 (by omega) HSM39.out _ _ _ _ _ _ w _ (more HB.out (by repeat (first | exact Below.refl _ _ | (with_reducible apply below_alloc) | (with_reducible apply pw_below_drewN) | (with_reducible apply below_drew1)))) (by have q_ := Vx00.out.r; repeat (first | exact q_ | (with_reducible refine Kd.R_alloc ?_ _) | (with_reducible refine Kd.S_alloc ?_ _))) (by have q_ := Vx01.out.r; repeat (first | exact q_ | (with_reducible refine Kd.R_alloc ?_ _) | (with_reducible refine Kd.S_alloc ?_ _))) (by have q_ := Vx02.out.r; repeat (first | exact q_ | (with_reducible refine Kd.R_alloc ?_ _) | (with_reducible refine Kd.S_alloc ?_ _))) (fun k h1_ h2_ => by have q1_ := h1_.2; have q2_ := h2_.2; first | (with_reducible exact q2_.1.1 q1_.2) | (with_reducible exact q2_.1.2 q1_.2) | (with_reducible exact q1_.1.1 q2_.2) | (with_reducible exact q1_.1.2 q2_.2) | (with_reducible exact q2_.1 q1_.2) | (with_reducible exact q1_.1 q2_.2) | exact q2_.1 q1_.2 | exact q2_.2 q1_.2 | exact q2_.1.1 q1_.2 | exact q2_.1.2 q1_.2 | exact q1_.1 q2_.2 | exact q1_.2 q2_.2 | exact q1_.1.1 q2_.2 | exact q1_.1.2 q2_.2) (fun k h1_ h2_ => by have q1_ := h1_.2; have q2_ := h2_.2; first | (with_reducible exact q2_.1.1 q1_.2) | (with_reducible exact q2_.1.2 q1_.2) | (with_reducible exact q1_.1.1 q2_.2) | (with_reducible exact q1_.1.2 q2_.2) | (with_reducible exact q2_.1 q1_.2) | (with_reducible exact q1_.1 q2_.2) | exact q2_.1 q1_.2 | exact q2_.2 q1_.2 | exact q2_.1.1 q1_.2 | exact q2_.1.2 q1_.2 | exact q1_.1 q2_.2 | exact q1_.2 q2_.2 | exact q1_.1.1 q2_.2 | exact q1_.1.2 q2_.2) (fun k h1_ h2_ => by have q1_ := h1_.2; have q2_ := h2_.2; first | (with_reducible exact q2_.1.1 q1_.2) | (with_reducible exact q2_.1.2 q1_.2) | (with_reducible exact q1_.1.1 q2_.2) | (with_reducible exact q1_.1.2 q2_.2) | (with_reducible exact q2_.1 q1_.2) | (with_reducible exact q1_.1 q2_.2) | exact q2_.1 q1_.2 | exact q2_.2 q1_.2 | exact q2_.1.1 q1_.2 | exact q2_.1.2 q1_.2 | exact q1_.1 q2_.2 | exact q1_.2 q2_.2 | exact q1_.1.1 q2_.2 | exact q1_.1.2 q2_.2)).mono ?_
  rintro e w24_ ⟨rfl, hb_, hk0_⟩
  have hk_ := Kept.then_ (w := w23_) (Kept.of_below (by repeat (first | exact Below.refl _ _ | (with_reducible apply below_alloc) | (with_reducible apply pw_below_drewN) | (with_reducible apply below_drew1))) _) hk0_ (fun _ h_ => Or.inl h_)
  have HZ40 := Aside0.mk hk_.1
  replace HZ := Aside0.mk (And.intro HZ.out HZ40.out)
  clear HZ40
  clear HB
  have HB := Aside0.mk hb_
  have X_ := Aside0.mk (Vw0.out.kept hk_ (fun k h1_ h2_ h3_ => by rcases h3_ with h3_ | h3_ | h3_ <;> (have h4_ := h3_.1; have z_ := HZ.out; omega)))
  clear Vw0
  have Vw0 := X_
  clear X_
  have X_ := Aside0.mk (Vx10.out.kept hk_ (fun k h1_ h2_ h3_ => by rcases h3_ with h3_ | h3_ | h3_ <;> (have h4_ := h3_.1; have z_ := HZ.out; omega)))
  clear Vx10
  have Vx10 := X_
  clear X_
  have X_ := Aside0.mk (Vg0.out.kept hk_ (fun k h1_ h2_ h3_ => by rcases h3_ with h3_ | h3_ | h3_ <;> (have h4_ := h3_.1; have z_ := HZ.out; omega)))
  clear Vg0
  have Vg0 := X_
  clear X_
  clear hcz_aj_0 hfz_aj_0 hcz_aj_1 hfz_aj_1 hcz_aj_2 hfz_aj_2 hcz_aj_3 hfz_aj_3 hcz_aj_4 hfz_aj_4 hcz_aj_5 hfz_aj_5 hcz_aj_6 hfz_aj_6 hcz_aj_7 hfz_aj_7
  have X_ := Aside0.mk (blk_kept BK_aj.out hk_ (fun h3_ => by rcases h3_ with h3_ | h3_ | h3_ <;> (have h4_ := h3_.1; have z_ := HZ.out; omega)))
  clear BK_aj
  have BK_aj := X_
  clear X_
  obtain ⟨hcz_aj_0, hfz_aj_0, hcz_aj_1, hfz_aj_1, hcz_aj_2, hfz_aj_2, hcz_aj_3, hfz_aj_3, hcz_aj_4, hfz_aj_4, hcz_aj_5, hfz_aj_5, hcz_aj_6, hfz_aj_6, hcz_aj_7, hfz_aj_7⟩ := cells8_ BK_aj.out
  clear hcz_ap_0 hfz_ap_0 hcz_ap_1 hfz_ap_1
  have X_ := Aside0.mk (blk_kept BK_ap.out hk_ (fun h3_ => by rcases h3_ with h3_ | h3_ | h3_ <;> (have h4_ := h3_.1; have z_ := HZ.out; omega)))
  clear BK_ap
  have BK_ap := X_
  clear X_
  obtain ⟨hcz_ap_0, hfz_ap_0, hcz_ap_1, hfz_ap_1⟩ := cells2_ BK_ap.out
  clear hcz_w0_0 hfz_w0_0 hcz_w0_1 hfz_w0_1
  have X_ := Aside0.mk (blk_kept BK_w0.out hk_ (fun h3_ => by rcases h3_ with h3_ | h3_ | h3_ <;> (have h4_ := h3_.1; have z_ := HZ.out; omega)))
  clear BK_w0
  have BK_w0 := X_
  clear X_
  obtain ⟨hcz_w0_0, hfz_w0_0, hcz_w0_1, hfz_w0_1⟩ := cells2_ BK_w0.out
  clear hcz_x0_0 hfz_x0_0 hcz_x0_1 hfz_x0_1 hcz_x0_2 hfz_x0_2 hcz_x0_3 hfz_x0_3 hcz_x0_4 hfz_x0_4 hcz_x0_5 hfz_x0_5 hcz_x0_6 hfz_x0_6 hcz_x0_7 hfz_x0_7
  have X_ := Aside0.mk (blk_kept BK_x0.out hk_ (fun h3_ => by rcases h3_ with h3_ | h3_ | h3_ <;> (have h4_ := h3_.1; have z_ := HZ.out; omega)))
  clear BK_x0
  have BK_x0 := X_
  clear X_
  obtain ⟨hcz_x0_0, hfz_x0_0, hcz_x0_1, hfz_x0_1, hcz_x0_2, hfz_x0_2, hcz_x0_3, hfz_x0_3, hcz_x0_4, hfz_x0_4, hcz_x0_5, hfz_x0_5, hcz_x0_6, hfz_x0_6, hcz_x0_7, hfz_x0_7⟩ := cells8_ BK_x0.out
  clear hcz_x1_0 hfz_x1_0 hcz_x1_1 hfz_x1_1
  have X_ := Aside0.mk (blk_kept BK_x1.out hk_ (fun h3_ => by rcases h3_ with h3_ | h3_ | h3_ <;> (have h4_ := h3_.1; have z_ := HZ.out; omega)))
  clear BK_x1
  have BK_x1 := X_
  clear X_
  obtain ⟨hcz_x1_0, hfz_x1_0, hcz_x1_1, hfz_x1_1⟩ := cells2_ BK_x1.out
  clear hcz_g0_0 hfz_g0_0 hcz_g0_1 hfz_g0_1
  have X_ := Aside0.mk (blk_kept BK_g0.out hk_ (fun h3_ => by rcases h3_ with h3_ | h3_ | h3_ <;> (have h4_ := h3_.1; have z_ := HZ.out; omega)))
  clear BK_g0
  have BK_g0 := X_
  clear X_
  obtain ⟨hcz_g0_0, hfz_g0_0, hcz_g0_1, hfz_g0_1⟩ := cells2_ BK_g0.out
  clear Vx00
  clear Vx01
  clear Vx02
  clear hb_ hk_ hk0_
  obtain ⟨a41, ea_⟩ : ∃ a_ : Int, a_ = 1 + (totL aj_0 : Int) + (aj_1.length : Int) + (aj_2.length : Int) := ⟨_, rfl⟩
  rw [← ea_]
  have ha41 : 1 ≤ a41 ∧ a41 ≤ 1 + 3145728 := by have := HTO_aj_0.out; have := HBD_aj_1.out; have := HBD_aj_2.out; omega
  clear ea_
  have hlap_1_ := HBD_ap_1.out
  obtain ⟨km42, h_⟩ := (markPlan_ev ap_0 ap_1 (a41) (by omega) (by omega)).rounds
  have HM42 := Aside0.mk h_
  clear h_
  have hs_ : a41 + (ap_1.length : Int) < 1000000000000 := by omega
  have HSM42 := Aside0.mk hs_
  clear hs_ hlap_1_
  go_wp2_with fail
  refine (laws_markPlan.calls km42 ap_0 _ _ ap_1 a41 _ _ w _ (more HB.out (by repeat (first | exact Below.refl _ _ | (with_reducible apply below_alloc) | (with_reducible apply pw_below_drewN) | (with_reducible apply below_drew1)))) (by have q_ := Vx10.out.r; repeat (first | exact q_ | (with_reducible refine Kd.R_alloc ?_ _) | (with_reducible refine Kd.S_alloc ?_ _))) HM42.out).mono ?_
  rintro e w25_ ⟨rfl, _, hb_, hk0_⟩
  have hk_ := Kept.then_ (w := w24_) (Kept.of_below (by repeat (first | exact Below.refl _ _ | (with_reducible apply below_alloc) | (with_reducible apply pw_below_drewN) | (with_reducible apply below_drew1))) _) hk0_ (fun _ h_ => Or.inl h_)
  have HZ43 := Aside0.mk hk_.1
  replace HZ := Aside0.mk (And.intro HZ.out HZ43.out)
  clear HZ43
  clear HB
  have HB := Aside0.mk hb_
  have X_ := Aside0.mk (Vw0.out.kept hk_ (fun k h1_ h2_ h3_ => by have h4_ := h3_.1; have z_ := HZ.out; omega))
  clear Vw0
  have Vw0 := X_
  clear X_
  have X_ := Aside0.mk (Vg0.out.kept hk_ (fun k h1_ h2_ h3_ => by have h4_ := h3_.1; have z_ := HZ.out; omega))
  clear Vg0
  have Vg0 := X_
  clear X_
  clear hcz_aj_0 hfz_aj_0 hcz_aj_1 hfz_aj_1 hcz_aj_2 hfz_aj_2 hcz_aj_3 hfz_aj_3 hcz_aj_4 hfz_aj_4 hcz_aj_5 hfz_aj_5 hcz_aj_6 hfz_aj_6 hcz_aj_7 hfz_aj_7
  have X_ := Aside0.mk (blk_kept BK_aj.out hk_ (fun h3_ => by have h4_ := h3_.1; have z_ := HZ.out; omega))
  clear BK_aj
  have BK_aj := X_
  clear X_
  obtain ⟨hcz_aj_0, hfz_aj_0, hcz_aj_1, hfz_aj_1, hcz_aj_2, hfz_aj_2, hcz_aj_3, hfz_aj_3, hcz_aj_4, hfz_aj_4, hcz_aj_5, hfz_aj_5, hcz_aj_6, hfz_aj_6, hcz_aj_7, hfz_aj_7⟩ := cells8_ BK_aj.out
  clear hcz_ap_0 hfz_ap_0 hcz_ap_1 hfz_ap_1
  have X_ := Aside0.mk (blk_kept BK_ap.out hk_ (fun h3_ => by have h4_ := h3_.1; have z_ := HZ.out; omega))
  clear BK_ap
  have BK_ap := X_
  clear X_
  obtain ⟨hcz_ap_0, hfz_ap_0, hcz_ap_1, hfz_ap_1⟩ := cells2_ BK_ap.out
  clear hcz_w0_0 hfz_w0_0 hcz_w0_1 hfz_w0_1
  have X_ := Aside0.mk (blk_kept BK_w0.out hk_ (fun h3_ => by have h4_ := h3_.1; have z_ := HZ.out; omega))
  clear BK_w0
  have BK_w0 := X_
  clear X_
  obtain ⟨hcz_w0_0, hfz_w0_0, hcz_w0_1, hfz_w0_1⟩ := cells2_ BK_w0.out
  clear hcz_x0_0 hfz_x0_0 hcz_x0_1 hfz_x0_1 hcz_x0_2 hfz_x0_2 hcz_x0_3 hfz_x0_3 hcz_x0_4 hfz_x0_4 hcz_x0_5 hfz_x0_5 hcz_x0_6 hfz_x0_6 hcz_x0_7 hfz_x0_7
  have X_ := Aside0.mk (blk_kept BK_x0.out hk_ (fun h3_ => by have h4_ := h3_.1; have z_ := HZ.out; omega))
  clear BK_x0
  have BK_x0 := X_
  clear X_
  obtain ⟨hcz_x0_0, hfz_x0_0, hcz_x0_1, hfz_x0_1, hcz_x0_2, hfz_x0_2, hcz_x0_3, hfz_x0_3, hcz_x0_4, hfz_x0_4, hcz_x0_5, hfz_x0_5, hcz_x0_6, hfz_x0_6, hcz_x0_7, hfz_x0_7⟩ := cells8_ BK_x0.out
  clear hcz_x1_0 hfz_x1_0 hcz_x1_1 hfz_x1_1
  have X_ := Aside0.mk (blk_kept BK_x1.out hk_ (fun h3_ => by have h4_ := h3_.1; have z_ := HZ.out; omega))
  clear BK_x1
  have BK_x1 := X_
  clear X_
  obtain ⟨hcz_x1_0, hfz_x1_0, hcz_x1_1, hfz_x1_1⟩ := cells2_ BK_x1.out
  clear hcz_g0_0 hfz_g0_0 hcz_g0_1 hfz_g0_1
  have X_ := Aside0.mk (blk_kept BK_g0.out hk_ (fun h3_ => by have h4_ := h3_.1; have z_ := HZ.out; omega))
  clear BK_g0
  have BK_g0 := X_
  clear X_
  obtain ⟨hcz_g0_0, hfz_g0_0, hcz_g0_1, hfz_g0_1⟩ := cells2_ BK_g0.out
  clear Vx10
  clear hb_ hk_ hk0_
  obtain ⟨a44, ea_⟩ : ∃ a_ : Int, a_ = a41 + (ap_1.length : Int) := ⟨_, rfl⟩
  rw [← ea_]
  have ha44 : 1 ≤ a44 ∧ a44 ≤ a41 + 1048576 := by have := HBD_ap_1.out; omega
  clear ea_
  have dk_ : decide (a44 < 0) = false := decide_eq_false (by omega)
  go_wp2_with fail
  refine (laws_eqPlan.calls kgq r1v _ _ r2v r1v _ _ r2v true _ (by repeat (first | exact Vg0.out.C | (with_reducible refine Kd.C_alloc ?_ _) | (with_reducible refine Kd.C_drewN ?_ _) | (with_reducible refine Kd.C_drew ?_))) HCVg0.out (by repeat (first | exact Vw0.out.C | (with_reducible refine Kd.C_alloc ?_ _) | (with_reducible refine Kd.C_drewN ?_ _) | (with_reducible refine Kd.C_drew ?_))) HCVw0.out Hkgq.out).mono ?_
  rintro e w26_ ⟨rfl, hd_⟩
  have hb_ := hd_
  clear hd_
  have hp_ : Below w25_.heap.size w25_ w26_ := below_step (by repeat (first | exact Below.refl _ _ | (with_reducible apply below_alloc) | (with_reducible apply pw_below_drewN) | (with_reducible apply below_drew1))) hb_
  have HZ45 := Aside0.mk hp_.size
  replace HZ := Aside0.mk (And.intro HZ.out HZ45.out)
  clear HZ45
  replace HB := Aside0.mk (more HB.out hp_)
  replace Vw0 := Aside0.mk (Vw0.out.step hp_)
  replace Vg0 := Aside0.mk (Vg0.out.step hp_)
  clear hcz_aj_0 hfz_aj_0 hcz_aj_1 hfz_aj_1 hcz_aj_2 hfz_aj_2 hcz_aj_3 hfz_aj_3 hcz_aj_4 hfz_aj_4 hcz_aj_5 hfz_aj_5 hcz_aj_6 hfz_aj_6 hcz_aj_7 hfz_aj_7
  replace BK_aj := Aside0.mk (blk_below BK_aj.out hp_)
  obtain ⟨hcz_aj_0, hfz_aj_0, hcz_aj_1, hfz_aj_1, hcz_aj_2, hfz_aj_2, hcz_aj_3, hfz_aj_3, hcz_aj_4, hfz_aj_4, hcz_aj_5, hfz_aj_5, hcz_aj_6, hfz_aj_6, hcz_aj_7, hfz_aj_7⟩ := cells8_ BK_aj.out
  clear hcz_ap_0 hfz_ap_0 hcz_ap_1 hfz_ap_1
  replace BK_ap := Aside0.mk (blk_below BK_ap.out hp_)
  obtain ⟨hcz_ap_0, hfz_ap_0, hcz_ap_1, hfz_ap_1⟩ := cells2_ BK_ap.out
  clear hcz_w0_0 hfz_w0_0 hcz_w0_1 hfz_w0_1
  replace BK_w0 := Aside0.mk (blk_below BK_w0.out hp_)
  obtain ⟨hcz_w0_0, hfz_w0_0, hcz_w0_1, hfz_w0_1⟩ := cells2_ BK_w0.out
  clear hcz_x0_0 hfz_x0_0 hcz_x0_1 hfz_x0_1 hcz_x0_2 hfz_x0_2 hcz_x0_3 hfz_x0_3 hcz_x0_4 hfz_x0_4 hcz_x0_5 hfz_x0_5 hcz_x0_6 hfz_x0_6 hcz_x0_7 hfz_x0_7
  replace BK_x0 := Aside0.mk (blk_below BK_x0.out hp_)
  obtain ⟨hcz_x0_0, hfz_x0_0, hcz_x0_1, hfz_x0_1, hcz_x0_2, hfz_x0_2, hcz_x0_3, hfz_x0_3, hcz_x0_4, hfz_x0_4, hcz_x0_5, hfz_x0_5, hcz_x0_6, hfz_x0_6, hcz_x0_7, hfz_x0_7⟩ := cells8_ BK_x0.out
  clear hcz_x1_0 hfz_x1_0 hcz_x1_1 hfz_x1_1
  replace BK_x1 := Aside0.mk (blk_below BK_x1.out hp_)
  obtain ⟨hcz_x1_0, hfz_x1_0, hcz_x1_1, hfz_x1_1⟩ := cells2_ BK_x1.out
  clear hcz_g0_0 hfz_g0_0 hcz_g0_1 hfz_g0_1
  replace BK_g0 := Aside0.mk (blk_below BK_g0.out hp_)
  obtain ⟨hcz_g0_0, hfz_g0_0, hcz_g0_1, hfz_g0_1⟩ := cells2_ BK_g0.out
  clear hb_ hp_
  have hl_ := HL_r2.out
  obtain ⟨km46, h_⟩ := (markPlan_ev r1v r2v 1 (by omega) (by omega)).rounds
  have HM46 := Aside0.mk h_
  clear h_
  obtain ⟨kh46, h_⟩ := (heldPlan_ev r1v r2v.length 1 (by omega) (by omega)).rounds
  have HH46 := Aside0.mk h_
  clear h_ hl_
  go_wp2_with fail
  refine (laws_markPlan.calls km46 r1v _ _ r2v 1 _ _ w _ (more HB.out (by repeat (first | exact Below.refl _ _ | (with_reducible apply below_alloc) | (with_reducible apply pw_below_drewN) | (with_reducible apply below_drew1)))) (by have q_ := Vg0.out.r; repeat (first | exact q_ | (with_reducible refine Kd.R_alloc ?_ _) | (with_reducible refine Kd.S_alloc ?_ _))) HM46.out).mono ?_
  rintro e w27_ ⟨rfl, hr_, hb_, hk0_⟩
  have hk_ := Kept.then_ (w := w26_) (Kept.of_below (by repeat (first | exact Below.refl _ _ | (with_reducible apply below_alloc) | (with_reducible apply pw_below_drewN) | (with_reducible apply below_drew1))) _) hk0_ (fun _ h_ => Or.inl h_)
  have HZ47 := Aside0.mk hk_.1
  replace HZ := Aside0.mk (And.intro HZ.out HZ47.out)
  clear HZ47
  clear HB
  have HB := Aside0.mk hb_
  have X_ := Aside0.mk (Vw0.out.kept hk_ (fun k h1_ h2_ h3_ => by have h4_ := h3_.1; have z_ := HZ.out; omega))
  clear Vw0
  have Vw0 := X_
  clear X_
  clear hcz_aj_0 hfz_aj_0 hcz_aj_1 hfz_aj_1 hcz_aj_2 hfz_aj_2 hcz_aj_3 hfz_aj_3 hcz_aj_4 hfz_aj_4 hcz_aj_5 hfz_aj_5 hcz_aj_6 hfz_aj_6 hcz_aj_7 hfz_aj_7
  have X_ := Aside0.mk (blk_kept BK_aj.out hk_ (fun h3_ => by have h4_ := h3_.1; have z_ := HZ.out; omega))
  clear BK_aj
  have BK_aj := X_
  clear X_
  obtain ⟨hcz_aj_0, hfz_aj_0, hcz_aj_1, hfz_aj_1, hcz_aj_2, hfz_aj_2, hcz_aj_3, hfz_aj_3, hcz_aj_4, hfz_aj_4, hcz_aj_5, hfz_aj_5, hcz_aj_6, hfz_aj_6, hcz_aj_7, hfz_aj_7⟩ := cells8_ BK_aj.out
  clear hcz_ap_0 hfz_ap_0 hcz_ap_1 hfz_ap_1
  have X_ := Aside0.mk (blk_kept BK_ap.out hk_ (fun h3_ => by have h4_ := h3_.1; have z_ := HZ.out; omega))
  clear BK_ap
  have BK_ap := X_
  clear X_
  obtain ⟨hcz_ap_0, hfz_ap_0, hcz_ap_1, hfz_ap_1⟩ := cells2_ BK_ap.out
  clear hcz_w0_0 hfz_w0_0 hcz_w0_1 hfz_w0_1
  have X_ := Aside0.mk (blk_kept BK_w0.out hk_ (fun h3_ => by have h4_ := h3_.1; have z_ := HZ.out; omega))
  clear BK_w0
  have BK_w0 := X_
  clear X_
  obtain ⟨hcz_w0_0, hfz_w0_0, hcz_w0_1, hfz_w0_1⟩ := cells2_ BK_w0.out
  clear hcz_x0_0 hfz_x0_0 hcz_x0_1 hfz_x0_1 hcz_x0_2 hfz_x0_2 hcz_x0_3 hfz_x0_3 hcz_x0_4 hfz_x0_4 hcz_x0_5 hfz_x0_5 hcz_x0_6 hfz_x0_6 hcz_x0_7 hfz_x0_7
  have X_ := Aside0.mk (blk_kept BK_x0.out hk_ (fun h3_ => by have h4_ := h3_.1; have z_ := HZ.out; omega))
  clear BK_x0
  have BK_x0 := X_
  clear X_
  obtain ⟨hcz_x0_0, hfz_x0_0, hcz_x0_1, hfz_x0_1, hcz_x0_2, hfz_x0_2, hcz_x0_3, hfz_x0_3, hcz_x0_4, hfz_x0_4, hcz_x0_5, hfz_x0_5, hcz_x0_6, hfz_x0_6, hcz_x0_7, hfz_x0_7⟩ := cells8_ BK_x0.out
  clear hcz_x1_0 hfz_x1_0 hcz_x1_1 hfz_x1_1
  have X_ := Aside0.mk (blk_kept BK_x1.out hk_ (fun h3_ => by have h4_ := h3_.1; have z_ := HZ.out; omega))
  clear BK_x1
  have BK_x1 := X_
  clear X_
  obtain ⟨hcz_x1_0, hfz_x1_0, hcz_x1_1, hfz_x1_1⟩ := cells2_ BK_x1.out
  clear hcz_g0_0 hfz_g0_0 hcz_g0_1 hfz_g0_1
  have X_ := Aside0.mk (blk_kept BK_g0.out hk_ (fun h3_ => by have h4_ := h3_.1; have z_ := HZ.out; omega))
  clear BK_g0
  have BK_g0 := X_
  clear X_
  obtain ⟨hcz_g0_0, hfz_g0_0, hcz_g0_1, hfz_g0_1⟩ := cells2_ BK_g0.out
  replace Vg0 := Aside0.mk (Vg0.out.marked hr_ hk_)
  clear hr_ hb_ hk_ hk0_
  have hml_ : (markedI r2v.length 1).length = r2v.length := by simp [markedI]
  have HML := Aside0.mk hml_
  clear hml_
  obtain ⟨mt, em_⟩ : ∃ m_ : Int, m_ = (1 + (r2v.length : Int)) := ⟨_, rfl⟩
  have EM := Aside0.mk em_
  rw [← em_]
  have HH46' := Aside0.mk (show _ = some mt from em_ ▸ HH46.out)
  have hmt : 0 ≤ mt := by omega
  have dm_ : decide (mt < 0) = false := decide_eq_false (by omega)
  clear em_ hmt
  have HCm := Aside0.mk (show (markedI r2v.length 1).length ≤ cVg0 from by rw [HML.out]; exact HCVg0.out)
  go_wp2_with fail
  try rw [show (Value.slice AVg0 r2v.length cVg0) = .slice AVg0 (markedI r2v.length 1).length cVg0 from by rw [HML.out]]
  refine (laws_heldPlan.calls kh46 r1v _ _ (markedI r2v.length 1) 1 mt _ (by repeat (first | exact Vg0.out.C | (with_reducible refine Kd.C_alloc ?_ _) | (with_reducible refine Kd.C_drewN ?_ _) | (with_reducible refine Kd.C_drew ?_))) HCm.out HH46'.out).mono ?_
  rintro e w28_ ⟨rfl, hd_⟩
  have hp_ : Below w27_.heap.size w27_ w28_ := below_step (by repeat (first | exact Below.refl _ _ | (with_reducible apply below_alloc) | (with_reducible apply pw_below_drewN) | (with_reducible apply below_drew1))) (hd_)
  have HZ48 := Aside0.mk hp_.size
  replace HZ := Aside0.mk (And.intro HZ.out HZ48.out)
  clear HZ48
  replace HB := Aside0.mk (more HB.out hp_)
  replace Vw0 := Aside0.mk (Vw0.out.step hp_)
  replace Vg0 := Aside0.mk (Vg0.out.step hp_)
  clear hcz_aj_0 hfz_aj_0 hcz_aj_1 hfz_aj_1 hcz_aj_2 hfz_aj_2 hcz_aj_3 hfz_aj_3 hcz_aj_4 hfz_aj_4 hcz_aj_5 hfz_aj_5 hcz_aj_6 hfz_aj_6 hcz_aj_7 hfz_aj_7
  replace BK_aj := Aside0.mk (blk_below BK_aj.out hp_)
  obtain ⟨hcz_aj_0, hfz_aj_0, hcz_aj_1, hfz_aj_1, hcz_aj_2, hfz_aj_2, hcz_aj_3, hfz_aj_3, hcz_aj_4, hfz_aj_4, hcz_aj_5, hfz_aj_5, hcz_aj_6, hfz_aj_6, hcz_aj_7, hfz_aj_7⟩ := cells8_ BK_aj.out
  clear hcz_ap_0 hfz_ap_0 hcz_ap_1 hfz_ap_1
  replace BK_ap := Aside0.mk (blk_below BK_ap.out hp_)
  obtain ⟨hcz_ap_0, hfz_ap_0, hcz_ap_1, hfz_ap_1⟩ := cells2_ BK_ap.out
  clear hcz_w0_0 hfz_w0_0 hcz_w0_1 hfz_w0_1
  replace BK_w0 := Aside0.mk (blk_below BK_w0.out hp_)
  obtain ⟨hcz_w0_0, hfz_w0_0, hcz_w0_1, hfz_w0_1⟩ := cells2_ BK_w0.out
  clear hcz_x0_0 hfz_x0_0 hcz_x0_1 hfz_x0_1 hcz_x0_2 hfz_x0_2 hcz_x0_3 hfz_x0_3 hcz_x0_4 hfz_x0_4 hcz_x0_5 hfz_x0_5 hcz_x0_6 hfz_x0_6 hcz_x0_7 hfz_x0_7
  replace BK_x0 := Aside0.mk (blk_below BK_x0.out hp_)
  obtain ⟨hcz_x0_0, hfz_x0_0, hcz_x0_1, hfz_x0_1, hcz_x0_2, hfz_x0_2, hcz_x0_3, hfz_x0_3, hcz_x0_4, hfz_x0_4, hcz_x0_5, hfz_x0_5, hcz_x0_6, hfz_x0_6, hcz_x0_7, hfz_x0_7⟩ := cells8_ BK_x0.out
  clear hcz_x1_0 hfz_x1_0 hcz_x1_1 hfz_x1_1
  replace BK_x1 := Aside0.mk (blk_below BK_x1.out hp_)
  obtain ⟨hcz_x1_0, hfz_x1_0, hcz_x1_1, hfz_x1_1⟩ := cells2_ BK_x1.out
  clear hcz_g0_0 hfz_g0_0 hcz_g0_1 hfz_g0_1
  replace BK_g0 := Aside0.mk (blk_below BK_g0.out hp_)
  obtain ⟨hcz_g0_0, hfz_g0_0, hcz_g0_1, hfz_g0_1⟩ := cells2_ BK_g0.out
  clear hd_ hp_
  go_wp2_with fail
  have hp_ : Below w28_.heap.size w28_ w28_.drew := below_drew1 (Below.refl _ _)
  replace HB := Aside0.mk (more HB.out hp_)
  replace Vw0 := Aside0.mk (Vw0.out.step hp_)
  replace Vg0 := Aside0.mk (Vg0.out.step hp_)
  clear hcz_aj_0 hfz_aj_0 hcz_aj_1 hfz_aj_1 hcz_aj_2 hfz_aj_2 hcz_aj_3 hfz_aj_3 hcz_aj_4 hfz_aj_4 hcz_aj_5 hfz_aj_5 hcz_aj_6 hfz_aj_6 hcz_aj_7 hfz_aj_7
  replace BK_aj := Aside0.mk (blk_below BK_aj.out hp_)
  clear hcz_ap_0 hfz_ap_0 hcz_ap_1 hfz_ap_1
  replace BK_ap := Aside0.mk (blk_below BK_ap.out hp_)
  clear hcz_w0_0 hfz_w0_0 hcz_w0_1 hfz_w0_1
  replace BK_w0 := Aside0.mk (blk_below BK_w0.out hp_)
  clear hcz_x0_0 hfz_x0_0 hcz_x0_1 hfz_x0_1 hcz_x0_2 hfz_x0_2 hcz_x0_3 hfz_x0_3 hcz_x0_4 hfz_x0_4 hcz_x0_5 hfz_x0_5 hcz_x0_6 hfz_x0_6 hcz_x0_7 hfz_x0_7
  replace BK_x0 := Aside0.mk (blk_below BK_x0.out hp_)
  clear hcz_x1_0 hfz_x1_0 hcz_x1_1 hfz_x1_1
  replace BK_x1 := Aside0.mk (blk_below BK_x1.out hp_)
  clear hcz_g0_0 hfz_g0_0 hcz_g0_1 hfz_g0_1
  replace BK_g0 := Aside0.mk (blk_below BK_g0.out hp_)
  have HZ49 := Aside0.mk hp_.size
  clear hp_
  refine start_ (n := 11) (S := fun w' => w'.heap[g_aj]? = some (.cells #[.slice A_aj_0 aj_0.length c_aj_0, .slice A_aj_1 aj_1.length c_aj_1, .slice A_aj_2 aj_2.length c_aj_2, .int .i64 aj_3, .int .i64 aj_4, .int .i64 aj_5, .int .i64 aj_6, .int .i64 aj_7] 27 (0, 0)) ∧ w'.heap[g_ap]? = some (.cells #[.int .i64 ap_0, .slice A_ap_1 ap_1.length c_ap_1] 37 (0, 0)) ∧ w'.heap[g_w0]? = some (.cells #[.int .i64 r1v, .slice AVw0 r2v.length cVw0] 41 (0, 0)) ∧ w'.heap[g_x0]? = some (.cells #[.slice AVx00 aj_0.length cVx00, .slice AVx01 aj_1.length cVx01, .slice AVx02 aj_2.length cVx02, .int .i64 aj_3, .int .i64 aj_4, .int .i64 aj_5, .int .i64 aj_6, .int .i64 aj_7] 32 (0, 0)) ∧ w'.heap[g_x1]? = some (.cells #[.int .i64 ap_0, .slice AVx10 ap_1.length cVx10] 41 (0, 0)) ∧ w'.heap[g_g0]? = some (.cells #[.int .i64 r1v, .slice AVg0 r2v.length cVg0] 41 (0, 0))) (ds := []) #[false, false, false, false, false, false, false, false, false, false, false] (by kernel_rfl) rfl rfl ⟨BK_aj.out, BK_ap.out, BK_w0.out, BK_x0.out, BK_x1.out, BK_g0.out⟩ (fun hHeld => ?_)
  generalize w28_.drew = w29_ at HB HZ49 Vw0 Vg0 BK_aj BK_ap BK_w0 BK_x0 BK_x1 BK_g0 hHeld ⊢
  replace HZ := Aside0.mk (And.intro HZ.out HZ49.out)
  clear HZ49
  have HBK := Aside0.mk (Below.refl w29_.heap.size w29_)
  refine join_ (σ := Value × Value × Option Addr × Nat × Nat × Nat × (Nat → Prop) × Nat) 2 #[true, true, true, true, true, true, true, true, true, false, false] (fun s_ => [(95, .agg #[.slice A_aj_0 aj_0.length c_aj_0, .slice A_aj_1 aj_1.length c_aj_1, .slice A_aj_2 aj_2.length c_aj_2, .int .i64 aj_3, .int .i64 aj_4, .int .i64 aj_5, .int .i64 aj_6, .int .i64 aj_7]), (96, s_.1), (97, .agg #[.int .i64 ap_0, .slice A_ap_1 ap_1.length c_ap_1]), (98, s_.2.1), (99, .tuple #[.agg #[.int .i64 r1v, .slice s_.2.2.1 r2v.length s_.2.2.2.1], .bool r3v]), (94, .tuple #[.agg #[.int .i64 r1v, .slice s_.2.2.1 r2v.length s_.2.2.2.1], .bool r3v]), (100, .agg #[.int .i64 r1v, .slice s_.2.2.1 r2v.length s_.2.2.2.1]), (101, .bool r3v), (15, .pointer (some ⟨s_.2.2.2.2.2.2.2, 0, none⟩))]) (fun s_ w_ => Below w29_.heap.size w29_ w_ ∧ Own (Kd.int .i64) 3 w_ w.heap.size s_.2.2.2.2.1 s_.2.2.2.2.2.1 s_.2.2.2.2.2.2.1 (.slice s_.2.2.1 r2v.length s_.2.2.2.1) r2v ∧ r2v.length ≤ s_.2.2.2.1 ∧ w29_.heap.size ≤ s_.2.2.2.2.1 ∧ s_.2.2.2.2.1 ≤ s_.2.2.2.2.2.1 ∧ s_.2.2.2.2.2.1 ≤ w_.heap.size ∧ (s_.2.2.2.2.2.2.2 < s_.2.2.2.2.1 ∨ s_.2.2.2.2.2.1 ≤ s_.2.2.2.2.2.2.2) ∧ w_.heap[s_.2.2.2.2.2.2.2]? = some (.cells #[.int .i64 0, .slice none 0 0] 41 (0, 0)) ∧ w29_.heap.size ≤ s_.2.2.2.2.2.2.2) ?_ ?_
  rotate_left
  · intro hJ_
    refine take_ (i := 0) (N := some 95) (v := ?_) (a' := ?_) #[true, false, false, false, false, false, false, false, false, false, false] rfl rfl (by kernel_rfl) (fun _ _ _ h => h) (Or.inl ⟨by rfl, ?_⟩) hHeld ?_ ?_
    rotate_left
    · rintro w' ⟨s0_, s1_, s2_, s3_, s4_, s5_⟩; obtain ⟨s0, f0, s1, f1, s2, f2, s3, f3, s4, f4, s5, f5, s6, f6, s7, f7⟩ := cells8_ s0_; obtain ⟨s8, f8, s9, f9⟩ := cells2_ s1_; obtain ⟨s10, f10, s11, f11⟩ := cells2_ s2_; obtain ⟨s12, f12, s13, f13, s14, f14, s15, f15, s16, f16, s17, f17, s18, f18, s19, f19⟩ := cells8_ s3_; obtain ⟨s20, f20, s21, f21⟩ := cells2_ s4_; obtain ⟨s22, f22, s23, f23⟩ := cells2_ s5_
      go_simp
      with_reducible rfl
    rotate_left
    · simp only [Act.put, List.setIfInBounds_toArray, List.set_cons_zero, List.set_cons_succ, i64_w, i32_w]
      rfl
    refine take_ (i := 2) (N := some 97) (v := ?_) (a' := ?_) #[true, false, true, false, false, false, false, false, false, false, false] rfl rfl (by kernel_rfl) (fun _ _ _ h => h) (Or.inl ⟨by rfl, ?_⟩) hHeld ?_ ?_
    rotate_left
    · rintro w' ⟨s0_, s1_, s2_, s3_, s4_, s5_⟩; obtain ⟨s0, f0, s1, f1, s2, f2, s3, f3, s4, f4, s5, f5, s6, f6, s7, f7⟩ := cells8_ s0_; obtain ⟨s8, f8, s9, f9⟩ := cells2_ s1_; obtain ⟨s10, f10, s11, f11⟩ := cells2_ s2_; obtain ⟨s12, f12, s13, f13, s14, f14, s15, f15, s16, f16, s17, f17, s18, f18, s19, f19⟩ := cells8_ s3_; obtain ⟨s20, f20, s21, f21⟩ := cells2_ s4_; obtain ⟨s22, f22, s23, f23⟩ := cells2_ s5_
      go_simp
      with_reducible rfl
    rotate_left
    · simp only [Act.put, List.setIfInBounds_toArray, List.set_cons_zero, List.set_cons_succ, i64_w, i32_w]
      rfl
    refine two_ (i := 1) (j := 8) (Ni := some 96) (Nj := some 15) #[true, true, true, false, false, false, false, false, false, false, false] #[true, false, true, false, false, false, false, false, true, false, false] rfl rfl rfl rfl (by kernel_rfl) (by decide) (by decide) (fun K hK => ?_) (fun K hK => ?_)
    · skip
      refine goes_ Try.func17 (by kernel_rfl) rfl #[.agg #[.slice A_aj_0 aj_0.length c_aj_0, .slice A_aj_1 aj_1.length c_aj_1, .slice A_aj_2 aj_2.length c_aj_2, .int .i64 (aj_3), .int .i64 (aj_4), .int .i64 (aj_5), .int .i64 (aj_6), .int .i64 (aj_7)]] (by rfl) rfl rfl (by (try simp only [List.map_toArray, List.map_cons, List.map_nil]); first | done | rfl | (simp only [List.length_drop, List.length_take]; rfl)) ?_
      refine (laws_toJob.calls kt_aJ _ _ aj_0 _ _ aj_1 _ _ aj_2 aj_3 aj_4 aj_5 aj_6 aj_7 aj_0 aj_1 aj_2 aj_3 aj_4 aj_5 aj_6 aj_7 _ (by repeat (first | exact (Kd.C_below HR_aj_0.out HB.out) | (with_reducible refine Kd.C_alloc ?_ _) | (with_reducible refine Kd.C_drewN ?_ _) | (with_reducible refine Kd.C_drew ?_))) HC_aj_0.out (by repeat (first | exact (Kd.C_below HR_aj_1.out HB.out) | (with_reducible refine Kd.C_alloc ?_ _) | (with_reducible refine Kd.C_drewN ?_ _) | (with_reducible refine Kd.C_drew ?_))) HC_aj_1.out (by repeat (first | exact (Kd.C_below HR_aj_2.out HB.out) | (with_reducible refine Kd.C_alloc ?_ _) | (with_reducible refine Kd.C_drewN ?_ _) | (with_reducible refine Kd.C_drew ?_))) HC_aj_2.out Hkt_aJ.out).mono ?_
      rintro e w30_ ⟨v0_n30, v1_n30, v2_n30, rfl, ho0_, ho1_, ho2_, hb_⟩
      refine ⟨_, rfl, ?_⟩
      have hp_ : Below w29_.heap.size w29_ w30_ := below_step (by repeat (first | exact Below.refl _ _ | (with_reducible apply below_alloc) | (with_reducible apply pw_below_drewN) | (with_reducible apply below_drew1))) hb_
      obtain ⟨B50, H50, eB_, eH_, hi1_, hi2_, hi3_⟩ := spot (W0 := w29_) (by repeat (first | exact Below.refl _ _ | (with_reducible apply below_alloc) | (with_reducible apply pw_below_drewN) | (with_reducible apply below_drew1))) hb_
      have HZ50 := Aside0.mk (⟨hi1_, hi2_, hi3_, hp_.size⟩ : _ ∧ _ ∧ _ ∧ _)
      have N50_0 := Aside0.mk (OwnS.new (W0 := w29_) (b := w.heap.size) (by repeat (first | exact Below.refl _ _ | (with_reducible apply below_alloc) | (with_reducible apply pw_below_drewN) | (with_reducible apply below_drew1))) ho0_ hb_ HB.out.size _ _ eB_ eH_)
      have N50_1 := Aside0.mk (Own.new (W0 := w29_) (b := w.heap.size) (by repeat (first | exact Below.refl _ _ | (with_reducible apply below_alloc) | (with_reducible apply pw_below_drewN) | (with_reducible apply below_drew1))) (tightRow rfl ho1_) hb_ HB.out.size _ _ eB_ eH_)
      have N50_2 := Aside0.mk (Own.new (W0 := w29_) (b := w.heap.size) (by repeat (first | exact Below.refl _ _ | (with_reducible apply below_alloc) | (with_reducible apply pw_below_drewN) | (with_reducible apply below_drew1))) (tightRow rfl ho2_) hb_ HB.out.size _ _ eB_ eH_)
      clear eB_ eH_ hi1_ hi2_ hi3_ ho0_ ho1_ ho2_
      replace HZ := Aside0.mk (And.intro HZ.out HZ50.out)
      clear HZ50
      replace HB := Aside0.mk (more HB.out hp_)
      replace HBK := Aside0.mk (more HBK.out hp_)
      replace Vw0 := Aside0.mk (Vw0.out.step hp_)
      replace Vg0 := Aside0.mk (Vg0.out.step hp_)
      replace BK_aj := Aside0.mk (blk_below BK_aj.out hp_)
      replace BK_ap := Aside0.mk (blk_below BK_ap.out hp_)
      replace BK_w0 := Aside0.mk (blk_below BK_w0.out hp_)
      replace BK_x0 := Aside0.mk (blk_below BK_x0.out hp_)
      replace BK_x1 := Aside0.mk (blk_below BK_x1.out hp_)
      replace BK_g0 := Aside0.mk (blk_below BK_g0.out hp_)
      clear hb_ hp_
      have TaJ0_0 := N50_0
      clear N50_0
      obtain ⟨ATaJ0_0, cTaJ0_0, rfl, hc_⟩ := TaJ0_0.out.reads
      have HCTaJ0_0 := Aside0.mk hc_
      clear hc_
      have TaJ0_1 := N50_1
      clear N50_1
      obtain ⟨ATaJ0_1, cTaJ0_1, rfl, hc_⟩ := TaJ0_1.out.reads
      have HCTaJ0_1 := Aside0.mk hc_
      clear hc_
      have TaJ0_2 := N50_2
      clear N50_2
      obtain ⟨ATaJ0_2, cTaJ0_2, rfl, hc_⟩ := TaJ0_2.out.reads
      have HCTaJ0_2 := Aside0.mk hc_
      clear hc_
      refine hK.out _ _ ⟨BK_aj.out, BK_ap.out, BK_w0.out, BK_x0.out, BK_x1.out, BK_g0.out⟩ (fun hHeld => ?_)
      clear hK K
      refine norm_ (a' := ?_) ?_ ?_
      rotate_left
      · show Act.put _ (some 96) _ = _
        simp only [Act.put, List.setIfInBounds_toArray, List.set_cons_zero, List.set_cons_succ, i64_w, i32_w]
        rfl
      refine two_ (i := 3) (j := 8) (Ni := some 98) (Nj := some 15) #[true, true, true, true, false, false, false, false, false, false, false] #[true, true, true, false, false, false, false, false, true, false, false] rfl rfl rfl rfl (by kernel_rfl) (by decide) (by decide) (fun K hK => ?_) (fun K hK => ?_)
      · skip
        refine goes_ Try.func22 (by kernel_rfl) rfl #[.agg #[.int .i64 (ap_0), .slice A_ap_1 ap_1.length c_ap_1]] (by rfl) rfl rfl (by (try simp only [List.map_toArray, List.map_cons, List.map_nil]); first | done | rfl | (simp only [List.length_drop, List.length_take]; rfl)) ?_
        refine (laws_toPlan.calls kt_aP ap_0 _ _ ap_1 ap_0 ap_1 _ (by repeat (first | exact (Kd.C_below HR_ap_1.out HB.out) | (with_reducible refine Kd.C_alloc ?_ _) | (with_reducible refine Kd.C_drewN ?_ _) | (with_reducible refine Kd.C_drew ?_))) HC_ap_1.out Hkt_aP.out).mono ?_
        rintro e w31_ ⟨v1_n31, rfl, ho0_, hb_⟩
        refine ⟨_, rfl, ?_⟩
        have hp_ : Below w30_.heap.size w30_ w31_ := below_step (by repeat (first | exact Below.refl _ _ | (with_reducible apply below_alloc) | (with_reducible apply pw_below_drewN) | (with_reducible apply below_drew1))) hb_
        obtain ⟨B51, H51, eB_, eH_, hi1_, hi2_, hi3_⟩ := spot (W0 := w30_) (by repeat (first | exact Below.refl _ _ | (with_reducible apply below_alloc) | (with_reducible apply pw_below_drewN) | (with_reducible apply below_drew1))) hb_
        have HZ51 := Aside0.mk (⟨hi1_, hi2_, hi3_, hp_.size⟩ : _ ∧ _ ∧ _ ∧ _)
        have N51_0 := Aside0.mk (Own.new (W0 := w30_) (b := w.heap.size) (by repeat (first | exact Below.refl _ _ | (with_reducible apply below_alloc) | (with_reducible apply pw_below_drewN) | (with_reducible apply below_drew1))) ho0_ hb_ HB.out.size _ _ eB_ eH_)
        clear eB_ eH_ hi1_ hi2_ hi3_ ho0_
        replace HZ := Aside0.mk (And.intro HZ.out HZ51.out)
        clear HZ51
        replace HB := Aside0.mk (more HB.out hp_)
        replace HBK := Aside0.mk (more HBK.out hp_)
        replace Vw0 := Aside0.mk (Vw0.out.step hp_)
        replace Vg0 := Aside0.mk (Vg0.out.step hp_)
        replace TaJ0_0 := Aside0.mk (TaJ0_0.out.step hp_)
        replace TaJ0_1 := Aside0.mk (TaJ0_1.out.step hp_)
        replace TaJ0_2 := Aside0.mk (TaJ0_2.out.step hp_)
        replace BK_aj := Aside0.mk (blk_below BK_aj.out hp_)
        replace BK_ap := Aside0.mk (blk_below BK_ap.out hp_)
        replace BK_w0 := Aside0.mk (blk_below BK_w0.out hp_)
        replace BK_x0 := Aside0.mk (blk_below BK_x0.out hp_)
        replace BK_x1 := Aside0.mk (blk_below BK_x1.out hp_)
        replace BK_g0 := Aside0.mk (blk_below BK_g0.out hp_)
        clear hb_ hp_
        have TaP1_0 := N51_0
        clear N51_0
        obtain ⟨ATaP1_0, cTaP1_0, rfl, hc_⟩ := TaP1_0.out.reads
        have HCTaP1_0 := Aside0.mk hc_
        clear hc_
        refine hK.out _ _ ⟨BK_aj.out, BK_ap.out, BK_w0.out, BK_x0.out, BK_x1.out, BK_g0.out⟩ (fun hHeld => ?_)
        clear hK K
        refine norm_ (a' := ?_) ?_ ?_
        rotate_left
        · show Act.put _ (some 98) _ = _
          simp only [Act.put, List.setIfInBounds_toArray, List.set_cons_zero, List.set_cons_succ, i64_w, i32_w]
          rfl
        refine two_ (i := 4) (j := 8) (Ni := some 99) (Nj := some 15) #[true, true, true, true, true, false, false, false, false, false, false] #[true, true, true, true, false, false, false, false, true, false, false] rfl rfl rfl rfl (by kernel_rfl) (by decide) (by decide) (fun K hK => ?_) (fun K hK => ?_)
        · skip
          refine goes_ Try.func42 (by kernel_rfl) rfl #[.agg #[.slice ATaJ0_0 aj_0.length cTaJ0_0, .slice ATaJ0_1 aj_1.length cTaJ0_1, .slice ATaJ0_2 aj_2.length cTaJ0_2, .int .i64 (aj_3), .int .i64 (aj_4), .int .i64 (aj_5), .int .i64 (aj_6), .int .i64 (aj_7)], .agg #[.int .i64 (ap_0), .slice ATaP1_0 ap_1.length cTaP1_0]] (by rfl) rfl rfl (by (try simp only [List.map_toArray, List.map_cons, List.map_nil]); first | done | rfl | (simp only [List.length_drop, List.length_take]; rfl)) ?_
          refine (impl_DelayBlocks.calls kei_ _ _ aj_0 _ _ aj_1 _ _ aj_2 aj_3 aj_4 aj_5 aj_6 aj_7 ap_0 _ _ ap_1 r1v r2v r3v _ (by repeat (first | exact TaJ0_0.out.C | (with_reducible refine Kd.C_alloc ?_ _) | (with_reducible refine Kd.C_drewN ?_ _) | (with_reducible refine Kd.C_drew ?_))) HCTaJ0_0.out (by repeat (first | exact TaJ0_1.out.C | (with_reducible refine Kd.C_alloc ?_ _) | (with_reducible refine Kd.C_drewN ?_ _) | (with_reducible refine Kd.C_drew ?_))) HCTaJ0_1.out (by repeat (first | exact TaJ0_2.out.C | (with_reducible refine Kd.C_alloc ?_ _) | (with_reducible refine Kd.C_drewN ?_ _) | (with_reducible refine Kd.C_drew ?_))) HCTaJ0_2.out (by repeat (first | exact TaP1_0.out.C | (with_reducible refine Kd.C_alloc ?_ _) | (with_reducible refine Kd.C_drewN ?_ _) | (with_reducible refine Kd.C_drew ?_))) HCTaP1_0.out HEI.out).mono ?_
          rintro e w32_ ⟨v1_n32, rfl, ho0_, hb_⟩
          refine ⟨_, rfl, ?_⟩
          have hp_ : Below w31_.heap.size w31_ w32_ := below_step (by repeat (first | exact Below.refl _ _ | (with_reducible apply below_alloc) | (with_reducible apply pw_below_drewN) | (with_reducible apply below_drew1))) hb_
          obtain ⟨B52, H52, eB_, eH_, hi1_, hi2_, hi3_⟩ := spot (W0 := w31_) (by repeat (first | exact Below.refl _ _ | (with_reducible apply below_alloc) | (with_reducible apply pw_below_drewN) | (with_reducible apply below_drew1))) hb_
          have HZ52 := Aside0.mk (⟨hi1_, hi2_, hi3_, hp_.size⟩ : _ ∧ _ ∧ _ ∧ _)
          have N52_0 := Aside0.mk (Own.new (W0 := w31_) (b := w.heap.size) (by repeat (first | exact Below.refl _ _ | (with_reducible apply below_alloc) | (with_reducible apply pw_below_drewN) | (with_reducible apply below_drew1))) ho0_ hb_ HB.out.size _ _ eB_ eH_)
          clear eB_ eH_ hi1_ hi2_ hi3_ ho0_
          replace HZ := Aside0.mk (And.intro HZ.out HZ52.out)
          clear HZ52
          replace HB := Aside0.mk (more HB.out hp_)
          replace HBK := Aside0.mk (more HBK.out hp_)
          replace Vw0 := Aside0.mk (Vw0.out.step hp_)
          replace Vg0 := Aside0.mk (Vg0.out.step hp_)
          replace TaJ0_0 := Aside0.mk (TaJ0_0.out.step hp_)
          replace TaJ0_1 := Aside0.mk (TaJ0_1.out.step hp_)
          replace TaJ0_2 := Aside0.mk (TaJ0_2.out.step hp_)
          replace TaP1_0 := Aside0.mk (TaP1_0.out.step hp_)
          replace BK_aj := Aside0.mk (blk_below BK_aj.out hp_)
          replace BK_ap := Aside0.mk (blk_below BK_ap.out hp_)
          replace BK_w0 := Aside0.mk (blk_below BK_w0.out hp_)
          replace BK_x0 := Aside0.mk (blk_below BK_x0.out hp_)
          replace BK_x1 := Aside0.mk (blk_below BK_x1.out hp_)
          replace BK_g0 := Aside0.mk (blk_below BK_g0.out hp_)
          clear hb_ hp_
          have Vh0 := N52_0
          clear N52_0
          obtain ⟨AVh0, cVh0, rfl, hc_⟩ := Vh0.out.reads
          have HCVh0 := Aside0.mk hc_
          clear hc_
          refine hK.out _ _ ⟨BK_aj.out, BK_ap.out, BK_w0.out, BK_x0.out, BK_x1.out, BK_g0.out⟩ (fun hHeld => ?_)
          clear hK K
          refine norm_ (a' := ?_) ?_ ?_
          rotate_left
          · show Act.put _ (some 99) _ = _
            simp only [Act.put, List.setIfInBounds_toArray, List.set_cons_zero, List.set_cons_succ, i64_w, i32_w]
            rfl
          refine pure_ (i := 5) (N := some 94) (v := ?_) (a' := ?_) #[true, true, true, true, true, true, false, false, false, false, false] rfl rfl (by kernel_rfl) (fun _ _ _ h => h) (Or.inl ⟨by rfl, ?_⟩) ?_ ?_
          rotate_left
          · intro w'
            go_simp
            with_reducible rfl
          rotate_left
          · simp only [Act.put, List.setIfInBounds_toArray, List.set_cons_zero, List.set_cons_succ, i64_w, i32_w]
            rfl
          refine pure_ (i := 6) (N := some 100) (v := ?_) (a' := ?_) #[true, true, true, true, true, true, true, false, false, false, false] rfl rfl (by kernel_rfl) (fun _ _ _ h => h) (Or.inl ⟨by rfl, ?_⟩) ?_ ?_
          rotate_left
          · intro w'
            go_simp
            with_reducible rfl
          rotate_left
          · simp only [Act.put, List.setIfInBounds_toArray, List.set_cons_zero, List.set_cons_succ, i64_w, i32_w]
            rfl
          refine pure_ (i := 7) (N := some 101) (v := ?_) (a' := ?_) #[true, true, true, true, true, true, true, true, false, false, false] rfl rfl (by kernel_rfl) (fun _ _ _ h => h) (Or.inl ⟨by rfl, ?_⟩) ?_ ?_
          rotate_left
          · intro w'
            go_simp
            with_reducible rfl
          rotate_left
          · simp only [Act.put, List.setIfInBounds_toArray, List.set_cons_zero, List.set_cons_succ, i64_w, i32_w]
            rfl
          refine one_ (i := 8) (N := some 15) #[true, true, true, true, true, true, true, true, true, false, false] rfl rfl (by kernel_rfl) (by decide) (fun K hK => ?_)
          refine alloc_ (cs := #[.int .i64 0, .slice none 0 0]) (t := 41) (by rfl) rfl ?hr ?_
          (case hr => first | (go_simp; done) | (go_simp; rfl))
          intro g_h0 hg_ w33_ hbox_ hb_
          have hp_ : Below w32_.heap.size w32_ w33_ := below_step (by repeat (first | exact Below.refl _ _ | (with_reducible apply below_alloc) | (with_reducible apply pw_below_drewN) | (with_reducible apply below_drew1))) hb_
          have hz_ : w32_.heap.size ≤ g_h0 := Nat.le_trans (below_size (by repeat (first | exact Below.refl _ _ | (with_reducible apply below_alloc) | (with_reducible apply pw_below_drewN) | (with_reducible apply below_drew1)))) (Nat.le_of_eq hg_.symm)
          have HZ53 := Aside0.mk (⟨hz_, blk_lt hbox_, hp_.size⟩ : _ ∧ _ ∧ _)
          replace HZ := Aside0.mk (And.intro HZ.out HZ53.out)
          clear HZ53
          have HGW_h0 := Aside0.mk (Nat.le_trans HB.out.size hz_ : w.heap.size ≤ g_h0)
          have hnb_h0_aj : g_h0 ≠ g_aj := Nat.ne_of_gt (Nat.lt_of_lt_of_le (blk_lt BK_aj.out) hz_)
          have hnb_aj_h0 : g_aj ≠ g_h0 := hnb_h0_aj.symm
          have hnb_h0_ap : g_h0 ≠ g_ap := Nat.ne_of_gt (Nat.lt_of_lt_of_le (blk_lt BK_ap.out) hz_)
          have hnb_ap_h0 : g_ap ≠ g_h0 := hnb_h0_ap.symm
          have hnb_h0_w0 : g_h0 ≠ g_w0 := Nat.ne_of_gt (Nat.lt_of_lt_of_le (blk_lt BK_w0.out) hz_)
          have hnb_w0_h0 : g_w0 ≠ g_h0 := hnb_h0_w0.symm
          have hnb_h0_x0 : g_h0 ≠ g_x0 := Nat.ne_of_gt (Nat.lt_of_lt_of_le (blk_lt BK_x0.out) hz_)
          have hnb_x0_h0 : g_x0 ≠ g_h0 := hnb_h0_x0.symm
          have hnb_h0_x1 : g_h0 ≠ g_x1 := Nat.ne_of_gt (Nat.lt_of_lt_of_le (blk_lt BK_x1.out) hz_)
          have hnb_x1_h0 : g_x1 ≠ g_h0 := hnb_h0_x1.symm
          have hnb_h0_g0 : g_h0 ≠ g_g0 := Nat.ne_of_gt (Nat.lt_of_lt_of_le (blk_lt BK_g0.out) hz_)
          have hnb_g0_h0 : g_g0 ≠ g_h0 := hnb_h0_g0.symm
          replace HBK := Aside0.mk (more HBK.out hp_)
          replace HB := Aside0.mk (more HB.out hp_)
          replace Vw0 := Aside0.mk (Vw0.out.step hp_)
          replace Vg0 := Aside0.mk (Vg0.out.step hp_)
          replace TaJ0_0 := Aside0.mk (TaJ0_0.out.step hp_)
          replace TaJ0_1 := Aside0.mk (TaJ0_1.out.step hp_)
          replace TaJ0_2 := Aside0.mk (TaJ0_2.out.step hp_)
          replace TaP1_0 := Aside0.mk (TaP1_0.out.step hp_)
          replace Vh0 := Aside0.mk (Vh0.out.step hp_)
          replace BK_aj := Aside0.mk (blk_below BK_aj.out hp_)
          replace BK_ap := Aside0.mk (blk_below BK_ap.out hp_)
          replace BK_w0 := Aside0.mk (blk_below BK_w0.out hp_)
          replace BK_x0 := Aside0.mk (blk_below BK_x0.out hp_)
          replace BK_x1 := Aside0.mk (blk_below BK_x1.out hp_)
          replace BK_g0 := Aside0.mk (blk_below BK_g0.out hp_)
          have BK_h0 := Aside0.mk hbox_
          clear hg_ hbox_ hb_ hp_ hz_
          refine hK.out _ _ ⟨BK_aj.out, BK_ap.out, BK_w0.out, BK_x0.out, BK_x1.out, BK_g0.out⟩ (fun hHeld => ?_)
          clear hK K
          refine norm_ (a' := ?_) ?_ ?_
          rotate_left
          · show Act.put _ (some 15) _ = _
            simp only [Act.put, List.setIfInBounds_toArray, List.set_cons_zero, List.set_cons_succ, i64_w, i32_w]
            rfl
          have hq_ := hJ_ (.agg #[.slice ATaJ0_0 aj_0.length cTaJ0_0, .slice ATaJ0_1 aj_1.length cTaJ0_1, .slice ATaJ0_2 aj_2.length cTaJ0_2, .int .i64 aj_3, .int .i64 aj_4, .int .i64 aj_5, .int .i64 aj_6, .int .i64 aj_7], .agg #[.int .i64 ap_0, .slice ATaP1_0 ap_1.length cTaP1_0], AVh0, cVh0, B52, H52, _, g_h0) w33_ ⟨HBK.out, Vh0.out, HCVh0.out, (by try dsimp only; have z_ := HZ.out; omega), (by try dsimp only; have z_ := HZ.out; omega), (by try dsimp only; have z_ := HZ.out; omega), (by try dsimp only; have z_ := HZ.out; omega), BK_h0.out, (by try dsimp only; have z_ := HZ.out; omega)⟩
          refine norm_ ?_ hq_
          simp only [putAll, Act.put, List.setIfInBounds_toArray, List.set_cons_zero, List.set_cons_succ] <;> rfl
        · skip
          refine alloc_ (cs := #[.int .i64 0, .slice none 0 0]) (t := 41) (by rfl) rfl ?hr ?_
          (case hr => first | (go_simp; done) | (go_simp; rfl))
          intro g_h0 hg_ w32_ hbox_ hb_
          have hp_ : Below w31_.heap.size w31_ w32_ := below_step (by repeat (first | exact Below.refl _ _ | (with_reducible apply below_alloc) | (with_reducible apply pw_below_drewN) | (with_reducible apply below_drew1))) hb_
          have hz_ : w31_.heap.size ≤ g_h0 := Nat.le_trans (below_size (by repeat (first | exact Below.refl _ _ | (with_reducible apply below_alloc) | (with_reducible apply pw_below_drewN) | (with_reducible apply below_drew1)))) (Nat.le_of_eq hg_.symm)
          have HZ54 := Aside0.mk (⟨hz_, blk_lt hbox_, hp_.size⟩ : _ ∧ _ ∧ _)
          replace HZ := Aside0.mk (And.intro HZ.out HZ54.out)
          clear HZ54
          have HGW_h0 := Aside0.mk (Nat.le_trans HB.out.size hz_ : w.heap.size ≤ g_h0)
          have hnb_h0_aj : g_h0 ≠ g_aj := Nat.ne_of_gt (Nat.lt_of_lt_of_le (blk_lt BK_aj.out) hz_)
          have hnb_aj_h0 : g_aj ≠ g_h0 := hnb_h0_aj.symm
          have hnb_h0_ap : g_h0 ≠ g_ap := Nat.ne_of_gt (Nat.lt_of_lt_of_le (blk_lt BK_ap.out) hz_)
          have hnb_ap_h0 : g_ap ≠ g_h0 := hnb_h0_ap.symm
          have hnb_h0_w0 : g_h0 ≠ g_w0 := Nat.ne_of_gt (Nat.lt_of_lt_of_le (blk_lt BK_w0.out) hz_)
          have hnb_w0_h0 : g_w0 ≠ g_h0 := hnb_h0_w0.symm
          have hnb_h0_x0 : g_h0 ≠ g_x0 := Nat.ne_of_gt (Nat.lt_of_lt_of_le (blk_lt BK_x0.out) hz_)
          have hnb_x0_h0 : g_x0 ≠ g_h0 := hnb_h0_x0.symm
          have hnb_h0_x1 : g_h0 ≠ g_x1 := Nat.ne_of_gt (Nat.lt_of_lt_of_le (blk_lt BK_x1.out) hz_)
          have hnb_x1_h0 : g_x1 ≠ g_h0 := hnb_h0_x1.symm
          have hnb_h0_g0 : g_h0 ≠ g_g0 := Nat.ne_of_gt (Nat.lt_of_lt_of_le (blk_lt BK_g0.out) hz_)
          have hnb_g0_h0 : g_g0 ≠ g_h0 := hnb_h0_g0.symm
          replace HBK := Aside0.mk (more HBK.out hp_)
          replace HB := Aside0.mk (more HB.out hp_)
          replace Vw0 := Aside0.mk (Vw0.out.step hp_)
          replace Vg0 := Aside0.mk (Vg0.out.step hp_)
          replace TaJ0_0 := Aside0.mk (TaJ0_0.out.step hp_)
          replace TaJ0_1 := Aside0.mk (TaJ0_1.out.step hp_)
          replace TaJ0_2 := Aside0.mk (TaJ0_2.out.step hp_)
          replace TaP1_0 := Aside0.mk (TaP1_0.out.step hp_)
          replace BK_aj := Aside0.mk (blk_below BK_aj.out hp_)
          replace BK_ap := Aside0.mk (blk_below BK_ap.out hp_)
          replace BK_w0 := Aside0.mk (blk_below BK_w0.out hp_)
          replace BK_x0 := Aside0.mk (blk_below BK_x0.out hp_)
          replace BK_x1 := Aside0.mk (blk_below BK_x1.out hp_)
          replace BK_g0 := Aside0.mk (blk_below BK_g0.out hp_)
          have BK_h0 := Aside0.mk hbox_
          clear hg_ hbox_ hb_ hp_ hz_
          refine hK.out _ _ ⟨BK_aj.out, BK_ap.out, BK_w0.out, BK_x0.out, BK_x1.out, BK_g0.out⟩ (fun hHeld => ?_)
          clear hK K
          refine norm_ (a' := ?_) ?_ ?_
          rotate_left
          · show Act.put _ (some 15) _ = _
            simp only [Act.put, List.setIfInBounds_toArray, List.set_cons_zero, List.set_cons_succ, i64_w, i32_w]
            rfl
          refine one_ (i := 4) (N := some 99) #[true, true, true, true, true, false, false, false, true, false, false] rfl rfl (by kernel_rfl) (by decide) (fun K hK => ?_)
          refine goes_ Try.func42 (by kernel_rfl) rfl #[.agg #[.slice ATaJ0_0 aj_0.length cTaJ0_0, .slice ATaJ0_1 aj_1.length cTaJ0_1, .slice ATaJ0_2 aj_2.length cTaJ0_2, .int .i64 (aj_3), .int .i64 (aj_4), .int .i64 (aj_5), .int .i64 (aj_6), .int .i64 (aj_7)], .agg #[.int .i64 (ap_0), .slice ATaP1_0 ap_1.length cTaP1_0]] (by rfl) rfl rfl (by (try simp only [List.map_toArray, List.map_cons, List.map_nil]); first | done | rfl | (simp only [List.length_drop, List.length_take]; rfl)) ?_
          refine (impl_DelayBlocks.calls kei_ _ _ aj_0 _ _ aj_1 _ _ aj_2 aj_3 aj_4 aj_5 aj_6 aj_7 ap_0 _ _ ap_1 r1v r2v r3v _ (by repeat (first | exact TaJ0_0.out.C | (with_reducible refine Kd.C_alloc ?_ _) | (with_reducible refine Kd.C_drewN ?_ _) | (with_reducible refine Kd.C_drew ?_))) HCTaJ0_0.out (by repeat (first | exact TaJ0_1.out.C | (with_reducible refine Kd.C_alloc ?_ _) | (with_reducible refine Kd.C_drewN ?_ _) | (with_reducible refine Kd.C_drew ?_))) HCTaJ0_1.out (by repeat (first | exact TaJ0_2.out.C | (with_reducible refine Kd.C_alloc ?_ _) | (with_reducible refine Kd.C_drewN ?_ _) | (with_reducible refine Kd.C_drew ?_))) HCTaJ0_2.out (by repeat (first | exact TaP1_0.out.C | (with_reducible refine Kd.C_alloc ?_ _) | (with_reducible refine Kd.C_drewN ?_ _) | (with_reducible refine Kd.C_drew ?_))) HCTaP1_0.out HEI.out).mono ?_
          rintro e w33_ ⟨v1_n33, rfl, ho0_, hb_⟩
          refine ⟨_, rfl, ?_⟩
          have hp_ : Below w32_.heap.size w32_ w33_ := below_step (by repeat (first | exact Below.refl _ _ | (with_reducible apply below_alloc) | (with_reducible apply pw_below_drewN) | (with_reducible apply below_drew1))) hb_
          obtain ⟨B55, H55, eB_, eH_, hi1_, hi2_, hi3_⟩ := spot (W0 := w32_) (by repeat (first | exact Below.refl _ _ | (with_reducible apply below_alloc) | (with_reducible apply pw_below_drewN) | (with_reducible apply below_drew1))) hb_
          have HZ55 := Aside0.mk (⟨hi1_, hi2_, hi3_, hp_.size⟩ : _ ∧ _ ∧ _ ∧ _)
          have N55_0 := Aside0.mk (Own.new (W0 := w32_) (b := w.heap.size) (by repeat (first | exact Below.refl _ _ | (with_reducible apply below_alloc) | (with_reducible apply pw_below_drewN) | (with_reducible apply below_drew1))) ho0_ hb_ HB.out.size _ _ eB_ eH_)
          clear eB_ eH_ hi1_ hi2_ hi3_ ho0_
          replace HZ := Aside0.mk (And.intro HZ.out HZ55.out)
          clear HZ55
          replace HB := Aside0.mk (more HB.out hp_)
          replace HBK := Aside0.mk (more HBK.out hp_)
          replace Vw0 := Aside0.mk (Vw0.out.step hp_)
          replace Vg0 := Aside0.mk (Vg0.out.step hp_)
          replace TaJ0_0 := Aside0.mk (TaJ0_0.out.step hp_)
          replace TaJ0_1 := Aside0.mk (TaJ0_1.out.step hp_)
          replace TaJ0_2 := Aside0.mk (TaJ0_2.out.step hp_)
          replace TaP1_0 := Aside0.mk (TaP1_0.out.step hp_)
          replace BK_aj := Aside0.mk (blk_below BK_aj.out hp_)
          replace BK_ap := Aside0.mk (blk_below BK_ap.out hp_)
          replace BK_w0 := Aside0.mk (blk_below BK_w0.out hp_)
          replace BK_x0 := Aside0.mk (blk_below BK_x0.out hp_)
          replace BK_x1 := Aside0.mk (blk_below BK_x1.out hp_)
          replace BK_g0 := Aside0.mk (blk_below BK_g0.out hp_)
          replace BK_h0 := Aside0.mk (blk_below BK_h0.out hp_)
          clear hb_ hp_
          have Vh0 := N55_0
          clear N55_0
          obtain ⟨AVh0, cVh0, rfl, hc_⟩ := Vh0.out.reads
          have HCVh0 := Aside0.mk hc_
          clear hc_
          refine hK.out _ _ ⟨BK_aj.out, BK_ap.out, BK_w0.out, BK_x0.out, BK_x1.out, BK_g0.out⟩ (fun hHeld => ?_)
          clear hK K
          refine norm_ (a' := ?_) ?_ ?_
          rotate_left
          · show Act.put _ (some 99) _ = _
            simp only [Act.put, List.setIfInBounds_toArray, List.set_cons_zero, List.set_cons_succ, i64_w, i32_w]
            rfl
          refine pure_ (i := 5) (N := some 94) (v := ?_) (a' := ?_) #[true, true, true, true, true, true, false, false, true, false, false] rfl rfl (by kernel_rfl) (fun _ _ _ h => h) (Or.inl ⟨by rfl, ?_⟩) ?_ ?_
          rotate_left
          · intro w'
            go_simp
            with_reducible rfl
          rotate_left
          · simp only [Act.put, List.setIfInBounds_toArray, List.set_cons_zero, List.set_cons_succ, i64_w, i32_w]
            rfl
          refine pure_ (i := 6) (N := some 100) (v := ?_) (a' := ?_) #[true, true, true, true, true, true, true, false, true, false, false] rfl rfl (by kernel_rfl) (fun _ _ _ h => h) (Or.inl ⟨by rfl, ?_⟩) ?_ ?_
          rotate_left
          · intro w'
            go_simp
            with_reducible rfl
          rotate_left
          · simp only [Act.put, List.setIfInBounds_toArray, List.set_cons_zero, List.set_cons_succ, i64_w, i32_w]
            rfl
          refine pure_ (i := 7) (N := some 101) (v := ?_) (a' := ?_) #[true, true, true, true, true, true, true, true, true, false, false] rfl rfl (by kernel_rfl) (fun _ _ _ h => h) (Or.inl ⟨by rfl, ?_⟩) ?_ ?_
          rotate_left
          · intro w'
            go_simp
            with_reducible rfl
          rotate_left
          · simp only [Act.put, List.setIfInBounds_toArray, List.set_cons_zero, List.set_cons_succ, i64_w, i32_w]
            rfl
          have hq_ := hJ_ (.agg #[.slice ATaJ0_0 aj_0.length cTaJ0_0, .slice ATaJ0_1 aj_1.length cTaJ0_1, .slice ATaJ0_2 aj_2.length cTaJ0_2, .int .i64 aj_3, .int .i64 aj_4, .int .i64 aj_5, .int .i64 aj_6, .int .i64 aj_7], .agg #[.int .i64 ap_0, .slice ATaP1_0 ap_1.length cTaP1_0], AVh0, cVh0, B55, H55, _, g_h0) w33_ ⟨HBK.out, Vh0.out, HCVh0.out, (by try dsimp only; have z_ := HZ.out; omega), (by try dsimp only; have z_ := HZ.out; omega), (by try dsimp only; have z_ := HZ.out; omega), (by try dsimp only; have z_ := HZ.out; omega), BK_h0.out, (by try dsimp only; have z_ := HZ.out; omega)⟩
          refine norm_ ?_ hq_
          simp only [putAll, Act.put, List.setIfInBounds_toArray, List.set_cons_zero, List.set_cons_succ] <;> rfl
      · skip
        refine alloc_ (cs := #[.int .i64 0, .slice none 0 0]) (t := 41) (by rfl) rfl ?hr ?_
        (case hr => first | (go_simp; done) | (go_simp; rfl))
        intro g_h0 hg_ w31_ hbox_ hb_
        have hp_ : Below w30_.heap.size w30_ w31_ := below_step (by repeat (first | exact Below.refl _ _ | (with_reducible apply below_alloc) | (with_reducible apply pw_below_drewN) | (with_reducible apply below_drew1))) hb_
        have hz_ : w30_.heap.size ≤ g_h0 := Nat.le_trans (below_size (by repeat (first | exact Below.refl _ _ | (with_reducible apply below_alloc) | (with_reducible apply pw_below_drewN) | (with_reducible apply below_drew1)))) (Nat.le_of_eq hg_.symm)
        have HZ56 := Aside0.mk (⟨hz_, blk_lt hbox_, hp_.size⟩ : _ ∧ _ ∧ _)
        replace HZ := Aside0.mk (And.intro HZ.out HZ56.out)
        clear HZ56
        have HGW_h0 := Aside0.mk (Nat.le_trans HB.out.size hz_ : w.heap.size ≤ g_h0)
        have hnb_h0_aj : g_h0 ≠ g_aj := Nat.ne_of_gt (Nat.lt_of_lt_of_le (blk_lt BK_aj.out) hz_)
        have hnb_aj_h0 : g_aj ≠ g_h0 := hnb_h0_aj.symm
        have hnb_h0_ap : g_h0 ≠ g_ap := Nat.ne_of_gt (Nat.lt_of_lt_of_le (blk_lt BK_ap.out) hz_)
        have hnb_ap_h0 : g_ap ≠ g_h0 := hnb_h0_ap.symm
        have hnb_h0_w0 : g_h0 ≠ g_w0 := Nat.ne_of_gt (Nat.lt_of_lt_of_le (blk_lt BK_w0.out) hz_)
        have hnb_w0_h0 : g_w0 ≠ g_h0 := hnb_h0_w0.symm
        have hnb_h0_x0 : g_h0 ≠ g_x0 := Nat.ne_of_gt (Nat.lt_of_lt_of_le (blk_lt BK_x0.out) hz_)
        have hnb_x0_h0 : g_x0 ≠ g_h0 := hnb_h0_x0.symm
        have hnb_h0_x1 : g_h0 ≠ g_x1 := Nat.ne_of_gt (Nat.lt_of_lt_of_le (blk_lt BK_x1.out) hz_)
        have hnb_x1_h0 : g_x1 ≠ g_h0 := hnb_h0_x1.symm
        have hnb_h0_g0 : g_h0 ≠ g_g0 := Nat.ne_of_gt (Nat.lt_of_lt_of_le (blk_lt BK_g0.out) hz_)
        have hnb_g0_h0 : g_g0 ≠ g_h0 := hnb_h0_g0.symm
        replace HBK := Aside0.mk (more HBK.out hp_)
        replace HB := Aside0.mk (more HB.out hp_)
        replace Vw0 := Aside0.mk (Vw0.out.step hp_)
        replace Vg0 := Aside0.mk (Vg0.out.step hp_)
        replace TaJ0_0 := Aside0.mk (TaJ0_0.out.step hp_)
        replace TaJ0_1 := Aside0.mk (TaJ0_1.out.step hp_)
        replace TaJ0_2 := Aside0.mk (TaJ0_2.out.step hp_)
        replace BK_aj := Aside0.mk (blk_below BK_aj.out hp_)
        replace BK_ap := Aside0.mk (blk_below BK_ap.out hp_)
        replace BK_w0 := Aside0.mk (blk_below BK_w0.out hp_)
        replace BK_x0 := Aside0.mk (blk_below BK_x0.out hp_)
        replace BK_x1 := Aside0.mk (blk_below BK_x1.out hp_)
        replace BK_g0 := Aside0.mk (blk_below BK_g0.out hp_)
        have BK_h0 := Aside0.mk hbox_
        clear hg_ hbox_ hb_ hp_ hz_
        refine hK.out _ _ ⟨BK_aj.out, BK_ap.out, BK_w0.out, BK_x0.out, BK_x1.out, BK_g0.out⟩ (fun hHeld => ?_)
        clear hK K
        refine norm_ (a' := ?_) ?_ ?_
        rotate_left
        · show Act.put _ (some 15) _ = _
          simp only [Act.put, List.setIfInBounds_toArray, List.set_cons_zero, List.set_cons_succ, i64_w, i32_w]
          rfl
        refine one_ (i := 3) (N := some 98) #[true, true, true, true, false, false, false, false, true, false, false] rfl rfl (by kernel_rfl) (by decide) (fun K hK => ?_)
        refine goes_ Try.func22 (by kernel_rfl) rfl #[.agg #[.int .i64 (ap_0), .slice A_ap_1 ap_1.length c_ap_1]] (by rfl) rfl rfl (by (try simp only [List.map_toArray, List.map_cons, List.map_nil]); first | done | rfl | (simp only [List.length_drop, List.length_take]; rfl)) ?_
        refine (laws_toPlan.calls kt_aP ap_0 _ _ ap_1 ap_0 ap_1 _ (by repeat (first | exact (Kd.C_below HR_ap_1.out HB.out) | (with_reducible refine Kd.C_alloc ?_ _) | (with_reducible refine Kd.C_drewN ?_ _) | (with_reducible refine Kd.C_drew ?_))) HC_ap_1.out Hkt_aP.out).mono ?_
        rintro e w32_ ⟨v1_n32, rfl, ho0_, hb_⟩
        refine ⟨_, rfl, ?_⟩
        have hp_ : Below w31_.heap.size w31_ w32_ := below_step (by repeat (first | exact Below.refl _ _ | (with_reducible apply below_alloc) | (with_reducible apply pw_below_drewN) | (with_reducible apply below_drew1))) hb_
        obtain ⟨B57, H57, eB_, eH_, hi1_, hi2_, hi3_⟩ := spot (W0 := w31_) (by repeat (first | exact Below.refl _ _ | (with_reducible apply below_alloc) | (with_reducible apply pw_below_drewN) | (with_reducible apply below_drew1))) hb_
        have HZ57 := Aside0.mk (⟨hi1_, hi2_, hi3_, hp_.size⟩ : _ ∧ _ ∧ _ ∧ _)
        have N57_0 := Aside0.mk (Own.new (W0 := w31_) (b := w.heap.size) (by repeat (first | exact Below.refl _ _ | (with_reducible apply below_alloc) | (with_reducible apply pw_below_drewN) | (with_reducible apply below_drew1))) ho0_ hb_ HB.out.size _ _ eB_ eH_)
        clear eB_ eH_ hi1_ hi2_ hi3_ ho0_
        replace HZ := Aside0.mk (And.intro HZ.out HZ57.out)
        clear HZ57
        replace HB := Aside0.mk (more HB.out hp_)
        replace HBK := Aside0.mk (more HBK.out hp_)
        replace Vw0 := Aside0.mk (Vw0.out.step hp_)
        replace Vg0 := Aside0.mk (Vg0.out.step hp_)
        replace TaJ0_0 := Aside0.mk (TaJ0_0.out.step hp_)
        replace TaJ0_1 := Aside0.mk (TaJ0_1.out.step hp_)
        replace TaJ0_2 := Aside0.mk (TaJ0_2.out.step hp_)
        replace BK_aj := Aside0.mk (blk_below BK_aj.out hp_)
        replace BK_ap := Aside0.mk (blk_below BK_ap.out hp_)
        replace BK_w0 := Aside0.mk (blk_below BK_w0.out hp_)
        replace BK_x0 := Aside0.mk (blk_below BK_x0.out hp_)
        replace BK_x1 := Aside0.mk (blk_below BK_x1.out hp_)
        replace BK_g0 := Aside0.mk (blk_below BK_g0.out hp_)
        replace BK_h0 := Aside0.mk (blk_below BK_h0.out hp_)
        clear hb_ hp_
        have TaP1_0 := N57_0
        clear N57_0
        obtain ⟨ATaP1_0, cTaP1_0, rfl, hc_⟩ := TaP1_0.out.reads
        have HCTaP1_0 := Aside0.mk hc_
        clear hc_
        refine hK.out _ _ ⟨BK_aj.out, BK_ap.out, BK_w0.out, BK_x0.out, BK_x1.out, BK_g0.out⟩ (fun hHeld => ?_)
        clear hK K
        refine norm_ (a' := ?_) ?_ ?_
        rotate_left
        · show Act.put _ (some 98) _ = _
          simp only [Act.put, List.setIfInBounds_toArray, List.set_cons_zero, List.set_cons_succ, i64_w, i32_w]
          rfl
        refine one_ (i := 4) (N := some 99) #[true, true, true, true, true, false, false, false, true, false, false] rfl rfl (by kernel_rfl) (by decide) (fun K hK => ?_)
        refine goes_ Try.func42 (by kernel_rfl) rfl #[.agg #[.slice ATaJ0_0 aj_0.length cTaJ0_0, .slice ATaJ0_1 aj_1.length cTaJ0_1, .slice ATaJ0_2 aj_2.length cTaJ0_2, .int .i64 (aj_3), .int .i64 (aj_4), .int .i64 (aj_5), .int .i64 (aj_6), .int .i64 (aj_7)], .agg #[.int .i64 (ap_0), .slice ATaP1_0 ap_1.length cTaP1_0]] (by rfl) rfl rfl (by (try simp only [List.map_toArray, List.map_cons, List.map_nil]); first | done | rfl | (simp only [List.length_drop, List.length_take]; rfl)) ?_
        refine (impl_DelayBlocks.calls kei_ _ _ aj_0 _ _ aj_1 _ _ aj_2 aj_3 aj_4 aj_5 aj_6 aj_7 ap_0 _ _ ap_1 r1v r2v r3v _ (by repeat (first | exact TaJ0_0.out.C | (with_reducible refine Kd.C_alloc ?_ _) | (with_reducible refine Kd.C_drewN ?_ _) | (with_reducible refine Kd.C_drew ?_))) HCTaJ0_0.out (by repeat (first | exact TaJ0_1.out.C | (with_reducible refine Kd.C_alloc ?_ _) | (with_reducible refine Kd.C_drewN ?_ _) | (with_reducible refine Kd.C_drew ?_))) HCTaJ0_1.out (by repeat (first | exact TaJ0_2.out.C | (with_reducible refine Kd.C_alloc ?_ _) | (with_reducible refine Kd.C_drewN ?_ _) | (with_reducible refine Kd.C_drew ?_))) HCTaJ0_2.out (by repeat (first | exact TaP1_0.out.C | (with_reducible refine Kd.C_alloc ?_ _) | (with_reducible refine Kd.C_drewN ?_ _) | (with_reducible refine Kd.C_drew ?_))) HCTaP1_0.out HEI.out).mono ?_
        rintro e w33_ ⟨v1_n33, rfl, ho0_, hb_⟩
        refine ⟨_, rfl, ?_⟩
        have hp_ : Below w32_.heap.size w32_ w33_ := below_step (by repeat (first | exact Below.refl _ _ | (with_reducible apply below_alloc) | (with_reducible apply pw_below_drewN) | (with_reducible apply below_drew1))) hb_
        obtain ⟨B58, H58, eB_, eH_, hi1_, hi2_, hi3_⟩ := spot (W0 := w32_) (by repeat (first | exact Below.refl _ _ | (with_reducible apply below_alloc) | (with_reducible apply pw_below_drewN) | (with_reducible apply below_drew1))) hb_
        have HZ58 := Aside0.mk (⟨hi1_, hi2_, hi3_, hp_.size⟩ : _ ∧ _ ∧ _ ∧ _)
        have N58_0 := Aside0.mk (Own.new (W0 := w32_) (b := w.heap.size) (by repeat (first | exact Below.refl _ _ | (with_reducible apply below_alloc) | (with_reducible apply pw_below_drewN) | (with_reducible apply below_drew1))) ho0_ hb_ HB.out.size _ _ eB_ eH_)
        clear eB_ eH_ hi1_ hi2_ hi3_ ho0_
        replace HZ := Aside0.mk (And.intro HZ.out HZ58.out)
        clear HZ58
        replace HB := Aside0.mk (more HB.out hp_)
        replace HBK := Aside0.mk (more HBK.out hp_)
        replace Vw0 := Aside0.mk (Vw0.out.step hp_)
        replace Vg0 := Aside0.mk (Vg0.out.step hp_)
        replace TaJ0_0 := Aside0.mk (TaJ0_0.out.step hp_)
        replace TaJ0_1 := Aside0.mk (TaJ0_1.out.step hp_)
        replace TaJ0_2 := Aside0.mk (TaJ0_2.out.step hp_)
        replace TaP1_0 := Aside0.mk (TaP1_0.out.step hp_)
        replace BK_aj := Aside0.mk (blk_below BK_aj.out hp_)
        replace BK_ap := Aside0.mk (blk_below BK_ap.out hp_)
        replace BK_w0 := Aside0.mk (blk_below BK_w0.out hp_)
        replace BK_x0 := Aside0.mk (blk_below BK_x0.out hp_)
        replace BK_x1 := Aside0.mk (blk_below BK_x1.out hp_)
        replace BK_g0 := Aside0.mk (blk_below BK_g0.out hp_)
        replace BK_h0 := Aside0.mk (blk_below BK_h0.out hp_)
        clear hb_ hp_
        have Vh0 := N58_0
        clear N58_0
        obtain ⟨AVh0, cVh0, rfl, hc_⟩ := Vh0.out.reads
        have HCVh0 := Aside0.mk hc_
        clear hc_
        refine hK.out _ _ ⟨BK_aj.out, BK_ap.out, BK_w0.out, BK_x0.out, BK_x1.out, BK_g0.out⟩ (fun hHeld => ?_)
        clear hK K
        refine norm_ (a' := ?_) ?_ ?_
        rotate_left
        · show Act.put _ (some 99) _ = _
          simp only [Act.put, List.setIfInBounds_toArray, List.set_cons_zero, List.set_cons_succ, i64_w, i32_w]
          rfl
        refine pure_ (i := 5) (N := some 94) (v := ?_) (a' := ?_) #[true, true, true, true, true, true, false, false, true, false, false] rfl rfl (by kernel_rfl) (fun _ _ _ h => h) (Or.inl ⟨by rfl, ?_⟩) ?_ ?_
        rotate_left
        · intro w'
          go_simp
          with_reducible rfl
        rotate_left
        · simp only [Act.put, List.setIfInBounds_toArray, List.set_cons_zero, List.set_cons_succ, i64_w, i32_w]
          rfl
        refine pure_ (i := 6) (N := some 100) (v := ?_) (a' := ?_) #[true, true, true, true, true, true, true, false, true, false, false] rfl rfl (by kernel_rfl) (fun _ _ _ h => h) (Or.inl ⟨by rfl, ?_⟩) ?_ ?_
        rotate_left
        · intro w'
          go_simp
          with_reducible rfl
        rotate_left
        · simp only [Act.put, List.setIfInBounds_toArray, List.set_cons_zero, List.set_cons_succ, i64_w, i32_w]
          rfl
        refine pure_ (i := 7) (N := some 101) (v := ?_) (a' := ?_) #[true, true, true, true, true, true, true, true, true, false, false] rfl rfl (by kernel_rfl) (fun _ _ _ h => h) (Or.inl ⟨by rfl, ?_⟩) ?_ ?_
        rotate_left
        · intro w'
          go_simp
          with_reducible rfl
        rotate_left
        · simp only [Act.put, List.setIfInBounds_toArray, List.set_cons_zero, List.set_cons_succ, i64_w, i32_w]
          rfl
        have hq_ := hJ_ (.agg #[.slice ATaJ0_0 aj_0.length cTaJ0_0, .slice ATaJ0_1 aj_1.length cTaJ0_1, .slice ATaJ0_2 aj_2.length cTaJ0_2, .int .i64 aj_3, .int .i64 aj_4, .int .i64 aj_5, .int .i64 aj_6, .int .i64 aj_7], .agg #[.int .i64 ap_0, .slice ATaP1_0 ap_1.length cTaP1_0], AVh0, cVh0, B58, H58, _, g_h0) w33_ ⟨HBK.out, Vh0.out, HCVh0.out, (by try dsimp only; have z_ := HZ.out; omega), (by try dsimp only; have z_ := HZ.out; omega), (by try dsimp only; have z_ := HZ.out; omega), (by try dsimp only; have z_ := HZ.out; omega), BK_h0.out, (by try dsimp only; have z_ := HZ.out; omega)⟩
        refine norm_ ?_ hq_
        simp only [putAll, Act.put, List.setIfInBounds_toArray, List.set_cons_zero, List.set_cons_succ] <;> rfl
    · skip
      refine alloc_ (cs := #[.int .i64 0, .slice none 0 0]) (t := 41) (by rfl) rfl ?hr ?_
      (case hr => first | (go_simp; done) | (go_simp; rfl))
      intro g_h0 hg_ w30_ hbox_ hb_
      have hp_ : Below w29_.heap.size w29_ w30_ := below_step (by repeat (first | exact Below.refl _ _ | (with_reducible apply below_alloc) | (with_reducible apply pw_below_drewN) | (with_reducible apply below_drew1))) hb_
      have hz_ : w29_.heap.size ≤ g_h0 := Nat.le_trans (below_size (by repeat (first | exact Below.refl _ _ | (with_reducible apply below_alloc) | (with_reducible apply pw_below_drewN) | (with_reducible apply below_drew1)))) (Nat.le_of_eq hg_.symm)
      have HZ59 := Aside0.mk (⟨hz_, blk_lt hbox_, hp_.size⟩ : _ ∧ _ ∧ _)
      replace HZ := Aside0.mk (And.intro HZ.out HZ59.out)
      clear HZ59
      have HGW_h0 := Aside0.mk (Nat.le_trans HB.out.size hz_ : w.heap.size ≤ g_h0)
      have hnb_h0_aj : g_h0 ≠ g_aj := Nat.ne_of_gt (Nat.lt_of_lt_of_le (blk_lt BK_aj.out) hz_)
      have hnb_aj_h0 : g_aj ≠ g_h0 := hnb_h0_aj.symm
      have hnb_h0_ap : g_h0 ≠ g_ap := Nat.ne_of_gt (Nat.lt_of_lt_of_le (blk_lt BK_ap.out) hz_)
      have hnb_ap_h0 : g_ap ≠ g_h0 := hnb_h0_ap.symm
      have hnb_h0_w0 : g_h0 ≠ g_w0 := Nat.ne_of_gt (Nat.lt_of_lt_of_le (blk_lt BK_w0.out) hz_)
      have hnb_w0_h0 : g_w0 ≠ g_h0 := hnb_h0_w0.symm
      have hnb_h0_x0 : g_h0 ≠ g_x0 := Nat.ne_of_gt (Nat.lt_of_lt_of_le (blk_lt BK_x0.out) hz_)
      have hnb_x0_h0 : g_x0 ≠ g_h0 := hnb_h0_x0.symm
      have hnb_h0_x1 : g_h0 ≠ g_x1 := Nat.ne_of_gt (Nat.lt_of_lt_of_le (blk_lt BK_x1.out) hz_)
      have hnb_x1_h0 : g_x1 ≠ g_h0 := hnb_h0_x1.symm
      have hnb_h0_g0 : g_h0 ≠ g_g0 := Nat.ne_of_gt (Nat.lt_of_lt_of_le (blk_lt BK_g0.out) hz_)
      have hnb_g0_h0 : g_g0 ≠ g_h0 := hnb_h0_g0.symm
      replace HBK := Aside0.mk (more HBK.out hp_)
      replace HB := Aside0.mk (more HB.out hp_)
      replace Vw0 := Aside0.mk (Vw0.out.step hp_)
      replace Vg0 := Aside0.mk (Vg0.out.step hp_)
      replace BK_aj := Aside0.mk (blk_below BK_aj.out hp_)
      replace BK_ap := Aside0.mk (blk_below BK_ap.out hp_)
      replace BK_w0 := Aside0.mk (blk_below BK_w0.out hp_)
      replace BK_x0 := Aside0.mk (blk_below BK_x0.out hp_)
      replace BK_x1 := Aside0.mk (blk_below BK_x1.out hp_)
      replace BK_g0 := Aside0.mk (blk_below BK_g0.out hp_)
      have BK_h0 := Aside0.mk hbox_
      clear hg_ hbox_ hb_ hp_ hz_
      refine hK.out _ _ ⟨BK_aj.out, BK_ap.out, BK_w0.out, BK_x0.out, BK_x1.out, BK_g0.out⟩ (fun hHeld => ?_)
      clear hK K
      refine norm_ (a' := ?_) ?_ ?_
      rotate_left
      · show Act.put _ (some 15) _ = _
        simp only [Act.put, List.setIfInBounds_toArray, List.set_cons_zero, List.set_cons_succ, i64_w, i32_w]
        rfl
      refine one_ (i := 1) (N := some 96) #[true, true, true, false, false, false, false, false, true, false, false] rfl rfl (by kernel_rfl) (by decide) (fun K hK => ?_)
      refine goes_ Try.func17 (by kernel_rfl) rfl #[.agg #[.slice A_aj_0 aj_0.length c_aj_0, .slice A_aj_1 aj_1.length c_aj_1, .slice A_aj_2 aj_2.length c_aj_2, .int .i64 (aj_3), .int .i64 (aj_4), .int .i64 (aj_5), .int .i64 (aj_6), .int .i64 (aj_7)]] (by rfl) rfl rfl (by (try simp only [List.map_toArray, List.map_cons, List.map_nil]); first | done | rfl | (simp only [List.length_drop, List.length_take]; rfl)) ?_
      refine (laws_toJob.calls kt_aJ _ _ aj_0 _ _ aj_1 _ _ aj_2 aj_3 aj_4 aj_5 aj_6 aj_7 aj_0 aj_1 aj_2 aj_3 aj_4 aj_5 aj_6 aj_7 _ (by repeat (first | exact (Kd.C_below HR_aj_0.out HB.out) | (with_reducible refine Kd.C_alloc ?_ _) | (with_reducible refine Kd.C_drewN ?_ _) | (with_reducible refine Kd.C_drew ?_))) HC_aj_0.out (by repeat (first | exact (Kd.C_below HR_aj_1.out HB.out) | (with_reducible refine Kd.C_alloc ?_ _) | (with_reducible refine Kd.C_drewN ?_ _) | (with_reducible refine Kd.C_drew ?_))) HC_aj_1.out (by repeat (first | exact (Kd.C_below HR_aj_2.out HB.out) | (with_reducible refine Kd.C_alloc ?_ _) | (with_reducible refine Kd.C_drewN ?_ _) | (with_reducible refine Kd.C_drew ?_))) HC_aj_2.out Hkt_aJ.out).mono ?_
      rintro e w31_ ⟨v0_n31, v1_n31, v2_n31, rfl, ho0_, ho1_, ho2_, hb_⟩
      refine ⟨_, rfl, ?_⟩
      have hp_ : Below w30_.heap.size w30_ w31_ := below_step (by repeat (first | exact Below.refl _ _ | (with_reducible apply below_alloc) | (with_reducible apply pw_below_drewN) | (with_reducible apply below_drew1))) hb_
      obtain ⟨B60, H60, eB_, eH_, hi1_, hi2_, hi3_⟩ := spot (W0 := w30_) (by repeat (first | exact Below.refl _ _ | (with_reducible apply below_alloc) | (with_reducible apply pw_below_drewN) | (with_reducible apply below_drew1))) hb_
      have HZ60 := Aside0.mk (⟨hi1_, hi2_, hi3_, hp_.size⟩ : _ ∧ _ ∧ _ ∧ _)
      have N60_0 := Aside0.mk (OwnS.new (W0 := w30_) (b := w.heap.size) (by repeat (first | exact Below.refl _ _ | (with_reducible apply below_alloc) | (with_reducible apply pw_below_drewN) | (with_reducible apply below_drew1))) ho0_ hb_ HB.out.size _ _ eB_ eH_)
      have N60_1 := Aside0.mk (Own.new (W0 := w30_) (b := w.heap.size) (by repeat (first | exact Below.refl _ _ | (with_reducible apply below_alloc) | (with_reducible apply pw_below_drewN) | (with_reducible apply below_drew1))) (tightRow rfl ho1_) hb_ HB.out.size _ _ eB_ eH_)
      have N60_2 := Aside0.mk (Own.new (W0 := w30_) (b := w.heap.size) (by repeat (first | exact Below.refl _ _ | (with_reducible apply below_alloc) | (with_reducible apply pw_below_drewN) | (with_reducible apply below_drew1))) (tightRow rfl ho2_) hb_ HB.out.size _ _ eB_ eH_)
      clear eB_ eH_ hi1_ hi2_ hi3_ ho0_ ho1_ ho2_
      replace HZ := Aside0.mk (And.intro HZ.out HZ60.out)
      clear HZ60
      replace HB := Aside0.mk (more HB.out hp_)
      replace HBK := Aside0.mk (more HBK.out hp_)
      replace Vw0 := Aside0.mk (Vw0.out.step hp_)
      replace Vg0 := Aside0.mk (Vg0.out.step hp_)
      replace BK_aj := Aside0.mk (blk_below BK_aj.out hp_)
      replace BK_ap := Aside0.mk (blk_below BK_ap.out hp_)
      replace BK_w0 := Aside0.mk (blk_below BK_w0.out hp_)
      replace BK_x0 := Aside0.mk (blk_below BK_x0.out hp_)
      replace BK_x1 := Aside0.mk (blk_below BK_x1.out hp_)
      replace BK_g0 := Aside0.mk (blk_below BK_g0.out hp_)
      replace BK_h0 := Aside0.mk (blk_below BK_h0.out hp_)
      clear hb_ hp_
      have TaJ0_0 := N60_0
      clear N60_0
      obtain ⟨ATaJ0_0, cTaJ0_0, rfl, hc_⟩ := TaJ0_0.out.reads
      have HCTaJ0_0 := Aside0.mk hc_
      clear hc_
      have TaJ0_1 := N60_1
      clear N60_1
      obtain ⟨ATaJ0_1, cTaJ0_1, rfl, hc_⟩ := TaJ0_1.out.reads
      have HCTaJ0_1 := Aside0.mk hc_
      clear hc_
      have TaJ0_2 := N60_2
      clear N60_2
      obtain ⟨ATaJ0_2, cTaJ0_2, rfl, hc_⟩ := TaJ0_2.out.reads
      have HCTaJ0_2 := Aside0.mk hc_
      clear hc_
      refine hK.out _ _ ⟨BK_aj.out, BK_ap.out, BK_w0.out, BK_x0.out, BK_x1.out, BK_g0.out⟩ (fun hHeld => ?_)
      clear hK K
      refine norm_ (a' := ?_) ?_ ?_
      rotate_left
      · show Act.put _ (some 96) _ = _
        simp only [Act.put, List.setIfInBounds_toArray, List.set_cons_zero, List.set_cons_succ, i64_w, i32_w]
        rfl
      refine one_ (i := 3) (N := some 98) #[true, true, true, true, false, false, false, false, true, false, false] rfl rfl (by kernel_rfl) (by decide) (fun K hK => ?_)
      refine goes_ Try.func22 (by kernel_rfl) rfl #[.agg #[.int .i64 (ap_0), .slice A_ap_1 ap_1.length c_ap_1]] (by rfl) rfl rfl (by (try simp only [List.map_toArray, List.map_cons, List.map_nil]); first | done | rfl | (simp only [List.length_drop, List.length_take]; rfl)) ?_
      refine (laws_toPlan.calls kt_aP ap_0 _ _ ap_1 ap_0 ap_1 _ (by repeat (first | exact (Kd.C_below HR_ap_1.out HB.out) | (with_reducible refine Kd.C_alloc ?_ _) | (with_reducible refine Kd.C_drewN ?_ _) | (with_reducible refine Kd.C_drew ?_))) HC_ap_1.out Hkt_aP.out).mono ?_
      rintro e w32_ ⟨v1_n32, rfl, ho0_, hb_⟩
      refine ⟨_, rfl, ?_⟩
      have hp_ : Below w31_.heap.size w31_ w32_ := below_step (by repeat (first | exact Below.refl _ _ | (with_reducible apply below_alloc) | (with_reducible apply pw_below_drewN) | (with_reducible apply below_drew1))) hb_
      obtain ⟨B61, H61, eB_, eH_, hi1_, hi2_, hi3_⟩ := spot (W0 := w31_) (by repeat (first | exact Below.refl _ _ | (with_reducible apply below_alloc) | (with_reducible apply pw_below_drewN) | (with_reducible apply below_drew1))) hb_
      have HZ61 := Aside0.mk (⟨hi1_, hi2_, hi3_, hp_.size⟩ : _ ∧ _ ∧ _ ∧ _)
      have N61_0 := Aside0.mk (Own.new (W0 := w31_) (b := w.heap.size) (by repeat (first | exact Below.refl _ _ | (with_reducible apply below_alloc) | (with_reducible apply pw_below_drewN) | (with_reducible apply below_drew1))) ho0_ hb_ HB.out.size _ _ eB_ eH_)
      clear eB_ eH_ hi1_ hi2_ hi3_ ho0_
      replace HZ := Aside0.mk (And.intro HZ.out HZ61.out)
      clear HZ61
      replace HB := Aside0.mk (more HB.out hp_)
      replace HBK := Aside0.mk (more HBK.out hp_)
      replace Vw0 := Aside0.mk (Vw0.out.step hp_)
      replace Vg0 := Aside0.mk (Vg0.out.step hp_)
      replace TaJ0_0 := Aside0.mk (TaJ0_0.out.step hp_)
      replace TaJ0_1 := Aside0.mk (TaJ0_1.out.step hp_)
      replace TaJ0_2 := Aside0.mk (TaJ0_2.out.step hp_)
      replace BK_aj := Aside0.mk (blk_below BK_aj.out hp_)
      replace BK_ap := Aside0.mk (blk_below BK_ap.out hp_)
      replace BK_w0 := Aside0.mk (blk_below BK_w0.out hp_)
      replace BK_x0 := Aside0.mk (blk_below BK_x0.out hp_)
      replace BK_x1 := Aside0.mk (blk_below BK_x1.out hp_)
      replace BK_g0 := Aside0.mk (blk_below BK_g0.out hp_)
      replace BK_h0 := Aside0.mk (blk_below BK_h0.out hp_)
      clear hb_ hp_
      have TaP1_0 := N61_0
      clear N61_0
      obtain ⟨ATaP1_0, cTaP1_0, rfl, hc_⟩ := TaP1_0.out.reads
      have HCTaP1_0 := Aside0.mk hc_
      clear hc_
      refine hK.out _ _ ⟨BK_aj.out, BK_ap.out, BK_w0.out, BK_x0.out, BK_x1.out, BK_g0.out⟩ (fun hHeld => ?_)
      clear hK K
      refine norm_ (a' := ?_) ?_ ?_
      rotate_left
      · show Act.put _ (some 98) _ = _
        simp only [Act.put, List.setIfInBounds_toArray, List.set_cons_zero, List.set_cons_succ, i64_w, i32_w]
        rfl
      refine one_ (i := 4) (N := some 99) #[true, true, true, true, true, false, false, false, true, false, false] rfl rfl (by kernel_rfl) (by decide) (fun K hK => ?_)
      refine goes_ Try.func42 (by kernel_rfl) rfl #[.agg #[.slice ATaJ0_0 aj_0.length cTaJ0_0, .slice ATaJ0_1 aj_1.length cTaJ0_1, .slice ATaJ0_2 aj_2.length cTaJ0_2, .int .i64 (aj_3), .int .i64 (aj_4), .int .i64 (aj_5), .int .i64 (aj_6), .int .i64 (aj_7)], .agg #[.int .i64 (ap_0), .slice ATaP1_0 ap_1.length cTaP1_0]] (by rfl) rfl rfl (by (try simp only [List.map_toArray, List.map_cons, List.map_nil]); first | done | rfl | (simp only [List.length_drop, List.length_take]; rfl)) ?_
      refine (impl_DelayBlocks.calls kei_ _ _ aj_0 _ _ aj_1 _ _ aj_2 aj_3 aj_4 aj_5 aj_6 aj_7 ap_0 _ _ ap_1 r1v r2v r3v _ (by repeat (first | exact TaJ0_0.out.C | (with_reducible refine Kd.C_alloc ?_ _) | (with_reducible refine Kd.C_drewN ?_ _) | (with_reducible refine Kd.C_drew ?_))) HCTaJ0_0.out (by repeat (first | exact TaJ0_1.out.C | (with_reducible refine Kd.C_alloc ?_ _) | (with_reducible refine Kd.C_drewN ?_ _) | (with_reducible refine Kd.C_drew ?_))) HCTaJ0_1.out (by repeat (first | exact TaJ0_2.out.C | (with_reducible refine Kd.C_alloc ?_ _) | (with_reducible refine Kd.C_drewN ?_ _) | (with_reducible refine Kd.C_drew ?_))) HCTaJ0_2.out (by repeat (first | exact TaP1_0.out.C | (with_reducible refine Kd.C_alloc ?_ _) | (with_reducible refine Kd.C_drewN ?_ _) | (with_reducible refine Kd.C_drew ?_))) HCTaP1_0.out HEI.out).mono ?_
      rintro e w33_ ⟨v1_n33, rfl, ho0_, hb_⟩
      refine ⟨_, rfl, ?_⟩
      have hp_ : Below w32_.heap.size w32_ w33_ := below_step (by repeat (first | exact Below.refl _ _ | (with_reducible apply below_alloc) | (with_reducible apply pw_below_drewN) | (with_reducible apply below_drew1))) hb_
      obtain ⟨B62, H62, eB_, eH_, hi1_, hi2_, hi3_⟩ := spot (W0 := w32_) (by repeat (first | exact Below.refl _ _ | (with_reducible apply below_alloc) | (with_reducible apply pw_below_drewN) | (with_reducible apply below_drew1))) hb_
      have HZ62 := Aside0.mk (⟨hi1_, hi2_, hi3_, hp_.size⟩ : _ ∧ _ ∧ _ ∧ _)
      have N62_0 := Aside0.mk (Own.new (W0 := w32_) (b := w.heap.size) (by repeat (first | exact Below.refl _ _ | (with_reducible apply below_alloc) | (with_reducible apply pw_below_drewN) | (with_reducible apply below_drew1))) ho0_ hb_ HB.out.size _ _ eB_ eH_)
      clear eB_ eH_ hi1_ hi2_ hi3_ ho0_
      replace HZ := Aside0.mk (And.intro HZ.out HZ62.out)
      clear HZ62
      replace HB := Aside0.mk (more HB.out hp_)
      replace HBK := Aside0.mk (more HBK.out hp_)
      replace Vw0 := Aside0.mk (Vw0.out.step hp_)
      replace Vg0 := Aside0.mk (Vg0.out.step hp_)
      replace TaJ0_0 := Aside0.mk (TaJ0_0.out.step hp_)
      replace TaJ0_1 := Aside0.mk (TaJ0_1.out.step hp_)
      replace TaJ0_2 := Aside0.mk (TaJ0_2.out.step hp_)
      replace TaP1_0 := Aside0.mk (TaP1_0.out.step hp_)
      replace BK_aj := Aside0.mk (blk_below BK_aj.out hp_)
      replace BK_ap := Aside0.mk (blk_below BK_ap.out hp_)
      replace BK_w0 := Aside0.mk (blk_below BK_w0.out hp_)
      replace BK_x0 := Aside0.mk (blk_below BK_x0.out hp_)
      replace BK_x1 := Aside0.mk (blk_below BK_x1.out hp_)
      replace BK_g0 := Aside0.mk (blk_below BK_g0.out hp_)
      replace BK_h0 := Aside0.mk (blk_below BK_h0.out hp_)
      clear hb_ hp_
      have Vh0 := N62_0
      clear N62_0
      obtain ⟨AVh0, cVh0, rfl, hc_⟩ := Vh0.out.reads
      have HCVh0 := Aside0.mk hc_
      clear hc_
      refine hK.out _ _ ⟨BK_aj.out, BK_ap.out, BK_w0.out, BK_x0.out, BK_x1.out, BK_g0.out⟩ (fun hHeld => ?_)
      clear hK K
      refine norm_ (a' := ?_) ?_ ?_
      rotate_left
      · show Act.put _ (some 99) _ = _
        simp only [Act.put, List.setIfInBounds_toArray, List.set_cons_zero, List.set_cons_succ, i64_w, i32_w]
        rfl
      refine pure_ (i := 5) (N := some 94) (v := ?_) (a' := ?_) #[true, true, true, true, true, true, false, false, true, false, false] rfl rfl (by kernel_rfl) (fun _ _ _ h => h) (Or.inl ⟨by rfl, ?_⟩) ?_ ?_
      rotate_left
      · intro w'
        go_simp
        with_reducible rfl
      rotate_left
      · simp only [Act.put, List.setIfInBounds_toArray, List.set_cons_zero, List.set_cons_succ, i64_w, i32_w]
        rfl
      refine pure_ (i := 6) (N := some 100) (v := ?_) (a' := ?_) #[true, true, true, true, true, true, true, false, true, false, false] rfl rfl (by kernel_rfl) (fun _ _ _ h => h) (Or.inl ⟨by rfl, ?_⟩) ?_ ?_
      rotate_left
      · intro w'
        go_simp
        with_reducible rfl
      rotate_left
      · simp only [Act.put, List.setIfInBounds_toArray, List.set_cons_zero, List.set_cons_succ, i64_w, i32_w]
        rfl
      refine pure_ (i := 7) (N := some 101) (v := ?_) (a' := ?_) #[true, true, true, true, true, true, true, true, true, false, false] rfl rfl (by kernel_rfl) (fun _ _ _ h => h) (Or.inl ⟨by rfl, ?_⟩) ?_ ?_
      rotate_left
      · intro w'
        go_simp
        with_reducible rfl
      rotate_left
      · simp only [Act.put, List.setIfInBounds_toArray, List.set_cons_zero, List.set_cons_succ, i64_w, i32_w]
        rfl
      have hq_ := hJ_ (.agg #[.slice ATaJ0_0 aj_0.length cTaJ0_0, .slice ATaJ0_1 aj_1.length cTaJ0_1, .slice ATaJ0_2 aj_2.length cTaJ0_2, .int .i64 aj_3, .int .i64 aj_4, .int .i64 aj_5, .int .i64 aj_6, .int .i64 aj_7], .agg #[.int .i64 ap_0, .slice ATaP1_0 ap_1.length cTaP1_0], AVh0, cVh0, B62, H62, _, g_h0) w33_ ⟨HBK.out, Vh0.out, HCVh0.out, (by try dsimp only; have z_ := HZ.out; omega), (by try dsimp only; have z_ := HZ.out; omega), (by try dsimp only; have z_ := HZ.out; omega), (by try dsimp only; have z_ := HZ.out; omega), BK_h0.out, (by try dsimp only; have z_ := HZ.out; omega)⟩
      refine norm_ ?_ hq_
      simp only [putAll, Act.put, List.setIfInBounds_toArray, List.set_cons_zero, List.set_cons_succ] <;> rfl
  rintro ⟨v_1, v_3, AVh0, cVh0, B63_0, H63_0, ex63_0, g_h0⟩ w30_ ⟨hp_, ho0_, hc0_, z01_, z02_, z03_, z04_, hbox_, hz_⟩
  (try dsimp only at hp_ ho0_ hc0_ z01_ z02_ z03_ z04_ hbox_ hz_)
  have HZ63 := Aside0.mk (⟨hz_, blk_lt hbox_, hp_.size, z01_, z02_, z03_, z04_⟩ : _ ∧ _ ∧ _ ∧ _ ∧ _ ∧ _ ∧ _)
  replace HZ := Aside0.mk (And.intro HZ.out HZ63.out)
  clear HZ63
  have HGW_h0 := Aside0.mk (Nat.le_trans HB.out.size hz_ : w.heap.size ≤ g_h0)
  have hnb_h0_aj : g_h0 ≠ g_aj := Nat.ne_of_gt (Nat.lt_of_lt_of_le (blk_lt BK_aj.out) hz_)
  have hnb_aj_h0 : g_aj ≠ g_h0 := hnb_h0_aj.symm
  have hnb_h0_ap : g_h0 ≠ g_ap := Nat.ne_of_gt (Nat.lt_of_lt_of_le (blk_lt BK_ap.out) hz_)
  have hnb_ap_h0 : g_ap ≠ g_h0 := hnb_h0_ap.symm
  have hnb_h0_w0 : g_h0 ≠ g_w0 := Nat.ne_of_gt (Nat.lt_of_lt_of_le (blk_lt BK_w0.out) hz_)
  have hnb_w0_h0 : g_w0 ≠ g_h0 := hnb_h0_w0.symm
  have hnb_h0_x0 : g_h0 ≠ g_x0 := Nat.ne_of_gt (Nat.lt_of_lt_of_le (blk_lt BK_x0.out) hz_)
  have hnb_x0_h0 : g_x0 ≠ g_h0 := hnb_h0_x0.symm
  have hnb_h0_x1 : g_h0 ≠ g_x1 := Nat.ne_of_gt (Nat.lt_of_lt_of_le (blk_lt BK_x1.out) hz_)
  have hnb_x1_h0 : g_x1 ≠ g_h0 := hnb_h0_x1.symm
  have hnb_h0_g0 : g_h0 ≠ g_g0 := Nat.ne_of_gt (Nat.lt_of_lt_of_le (blk_lt BK_g0.out) hz_)
  have hnb_g0_h0 : g_g0 ≠ g_h0 := hnb_h0_g0.symm
  clear HBK
  replace HB := Aside0.mk (more HB.out hp_)
  replace Vw0 := Aside0.mk (Vw0.out.step hp_)
  replace Vg0 := Aside0.mk (Vg0.out.step hp_)
  replace BK_aj := Aside0.mk (blk_below BK_aj.out hp_)
  replace BK_ap := Aside0.mk (blk_below BK_ap.out hp_)
  replace BK_w0 := Aside0.mk (blk_below BK_w0.out hp_)
  replace BK_x0 := Aside0.mk (blk_below BK_x0.out hp_)
  replace BK_x1 := Aside0.mk (blk_below BK_x1.out hp_)
  replace BK_g0 := Aside0.mk (blk_below BK_g0.out hp_)
  have BK_h0 := Aside0.mk hbox_
  have Vh0 := Aside0.mk ho0_
  have HCVh0 := Aside0.mk hc0_
  clear hp_ hbox_ hz_ ho0_ hc0_ z01_ z02_ z03_ z04_
  have hHeld : w30_.heap[g_aj]? = some (.cells #[.slice A_aj_0 aj_0.length c_aj_0, .slice A_aj_1 aj_1.length c_aj_1, .slice A_aj_2 aj_2.length c_aj_2, .int .i64 aj_3, .int .i64 aj_4, .int .i64 aj_5, .int .i64 aj_6, .int .i64 aj_7] 27 (0, 0)) ∧ w30_.heap[g_ap]? = some (.cells #[.int .i64 ap_0, .slice A_ap_1 ap_1.length c_ap_1] 37 (0, 0)) ∧ w30_.heap[g_w0]? = some (.cells #[.int .i64 r1v, .slice AVw0 r2v.length cVw0] 41 (0, 0)) ∧ w30_.heap[g_x0]? = some (.cells #[.slice AVx00 aj_0.length cVx00, .slice AVx01 aj_1.length cVx01, .slice AVx02 aj_2.length cVx02, .int .i64 aj_3, .int .i64 aj_4, .int .i64 aj_5, .int .i64 aj_6, .int .i64 aj_7] 32 (0, 0)) ∧ w30_.heap[g_x1]? = some (.cells #[.int .i64 ap_0, .slice AVx10 ap_1.length cVx10] 41 (0, 0)) ∧ w30_.heap[g_g0]? = some (.cells #[.int .i64 r1v, .slice AVg0 r2v.length cVg0] 41 (0, 0)) := ⟨BK_aj.out, BK_ap.out, BK_w0.out, BK_x0.out, BK_x1.out, BK_g0.out⟩
  refine norm_ (a' := ?_) ?_ ?_
  rotate_left
  · simp only [putAll, Act.put, List.setIfInBounds_toArray, List.set_cons_zero, List.set_cons_succ]
    rfl
  obtain ⟨hcz_aj_0, hfz_aj_0, hcz_aj_1, hfz_aj_1, hcz_aj_2, hfz_aj_2, hcz_aj_3, hfz_aj_3, hcz_aj_4, hfz_aj_4, hcz_aj_5, hfz_aj_5, hcz_aj_6, hfz_aj_6, hcz_aj_7, hfz_aj_7⟩ := cells8_ BK_aj.out
  obtain ⟨hcz_ap_0, hfz_ap_0, hcz_ap_1, hfz_ap_1⟩ := cells2_ BK_ap.out
  obtain ⟨hcz_w0_0, hfz_w0_0, hcz_w0_1, hfz_w0_1⟩ := cells2_ BK_w0.out
  obtain ⟨hcz_x0_0, hfz_x0_0, hcz_x0_1, hfz_x0_1, hcz_x0_2, hfz_x0_2, hcz_x0_3, hfz_x0_3, hcz_x0_4, hfz_x0_4, hcz_x0_5, hfz_x0_5, hcz_x0_6, hfz_x0_6, hcz_x0_7, hfz_x0_7⟩ := cells8_ BK_x0.out
  obtain ⟨hcz_x1_0, hfz_x1_0, hcz_x1_1, hfz_x1_1⟩ := cells2_ BK_x1.out
  obtain ⟨hcz_g0_0, hfz_g0_0, hcz_g0_1, hfz_g0_1⟩ := cells2_ BK_g0.out
  obtain ⟨hcz_h0_0, hfz_h0_0, hcz_h0_1, hfz_h0_1⟩ := cells2_ BK_h0.out
  refine one_ (i := 9) (N := none) #[true, true, true, true, true, true, true, true, true, true, false] rfl rfl (by kernel_rfl) (by decide) (fun K hK => ?_)
  refine skip_ (w1 := (World.setCell (World.setCell w30_ ⟨g_h0, 0, none⟩ (.int .i64 r1v)) ⟨g_h0, 1, none⟩ (.slice AVh0 r2v.length cVh0))) (by rfl) rfl ?hr ?_
  (case hr => first | (go_simp; done) | (go_simp; rfl))
  obtain ⟨w31_, ew_⟩ : ∃ w_ : World, w_ = (World.setCell (World.setCell w30_ ⟨g_h0, 0, none⟩ (.int .i64 r1v)) ⟨g_h0, 1, none⟩ (.slice AVh0 r2v.length cVh0)) := ⟨_, rfl⟩
  rw [← ew_]
  have hbk_ : w31_.heap[g_h0]? = some (.cells #[.int .i64 r1v, .slice AVh0 r2v.length cVh0] 41 (0, 0)) := by rw [ew_]; exact blk_set (blk_set (BK_h0.out) 0 (.int .i64 r1v)) 1 (.slice AVh0 r2v.length cVh0)
  have hk_ : Kept w30_ w31_ (fun k_ => k_ = g_h0) := by rw [ew_]; exact Kept.setCell (Kept.setCell (Kept.refl _ (fun k_ => k_ = g_h0)) (Or.inl rfl) (.int .i64 r1v)) (Or.inl rfl) (.slice AVh0 r2v.length cVh0)
  have hb_ : Below w.heap.size w w31_ := by rw [ew_]; exact below_set (below_set (HB.out) HGW_h0.out) HGW_h0.out
  have HZ64 := Aside0.mk hk_.1
  replace HZ := Aside0.mk (And.intro HZ.out HZ64.out)
  clear HZ64
  clear ew_ HB
  have HB := Aside0.mk hb_
  have X_ := Aside0.mk (Vw0.out.kept hk_ (fun k h1_ h2_ h3_ => by have z_ := HZ.out; omega))
  clear Vw0
  have Vw0 := X_
  clear X_
  have X_ := Aside0.mk (Vg0.out.kept hk_ (fun k h1_ h2_ h3_ => by have z_ := HZ.out; omega))
  clear Vg0
  have Vg0 := X_
  clear X_
  have X_ := Aside0.mk (Vh0.out.kept hk_ (fun k h1_ h2_ h3_ => by have z_ := HZ.out; omega))
  clear Vh0
  have Vh0 := X_
  clear X_
  clear hcz_h0_0 hfz_h0_0 hcz_h0_1 hfz_h0_1
  clear hcz_aj_0 hfz_aj_0 hcz_aj_1 hfz_aj_1 hcz_aj_2 hfz_aj_2 hcz_aj_3 hfz_aj_3 hcz_aj_4 hfz_aj_4 hcz_aj_5 hfz_aj_5 hcz_aj_6 hfz_aj_6 hcz_aj_7 hfz_aj_7
  have X_ := Aside0.mk (blk_kept BK_aj.out hk_ (fun h3_ => by have z_ := HZ.out; omega))
  clear BK_aj
  have BK_aj := X_
  clear X_
  obtain ⟨hcz_aj_0, hfz_aj_0, hcz_aj_1, hfz_aj_1, hcz_aj_2, hfz_aj_2, hcz_aj_3, hfz_aj_3, hcz_aj_4, hfz_aj_4, hcz_aj_5, hfz_aj_5, hcz_aj_6, hfz_aj_6, hcz_aj_7, hfz_aj_7⟩ := cells8_ BK_aj.out
  clear hcz_ap_0 hfz_ap_0 hcz_ap_1 hfz_ap_1
  have X_ := Aside0.mk (blk_kept BK_ap.out hk_ (fun h3_ => by have z_ := HZ.out; omega))
  clear BK_ap
  have BK_ap := X_
  clear X_
  obtain ⟨hcz_ap_0, hfz_ap_0, hcz_ap_1, hfz_ap_1⟩ := cells2_ BK_ap.out
  clear hcz_w0_0 hfz_w0_0 hcz_w0_1 hfz_w0_1
  have X_ := Aside0.mk (blk_kept BK_w0.out hk_ (fun h3_ => by have z_ := HZ.out; omega))
  clear BK_w0
  have BK_w0 := X_
  clear X_
  obtain ⟨hcz_w0_0, hfz_w0_0, hcz_w0_1, hfz_w0_1⟩ := cells2_ BK_w0.out
  clear hcz_x0_0 hfz_x0_0 hcz_x0_1 hfz_x0_1 hcz_x0_2 hfz_x0_2 hcz_x0_3 hfz_x0_3 hcz_x0_4 hfz_x0_4 hcz_x0_5 hfz_x0_5 hcz_x0_6 hfz_x0_6 hcz_x0_7 hfz_x0_7
  have X_ := Aside0.mk (blk_kept BK_x0.out hk_ (fun h3_ => by have z_ := HZ.out; omega))
  clear BK_x0
  have BK_x0 := X_
  clear X_
  obtain ⟨hcz_x0_0, hfz_x0_0, hcz_x0_1, hfz_x0_1, hcz_x0_2, hfz_x0_2, hcz_x0_3, hfz_x0_3, hcz_x0_4, hfz_x0_4, hcz_x0_5, hfz_x0_5, hcz_x0_6, hfz_x0_6, hcz_x0_7, hfz_x0_7⟩ := cells8_ BK_x0.out
  clear hcz_x1_0 hfz_x1_0 hcz_x1_1 hfz_x1_1
  have X_ := Aside0.mk (blk_kept BK_x1.out hk_ (fun h3_ => by have z_ := HZ.out; omega))
  clear BK_x1
  have BK_x1 := X_
  clear X_
  obtain ⟨hcz_x1_0, hfz_x1_0, hcz_x1_1, hfz_x1_1⟩ := cells2_ BK_x1.out
  clear hcz_g0_0 hfz_g0_0 hcz_g0_1 hfz_g0_1
  have X_ := Aside0.mk (blk_kept BK_g0.out hk_ (fun h3_ => by have z_ := HZ.out; omega))
  clear BK_g0
  have BK_g0 := X_
  clear X_
  obtain ⟨hcz_g0_0, hfz_g0_0, hcz_g0_1, hfz_g0_1⟩ := cells2_ BK_g0.out
  clear BK_h0
  have BK_h0 := Aside0.mk hbk_
  obtain ⟨hcz_h0_0, hfz_h0_0, hcz_h0_1, hfz_h0_1⟩ := cells2_ BK_h0.out
  clear hbk_ hk_ hb_
  clear hcz_aj_0 hfz_aj_0 hcz_aj_1 hfz_aj_1 hcz_aj_2 hfz_aj_2 hcz_aj_3 hfz_aj_3 hcz_aj_4 hfz_aj_4 hcz_aj_5 hfz_aj_5 hcz_aj_6 hfz_aj_6 hcz_aj_7 hfz_aj_7
  clear hcz_ap_0 hfz_ap_0 hcz_ap_1 hfz_ap_1
  clear hcz_w0_0 hfz_w0_0 hcz_w0_1 hfz_w0_1
  clear hcz_x0_0 hfz_x0_0 hcz_x0_1 hfz_x0_1 hcz_x0_2 hfz_x0_2 hcz_x0_3 hfz_x0_3 hcz_x0_4 hfz_x0_4 hcz_x0_5 hfz_x0_5 hcz_x0_6 hfz_x0_6 hcz_x0_7 hfz_x0_7
  clear hcz_x1_0 hfz_x1_0 hcz_x1_1 hfz_x1_1
  clear hcz_g0_0 hfz_g0_0 hcz_g0_1 hfz_g0_1
  clear hcz_h0_0 hfz_h0_0 hcz_h0_1 hfz_h0_1
  refine hK.out _ _ ⟨BK_aj.out, BK_ap.out, BK_w0.out, BK_x0.out, BK_x1.out, BK_g0.out⟩ (fun hHeld => ?_)
  clear hK K
  refine pure_ (i := 10) (N := some 16) (v := ?_) (a' := ?_) #[true, true, true, true, true, true, true, true, true, true, true] rfl rfl (by kernel_rfl) (fun _ _ _ h => h) (Or.inl ⟨by rfl, ?_⟩) ?_ ?_
  rotate_left
  · intro w'
    go_simp
    with_reducible rfl
  rotate_left
  · simp only [Act.put, List.setIfInBounds_toArray, List.set_cons_zero, List.set_cons_succ, i64_w, i32_w]
    rfl
  refine done_ (by kernel_rfl) ?_
  obtain ⟨hcz_aj_0, hfz_aj_0, hcz_aj_1, hfz_aj_1, hcz_aj_2, hfz_aj_2, hcz_aj_3, hfz_aj_3, hcz_aj_4, hfz_aj_4, hcz_aj_5, hfz_aj_5, hcz_aj_6, hfz_aj_6, hcz_aj_7, hfz_aj_7⟩ := cells8_ BK_aj.out
  obtain ⟨hcz_ap_0, hfz_ap_0, hcz_ap_1, hfz_ap_1⟩ := cells2_ BK_ap.out
  obtain ⟨hcz_w0_0, hfz_w0_0, hcz_w0_1, hfz_w0_1⟩ := cells2_ BK_w0.out
  obtain ⟨hcz_x0_0, hfz_x0_0, hcz_x0_1, hfz_x0_1, hcz_x0_2, hfz_x0_2, hcz_x0_3, hfz_x0_3, hcz_x0_4, hfz_x0_4, hcz_x0_5, hfz_x0_5, hcz_x0_6, hfz_x0_6, hcz_x0_7, hfz_x0_7⟩ := cells8_ BK_x0.out
  obtain ⟨hcz_x1_0, hfz_x1_0, hcz_x1_1, hfz_x1_1⟩ := cells2_ BK_x1.out
  obtain ⟨hcz_g0_0, hfz_g0_0, hcz_g0_1, hfz_g0_1⟩ := cells2_ BK_g0.out
  obtain ⟨hcz_h0_0, hfz_h0_0, hcz_h0_1, hfz_h0_1⟩ := cells2_ BK_h0.out
  go_wp2_with fail
  refine (laws_eqPlan.calls kgq r1v _ _ r2v r1v _ _ r2v true _ (by repeat (first | exact Vh0.out.C | (with_reducible refine Kd.C_alloc ?_ _) | (with_reducible refine Kd.C_drewN ?_ _) | (with_reducible refine Kd.C_drew ?_))) HCVh0.out (by repeat (first | exact Vw0.out.C | (with_reducible refine Kd.C_alloc ?_ _) | (with_reducible refine Kd.C_drewN ?_ _) | (with_reducible refine Kd.C_drew ?_))) HCVw0.out Hkgq.out).mono ?_
  rintro e w32_ ⟨rfl, hd_⟩
  have hb_ := hd_
  clear hd_
  have hp_ : Below w31_.heap.size w31_ w32_ := below_step (by repeat (first | exact Below.refl _ _ | (with_reducible apply below_alloc) | (with_reducible apply pw_below_drewN) | (with_reducible apply below_drew1))) hb_
  have HZ65 := Aside0.mk hp_.size
  replace HZ := Aside0.mk (And.intro HZ.out HZ65.out)
  clear HZ65
  replace HB := Aside0.mk (more HB.out hp_)
  replace Vw0 := Aside0.mk (Vw0.out.step hp_)
  replace Vg0 := Aside0.mk (Vg0.out.step hp_)
  replace Vh0 := Aside0.mk (Vh0.out.step hp_)
  clear hcz_aj_0 hfz_aj_0 hcz_aj_1 hfz_aj_1 hcz_aj_2 hfz_aj_2 hcz_aj_3 hfz_aj_3 hcz_aj_4 hfz_aj_4 hcz_aj_5 hfz_aj_5 hcz_aj_6 hfz_aj_6 hcz_aj_7 hfz_aj_7
  replace BK_aj := Aside0.mk (blk_below BK_aj.out hp_)
  obtain ⟨hcz_aj_0, hfz_aj_0, hcz_aj_1, hfz_aj_1, hcz_aj_2, hfz_aj_2, hcz_aj_3, hfz_aj_3, hcz_aj_4, hfz_aj_4, hcz_aj_5, hfz_aj_5, hcz_aj_6, hfz_aj_6, hcz_aj_7, hfz_aj_7⟩ := cells8_ BK_aj.out
  clear hcz_ap_0 hfz_ap_0 hcz_ap_1 hfz_ap_1
  replace BK_ap := Aside0.mk (blk_below BK_ap.out hp_)
  obtain ⟨hcz_ap_0, hfz_ap_0, hcz_ap_1, hfz_ap_1⟩ := cells2_ BK_ap.out
  clear hcz_w0_0 hfz_w0_0 hcz_w0_1 hfz_w0_1
  replace BK_w0 := Aside0.mk (blk_below BK_w0.out hp_)
  obtain ⟨hcz_w0_0, hfz_w0_0, hcz_w0_1, hfz_w0_1⟩ := cells2_ BK_w0.out
  clear hcz_x0_0 hfz_x0_0 hcz_x0_1 hfz_x0_1 hcz_x0_2 hfz_x0_2 hcz_x0_3 hfz_x0_3 hcz_x0_4 hfz_x0_4 hcz_x0_5 hfz_x0_5 hcz_x0_6 hfz_x0_6 hcz_x0_7 hfz_x0_7
  replace BK_x0 := Aside0.mk (blk_below BK_x0.out hp_)
  obtain ⟨hcz_x0_0, hfz_x0_0, hcz_x0_1, hfz_x0_1, hcz_x0_2, hfz_x0_2, hcz_x0_3, hfz_x0_3, hcz_x0_4, hfz_x0_4, hcz_x0_5, hfz_x0_5, hcz_x0_6, hfz_x0_6, hcz_x0_7, hfz_x0_7⟩ := cells8_ BK_x0.out
  clear hcz_x1_0 hfz_x1_0 hcz_x1_1 hfz_x1_1
  replace BK_x1 := Aside0.mk (blk_below BK_x1.out hp_)
  obtain ⟨hcz_x1_0, hfz_x1_0, hcz_x1_1, hfz_x1_1⟩ := cells2_ BK_x1.out
  clear hcz_g0_0 hfz_g0_0 hcz_g0_1 hfz_g0_1
  replace BK_g0 := Aside0.mk (blk_below BK_g0.out hp_)
  obtain ⟨hcz_g0_0, hfz_g0_0, hcz_g0_1, hfz_g0_1⟩ := cells2_ BK_g0.out
  clear hcz_h0_0 hfz_h0_0 hcz_h0_1 hfz_h0_1
  replace BK_h0 := Aside0.mk (blk_below BK_h0.out hp_)
  obtain ⟨hcz_h0_0, hfz_h0_0, hcz_h0_1, hfz_h0_1⟩ := cells2_ BK_h0.out
  clear hb_ hp_
  go_wp2_with fail
  try rw [show (Value.slice AVg0 r2v.length cVg0) = .slice AVg0 (markedI r2v.length 1).length cVg0 from by rw [HML.out]]
  refine (laws_heldPlan.calls kh46 r1v _ _ (markedI r2v.length 1) 1 mt _ (by repeat (first | exact Vg0.out.C | (with_reducible refine Kd.C_alloc ?_ _) | (with_reducible refine Kd.C_drewN ?_ _) | (with_reducible refine Kd.C_drew ?_))) HCm.out HH46'.out).mono ?_
  rintro e w33_ ⟨rfl, hd_⟩
  have hp_ : Below w32_.heap.size w32_ w33_ := below_step (by repeat (first | exact Below.refl _ _ | (with_reducible apply below_alloc) | (with_reducible apply pw_below_drewN) | (with_reducible apply below_drew1))) (hd_)
  have HZ66 := Aside0.mk hp_.size
  replace HZ := Aside0.mk (And.intro HZ.out HZ66.out)
  clear HZ66
  replace HB := Aside0.mk (more HB.out hp_)
  replace Vw0 := Aside0.mk (Vw0.out.step hp_)
  replace Vg0 := Aside0.mk (Vg0.out.step hp_)
  replace Vh0 := Aside0.mk (Vh0.out.step hp_)
  clear hcz_aj_0 hfz_aj_0 hcz_aj_1 hfz_aj_1 hcz_aj_2 hfz_aj_2 hcz_aj_3 hfz_aj_3 hcz_aj_4 hfz_aj_4 hcz_aj_5 hfz_aj_5 hcz_aj_6 hfz_aj_6 hcz_aj_7 hfz_aj_7
  replace BK_aj := Aside0.mk (blk_below BK_aj.out hp_)
  obtain ⟨hcz_aj_0, hfz_aj_0, hcz_aj_1, hfz_aj_1, hcz_aj_2, hfz_aj_2, hcz_aj_3, hfz_aj_3, hcz_aj_4, hfz_aj_4, hcz_aj_5, hfz_aj_5, hcz_aj_6, hfz_aj_6, hcz_aj_7, hfz_aj_7⟩ := cells8_ BK_aj.out
  clear hcz_ap_0 hfz_ap_0 hcz_ap_1 hfz_ap_1
  replace BK_ap := Aside0.mk (blk_below BK_ap.out hp_)
  obtain ⟨hcz_ap_0, hfz_ap_0, hcz_ap_1, hfz_ap_1⟩ := cells2_ BK_ap.out
  clear hcz_w0_0 hfz_w0_0 hcz_w0_1 hfz_w0_1
  replace BK_w0 := Aside0.mk (blk_below BK_w0.out hp_)
  obtain ⟨hcz_w0_0, hfz_w0_0, hcz_w0_1, hfz_w0_1⟩ := cells2_ BK_w0.out
  clear hcz_x0_0 hfz_x0_0 hcz_x0_1 hfz_x0_1 hcz_x0_2 hfz_x0_2 hcz_x0_3 hfz_x0_3 hcz_x0_4 hfz_x0_4 hcz_x0_5 hfz_x0_5 hcz_x0_6 hfz_x0_6 hcz_x0_7 hfz_x0_7
  replace BK_x0 := Aside0.mk (blk_below BK_x0.out hp_)
  obtain ⟨hcz_x0_0, hfz_x0_0, hcz_x0_1, hfz_x0_1, hcz_x0_2, hfz_x0_2, hcz_x0_3, hfz_x0_3, hcz_x0_4, hfz_x0_4, hcz_x0_5, hfz_x0_5, hcz_x0_6, hfz_x0_6, hcz_x0_7, hfz_x0_7⟩ := cells8_ BK_x0.out
  clear hcz_x1_0 hfz_x1_0 hcz_x1_1 hfz_x1_1
  replace BK_x1 := Aside0.mk (blk_below BK_x1.out hp_)
  obtain ⟨hcz_x1_0, hfz_x1_0, hcz_x1_1, hfz_x1_1⟩ := cells2_ BK_x1.out
  clear hcz_g0_0 hfz_g0_0 hcz_g0_1 hfz_g0_1
  replace BK_g0 := Aside0.mk (blk_below BK_g0.out hp_)
  obtain ⟨hcz_g0_0, hfz_g0_0, hcz_g0_1, hfz_g0_1⟩ := cells2_ BK_g0.out
  clear hcz_h0_0 hfz_h0_0 hcz_h0_1 hfz_h0_1
  replace BK_h0 := Aside0.mk (blk_below BK_h0.out hp_)
  obtain ⟨hcz_h0_0, hfz_h0_0, hcz_h0_1, hfz_h0_1⟩ := cells2_ BK_h0.out
  clear hd_ hp_
  go_wp2_with fail
  go_ret
  exact ⟨rfl, by repeat (first | exact HB.out | (with_reducible apply below_alloc) | (with_reducible apply pw_below_drewN) | (with_reducible apply below_drew1))⟩
end Go.Proofs.Ytmlmghkkalljbaa.WalkFnExactDelayBlocks

/- The walk of FnExactParsePlan's own text: for all arguments it returns true, and nothing that lay in memory before has turned; over the contracts of what it calls; no further condition. -/
import Derived.Test.YtjjbohacmmhddaaDoorPureFnExactParsePlan
import Derived.Test.YtjjbohacmmhddaaDoorLaw
namespace Go.Proofs.YtjjbohacmmhddaaDoor.WalkFnExactParsePlan
open Go.RowKit Go.Proofs.YtjjbohacmmhddaaDoorW.PrintWords Go.Proofs.YtjjbohacmmhddaaDoorW.PrintLast Go.Proofs.YtjjbohacmmhddaaDoorW.PrintMore Go.Proofs.YtjjbohacmmhddaaDoor.PFnExactParsePlan Go.Proofs.YtjjbohacmmhddaaDoor.Gen Go.Proofs.YtjjbohacmmhddaaDoor.Pure Go.Proofs.YtjjbohacmmhddaaDoor.Law Go.Proofs.YtjjbohacmmhddaaDoor.Opn
set_option linter.unusedVariables false
set_option linter.unusedSimpArgs false
theorem markSS_calls (l0 : List (List Int)) (a1 : Int) (ha : 0 ≤ a1) (hb : a1 + (totL l0 : Int) < 1000000000000) (P0 : Nat → Prop) (u : Value) (w0 w : World) (hB : Below w0.heap.size w0 w) (ho : Kd.S (Kd.slice 3 (Kd.int .i64)) 23 w w0.heap.size P0 u l0) :
    Calls Tryd.prog 39 #[u, .int .i64 a1] w fun e w' => e = .returned (.int .i64 (a1 + (totL l0 : Int))) ∧ Kd.S (Kd.slice 3 (Kd.int .i64)) 23 w' w0.heap.size (fun k_ => P0 k_ ∨ w.heap.size ≤ k_) u (marksSS l0 a1) ∧ Below w0.heap.size w0 w' ∧ Kept w w' (fun k_ => P0 k_) := by
  have HO := Aside0.mk (Kd.S_mono ho (fun k_ hk => (Or.inl hk : P0 k_ ∨ w.heap.size ≤ k_)))
  have HK := Aside0.mk (Kept.refl w (fun k_ => P0 k_))
  have HB := Aside0.mk hB
  obtain ⟨A, c, rfl⟩ := Kd.S_slice ho
  have HL := (Kd.S_reads' ho).1
  have hmax : l0.length ≤ 9223372036854775807 := (Kd.S_reads' ho).2.2.2.1
  clear ho hB
  go_enter Tryd.func39, Tryd.ntmps39
  go_wp2
  go_loopg [1, 5] l0.length (fun kq v1 v5 w' => ∃ pre suf : List (List Int), pre ++ suf = l0 ∧ v5 = .int .i64 (pre.length : Int) ∧ v1 = .int .i64 (a1 + (totL pre : Int)) ∧ Aside0 (kq = suf.length) ∧ Aside0 (Kd.S (Kd.slice 3 (Kd.int .i64)) 23 w' w0.heap.size (fun k_ => P0 k_ ∨ w.heap.size ≤ k_) (.slice A l0.length c) (marksSS pre a1 ++ suf)) ∧ Aside0 (Below w0.heap.size w0 w') ∧ Aside0 (Kept w w' (fun k_ => P0 k_)))
  case atStart => exact ⟨[], l0, rfl, rfl, by simp [totL], ⟨rfl⟩, HO, HB, HK⟩
  case round =>
    obtain ⟨pre, suf, hl, rfl, rfl, HQ, HO, HB, HK⟩ := hrel
    cases suf with
    | nil =>
      have hpl : l0.length = pre.length := by rw [← hl]; simp
      have c1 : decide ((pre.length : Int) < (l0.length : Int)) = false := decide_eq_false (by omega)
      have c2 : decide (pre.length < l0.length) = false := decide_eq_false (by omega)
      have HP := Aside0.mk hpl
      have HE := Aside0.mk hl
      clear hl hpl
      go_wp2
      go_ret
      have e := HE.out
      rw [List.append_nil] at e
      subst e
      have o := HO.out
      rw [List.append_nil] at o
      exact ⟨rfl, o, HB.out, HK.out⟩
    | cons x suf =>
      have hpl : l0.length = pre.length + suf.length + 1 := by rw [← hl]; simp; omega
      have hlt : (pre.length : Int) < (l0.length : Int) := by omega
      have c1 : decide ((pre.length : Int) < (l0.length : Int)) = true := decide_eq_true hlt
      have c2 : decide (pre.length < l0.length) = true := decide_eq_true (by omega)
      have hcl : (marksSS pre a1 ++ x :: suf).length = l0.length := by rw [List.length_append, marksSS_len, List.length_cons]; omega
      obtain ⟨g, cap, eo, hg1, hg2, _⟩ := Kd.S_form HO.out (by rw [hcl]; omega)
      rw [hcl] at eo
      cases eo
      obtain ⟨oki, ce, hcel, hM, hcc, hfr, hoki, hH⟩ := Kd.S_elem HO.out [] (pre.length : Int) (Int.natCast_nonneg _) hlt
      obtain ⟨ve, rfl, hR⟩ := hM
      have hx := hcc 0 _ rfl
      simp only [show (Kd.slice 3 (Kd.int .i64)).sz = 1 from rfl, Nat.mul_one, Nat.add_zero, Int.toNat_natCast] at hx
      rw [Int.toNat_natCast, show (marksSS pre a1 ++ x :: suf).getD pre.length [] = x by rw [← marksSS_len pre a1]; simp] at hR
      have htot : totL l0 = totL pre + x.length + totL suf := by rw [← hl]; simp [totL]; omega
      obtain ⟨kk, hk⟩ := (markIntS_ev x (a1 + (totL pre : Int)) (by omega) (by omega)).rounds
      have HR := Aside0.mk hR
      have HH := Aside0.mk hH
      have HE := Aside0.mk hl
      have HP := Aside0.mk hpl
      have HT := Aside0.mk htot
      have HMK := Aside0.mk hk
      have HOK := Aside0.mk hoki
      have HC := Aside0.mk hcl
      clear hl hpl htot hk hoki hcl hcc hcel hfr hR hH
      go_wp2_with fail
      refine (laws_markIntS.calls kk oki ve x _ _ _ w0 wr HB.out HR.out HMK.out).mono ?_
      rintro e w2 ⟨rfl, hr2, hb2, hk2⟩
      have HS2 := Aside0.mk (show Kd.S (Kd.slice 3 (Kd.int .i64)) 23 w2 w0.heap.size (fun k_ => P0 k_ ∨ w.heap.size ≤ k_) (.slice (some ⟨g, 0, none⟩) l0.length c) (marksSS (pre ++ [x]) a1 ++ suf) from by
        have h1 := Kd.H_kept (Kd.H_widen HH.out) hk2 (fun k _ hn hk => hn (Or.inl hk))
        have h2 := Kd.H_back h1 (x' := markedI x.length (a1 + (totL pre : Int))) (okp := fun k_ => oki k_ ∨ wr.heap.size ≤ k_) ⟨ve, rfl, hr2⟩ (fun k hk => hk.elim (fun q => Or.inl q) (fun q => Or.inr ⟨Or.inr (Nat.le_trans HK.out.1 q), q⟩))
        rw [Int.toNat_natCast] at h2
        have e2 : (marksSS pre a1 ++ x :: suf).set pre.length (markedI x.length (a1 + (totL pre : Int))) = marksSS (pre ++ [x]) a1 ++ suf := by
          have s := set_mid (marksSS pre a1) x (markedI x.length (a1 + (totL pre : Int))) suf
          rw [marksSS_len, Int.toNat_natCast] at s
          rw [s, marksSS_snoc]
        rw [e2] at h2
        exact h2)
      have HB2 := Aside0.mk hb2
      have HK2 := Aside0.mk (Kept.then_ HK.out hk2 (fun k hk => (HOK.out k hk).1))
      clear hr2 hb2 hk2 HO HB HK HH HR
      have e3 : a1 + (totL pre : Int) + (x.length : Int) = a1 + (totL (pre ++ [x]) : Int) := by rw [totL_snoc]; omega
      rw [e3]
      clear e3
      go_wp2_with fail
      go_roundg suf.length
      case measure => have := HQ.out; rw [this, List.length_cons]; omega
      case rel => exact ⟨pre ++ [x], suf, by rw [List.append_assoc]; exact HE.out, by simp, rfl, ⟨rfl⟩, HS2, HB2, HK2⟩

theorem markJob_calls (l0 : List (List Int)) (l1 l2 : List Int) (b3 b4 b5 b6 b7 a1 : Int) (ha : 0 ≤ a1) (hb : a1 + (totL l0 : Int) + (l1.length : Int) + (l2.length : Int) < 1000000000000) (P0 P1 P2 : Nat → Prop) (u0 u1 u2 : Value) (w0 w : World) (hB : Below w0.heap.size w0 w)
    (ho0 : Kd.S (Kd.slice 3 (Kd.int .i64)) 23 w w0.heap.size P0 u0 l0) (ho1 : Kd.R (Kd.int .i64) 3 w w0.heap.size P1 u1 l1) (ho2 : Kd.R (Kd.int .i64) 3 w w0.heap.size P2 u2 l2)
    (h10 : ∀ k, P1 k → ¬ P0 k) (h20 : ∀ k, P2 k → ¬ P0 k) (h21 : ∀ k, P2 k → ¬ P1 k) :
    Calls Tryd.prog 15 #[.agg #[u0, u1, u2, .int .i64 b3, .int .i64 b4, .int .i64 b5, .int .i64 b6, .int .i64 b7], .int .i64 a1] w fun e w' => e = .returned (.int .i64 (a1 + (totL l0 : Int) + (l1.length : Int) + (l2.length : Int))) ∧ Below w0.heap.size w0 w' ∧ Kept w w' (fun k => P0 k ∨ P1 k ∨ P2 k) := by
  have hu_ := Tryd.underlying36
  obtain ⟨A0, c0, rfl⟩ := Kd.S_slice ho0
  obtain ⟨A1, c1, rfl⟩ := Kd.R_slice ho1
  obtain ⟨A2, c2, rfl⟩ := Kd.R_slice ho2
  have HB := Aside0.mk hB
  have HO0 := Aside0.mk (Kd.S_bound ho0)
  have HO1 := Aside0.mk (Kd.R_bound ho1)
  have HO2 := Aside0.mk (Kd.R_bound ho2)
  have H10 := Aside0.mk h10
  have H20 := Aside0.mk h20
  have H21 := Aside0.mk h21
  obtain ⟨k1, e1_⟩ := (markIntS_ev l1 (a1 + (totL l0 : Int)) (by omega) (by omega)).rounds
  obtain ⟨k2, e2_⟩ := (markIntS_ev l2 (a1 + (totL l0 : Int) + (l1.length : Int)) (by omega) (by omega)).rounds
  have HM1 := Aside0.mk e1_
  have HM2 := Aside0.mk e2_
  clear hB ho0 ho1 ho2 h10 h20 h21 e1_ e2_
  have HT := Aside0.mk hb
  clear hb
  go_enter Tryd.func15, Tryd.ntmps15
  go_wp2_with ((with_reducible refine gate_dst (N := 2) rfl ?_); refine box_event ?hg (N := 2) ?hd (cs := #[.slice A0 l0.length c0, .slice A1 l1.length c1, .slice A2 l2.length c2, .int .i64 b3, .int .i64 b4, .int .i64 b5, .int .i64 b6, .int .i64 b7]) (t := 36) ?hr ?_; (case hd => rfl); (case hg => rfl); (case hr => first | (go_simp; done) | (go_simp; rfl)); intro g hg w1 hbox hb1_; have HG := Aside0.mk hg; have HBK := Aside0.mk hbox; have HW := Aside0.mk hb1_; have hx1 : w1.cell? ⟨g, 0, none⟩ = some (.slice A0 l0.length c0) := (blk_cell hbox 0).trans rfl; have hx2 := blk_frozen hbox 0; clear hg hbox hb1_)
  refine (markSS_calls l0 a1 ha (by have := HT.out; omega) (fun k => P0 k ∧ w0.heap.size ≤ k ∧ k < w.heap.size ∧ True) _ w0 w1 (more HB.out HW.out) (Kd.S_mono (Kd.S_below HO0.out HW.out) (fun k hk => ⟨hk.1, hk.2.1, hk.2.2.1, trivial⟩))).mono ?_
  rintro e w2 ⟨rfl, _, hb1, hk1⟩
  have HB1 := Aside0.mk hb1
  have HK1 := Aside0.mk hk1
  have HBK1 := Aside0.mk (blk_kept HBK.out hk1 (fun h => by have := HG.out; omega))
  clear hb1 hk1 hx1 hx2 HBK
  have hx1 : w2.cell? ⟨g, 1, none⟩ = some (.slice A1 l1.length c1) := (blk_cell HBK1.out 1).trans rfl
  have hx2 := blk_frozen HBK1.out 1
  go_wp2_with fail
  refine (laws_markIntS.calls k1 (fun k => P1 k ∧ w0.heap.size ≤ k ∧ k < w.heap.size ∧ True) _ l1 _ _ _ w0 w2 HB1.out (Kd.R_kept (Kd.R_mono (Kd.R_below HO1.out HW.out) (fun k hk => ⟨hk.1, hk.2.1, hk.2.2.1, trivial⟩)) HK1.out (fun k h1 h2 => H10.out k h1.1 h2.1)) HM1.out).mono ?_
  rintro e w3 ⟨rfl, _, hb2, hk2⟩
  have HB2 := Aside0.mk hb2
  have HK2 := Aside0.mk hk2
  have HBK2 := Aside0.mk (blk_kept HBK1.out hk2 (fun h => by have := HG.out; omega))
  clear hb2 hk2 hx1 hx2 HBK1
  have hx1 : w3.cell? ⟨g, 2, none⟩ = some (.slice A2 l2.length c2) := (blk_cell HBK2.out 2).trans rfl
  have hx2 := blk_frozen HBK2.out 2
  go_wp2_with fail
  refine (laws_markIntS.calls k2 (fun k => P2 k ∧ w0.heap.size ≤ k ∧ k < w.heap.size ∧ True) _ l2 _ _ _ w0 w3 HB2.out (Kd.R_kept (Kd.R_kept (Kd.R_mono (Kd.R_below HO2.out HW.out) (fun k hk => ⟨hk.1, hk.2.1, hk.2.2.1, trivial⟩)) HK1.out (fun k h1 h2 => H20.out k h1.1 h2.1)) HK2.out (fun k h1 h2 => H21.out k h1.1 h2.1)) HM2.out).mono ?_
  rintro e w4 ⟨rfl, _, hb3, hk3⟩
  have HB3 := Aside0.mk hb3
  have HK3 := Aside0.mk hk3
  clear hb3 hk3 hx1 hx2
  go_wp2_with fail
  go_ret
  exact ⟨rfl, HB3.out, Kept.then_ (Kept.then_ (Kept.then_ (Kept.of_below HW.out _) HK1.out (fun k hk => Or.inl (Or.inl hk.1))) HK2.out (fun k hk => Or.inl (Or.inr (Or.inl hk.1)))) HK3.out (fun k hk => Or.inl (Or.inr (Or.inr hk.1)))⟩

/-- An alloc in a free region: its address gets a name. -/
theorem alloc_ {P : Program} {ops : Array Oper} {Q : Exit → Act → World → Prop} {oi : Oper} {N : Option Tmp} {a : Act} {W : World} {K : Act → World → Prop} {cs : Array Value} {t : TypeId} (hw : Region.wanted oi (yielded ops a.tmps) = true) (hN : oi.dst = N)
    (hrun : (execOp a.eval oi).run P W = .ok (.value (.pointer (some ⟨W.heap.size, 0, none⟩))) (W.alloc (.cells cs t (0, 0))))
    (h : ∀ g, g = W.heap.size → ∀ w1, w1.heap[g]? = some (.cells cs t (0, 0)) → Below W.heap.size W w1 → K (a.put N (.pointer (some ⟨g, 0, none⟩))) w1) : if Region.wanted oi (yielded ops a.tmps) = true then Oper.wp P oi a W K Q else K (a.put N undef) W :=
  value_ hw hN hrun (h _ rfl _ (blk_new W _) (below_alloc (Below.refl _ _) _))

set_option maxRecDepth 100000 in
set_option maxHeartbeats 40000000 in
theorem law (A_aj_0 : Option Addr) (c_aj_0 : Nat) (aj_0 : List (List Int)) (A_aj_1 : Option Addr) (c_aj_1 : Nat) (aj_1 : List Int) (A_aj_2 : Option Addr) (c_aj_2 : Nat) (aj_2 : List Int) (aj_3 : Int) (aj_4 : Int) (aj_5 : Int) (aj_6 : Int) (aj_7 : Int) (as_ : ByteArray) (w : World) (hr_aj_0 : Kd.C (Kd.slice 3 (Kd.int .i64)) w A_aj_0 aj_0.length aj_0) (hc_aj_0 : aj_0.length ≤ c_aj_0) (hr_aj_1 : Kd.C (Kd.int .i64) w A_aj_1 aj_1.length aj_1) (hc_aj_1 : aj_1.length ≤ c_aj_1) (hr_aj_2 : Kd.C (Kd.int .i64) w A_aj_2 aj_2.length aj_2) (hc_aj_2 : aj_2.length ≤ c_aj_2) (hm_aj_0 : aj_0.length ≤ maxLen) (hi_aj_0 : ∀ z ∈ aj_0, z.length ≤ maxLen) (hw_aj_0 : ∀ z ∈ aj_0, okI .i64 z) (hm_aj_1 : aj_1.length ≤ maxLen) (hw_aj_1 : okI .i64 aj_1) (hm_aj_2 : aj_2.length ≤ maxLen) (hw_aj_2 : okI .i64 aj_2) (hw_aj_3 : (Lit.int .i64 aj_3).wf = true) (hw_aj_4 : (Lit.int .i64 aj_4).wf = true) (hw_aj_5 : (Lit.int .i64 aj_5).wf = true) (hw_aj_6 : (Lit.int .i64 aj_6).wf = true) (hw_aj_7 : (Lit.int .i64 aj_7).wf = true) (hm_as_ : as_.size ≤ 140737488351232) (HT : TabW w) :
    Calls Tryd.prog 4 #[.agg #[.slice A_aj_0 aj_0.length c_aj_0, .slice A_aj_1 aj_1.length c_aj_1, .slice A_aj_2 aj_2.length c_aj_2, .int .i64 aj_3, .int .i64 aj_4, .int .i64 aj_5, .int .i64 aj_6, .int .i64 aj_7], .string as_] w fun e w' => e = .returned (.bool true) ∧ Below w.heap.size w w' := by
  have HT := Aside0.mk HT
  have HR_aj_0 := Aside0.mk hr_aj_0
  have HC_aj_0 := Aside0.mk hc_aj_0
  clear hr_aj_0 hc_aj_0
  have HR_aj_1 := Aside0.mk hr_aj_1
  have HC_aj_1 := Aside0.mk hc_aj_1
  clear hr_aj_1 hc_aj_1
  have HR_aj_2 := Aside0.mk hr_aj_2
  have HC_aj_2 := Aside0.mk hc_aj_2
  clear hr_aj_2 hc_aj_2
  have HB := Aside0.mk (Below.refl w.heap.size w)
  have hu27 := Tryd.underlying27
  have hu36 := Tryd.underlying36
  have hu29 := Tryd.underlying29
  have hu38 := Tryd.underlying38
  have HMI_aj_0 := Aside0.mk hi_aj_0
  clear hi_aj_0
  clear hw_aj_0
  clear hw_aj_1
  clear hw_aj_2
  by_cases g_as_ : (as_.size : Int) > 1048576
  · have d_ : decide ((1048576 : Int) < (as_.size : Int)) = true := decide_eq_true (by omega)
    have d2_ : decide (1048576 < as_.size) = true := decide_eq_true (by omega)
    go_enter Tryd.func4, Tryd.ntmps4
    go_wp2_with fail
    go_ret
    exact ⟨rfl, by repeat (first | exact HB.out | (with_reducible apply below_alloc) | (with_reducible apply pw_below_drewN) | (with_reducible apply below_drew1))⟩
  have d_as_ : decide ((1048576 : Int) < (as_.size : Int)) = false := decide_eq_false (by omega)
  have d2_as_ : decide (1048576 < as_.size) = false := decide_eq_false (by omega)
  have b_as_ : as_.size ≤ 1048576 := by omega
  have HBD_as_ := Aside0.mk b_as_
  have BAS_ := Aside0.mk b_as_
  clear b_as_ g_as_
  have cl1_ : 0 ≤ (1048576 : Int) := by omega
  have cu1_ : (1048576 : Int) ≤ 1048576 := by omega
  obtain ⟨s1, hs_, hsa_, hsb_⟩ := szJob_ev aj_0 aj_1 aj_2 aj_3 aj_4 aj_5 aj_6 aj_7 1048576 cl1_ cu1_ hm_aj_0 HMI_aj_0.out hm_aj_1 hm_aj_2
  obtain ⟨ks_, hs_⟩ := hs_.rounds
  have HS1 := Aside0.mk hs_
  have HSB1 := Aside0.mk hsb_
  clear hs_ hsb_ cl1_ cu1_
  go_enter Tryd.func4, Tryd.ntmps4
  go_wp2_with (first | ((with_reducible refine gate_dst (N := 2) rfl ?_); refine box_event ?hg (N := 2) ?hd (cs := #[.slice A_aj_0 aj_0.length c_aj_0, .slice A_aj_1 aj_1.length c_aj_1, .slice A_aj_2 aj_2.length c_aj_2, .int .i64 aj_3, .int .i64 aj_4, .int .i64 aj_5, .int .i64 aj_6, .int .i64 aj_7]) (t := 27) ?hr ?_; (case hd => rfl); (case hg => rfl); (case hr => first | (go_simp; done) | (go_simp; rfl)); intro g_aj hg_ w1_ hbox_ hb_; have hp_ : Below w.heap.size w w1_ := below_step (by repeat (first | exact Below.refl _ _ | (with_reducible apply below_alloc) | (with_reducible apply pw_below_drewN) | (with_reducible apply below_drew1))) hb_; have hz_ : w.heap.size ≤ g_aj := Nat.le_trans (below_size (by repeat (first | exact Below.refl _ _ | (with_reducible apply below_alloc) | (with_reducible apply pw_below_drewN) | (with_reducible apply below_drew1)))) (Nat.le_of_eq hg_.symm); have HZ2 := Aside0.mk (⟨hz_, blk_lt hbox_, hp_.size⟩ : _ ∧ _ ∧ _); have HZ := HZ2; clear HZ2; have HGW_aj := Aside0.mk (Nat.le_trans HB.out.size hz_ : w.heap.size ≤ g_aj); replace HB := Aside0.mk (more HB.out hp_); have BK_aj := Aside0.mk hbox_; obtain ⟨hcz_aj_0, hfz_aj_0, hcz_aj_1, hfz_aj_1, hcz_aj_2, hfz_aj_2, hcz_aj_3, hfz_aj_3, hcz_aj_4, hfz_aj_4, hcz_aj_5, hfz_aj_5, hcz_aj_6, hfz_aj_6, hcz_aj_7, hfz_aj_7⟩ := cells8_ BK_aj.out; clear hg_ hbox_ hb_ hp_ hz_))
  refine (laws_szJob.calls ks_ _ _ aj_0 _ _ aj_1 _ _ aj_2 aj_3 aj_4 aj_5 aj_6 aj_7 1048576 s1 _ (by repeat (first | exact (Kd.C_below HR_aj_0.out HB.out) | (with_reducible refine Kd.C_alloc ?_ _) | (with_reducible refine Kd.C_drewN ?_ _) | (with_reducible refine Kd.C_drew ?_))) HC_aj_0.out (by repeat (first | exact (Kd.C_below HR_aj_1.out HB.out) | (with_reducible refine Kd.C_alloc ?_ _) | (with_reducible refine Kd.C_drewN ?_ _) | (with_reducible refine Kd.C_drew ?_))) HC_aj_1.out (by repeat (first | exact (Kd.C_below HR_aj_2.out HB.out) | (with_reducible refine Kd.C_alloc ?_ _) | (with_reducible refine Kd.C_drewN ?_ _) | (with_reducible refine Kd.C_drew ?_))) HC_aj_2.out HS1.out).mono ?_
  rintro e w2_ ⟨rfl, hd_⟩
  have hb_ := hd_
  clear hd_
  have hp_ : Below w1_.heap.size w1_ w2_ := below_step (by repeat (first | exact Below.refl _ _ | (with_reducible apply below_alloc) | (with_reducible apply pw_below_drewN) | (with_reducible apply below_drew1))) hb_
  have HZ3 := Aside0.mk hp_.size
  replace HZ := Aside0.mk (And.intro HZ.out HZ3.out)
  clear HZ3
  replace HB := Aside0.mk (more HB.out hp_)
  clear hcz_aj_0 hfz_aj_0 hcz_aj_1 hfz_aj_1 hcz_aj_2 hfz_aj_2 hcz_aj_3 hfz_aj_3 hcz_aj_4 hfz_aj_4 hcz_aj_5 hfz_aj_5 hcz_aj_6 hfz_aj_6 hcz_aj_7 hfz_aj_7
  replace BK_aj := Aside0.mk (blk_below BK_aj.out hp_)
  obtain ⟨hcz_aj_0, hfz_aj_0, hcz_aj_1, hfz_aj_1, hcz_aj_2, hfz_aj_2, hcz_aj_3, hfz_aj_3, hcz_aj_4, hfz_aj_4, hcz_aj_5, hfz_aj_5, hcz_aj_6, hfz_aj_6, hcz_aj_7, hfz_aj_7⟩ := cells8_ BK_aj.out
  clear hb_ hp_
  by_cases g_ : s1 < 0
  · have d_ : decide (s1 < 0) = true := decide_eq_true g_
    go_wp2_with fail
    go_ret
    exact ⟨rfl, by repeat (first | exact HB.out | (with_reducible apply below_alloc) | (with_reducible apply pw_below_drewN) | (with_reducible apply below_drew1))⟩
  have d1_ : decide (s1 < 0) = false := decide_eq_false g_
  have hb1_ := HSB1.out (by omega)
  clear HSB1
  have HQ1 := Aside0.mk hb1_
  have ga1 : 0 ≤ s1 := by omega
  clear hb1_ g_
  have b_aj_0 : aj_0.length ≤ 1048576 := by have := HQ1.out; omega
  have HBD_aj_0 := Aside0.mk b_aj_0
  have bi_aj_0 : ∀ z ∈ aj_0, z.length ≤ 1048576 := fun z hz => by have := tot_mem hz; have := HQ1.out; omega
  have HBI_aj_0 := Aside0.mk bi_aj_0
  have HTO_aj_0 : Aside0 (totL aj_0 ≤ 1048576) := ⟨by have := HQ1.out; omega⟩
  clear b_aj_0 bi_aj_0
  have b_aj_1 : aj_1.length ≤ 1048576 := by have := HQ1.out; omega
  have HBD_aj_1 := Aside0.mk b_aj_1
  clear b_aj_1
  have b_aj_2 : aj_2.length ≤ 1048576 := by have := HQ1.out; omega
  have HBD_aj_2 := Aside0.mk b_aj_2
  clear b_aj_2
  obtain ⟨r1v, r2v, r3v, es_, ei_, hl_r2⟩ := FnExactParsePlan aj_0 aj_1 aj_2 aj_3 aj_4 aj_5 aj_6 aj_7 as_ HBD_aj_0.out HBI_aj_0.out HBD_aj_1.out HBD_aj_2.out BAS_.out
  obtain ⟨kes_, h_⟩ := es_.rounds
  have HES := Aside0.mk h_
  clear h_ es_
  obtain ⟨kei_, h_⟩ := ei_.rounds
  have HEI := Aside0.mk h_
  clear h_ ei_
  have HL_r2 := Aside0.mk hl_r2
  clear hl_r2
  obtain ⟨kt_aJ, h_⟩ := (toJob_ev aj_0 aj_1 aj_2 aj_3 aj_4 aj_5 aj_6 aj_7 HBD_aj_0.out HBI_aj_0.out HBD_aj_1.out HBD_aj_2.out).rounds
  have Hkt_aJ := Aside0.mk h_
  clear h_
  obtain ⟨kq_aJ, h_⟩ := (eqJob_ev aj_0 aj_1 aj_2 aj_3 aj_4 aj_5 aj_6 aj_7 HBD_aj_0.out HBI_aj_0.out HBD_aj_1.out HBD_aj_2.out).rounds
  have Hkq_aJ := Aside0.mk h_
  clear h_
  obtain ⟨kgq, h_⟩ := (eqPlan_ev r1v r2v HL_r2.out).rounds
  have Hkgq := Aside0.mk h_
  clear h_
  go_wp2_with fail
  refine (laws_toJob.calls kt_aJ _ _ aj_0 _ _ aj_1 _ _ aj_2 aj_3 aj_4 aj_5 aj_6 aj_7 aj_0 aj_1 aj_2 aj_3 aj_4 aj_5 aj_6 aj_7 _ (by repeat (first | exact (Kd.C_below HR_aj_0.out HB.out) | (with_reducible refine Kd.C_alloc ?_ _) | (with_reducible refine Kd.C_drewN ?_ _) | (with_reducible refine Kd.C_drew ?_))) HC_aj_0.out (by repeat (first | exact (Kd.C_below HR_aj_1.out HB.out) | (with_reducible refine Kd.C_alloc ?_ _) | (with_reducible refine Kd.C_drewN ?_ _) | (with_reducible refine Kd.C_drew ?_))) HC_aj_1.out (by repeat (first | exact (Kd.C_below HR_aj_2.out HB.out) | (with_reducible refine Kd.C_alloc ?_ _) | (with_reducible refine Kd.C_drewN ?_ _) | (with_reducible refine Kd.C_drew ?_))) HC_aj_2.out Hkt_aJ.out).mono ?_
  rintro e w3_ ⟨v0_n3, v1_n3, v2_n3, rfl, ho0_, ho1_, ho2_, hb_⟩
  have hp_ : Below w2_.heap.size w2_ w3_ := below_step (by repeat (first | exact Below.refl _ _ | (with_reducible apply below_alloc) | (with_reducible apply pw_below_drewN) | (with_reducible apply below_drew1))) hb_
  obtain ⟨B4, H4, eB_, eH_, hi1_, hi2_, hi3_⟩ := spot (W0 := w2_) (by repeat (first | exact Below.refl _ _ | (with_reducible apply below_alloc) | (with_reducible apply pw_below_drewN) | (with_reducible apply below_drew1))) hb_
  have HZ4 := Aside0.mk (⟨hi1_, hi2_, hi3_, hp_.size⟩ : _ ∧ _ ∧ _ ∧ _)
  have N4_0 := Aside0.mk (OwnS.new (W0 := w2_) (b := w.heap.size) (by repeat (first | exact Below.refl _ _ | (with_reducible apply below_alloc) | (with_reducible apply pw_below_drewN) | (with_reducible apply below_drew1))) ho0_ hb_ HB.out.size _ _ eB_ eH_)
  have N4_1 := Aside0.mk (Own.new (W0 := w2_) (b := w.heap.size) (by repeat (first | exact Below.refl _ _ | (with_reducible apply below_alloc) | (with_reducible apply pw_below_drewN) | (with_reducible apply below_drew1))) (tightRow rfl ho1_) hb_ HB.out.size _ _ eB_ eH_)
  have N4_2 := Aside0.mk (Own.new (W0 := w2_) (b := w.heap.size) (by repeat (first | exact Below.refl _ _ | (with_reducible apply below_alloc) | (with_reducible apply pw_below_drewN) | (with_reducible apply below_drew1))) (tightRow rfl ho2_) hb_ HB.out.size _ _ eB_ eH_)
  clear eB_ eH_ hi1_ hi2_ hi3_ ho0_ ho1_ ho2_
  replace HZ := Aside0.mk (And.intro HZ.out HZ4.out)
  clear HZ4
  replace HB := Aside0.mk (more HB.out hp_)
  clear hcz_aj_0 hfz_aj_0 hcz_aj_1 hfz_aj_1 hcz_aj_2 hfz_aj_2 hcz_aj_3 hfz_aj_3 hcz_aj_4 hfz_aj_4 hcz_aj_5 hfz_aj_5 hcz_aj_6 hfz_aj_6 hcz_aj_7 hfz_aj_7
  replace BK_aj := Aside0.mk (blk_below BK_aj.out hp_)
  obtain ⟨hcz_aj_0, hfz_aj_0, hcz_aj_1, hfz_aj_1, hcz_aj_2, hfz_aj_2, hcz_aj_3, hfz_aj_3, hcz_aj_4, hfz_aj_4, hcz_aj_5, hfz_aj_5, hcz_aj_6, hfz_aj_6, hcz_aj_7, hfz_aj_7⟩ := cells8_ BK_aj.out
  clear hb_ hp_
  have T4_0 := N4_0
  clear N4_0
  obtain ⟨AT4_0, cT4_0, rfl, hc_⟩ := T4_0.out.reads
  have HCT4_0 := Aside0.mk hc_
  clear hc_
  have T4_1 := N4_1
  clear N4_1
  obtain ⟨AT4_1, cT4_1, rfl, hc_⟩ := T4_1.out.reads
  have HCT4_1 := Aside0.mk hc_
  clear hc_
  have T4_2 := N4_2
  clear N4_2
  obtain ⟨AT4_2, cT4_2, rfl, hc_⟩ := T4_2.out.reads
  have HCT4_2 := Aside0.mk hc_
  clear hc_
  go_wp2_with fail
  refine (spec_ParsePlan.calls kes_ _ _ aj_0 _ _ aj_1 _ _ aj_2 aj_3 aj_4 aj_5 aj_6 aj_7 as_ r1v r2v r3v _ (by repeat (first | exact T4_0.out.C | (with_reducible refine Kd.C_alloc ?_ _) | (with_reducible refine Kd.C_drewN ?_ _) | (with_reducible refine Kd.C_drew ?_))) HCT4_0.out (by repeat (first | exact T4_1.out.C | (with_reducible refine Kd.C_alloc ?_ _) | (with_reducible refine Kd.C_drewN ?_ _) | (with_reducible refine Kd.C_drew ?_))) HCT4_1.out (by repeat (first | exact T4_2.out.C | (with_reducible refine Kd.C_alloc ?_ _) | (with_reducible refine Kd.C_drewN ?_ _) | (with_reducible refine Kd.C_drew ?_))) HCT4_2.out HES.out).mono ?_
  rintro e w4_ ⟨v1_n4, rfl, ho0_, hb_⟩
  have hp_ : Below w3_.heap.size w3_ w4_ := below_step (by repeat (first | exact Below.refl _ _ | (with_reducible apply below_alloc) | (with_reducible apply pw_below_drewN) | (with_reducible apply below_drew1))) hb_
  obtain ⟨B5, H5, eB_, eH_, hi1_, hi2_, hi3_⟩ := spot (W0 := w3_) (by repeat (first | exact Below.refl _ _ | (with_reducible apply below_alloc) | (with_reducible apply pw_below_drewN) | (with_reducible apply below_drew1))) hb_
  have HZ5 := Aside0.mk (⟨hi1_, hi2_, hi3_, hp_.size⟩ : _ ∧ _ ∧ _ ∧ _)
  have N5_0 := Aside0.mk (Own.new (W0 := w3_) (b := w.heap.size) (by repeat (first | exact Below.refl _ _ | (with_reducible apply below_alloc) | (with_reducible apply pw_below_drewN) | (with_reducible apply below_drew1))) ho0_ hb_ HB.out.size _ _ eB_ eH_)
  clear eB_ eH_ hi1_ hi2_ hi3_ ho0_
  replace HZ := Aside0.mk (And.intro HZ.out HZ5.out)
  clear HZ5
  replace HB := Aside0.mk (more HB.out hp_)
  replace T4_0 := Aside0.mk (T4_0.out.step hp_)
  replace T4_1 := Aside0.mk (T4_1.out.step hp_)
  replace T4_2 := Aside0.mk (T4_2.out.step hp_)
  clear hcz_aj_0 hfz_aj_0 hcz_aj_1 hfz_aj_1 hcz_aj_2 hfz_aj_2 hcz_aj_3 hfz_aj_3 hcz_aj_4 hfz_aj_4 hcz_aj_5 hfz_aj_5 hcz_aj_6 hfz_aj_6 hcz_aj_7 hfz_aj_7
  replace BK_aj := Aside0.mk (blk_below BK_aj.out hp_)
  obtain ⟨hcz_aj_0, hfz_aj_0, hcz_aj_1, hfz_aj_1, hcz_aj_2, hfz_aj_2, hcz_aj_3, hfz_aj_3, hcz_aj_4, hfz_aj_4, hcz_aj_5, hfz_aj_5, hcz_aj_6, hfz_aj_6, hcz_aj_7, hfz_aj_7⟩ := cells8_ BK_aj.out
  clear hb_ hp_
  have Vw0 := N5_0
  clear N5_0
  obtain ⟨AVw0, cVw0, rfl, hc_⟩ := Vw0.out.reads
  have HCVw0 := Aside0.mk hc_
  clear hc_
  clear T4_0 HCT4_0
  clear T4_1 HCT4_1
  clear T4_2 HCT4_2
  go_wp2_with (first | ((with_reducible refine gate_dst (N := 6) rfl ?_); refine box_event ?hg (N := 6) ?hd (cs := #[.int .i64 0, .slice none 0 0]) (t := 38) ?hr ?_; (case hd => rfl); (case hg => rfl); (case hr => first | (go_simp; done) | (go_simp; rfl)); intro g_w0 hg_ w5_ hbox_ hb_; have hp_ : Below w4_.heap.size w4_ w5_ := below_step (by repeat (first | exact Below.refl _ _ | (with_reducible apply below_alloc) | (with_reducible apply pw_below_drewN) | (with_reducible apply below_drew1))) hb_; have hz_ : w4_.heap.size ≤ g_w0 := Nat.le_trans (below_size (by repeat (first | exact Below.refl _ _ | (with_reducible apply below_alloc) | (with_reducible apply pw_below_drewN) | (with_reducible apply below_drew1)))) (Nat.le_of_eq hg_.symm); have HZ6 := Aside0.mk (⟨hz_, blk_lt hbox_, hp_.size⟩ : _ ∧ _ ∧ _); replace HZ := Aside0.mk (And.intro HZ.out HZ6.out); clear HZ6; have HGW_w0 := Aside0.mk (Nat.le_trans HB.out.size hz_ : w.heap.size ≤ g_w0); have hnb_w0_aj : g_w0 ≠ g_aj := Nat.ne_of_gt (Nat.lt_of_lt_of_le (blk_lt BK_aj.out) hz_); have hnb_aj_w0 : g_aj ≠ g_w0 := hnb_w0_aj.symm; replace HB := Aside0.mk (more HB.out hp_); replace Vw0 := Aside0.mk (Vw0.out.step hp_); clear hcz_aj_0 hfz_aj_0 hcz_aj_1 hfz_aj_1 hcz_aj_2 hfz_aj_2 hcz_aj_3 hfz_aj_3 hcz_aj_4 hfz_aj_4 hcz_aj_5 hfz_aj_5 hcz_aj_6 hfz_aj_6 hcz_aj_7 hfz_aj_7; replace BK_aj := Aside0.mk (blk_below BK_aj.out hp_); obtain ⟨hcz_aj_0, hfz_aj_0, hcz_aj_1, hfz_aj_1, hcz_aj_2, hfz_aj_2, hcz_aj_3, hfz_aj_3, hcz_aj_4, hfz_aj_4, hcz_aj_5, hfz_aj_5, hcz_aj_6, hfz_aj_6, hcz_aj_7, hfz_aj_7⟩ := cells8_ BK_aj.out; have BK_w0 := Aside0.mk hbox_; obtain ⟨hcz_w0_0, hfz_w0_0, hcz_w0_1, hfz_w0_1⟩ := cells2_ BK_w0.out; clear hg_ hbox_ hb_ hp_ hz_))
  obtain ⟨w6_, ew_⟩ : ∃ w_ : World, w_ = (World.setCell (World.setCell w5_ ⟨g_w0, 0, none⟩ (.int .i64 r1v)) ⟨g_w0, 1, none⟩ (.slice AVw0 r2v.length cVw0)) := ⟨_, rfl⟩
  rw [← ew_]
  have hbk_ : w6_.heap[g_w0]? = some (.cells #[.int .i64 r1v, .slice AVw0 r2v.length cVw0] 38 (0, 0)) := by rw [ew_]; exact blk_set (blk_set (BK_w0.out) 0 (.int .i64 r1v)) 1 (.slice AVw0 r2v.length cVw0)
  have hk_ : Kept w5_ w6_ (fun k_ => k_ = g_w0) := by rw [ew_]; exact Kept.setCell (Kept.setCell (Kept.refl _ (fun k_ => k_ = g_w0)) (Or.inl rfl) (.int .i64 r1v)) (Or.inl rfl) (.slice AVw0 r2v.length cVw0)
  have hb_ : Below w.heap.size w w6_ := by rw [ew_]; exact below_set (below_set (HB.out) HGW_w0.out) HGW_w0.out
  have HZ7 := Aside0.mk hk_.1
  replace HZ := Aside0.mk (And.intro HZ.out HZ7.out)
  clear HZ7
  clear ew_ HB
  have HB := Aside0.mk hb_
  have X_ := Aside0.mk (Vw0.out.kept hk_ (fun k h1_ h2_ h3_ => by have z_ := HZ.out; omega))
  clear Vw0
  have Vw0 := X_
  clear X_
  clear hcz_w0_0 hfz_w0_0 hcz_w0_1 hfz_w0_1
  clear hcz_aj_0 hfz_aj_0 hcz_aj_1 hfz_aj_1 hcz_aj_2 hfz_aj_2 hcz_aj_3 hfz_aj_3 hcz_aj_4 hfz_aj_4 hcz_aj_5 hfz_aj_5 hcz_aj_6 hfz_aj_6 hcz_aj_7 hfz_aj_7
  have X_ := Aside0.mk (blk_kept BK_aj.out hk_ (fun h3_ => by have z_ := HZ.out; omega))
  clear BK_aj
  have BK_aj := X_
  clear X_
  obtain ⟨hcz_aj_0, hfz_aj_0, hcz_aj_1, hfz_aj_1, hcz_aj_2, hfz_aj_2, hcz_aj_3, hfz_aj_3, hcz_aj_4, hfz_aj_4, hcz_aj_5, hfz_aj_5, hcz_aj_6, hfz_aj_6, hcz_aj_7, hfz_aj_7⟩ := cells8_ BK_aj.out
  clear BK_w0
  have BK_w0 := Aside0.mk hbk_
  obtain ⟨hcz_w0_0, hfz_w0_0, hcz_w0_1, hfz_w0_1⟩ := cells2_ BK_w0.out
  clear hbk_ hk_ hb_
  refine (laws_toJob.calls kt_aJ _ _ aj_0 _ _ aj_1 _ _ aj_2 aj_3 aj_4 aj_5 aj_6 aj_7 aj_0 aj_1 aj_2 aj_3 aj_4 aj_5 aj_6 aj_7 _ (by repeat (first | exact (Kd.C_below HR_aj_0.out HB.out) | (with_reducible refine Kd.C_alloc ?_ _) | (with_reducible refine Kd.C_drewN ?_ _) | (with_reducible refine Kd.C_drew ?_))) HC_aj_0.out (by repeat (first | exact (Kd.C_below HR_aj_1.out HB.out) | (with_reducible refine Kd.C_alloc ?_ _) | (with_reducible refine Kd.C_drewN ?_ _) | (with_reducible refine Kd.C_drew ?_))) HC_aj_1.out (by repeat (first | exact (Kd.C_below HR_aj_2.out HB.out) | (with_reducible refine Kd.C_alloc ?_ _) | (with_reducible refine Kd.C_drewN ?_ _) | (with_reducible refine Kd.C_drew ?_))) HC_aj_2.out Hkt_aJ.out).mono ?_
  rintro e w7_ ⟨v0_n7, v1_n7, v2_n7, rfl, ho0_, ho1_, ho2_, hb_⟩
  have hp_ : Below w6_.heap.size w6_ w7_ := below_step (by repeat (first | exact Below.refl _ _ | (with_reducible apply below_alloc) | (with_reducible apply pw_below_drewN) | (with_reducible apply below_drew1))) hb_
  obtain ⟨B8, H8, eB_, eH_, hi1_, hi2_, hi3_⟩ := spot (W0 := w6_) (by repeat (first | exact Below.refl _ _ | (with_reducible apply below_alloc) | (with_reducible apply pw_below_drewN) | (with_reducible apply below_drew1))) hb_
  have HZ8 := Aside0.mk (⟨hi1_, hi2_, hi3_, hp_.size⟩ : _ ∧ _ ∧ _ ∧ _)
  have N8_0 := Aside0.mk (OwnS.new (W0 := w6_) (b := w.heap.size) (by repeat (first | exact Below.refl _ _ | (with_reducible apply below_alloc) | (with_reducible apply pw_below_drewN) | (with_reducible apply below_drew1))) ho0_ hb_ HB.out.size _ _ eB_ eH_)
  have N8_1 := Aside0.mk (Own.new (W0 := w6_) (b := w.heap.size) (by repeat (first | exact Below.refl _ _ | (with_reducible apply below_alloc) | (with_reducible apply pw_below_drewN) | (with_reducible apply below_drew1))) (tightRow rfl ho1_) hb_ HB.out.size _ _ eB_ eH_)
  have N8_2 := Aside0.mk (Own.new (W0 := w6_) (b := w.heap.size) (by repeat (first | exact Below.refl _ _ | (with_reducible apply below_alloc) | (with_reducible apply pw_below_drewN) | (with_reducible apply below_drew1))) (tightRow rfl ho2_) hb_ HB.out.size _ _ eB_ eH_)
  clear eB_ eH_ hi1_ hi2_ hi3_ ho0_ ho1_ ho2_
  replace HZ := Aside0.mk (And.intro HZ.out HZ8.out)
  clear HZ8
  replace HB := Aside0.mk (more HB.out hp_)
  replace Vw0 := Aside0.mk (Vw0.out.step hp_)
  clear hcz_aj_0 hfz_aj_0 hcz_aj_1 hfz_aj_1 hcz_aj_2 hfz_aj_2 hcz_aj_3 hfz_aj_3 hcz_aj_4 hfz_aj_4 hcz_aj_5 hfz_aj_5 hcz_aj_6 hfz_aj_6 hcz_aj_7 hfz_aj_7
  replace BK_aj := Aside0.mk (blk_below BK_aj.out hp_)
  obtain ⟨hcz_aj_0, hfz_aj_0, hcz_aj_1, hfz_aj_1, hcz_aj_2, hfz_aj_2, hcz_aj_3, hfz_aj_3, hcz_aj_4, hfz_aj_4, hcz_aj_5, hfz_aj_5, hcz_aj_6, hfz_aj_6, hcz_aj_7, hfz_aj_7⟩ := cells8_ BK_aj.out
  clear hcz_w0_0 hfz_w0_0 hcz_w0_1 hfz_w0_1
  replace BK_w0 := Aside0.mk (blk_below BK_w0.out hp_)
  obtain ⟨hcz_w0_0, hfz_w0_0, hcz_w0_1, hfz_w0_1⟩ := cells2_ BK_w0.out
  clear hb_ hp_
  have Vx00 := N8_0
  clear N8_0
  obtain ⟨AVx00, cVx00, rfl, hc_⟩ := Vx00.out.reads
  have HCVx00 := Aside0.mk hc_
  clear hc_
  have Vx01 := N8_1
  clear N8_1
  obtain ⟨AVx01, cVx01, rfl, hc_⟩ := Vx01.out.reads
  have HCVx01 := Aside0.mk hc_
  clear hc_
  have Vx02 := N8_2
  clear N8_2
  obtain ⟨AVx02, cVx02, rfl, hc_⟩ := Vx02.out.reads
  have HCVx02 := Aside0.mk hc_
  clear hc_
  go_wp2_with (first | ((with_reducible refine gate_dst (N := 8) rfl ?_); refine box_event ?hg (N := 8) ?hd (cs := #[.slice none 0 0, .slice none 0 0, .slice none 0 0, .int .i64 0, .int .i64 0, .int .i64 0, .int .i64 0, .int .i64 0]) (t := 36) ?hr ?_; (case hd => rfl); (case hg => rfl); (case hr => first | (go_simp; done) | (go_simp; rfl)); intro g_x0 hg_ w8_ hbox_ hb_; have hp_ : Below w7_.heap.size w7_ w8_ := below_step (by repeat (first | exact Below.refl _ _ | (with_reducible apply below_alloc) | (with_reducible apply pw_below_drewN) | (with_reducible apply below_drew1))) hb_; have hz_ : w7_.heap.size ≤ g_x0 := Nat.le_trans (below_size (by repeat (first | exact Below.refl _ _ | (with_reducible apply below_alloc) | (with_reducible apply pw_below_drewN) | (with_reducible apply below_drew1)))) (Nat.le_of_eq hg_.symm); have HZ9 := Aside0.mk (⟨hz_, blk_lt hbox_, hp_.size⟩ : _ ∧ _ ∧ _); replace HZ := Aside0.mk (And.intro HZ.out HZ9.out); clear HZ9; have HGW_x0 := Aside0.mk (Nat.le_trans HB.out.size hz_ : w.heap.size ≤ g_x0); have hnb_x0_aj : g_x0 ≠ g_aj := Nat.ne_of_gt (Nat.lt_of_lt_of_le (blk_lt BK_aj.out) hz_); have hnb_aj_x0 : g_aj ≠ g_x0 := hnb_x0_aj.symm; have hnb_x0_w0 : g_x0 ≠ g_w0 := Nat.ne_of_gt (Nat.lt_of_lt_of_le (blk_lt BK_w0.out) hz_); have hnb_w0_x0 : g_w0 ≠ g_x0 := hnb_x0_w0.symm; replace HB := Aside0.mk (more HB.out hp_); replace Vw0 := Aside0.mk (Vw0.out.step hp_); replace Vx00 := Aside0.mk (Vx00.out.step hp_); replace Vx01 := Aside0.mk (Vx01.out.step hp_); replace Vx02 := Aside0.mk (Vx02.out.step hp_); clear hcz_aj_0 hfz_aj_0 hcz_aj_1 hfz_aj_1 hcz_aj_2 hfz_aj_2 hcz_aj_3 hfz_aj_3 hcz_aj_4 hfz_aj_4 hcz_aj_5 hfz_aj_5 hcz_aj_6 hfz_aj_6 hcz_aj_7 hfz_aj_7; replace BK_aj := Aside0.mk (blk_below BK_aj.out hp_); obtain ⟨hcz_aj_0, hfz_aj_0, hcz_aj_1, hfz_aj_1, hcz_aj_2, hfz_aj_2, hcz_aj_3, hfz_aj_3, hcz_aj_4, hfz_aj_4, hcz_aj_5, hfz_aj_5, hcz_aj_6, hfz_aj_6, hcz_aj_7, hfz_aj_7⟩ := cells8_ BK_aj.out; clear hcz_w0_0 hfz_w0_0 hcz_w0_1 hfz_w0_1; replace BK_w0 := Aside0.mk (blk_below BK_w0.out hp_); obtain ⟨hcz_w0_0, hfz_w0_0, hcz_w0_1, hfz_w0_1⟩ := cells2_ BK_w0.out; have BK_x0 := Aside0.mk hbox_; obtain ⟨hcz_x0_0, hfz_x0_0, hcz_x0_1, hfz_x0_1, hcz_x0_2, hfz_x0_2, hcz_x0_3, hfz_x0_3, hcz_x0_4, hfz_x0_4, hcz_x0_5, hfz_x0_5, hcz_x0_6, hfz_x0_6, hcz_x0_7, hfz_x0_7⟩ := cells8_ BK_x0.out; clear hg_ hbox_ hb_ hp_ hz_))
  obtain ⟨w9_, ew_⟩ : ∃ w_ : World, w_ = (World.setCell (World.setCell (World.setCell (World.setCell (World.setCell (World.setCell (World.setCell (World.setCell w8_ ⟨g_x0, 0, none⟩ (.slice AVx00 aj_0.length cVx00)) ⟨g_x0, 1, none⟩ (.slice AVx01 aj_1.length cVx01)) ⟨g_x0, 2, none⟩ (.slice AVx02 aj_2.length cVx02)) ⟨g_x0, 3, none⟩ (.int .i64 aj_3)) ⟨g_x0, 4, none⟩ (.int .i64 aj_4)) ⟨g_x0, 5, none⟩ (.int .i64 aj_5)) ⟨g_x0, 6, none⟩ (.int .i64 aj_6)) ⟨g_x0, 7, none⟩ (.int .i64 aj_7)) := ⟨_, rfl⟩
  rw [← ew_]
  have hbk_ : w9_.heap[g_x0]? = some (.cells #[.slice AVx00 aj_0.length cVx00, .slice AVx01 aj_1.length cVx01, .slice AVx02 aj_2.length cVx02, .int .i64 aj_3, .int .i64 aj_4, .int .i64 aj_5, .int .i64 aj_6, .int .i64 aj_7] 36 (0, 0)) := by rw [ew_]; exact blk_set (blk_set (blk_set (blk_set (blk_set (blk_set (blk_set (blk_set (BK_x0.out) 0 (.slice AVx00 aj_0.length cVx00)) 1 (.slice AVx01 aj_1.length cVx01)) 2 (.slice AVx02 aj_2.length cVx02)) 3 (.int .i64 aj_3)) 4 (.int .i64 aj_4)) 5 (.int .i64 aj_5)) 6 (.int .i64 aj_6)) 7 (.int .i64 aj_7)
  have hk_ : Kept w8_ w9_ (fun k_ => k_ = g_x0) := by rw [ew_]; exact Kept.setCell (Kept.setCell (Kept.setCell (Kept.setCell (Kept.setCell (Kept.setCell (Kept.setCell (Kept.setCell (Kept.refl _ (fun k_ => k_ = g_x0)) (Or.inl rfl) (.slice AVx00 aj_0.length cVx00)) (Or.inl rfl) (.slice AVx01 aj_1.length cVx01)) (Or.inl rfl) (.slice AVx02 aj_2.length cVx02)) (Or.inl rfl) (.int .i64 aj_3)) (Or.inl rfl) (.int .i64 aj_4)) (Or.inl rfl) (.int .i64 aj_5)) (Or.inl rfl) (.int .i64 aj_6)) (Or.inl rfl) (.int .i64 aj_7)
  have hb_ : Below w.heap.size w w9_ := by rw [ew_]; exact below_set (below_set (below_set (below_set (below_set (below_set (below_set (below_set (HB.out) HGW_x0.out) HGW_x0.out) HGW_x0.out) HGW_x0.out) HGW_x0.out) HGW_x0.out) HGW_x0.out) HGW_x0.out
  have HZ10 := Aside0.mk hk_.1
  replace HZ := Aside0.mk (And.intro HZ.out HZ10.out)
  clear HZ10
  clear ew_ HB
  have HB := Aside0.mk hb_
  have X_ := Aside0.mk (Vw0.out.kept hk_ (fun k h1_ h2_ h3_ => by have z_ := HZ.out; omega))
  clear Vw0
  have Vw0 := X_
  clear X_
  have X_ := Aside0.mk (Vx00.out.kept hk_ (fun k h1_ h2_ h3_ => by have z_ := HZ.out; omega))
  clear Vx00
  have Vx00 := X_
  clear X_
  have X_ := Aside0.mk (Vx01.out.kept hk_ (fun k h1_ h2_ h3_ => by have z_ := HZ.out; omega))
  clear Vx01
  have Vx01 := X_
  clear X_
  have X_ := Aside0.mk (Vx02.out.kept hk_ (fun k h1_ h2_ h3_ => by have z_ := HZ.out; omega))
  clear Vx02
  have Vx02 := X_
  clear X_
  clear hcz_x0_0 hfz_x0_0 hcz_x0_1 hfz_x0_1 hcz_x0_2 hfz_x0_2 hcz_x0_3 hfz_x0_3 hcz_x0_4 hfz_x0_4 hcz_x0_5 hfz_x0_5 hcz_x0_6 hfz_x0_6 hcz_x0_7 hfz_x0_7
  clear hcz_aj_0 hfz_aj_0 hcz_aj_1 hfz_aj_1 hcz_aj_2 hfz_aj_2 hcz_aj_3 hfz_aj_3 hcz_aj_4 hfz_aj_4 hcz_aj_5 hfz_aj_5 hcz_aj_6 hfz_aj_6 hcz_aj_7 hfz_aj_7
  have X_ := Aside0.mk (blk_kept BK_aj.out hk_ (fun h3_ => by have z_ := HZ.out; omega))
  clear BK_aj
  have BK_aj := X_
  clear X_
  obtain ⟨hcz_aj_0, hfz_aj_0, hcz_aj_1, hfz_aj_1, hcz_aj_2, hfz_aj_2, hcz_aj_3, hfz_aj_3, hcz_aj_4, hfz_aj_4, hcz_aj_5, hfz_aj_5, hcz_aj_6, hfz_aj_6, hcz_aj_7, hfz_aj_7⟩ := cells8_ BK_aj.out
  clear hcz_w0_0 hfz_w0_0 hcz_w0_1 hfz_w0_1
  have X_ := Aside0.mk (blk_kept BK_w0.out hk_ (fun h3_ => by have z_ := HZ.out; omega))
  clear BK_w0
  have BK_w0 := X_
  clear X_
  obtain ⟨hcz_w0_0, hfz_w0_0, hcz_w0_1, hfz_w0_1⟩ := cells2_ BK_w0.out
  clear BK_x0
  have BK_x0 := Aside0.mk hbk_
  obtain ⟨hcz_x0_0, hfz_x0_0, hcz_x0_1, hfz_x0_1, hcz_x0_2, hfz_x0_2, hcz_x0_3, hfz_x0_3, hcz_x0_4, hfz_x0_4, hcz_x0_5, hfz_x0_5, hcz_x0_6, hfz_x0_6, hcz_x0_7, hfz_x0_7⟩ := cells8_ BK_x0.out
  clear hbk_ hk_ hb_
  refine (impl_ParsePlan.calls kei_ _ _ aj_0 _ _ aj_1 _ _ aj_2 aj_3 aj_4 aj_5 aj_6 aj_7 as_ r1v r2v r3v _ (by repeat (first | exact Vx00.out.C | (with_reducible refine Kd.C_alloc ?_ _) | (with_reducible refine Kd.C_drewN ?_ _) | (with_reducible refine Kd.C_drew ?_))) HCVx00.out (by repeat (first | exact Vx01.out.C | (with_reducible refine Kd.C_alloc ?_ _) | (with_reducible refine Kd.C_drewN ?_ _) | (with_reducible refine Kd.C_drew ?_))) HCVx01.out (by repeat (first | exact Vx02.out.C | (with_reducible refine Kd.C_alloc ?_ _) | (with_reducible refine Kd.C_drewN ?_ _) | (with_reducible refine Kd.C_drew ?_))) HCVx02.out HEI.out (tabW_below HT.out (by repeat (first | exact HB.out | (with_reducible apply below_alloc) | (with_reducible apply pw_below_drewN) | (with_reducible apply below_drew1))))).mono ?_
  rintro e w10_ ⟨v1_n10, rfl, ho0_, hb_⟩
  have hp_ : Below w9_.heap.size w9_ w10_ := below_step (by repeat (first | exact Below.refl _ _ | (with_reducible apply below_alloc) | (with_reducible apply pw_below_drewN) | (with_reducible apply below_drew1))) hb_
  obtain ⟨B11, H11, eB_, eH_, hi1_, hi2_, hi3_⟩ := spot (W0 := w9_) (by repeat (first | exact Below.refl _ _ | (with_reducible apply below_alloc) | (with_reducible apply pw_below_drewN) | (with_reducible apply below_drew1))) hb_
  have HZ11 := Aside0.mk (⟨hi1_, hi2_, hi3_, hp_.size⟩ : _ ∧ _ ∧ _ ∧ _)
  have N11_0 := Aside0.mk (Own.new (W0 := w9_) (b := w.heap.size) (by repeat (first | exact Below.refl _ _ | (with_reducible apply below_alloc) | (with_reducible apply pw_below_drewN) | (with_reducible apply below_drew1))) ho0_ hb_ HB.out.size _ _ eB_ eH_)
  clear eB_ eH_ hi1_ hi2_ hi3_ ho0_
  replace HZ := Aside0.mk (And.intro HZ.out HZ11.out)
  clear HZ11
  replace HB := Aside0.mk (more HB.out hp_)
  replace Vw0 := Aside0.mk (Vw0.out.step hp_)
  replace Vx00 := Aside0.mk (Vx00.out.step hp_)
  replace Vx01 := Aside0.mk (Vx01.out.step hp_)
  replace Vx02 := Aside0.mk (Vx02.out.step hp_)
  clear hcz_aj_0 hfz_aj_0 hcz_aj_1 hfz_aj_1 hcz_aj_2 hfz_aj_2 hcz_aj_3 hfz_aj_3 hcz_aj_4 hfz_aj_4 hcz_aj_5 hfz_aj_5 hcz_aj_6 hfz_aj_6 hcz_aj_7 hfz_aj_7
  replace BK_aj := Aside0.mk (blk_below BK_aj.out hp_)
  obtain ⟨hcz_aj_0, hfz_aj_0, hcz_aj_1, hfz_aj_1, hcz_aj_2, hfz_aj_2, hcz_aj_3, hfz_aj_3, hcz_aj_4, hfz_aj_4, hcz_aj_5, hfz_aj_5, hcz_aj_6, hfz_aj_6, hcz_aj_7, hfz_aj_7⟩ := cells8_ BK_aj.out
  clear hcz_w0_0 hfz_w0_0 hcz_w0_1 hfz_w0_1
  replace BK_w0 := Aside0.mk (blk_below BK_w0.out hp_)
  obtain ⟨hcz_w0_0, hfz_w0_0, hcz_w0_1, hfz_w0_1⟩ := cells2_ BK_w0.out
  clear hcz_x0_0 hfz_x0_0 hcz_x0_1 hfz_x0_1 hcz_x0_2 hfz_x0_2 hcz_x0_3 hfz_x0_3 hcz_x0_4 hfz_x0_4 hcz_x0_5 hfz_x0_5 hcz_x0_6 hfz_x0_6 hcz_x0_7 hfz_x0_7
  replace BK_x0 := Aside0.mk (blk_below BK_x0.out hp_)
  obtain ⟨hcz_x0_0, hfz_x0_0, hcz_x0_1, hfz_x0_1, hcz_x0_2, hfz_x0_2, hcz_x0_3, hfz_x0_3, hcz_x0_4, hfz_x0_4, hcz_x0_5, hfz_x0_5, hcz_x0_6, hfz_x0_6, hcz_x0_7, hfz_x0_7⟩ := cells8_ BK_x0.out
  clear hb_ hp_
  have Vg0 := N11_0
  clear N11_0
  obtain ⟨AVg0, cVg0, rfl, hc_⟩ := Vg0.out.reads
  have HCVg0 := Aside0.mk hc_
  clear hc_
  go_wp2_with (first | ((with_reducible refine gate_dst (N := 9) rfl ?_); refine box_event ?hg (N := 9) ?hd (cs := #[.int .i64 0, .slice none 0 0]) (t := 38) ?hr ?_; (case hd => rfl); (case hg => rfl); (case hr => first | (go_simp; done) | (go_simp; rfl)); intro g_g0 hg_ w11_ hbox_ hb_; have hp_ : Below w10_.heap.size w10_ w11_ := below_step (by repeat (first | exact Below.refl _ _ | (with_reducible apply below_alloc) | (with_reducible apply pw_below_drewN) | (with_reducible apply below_drew1))) hb_; have hz_ : w10_.heap.size ≤ g_g0 := Nat.le_trans (below_size (by repeat (first | exact Below.refl _ _ | (with_reducible apply below_alloc) | (with_reducible apply pw_below_drewN) | (with_reducible apply below_drew1)))) (Nat.le_of_eq hg_.symm); have HZ12 := Aside0.mk (⟨hz_, blk_lt hbox_, hp_.size⟩ : _ ∧ _ ∧ _); replace HZ := Aside0.mk (And.intro HZ.out HZ12.out); clear HZ12; have HGW_g0 := Aside0.mk (Nat.le_trans HB.out.size hz_ : w.heap.size ≤ g_g0); have hnb_g0_aj : g_g0 ≠ g_aj := Nat.ne_of_gt (Nat.lt_of_lt_of_le (blk_lt BK_aj.out) hz_); have hnb_aj_g0 : g_aj ≠ g_g0 := hnb_g0_aj.symm; have hnb_g0_w0 : g_g0 ≠ g_w0 := Nat.ne_of_gt (Nat.lt_of_lt_of_le (blk_lt BK_w0.out) hz_); have hnb_w0_g0 : g_w0 ≠ g_g0 := hnb_g0_w0.symm; have hnb_g0_x0 : g_g0 ≠ g_x0 := Nat.ne_of_gt (Nat.lt_of_lt_of_le (blk_lt BK_x0.out) hz_); have hnb_x0_g0 : g_x0 ≠ g_g0 := hnb_g0_x0.symm; replace HB := Aside0.mk (more HB.out hp_); replace Vw0 := Aside0.mk (Vw0.out.step hp_); replace Vx00 := Aside0.mk (Vx00.out.step hp_); replace Vx01 := Aside0.mk (Vx01.out.step hp_); replace Vx02 := Aside0.mk (Vx02.out.step hp_); replace Vg0 := Aside0.mk (Vg0.out.step hp_); clear hcz_aj_0 hfz_aj_0 hcz_aj_1 hfz_aj_1 hcz_aj_2 hfz_aj_2 hcz_aj_3 hfz_aj_3 hcz_aj_4 hfz_aj_4 hcz_aj_5 hfz_aj_5 hcz_aj_6 hfz_aj_6 hcz_aj_7 hfz_aj_7; replace BK_aj := Aside0.mk (blk_below BK_aj.out hp_); obtain ⟨hcz_aj_0, hfz_aj_0, hcz_aj_1, hfz_aj_1, hcz_aj_2, hfz_aj_2, hcz_aj_3, hfz_aj_3, hcz_aj_4, hfz_aj_4, hcz_aj_5, hfz_aj_5, hcz_aj_6, hfz_aj_6, hcz_aj_7, hfz_aj_7⟩ := cells8_ BK_aj.out; clear hcz_w0_0 hfz_w0_0 hcz_w0_1 hfz_w0_1; replace BK_w0 := Aside0.mk (blk_below BK_w0.out hp_); obtain ⟨hcz_w0_0, hfz_w0_0, hcz_w0_1, hfz_w0_1⟩ := cells2_ BK_w0.out; clear hcz_x0_0 hfz_x0_0 hcz_x0_1 hfz_x0_1 hcz_x0_2 hfz_x0_2 hcz_x0_3 hfz_x0_3 hcz_x0_4 hfz_x0_4 hcz_x0_5 hfz_x0_5 hcz_x0_6 hfz_x0_6 hcz_x0_7 hfz_x0_7; replace BK_x0 := Aside0.mk (blk_below BK_x0.out hp_); obtain ⟨hcz_x0_0, hfz_x0_0, hcz_x0_1, hfz_x0_1, hcz_x0_2, hfz_x0_2, hcz_x0_3, hfz_x0_3, hcz_x0_4, hfz_x0_4, hcz_x0_5, hfz_x0_5, hcz_x0_6, hfz_x0_6, hcz_x0_7, hfz_x0_7⟩ := cells8_ BK_x0.out; have BK_g0 := Aside0.mk hbox_; obtain ⟨hcz_g0_0, hfz_g0_0, hcz_g0_1, hfz_g0_1⟩ := cells2_ BK_g0.out; clear hg_ hbox_ hb_ hp_ hz_))
  obtain ⟨w12_, ew_⟩ : ∃ w_ : World, w_ = (World.setCell (World.setCell w11_ ⟨g_g0, 0, none⟩ (.int .i64 r1v)) ⟨g_g0, 1, none⟩ (.slice AVg0 r2v.length cVg0)) := ⟨_, rfl⟩
  rw [← ew_]
  have hbk_ : w12_.heap[g_g0]? = some (.cells #[.int .i64 r1v, .slice AVg0 r2v.length cVg0] 38 (0, 0)) := by rw [ew_]; exact blk_set (blk_set (BK_g0.out) 0 (.int .i64 r1v)) 1 (.slice AVg0 r2v.length cVg0)
  have hk_ : Kept w11_ w12_ (fun k_ => k_ = g_g0) := by rw [ew_]; exact Kept.setCell (Kept.setCell (Kept.refl _ (fun k_ => k_ = g_g0)) (Or.inl rfl) (.int .i64 r1v)) (Or.inl rfl) (.slice AVg0 r2v.length cVg0)
  have hb_ : Below w.heap.size w w12_ := by rw [ew_]; exact below_set (below_set (HB.out) HGW_g0.out) HGW_g0.out
  have HZ13 := Aside0.mk hk_.1
  replace HZ := Aside0.mk (And.intro HZ.out HZ13.out)
  clear HZ13
  clear ew_ HB
  have HB := Aside0.mk hb_
  have X_ := Aside0.mk (Vw0.out.kept hk_ (fun k h1_ h2_ h3_ => by have z_ := HZ.out; omega))
  clear Vw0
  have Vw0 := X_
  clear X_
  have X_ := Aside0.mk (Vx00.out.kept hk_ (fun k h1_ h2_ h3_ => by have z_ := HZ.out; omega))
  clear Vx00
  have Vx00 := X_
  clear X_
  have X_ := Aside0.mk (Vx01.out.kept hk_ (fun k h1_ h2_ h3_ => by have z_ := HZ.out; omega))
  clear Vx01
  have Vx01 := X_
  clear X_
  have X_ := Aside0.mk (Vx02.out.kept hk_ (fun k h1_ h2_ h3_ => by have z_ := HZ.out; omega))
  clear Vx02
  have Vx02 := X_
  clear X_
  have X_ := Aside0.mk (Vg0.out.kept hk_ (fun k h1_ h2_ h3_ => by have z_ := HZ.out; omega))
  clear Vg0
  have Vg0 := X_
  clear X_
  clear hcz_g0_0 hfz_g0_0 hcz_g0_1 hfz_g0_1
  clear hcz_aj_0 hfz_aj_0 hcz_aj_1 hfz_aj_1 hcz_aj_2 hfz_aj_2 hcz_aj_3 hfz_aj_3 hcz_aj_4 hfz_aj_4 hcz_aj_5 hfz_aj_5 hcz_aj_6 hfz_aj_6 hcz_aj_7 hfz_aj_7
  have X_ := Aside0.mk (blk_kept BK_aj.out hk_ (fun h3_ => by have z_ := HZ.out; omega))
  clear BK_aj
  have BK_aj := X_
  clear X_
  obtain ⟨hcz_aj_0, hfz_aj_0, hcz_aj_1, hfz_aj_1, hcz_aj_2, hfz_aj_2, hcz_aj_3, hfz_aj_3, hcz_aj_4, hfz_aj_4, hcz_aj_5, hfz_aj_5, hcz_aj_6, hfz_aj_6, hcz_aj_7, hfz_aj_7⟩ := cells8_ BK_aj.out
  clear hcz_w0_0 hfz_w0_0 hcz_w0_1 hfz_w0_1
  have X_ := Aside0.mk (blk_kept BK_w0.out hk_ (fun h3_ => by have z_ := HZ.out; omega))
  clear BK_w0
  have BK_w0 := X_
  clear X_
  obtain ⟨hcz_w0_0, hfz_w0_0, hcz_w0_1, hfz_w0_1⟩ := cells2_ BK_w0.out
  clear hcz_x0_0 hfz_x0_0 hcz_x0_1 hfz_x0_1 hcz_x0_2 hfz_x0_2 hcz_x0_3 hfz_x0_3 hcz_x0_4 hfz_x0_4 hcz_x0_5 hfz_x0_5 hcz_x0_6 hfz_x0_6 hcz_x0_7 hfz_x0_7
  have X_ := Aside0.mk (blk_kept BK_x0.out hk_ (fun h3_ => by have z_ := HZ.out; omega))
  clear BK_x0
  have BK_x0 := X_
  clear X_
  obtain ⟨hcz_x0_0, hfz_x0_0, hcz_x0_1, hfz_x0_1, hcz_x0_2, hfz_x0_2, hcz_x0_3, hfz_x0_3, hcz_x0_4, hfz_x0_4, hcz_x0_5, hfz_x0_5, hcz_x0_6, hfz_x0_6, hcz_x0_7, hfz_x0_7⟩ := cells8_ BK_x0.out
  clear BK_g0
  have BK_g0 := Aside0.mk hbk_
  obtain ⟨hcz_g0_0, hfz_g0_0, hcz_g0_1, hfz_g0_1⟩ := cells2_ BK_g0.out
  clear hbk_ hk_ hb_
  refine (laws_eqPlan.calls kgq r1v _ _ r2v r1v _ _ r2v true _ (by repeat (first | exact Vg0.out.C | (with_reducible refine Kd.C_alloc ?_ _) | (with_reducible refine Kd.C_drewN ?_ _) | (with_reducible refine Kd.C_drew ?_))) HCVg0.out (by repeat (first | exact Vw0.out.C | (with_reducible refine Kd.C_alloc ?_ _) | (with_reducible refine Kd.C_drewN ?_ _) | (with_reducible refine Kd.C_drew ?_))) HCVw0.out Hkgq.out).mono ?_
  rintro e w13_ ⟨rfl, hd_⟩
  have hb_ := hd_
  clear hd_
  have hp_ : Below w12_.heap.size w12_ w13_ := below_step (by repeat (first | exact Below.refl _ _ | (with_reducible apply below_alloc) | (with_reducible apply pw_below_drewN) | (with_reducible apply below_drew1))) hb_
  have HZ14 := Aside0.mk hp_.size
  replace HZ := Aside0.mk (And.intro HZ.out HZ14.out)
  clear HZ14
  replace HB := Aside0.mk (more HB.out hp_)
  replace Vw0 := Aside0.mk (Vw0.out.step hp_)
  replace Vx00 := Aside0.mk (Vx00.out.step hp_)
  replace Vx01 := Aside0.mk (Vx01.out.step hp_)
  replace Vx02 := Aside0.mk (Vx02.out.step hp_)
  replace Vg0 := Aside0.mk (Vg0.out.step hp_)
  clear hcz_aj_0 hfz_aj_0 hcz_aj_1 hfz_aj_1 hcz_aj_2 hfz_aj_2 hcz_aj_3 hfz_aj_3 hcz_aj_4 hfz_aj_4 hcz_aj_5 hfz_aj_5 hcz_aj_6 hfz_aj_6 hcz_aj_7 hfz_aj_7
  replace BK_aj := Aside0.mk (blk_below BK_aj.out hp_)
  obtain ⟨hcz_aj_0, hfz_aj_0, hcz_aj_1, hfz_aj_1, hcz_aj_2, hfz_aj_2, hcz_aj_3, hfz_aj_3, hcz_aj_4, hfz_aj_4, hcz_aj_5, hfz_aj_5, hcz_aj_6, hfz_aj_6, hcz_aj_7, hfz_aj_7⟩ := cells8_ BK_aj.out
  clear hcz_w0_0 hfz_w0_0 hcz_w0_1 hfz_w0_1
  replace BK_w0 := Aside0.mk (blk_below BK_w0.out hp_)
  obtain ⟨hcz_w0_0, hfz_w0_0, hcz_w0_1, hfz_w0_1⟩ := cells2_ BK_w0.out
  clear hcz_x0_0 hfz_x0_0 hcz_x0_1 hfz_x0_1 hcz_x0_2 hfz_x0_2 hcz_x0_3 hfz_x0_3 hcz_x0_4 hfz_x0_4 hcz_x0_5 hfz_x0_5 hcz_x0_6 hfz_x0_6 hcz_x0_7 hfz_x0_7
  replace BK_x0 := Aside0.mk (blk_below BK_x0.out hp_)
  obtain ⟨hcz_x0_0, hfz_x0_0, hcz_x0_1, hfz_x0_1, hcz_x0_2, hfz_x0_2, hcz_x0_3, hfz_x0_3, hcz_x0_4, hfz_x0_4, hcz_x0_5, hfz_x0_5, hcz_x0_6, hfz_x0_6, hcz_x0_7, hfz_x0_7⟩ := cells8_ BK_x0.out
  clear hcz_g0_0 hfz_g0_0 hcz_g0_1 hfz_g0_1
  replace BK_g0 := Aside0.mk (blk_below BK_g0.out hp_)
  obtain ⟨hcz_g0_0, hfz_g0_0, hcz_g0_1, hfz_g0_1⟩ := cells2_ BK_g0.out
  clear hb_ hp_
  go_wp2_with fail
  have hp_ : Below w13_.heap.size w13_ w13_.drew := below_drew1 (Below.refl _ _)
  replace HB := Aside0.mk (more HB.out hp_)
  replace Vw0 := Aside0.mk (Vw0.out.step hp_)
  replace Vx00 := Aside0.mk (Vx00.out.step hp_)
  replace Vx01 := Aside0.mk (Vx01.out.step hp_)
  replace Vx02 := Aside0.mk (Vx02.out.step hp_)
  replace Vg0 := Aside0.mk (Vg0.out.step hp_)
  clear hcz_aj_0 hfz_aj_0 hcz_aj_1 hfz_aj_1 hcz_aj_2 hfz_aj_2 hcz_aj_3 hfz_aj_3 hcz_aj_4 hfz_aj_4 hcz_aj_5 hfz_aj_5 hcz_aj_6 hfz_aj_6 hcz_aj_7 hfz_aj_7
  replace BK_aj := Aside0.mk (blk_below BK_aj.out hp_)
  clear hcz_w0_0 hfz_w0_0 hcz_w0_1 hfz_w0_1
  replace BK_w0 := Aside0.mk (blk_below BK_w0.out hp_)
  clear hcz_x0_0 hfz_x0_0 hcz_x0_1 hfz_x0_1 hcz_x0_2 hfz_x0_2 hcz_x0_3 hfz_x0_3 hcz_x0_4 hfz_x0_4 hcz_x0_5 hfz_x0_5 hcz_x0_6 hfz_x0_6 hcz_x0_7 hfz_x0_7
  replace BK_x0 := Aside0.mk (blk_below BK_x0.out hp_)
  clear hcz_g0_0 hfz_g0_0 hcz_g0_1 hfz_g0_1
  replace BK_g0 := Aside0.mk (blk_below BK_g0.out hp_)
  have HZ15 := Aside0.mk hp_.size
  clear hp_
  refine start_ (n := 5) (S := fun w' => w'.heap[g_aj]? = some (.cells #[.slice A_aj_0 aj_0.length c_aj_0, .slice A_aj_1 aj_1.length c_aj_1, .slice A_aj_2 aj_2.length c_aj_2, .int .i64 aj_3, .int .i64 aj_4, .int .i64 aj_5, .int .i64 aj_6, .int .i64 aj_7] 27 (0, 0)) ∧ w'.heap[g_w0]? = some (.cells #[.int .i64 r1v, .slice AVw0 r2v.length cVw0] 38 (0, 0)) ∧ w'.heap[g_x0]? = some (.cells #[.slice AVx00 aj_0.length cVx00, .slice AVx01 aj_1.length cVx01, .slice AVx02 aj_2.length cVx02, .int .i64 aj_3, .int .i64 aj_4, .int .i64 aj_5, .int .i64 aj_6, .int .i64 aj_7] 36 (0, 0)) ∧ w'.heap[g_g0]? = some (.cells #[.int .i64 r1v, .slice AVg0 r2v.length cVg0] 38 (0, 0))) (ds := []) #[false, false, false, false, false] (by kernel_rfl) rfl rfl ⟨BK_aj.out, BK_w0.out, BK_x0.out, BK_g0.out⟩ (fun hHeld => ?_)
  generalize w13_.drew = w14_ at HB HZ15 Vw0 Vx00 Vx01 Vx02 Vg0 BK_aj BK_w0 BK_x0 BK_g0 hHeld ⊢
  replace HZ := Aside0.mk (And.intro HZ.out HZ15.out)
  clear HZ15
  refine take_ (i := 0) (N := some 48) (v := ?_) (a' := ?_) #[true, false, false, false, false] rfl rfl (by kernel_rfl) (fun _ _ _ h => h) (Or.inl ⟨by rfl, ?_⟩) hHeld ?_ ?_
  rotate_left
  · rintro w' ⟨s0_, s1_, s2_, s3_⟩; obtain ⟨s0, f0, s1, f1, s2, f2, s3, f3, s4, f4, s5, f5, s6, f6, s7, f7⟩ := cells8_ s0_; obtain ⟨s8, f8, s9, f9⟩ := cells2_ s1_; obtain ⟨s10, f10, s11, f11, s12, f12, s13, f13, s14, f14, s15, f15, s16, f16, s17, f17⟩ := cells8_ s2_; obtain ⟨s18, f18, s19, f19⟩ := cells2_ s3_
    go_simp
    with_reducible rfl
  rotate_left
  · simp only [Act.put, List.setIfInBounds_toArray, List.set_cons_zero, List.set_cons_succ, i64_w, i32_w]
    rfl
  refine take_ (i := 1) (N := some 49) (v := ?_) (a' := ?_) #[true, true, false, false, false] rfl rfl (by kernel_rfl) (fun _ _ _ h => h) (Or.inl ⟨by rfl, ?_⟩) hHeld ?_ ?_
  rotate_left
  · rintro w' ⟨s0_, s1_, s2_, s3_⟩; obtain ⟨s0, f0, s1, f1, s2, f2, s3, f3, s4, f4, s5, f5, s6, f6, s7, f7⟩ := cells8_ s0_; obtain ⟨s8, f8, s9, f9⟩ := cells2_ s1_; obtain ⟨s10, f10, s11, f11, s12, f12, s13, f13, s14, f14, s15, f15, s16, f16, s17, f17⟩ := cells8_ s2_; obtain ⟨s18, f18, s19, f19⟩ := cells2_ s3_
    go_simp
    with_reducible rfl
  rotate_left
  · simp only [Act.put, List.setIfInBounds_toArray, List.set_cons_zero, List.set_cons_succ, i64_w, i32_w]
    rfl
  refine one_ (i := 2) (N := some 50) #[true, true, true, false, false] rfl rfl (by kernel_rfl) (by decide) (fun K hK => ?_)
  refine goes_ Tryd.func8 (by kernel_rfl) rfl #[.agg #[.slice A_aj_0 aj_0.length c_aj_0, .slice A_aj_1 aj_1.length c_aj_1, .slice A_aj_2 aj_2.length c_aj_2, .int .i64 (aj_3), .int .i64 (aj_4), .int .i64 (aj_5), .int .i64 (aj_6), .int .i64 (aj_7)]] (by rfl) rfl rfl (by (try simp only [List.map_toArray, List.map_cons, List.map_nil]); first | done | rfl | (simp only [List.length_drop, List.length_take]; rfl)) ?_
  refine (laws_toJob.calls kt_aJ _ _ aj_0 _ _ aj_1 _ _ aj_2 aj_3 aj_4 aj_5 aj_6 aj_7 aj_0 aj_1 aj_2 aj_3 aj_4 aj_5 aj_6 aj_7 _ (by repeat (first | exact (Kd.C_below HR_aj_0.out HB.out) | (with_reducible refine Kd.C_alloc ?_ _) | (with_reducible refine Kd.C_drewN ?_ _) | (with_reducible refine Kd.C_drew ?_))) HC_aj_0.out (by repeat (first | exact (Kd.C_below HR_aj_1.out HB.out) | (with_reducible refine Kd.C_alloc ?_ _) | (with_reducible refine Kd.C_drewN ?_ _) | (with_reducible refine Kd.C_drew ?_))) HC_aj_1.out (by repeat (first | exact (Kd.C_below HR_aj_2.out HB.out) | (with_reducible refine Kd.C_alloc ?_ _) | (with_reducible refine Kd.C_drewN ?_ _) | (with_reducible refine Kd.C_drew ?_))) HC_aj_2.out Hkt_aJ.out).mono ?_
  rintro e w15_ ⟨v0_n15, v1_n15, v2_n15, rfl, ho0_, ho1_, ho2_, hb_⟩
  refine ⟨_, rfl, ?_⟩
  have hp_ : Below w14_.heap.size w14_ w15_ := below_step (by repeat (first | exact Below.refl _ _ | (with_reducible apply below_alloc) | (with_reducible apply pw_below_drewN) | (with_reducible apply below_drew1))) hb_
  obtain ⟨B16, H16, eB_, eH_, hi1_, hi2_, hi3_⟩ := spot (W0 := w14_) (by repeat (first | exact Below.refl _ _ | (with_reducible apply below_alloc) | (with_reducible apply pw_below_drewN) | (with_reducible apply below_drew1))) hb_
  have HZ16 := Aside0.mk (⟨hi1_, hi2_, hi3_, hp_.size⟩ : _ ∧ _ ∧ _ ∧ _)
  have N16_0 := Aside0.mk (OwnS.new (W0 := w14_) (b := w.heap.size) (by repeat (first | exact Below.refl _ _ | (with_reducible apply below_alloc) | (with_reducible apply pw_below_drewN) | (with_reducible apply below_drew1))) ho0_ hb_ HB.out.size _ _ eB_ eH_)
  have N16_1 := Aside0.mk (Own.new (W0 := w14_) (b := w.heap.size) (by repeat (first | exact Below.refl _ _ | (with_reducible apply below_alloc) | (with_reducible apply pw_below_drewN) | (with_reducible apply below_drew1))) (tightRow rfl ho1_) hb_ HB.out.size _ _ eB_ eH_)
  have N16_2 := Aside0.mk (Own.new (W0 := w14_) (b := w.heap.size) (by repeat (first | exact Below.refl _ _ | (with_reducible apply below_alloc) | (with_reducible apply pw_below_drewN) | (with_reducible apply below_drew1))) (tightRow rfl ho2_) hb_ HB.out.size _ _ eB_ eH_)
  clear eB_ eH_ hi1_ hi2_ hi3_ ho0_ ho1_ ho2_
  replace HZ := Aside0.mk (And.intro HZ.out HZ16.out)
  clear HZ16
  replace HB := Aside0.mk (more HB.out hp_)
  replace Vw0 := Aside0.mk (Vw0.out.step hp_)
  replace Vx00 := Aside0.mk (Vx00.out.step hp_)
  replace Vx01 := Aside0.mk (Vx01.out.step hp_)
  replace Vx02 := Aside0.mk (Vx02.out.step hp_)
  replace Vg0 := Aside0.mk (Vg0.out.step hp_)
  replace BK_aj := Aside0.mk (blk_below BK_aj.out hp_)
  replace BK_w0 := Aside0.mk (blk_below BK_w0.out hp_)
  replace BK_x0 := Aside0.mk (blk_below BK_x0.out hp_)
  replace BK_g0 := Aside0.mk (blk_below BK_g0.out hp_)
  clear hb_ hp_
  have T16_0 := N16_0
  clear N16_0
  obtain ⟨AT16_0, cT16_0, rfl, hc_⟩ := T16_0.out.reads
  have HCT16_0 := Aside0.mk hc_
  clear hc_
  have T16_1 := N16_1
  clear N16_1
  obtain ⟨AT16_1, cT16_1, rfl, hc_⟩ := T16_1.out.reads
  have HCT16_1 := Aside0.mk hc_
  clear hc_
  have T16_2 := N16_2
  clear N16_2
  obtain ⟨AT16_2, cT16_2, rfl, hc_⟩ := T16_2.out.reads
  have HCT16_2 := Aside0.mk hc_
  clear hc_
  refine hK.out _ _ ⟨BK_aj.out, BK_w0.out, BK_x0.out, BK_g0.out⟩ (fun hHeld => ?_)
  clear hK K
  refine norm_ (a' := ?_) ?_ ?_
  rotate_left
  · show Act.put _ (some 50) _ = _
    simp only [Act.put, List.setIfInBounds_toArray, List.set_cons_zero, List.set_cons_succ, i64_w, i32_w]
    rfl
  refine one_ (i := 3) (N := some 51) #[true, true, true, true, false] rfl rfl (by kernel_rfl) (by decide) (fun K hK => ?_)
  refine goes_ Tryd.func11 (by kernel_rfl) rfl #[.agg #[.slice AVx00 aj_0.length cVx00, .slice AVx01 aj_1.length cVx01, .slice AVx02 aj_2.length cVx02, .int .i64 (aj_3), .int .i64 (aj_4), .int .i64 (aj_5), .int .i64 (aj_6), .int .i64 (aj_7)], .agg #[.slice AT16_0 aj_0.length cT16_0, .slice AT16_1 aj_1.length cT16_1, .slice AT16_2 aj_2.length cT16_2, .int .i64 (aj_3), .int .i64 (aj_4), .int .i64 (aj_5), .int .i64 (aj_6), .int .i64 (aj_7)]] (by rfl) rfl rfl (by (try simp only [List.map_toArray, List.map_cons, List.map_nil]); first | done | rfl | (simp only [List.length_drop, List.length_take]; rfl)) ?_
  refine (laws_eqJob.calls kq_aJ _ _ aj_0 _ _ aj_1 _ _ aj_2 aj_3 aj_4 aj_5 aj_6 aj_7 _ _ aj_0 _ _ aj_1 _ _ aj_2 aj_3 aj_4 aj_5 aj_6 aj_7 true _ (by repeat (first | exact Vx00.out.C | (with_reducible refine Kd.C_alloc ?_ _) | (with_reducible refine Kd.C_drewN ?_ _) | (with_reducible refine Kd.C_drew ?_))) HCVx00.out (by repeat (first | exact Vx01.out.C | (with_reducible refine Kd.C_alloc ?_ _) | (with_reducible refine Kd.C_drewN ?_ _) | (with_reducible refine Kd.C_drew ?_))) HCVx01.out (by repeat (first | exact Vx02.out.C | (with_reducible refine Kd.C_alloc ?_ _) | (with_reducible refine Kd.C_drewN ?_ _) | (with_reducible refine Kd.C_drew ?_))) HCVx02.out (by repeat (first | exact T16_0.out.C | (with_reducible refine Kd.C_alloc ?_ _) | (with_reducible refine Kd.C_drewN ?_ _) | (with_reducible refine Kd.C_drew ?_))) HCT16_0.out (by repeat (first | exact T16_1.out.C | (with_reducible refine Kd.C_alloc ?_ _) | (with_reducible refine Kd.C_drewN ?_ _) | (with_reducible refine Kd.C_drew ?_))) HCT16_1.out (by repeat (first | exact T16_2.out.C | (with_reducible refine Kd.C_alloc ?_ _) | (with_reducible refine Kd.C_drewN ?_ _) | (with_reducible refine Kd.C_drew ?_))) HCT16_2.out Hkq_aJ.out).mono ?_
  rintro e w16_ ⟨rfl, hd_⟩
  refine ⟨_, rfl, ?_⟩
  have hb_ := hd_
  clear hd_
  have hp_ : Below w15_.heap.size w15_ w16_ := below_step (by repeat (first | exact Below.refl _ _ | (with_reducible apply below_alloc) | (with_reducible apply pw_below_drewN) | (with_reducible apply below_drew1))) hb_
  have HZ17 := Aside0.mk hp_.size
  replace HZ := Aside0.mk (And.intro HZ.out HZ17.out)
  clear HZ17
  replace HB := Aside0.mk (more HB.out hp_)
  replace Vw0 := Aside0.mk (Vw0.out.step hp_)
  replace Vx00 := Aside0.mk (Vx00.out.step hp_)
  replace Vx01 := Aside0.mk (Vx01.out.step hp_)
  replace Vx02 := Aside0.mk (Vx02.out.step hp_)
  replace Vg0 := Aside0.mk (Vg0.out.step hp_)
  replace T16_0 := Aside0.mk (T16_0.out.step hp_)
  replace T16_1 := Aside0.mk (T16_1.out.step hp_)
  replace T16_2 := Aside0.mk (T16_2.out.step hp_)
  replace BK_aj := Aside0.mk (blk_below BK_aj.out hp_)
  replace BK_w0 := Aside0.mk (blk_below BK_w0.out hp_)
  replace BK_x0 := Aside0.mk (blk_below BK_x0.out hp_)
  replace BK_g0 := Aside0.mk (blk_below BK_g0.out hp_)
  clear hb_ hp_
  refine hK.out _ _ ⟨BK_aj.out, BK_w0.out, BK_x0.out, BK_g0.out⟩ (fun hHeld => ?_)
  clear hK K
  refine norm_ (a' := ?_) ?_ ?_
  rotate_left
  · show Act.put _ (some 51) _ = _
    simp only [Act.put, List.setIfInBounds_toArray, List.set_cons_zero, List.set_cons_succ, i64_w, i32_w]
    rfl
  refine pure_ (i := 4) (N := some 52) (v := ?_) (a' := ?_) #[true, true, true, true, true] rfl rfl (by kernel_rfl) (fun _ _ _ h => h) (Or.inl ⟨by rfl, ?_⟩) ?_ ?_
  rotate_left
  · intro w'
    go_simp
    with_reducible rfl
  rotate_left
  · simp only [Act.put, List.setIfInBounds_toArray, List.set_cons_zero, List.set_cons_succ, i64_w, i32_w]
    rfl
  refine done_ (by kernel_rfl) ?_
  obtain ⟨hcz_aj_0, hfz_aj_0, hcz_aj_1, hfz_aj_1, hcz_aj_2, hfz_aj_2, hcz_aj_3, hfz_aj_3, hcz_aj_4, hfz_aj_4, hcz_aj_5, hfz_aj_5, hcz_aj_6, hfz_aj_6, hcz_aj_7, hfz_aj_7⟩ := cells8_ BK_aj.out
  obtain ⟨hcz_w0_0, hfz_w0_0, hcz_w0_1, hfz_w0_1⟩ := cells2_ BK_w0.out
  obtain ⟨hcz_x0_0, hfz_x0_0, hcz_x0_1, hfz_x0_1, hcz_x0_2, hfz_x0_2, hcz_x0_3, hfz_x0_3, hcz_x0_4, hfz_x0_4, hcz_x0_5, hfz_x0_5, hcz_x0_6, hfz_x0_6, hcz_x0_7, hfz_x0_7⟩ := cells8_ BK_x0.out
  obtain ⟨hcz_g0_0, hfz_g0_0, hcz_g0_1, hfz_g0_1⟩ := cells2_ BK_g0.out
  clear T16_0 HCT16_0
  clear T16_1 HCT16_1
  clear T16_2 HCT16_2
  have hlaj_0_ := HTO_aj_0.out
  have hlaj_1_ := HBD_aj_1.out
  have hlaj_2_ := HBD_aj_2.out
  have hs_ : 1 + (totL aj_0 : Int) + (aj_1.length : Int) + (aj_2.length : Int) < 1000000000000 := by omega
  have HSM18 := Aside0.mk hs_
  clear hs_ hlaj_0_ hlaj_1_ hlaj_2_
  go_wp2_with fail
  refine (markJob_calls aj_0 aj_1 aj_2 aj_3 aj_4 aj_5 aj_6 aj_7 1 (by omega) HSM18.out _ _ _ _ _ _ w _ (more HB.out (by repeat (first | exact Below.refl _ _ | (with_reducible apply below_alloc) | (with_reducible apply pw_below_drewN) | (with_reducible apply below_drew1)))) (by have q_ := Vx00.out.r; repeat (first | exact q_ | (with_reducible refine Kd.R_alloc ?_ _) | (with_reducible refine Kd.S_alloc ?_ _))) (by have q_ := Vx01.out.r; repeat (first | exact q_ | (with_reducible refine Kd.R_alloc ?_ _) | (with_reducible refine Kd.S_alloc ?_ _))) (by have q_ := Vx02.out.r; repeat (first | exact q_ | (with_reducible refine Kd.R_alloc ?_ _) | (with_reducible refine Kd.S_alloc ?_ _))) (fun k h1_ h2_ => by have q1_ := h1_.2; have q2_ := h2_.2; first | (with_reducible exact q2_.1.1 q1_.2) | (with_reducible exact q2_.1.2 q1_.2) | (with_reducible exact q1_.1.1 q2_.2) | (with_reducible exact q1_.1.2 q2_.2) | (with_reducible exact q2_.1 q1_.2) | (with_reducible exact q1_.1 q2_.2) | exact q2_.1 q1_.2 | exact q2_.2 q1_.2 | exact q2_.1.1 q1_.2 | exact q2_.1.2 q1_.2 | exact q1_.1 q2_.2 | exact q1_.2 q2_.2 | exact q1_.1.1 q2_.2 | exact q1_.1.2 q2_.2) (fun k h1_ h2_ => by have q1_ := h1_.2; have q2_ := h2_.2; first | (with_reducible exact q2_.1.1 q1_.2) | (with_reducible exact q2_.1.2 q1_.2) | (with_reducible exact q1_.1.1 q2_.2) | (with_reducible exact q1_.1.2 q2_.2) | (with_reducible exact q2_.1 q1_.2) | (with_reducible exact q1_.1 q2_.2) | exact q2_.1 q1_.2 | exact q2_.2 q1_.2 | exact q2_.1.1 q1_.2 | exact q2_.1.2 q1_.2 | exact q1_.1 q2_.2 | exact q1_.2 q2_.2 | exact q1_.1.1 q2_.2 | exact q1_.1.2 q2_.2) (fun k h1_ h2_ => by have q1_ := h1_.2; have q2_ := h2_.2; first | (with_reducible exact q2_.1.1 q1_.2) | (with_reducible exact q2_.1.2 q1_.2) | (with_reducible exact q1_.1.1 q2_.2) | (with_reducible exact q1_.1.2 q2_.2) | (with_reducible exact q2_.1 q1_.2) | (with_reducible exact q1_.1 q2_.2) | exact q2_.1 q1_.2 | exact q2_.2 q1_.2 | exact q2_.1.1 q1_.2 | exact q2_.1.2 q1_.2 | exact q1_.1 q2_.2 | exact q1_.2 q2_.2 | exact q1_.1.1 q2_.2 | exact q1_.1.2 q2_.2)).mono ?_
  rintro e w17_ ⟨rfl, hb_, hk0_⟩
  have hk_ := Kept.then_ (w := w16_) (Kept.of_below (by repeat (first | exact Below.refl _ _ | (with_reducible apply below_alloc) | (with_reducible apply pw_below_drewN) | (with_reducible apply below_drew1))) _) hk0_ (fun _ h_ => Or.inl h_)
  have HZ19 := Aside0.mk hk_.1
  replace HZ := Aside0.mk (And.intro HZ.out HZ19.out)
  clear HZ19
  clear HB
  have HB := Aside0.mk hb_
  have X_ := Aside0.mk (Vw0.out.kept hk_ (fun k h1_ h2_ h3_ => by rcases h3_ with h3_ | h3_ | h3_ <;> (have h4_ := h3_.1; have z_ := HZ.out; omega)))
  clear Vw0
  have Vw0 := X_
  clear X_
  have X_ := Aside0.mk (Vg0.out.kept hk_ (fun k h1_ h2_ h3_ => by rcases h3_ with h3_ | h3_ | h3_ <;> (have h4_ := h3_.1; have z_ := HZ.out; omega)))
  clear Vg0
  have Vg0 := X_
  clear X_
  clear hcz_aj_0 hfz_aj_0 hcz_aj_1 hfz_aj_1 hcz_aj_2 hfz_aj_2 hcz_aj_3 hfz_aj_3 hcz_aj_4 hfz_aj_4 hcz_aj_5 hfz_aj_5 hcz_aj_6 hfz_aj_6 hcz_aj_7 hfz_aj_7
  have X_ := Aside0.mk (blk_kept BK_aj.out hk_ (fun h3_ => by rcases h3_ with h3_ | h3_ | h3_ <;> (have h4_ := h3_.1; have z_ := HZ.out; omega)))
  clear BK_aj
  have BK_aj := X_
  clear X_
  obtain ⟨hcz_aj_0, hfz_aj_0, hcz_aj_1, hfz_aj_1, hcz_aj_2, hfz_aj_2, hcz_aj_3, hfz_aj_3, hcz_aj_4, hfz_aj_4, hcz_aj_5, hfz_aj_5, hcz_aj_6, hfz_aj_6, hcz_aj_7, hfz_aj_7⟩ := cells8_ BK_aj.out
  clear hcz_w0_0 hfz_w0_0 hcz_w0_1 hfz_w0_1
  have X_ := Aside0.mk (blk_kept BK_w0.out hk_ (fun h3_ => by rcases h3_ with h3_ | h3_ | h3_ <;> (have h4_ := h3_.1; have z_ := HZ.out; omega)))
  clear BK_w0
  have BK_w0 := X_
  clear X_
  obtain ⟨hcz_w0_0, hfz_w0_0, hcz_w0_1, hfz_w0_1⟩ := cells2_ BK_w0.out
  clear hcz_x0_0 hfz_x0_0 hcz_x0_1 hfz_x0_1 hcz_x0_2 hfz_x0_2 hcz_x0_3 hfz_x0_3 hcz_x0_4 hfz_x0_4 hcz_x0_5 hfz_x0_5 hcz_x0_6 hfz_x0_6 hcz_x0_7 hfz_x0_7
  have X_ := Aside0.mk (blk_kept BK_x0.out hk_ (fun h3_ => by rcases h3_ with h3_ | h3_ | h3_ <;> (have h4_ := h3_.1; have z_ := HZ.out; omega)))
  clear BK_x0
  have BK_x0 := X_
  clear X_
  obtain ⟨hcz_x0_0, hfz_x0_0, hcz_x0_1, hfz_x0_1, hcz_x0_2, hfz_x0_2, hcz_x0_3, hfz_x0_3, hcz_x0_4, hfz_x0_4, hcz_x0_5, hfz_x0_5, hcz_x0_6, hfz_x0_6, hcz_x0_7, hfz_x0_7⟩ := cells8_ BK_x0.out
  clear hcz_g0_0 hfz_g0_0 hcz_g0_1 hfz_g0_1
  have X_ := Aside0.mk (blk_kept BK_g0.out hk_ (fun h3_ => by rcases h3_ with h3_ | h3_ | h3_ <;> (have h4_ := h3_.1; have z_ := HZ.out; omega)))
  clear BK_g0
  have BK_g0 := X_
  clear X_
  obtain ⟨hcz_g0_0, hfz_g0_0, hcz_g0_1, hfz_g0_1⟩ := cells2_ BK_g0.out
  clear Vx00
  clear Vx01
  clear Vx02
  clear hb_ hk_ hk0_
  obtain ⟨a20, ea_⟩ : ∃ a_ : Int, a_ = 1 + (totL aj_0 : Int) + (aj_1.length : Int) + (aj_2.length : Int) := ⟨_, rfl⟩
  rw [← ea_]
  have ha20 : 1 ≤ a20 ∧ a20 ≤ 1 + 3145728 := by have := HTO_aj_0.out; have := HBD_aj_1.out; have := HBD_aj_2.out; omega
  clear ea_
  have dk_ : decide (a20 < 0) = false := decide_eq_false (by omega)
  go_wp2_with fail
  refine (laws_eqPlan.calls kgq r1v _ _ r2v r1v _ _ r2v true _ (by repeat (first | exact Vg0.out.C | (with_reducible refine Kd.C_alloc ?_ _) | (with_reducible refine Kd.C_drewN ?_ _) | (with_reducible refine Kd.C_drew ?_))) HCVg0.out (by repeat (first | exact Vw0.out.C | (with_reducible refine Kd.C_alloc ?_ _) | (with_reducible refine Kd.C_drewN ?_ _) | (with_reducible refine Kd.C_drew ?_))) HCVw0.out Hkgq.out).mono ?_
  rintro e w18_ ⟨rfl, hd_⟩
  have hb_ := hd_
  clear hd_
  have hp_ : Below w17_.heap.size w17_ w18_ := below_step (by repeat (first | exact Below.refl _ _ | (with_reducible apply below_alloc) | (with_reducible apply pw_below_drewN) | (with_reducible apply below_drew1))) hb_
  have HZ21 := Aside0.mk hp_.size
  replace HZ := Aside0.mk (And.intro HZ.out HZ21.out)
  clear HZ21
  replace HB := Aside0.mk (more HB.out hp_)
  replace Vw0 := Aside0.mk (Vw0.out.step hp_)
  replace Vg0 := Aside0.mk (Vg0.out.step hp_)
  clear hcz_aj_0 hfz_aj_0 hcz_aj_1 hfz_aj_1 hcz_aj_2 hfz_aj_2 hcz_aj_3 hfz_aj_3 hcz_aj_4 hfz_aj_4 hcz_aj_5 hfz_aj_5 hcz_aj_6 hfz_aj_6 hcz_aj_7 hfz_aj_7
  replace BK_aj := Aside0.mk (blk_below BK_aj.out hp_)
  obtain ⟨hcz_aj_0, hfz_aj_0, hcz_aj_1, hfz_aj_1, hcz_aj_2, hfz_aj_2, hcz_aj_3, hfz_aj_3, hcz_aj_4, hfz_aj_4, hcz_aj_5, hfz_aj_5, hcz_aj_6, hfz_aj_6, hcz_aj_7, hfz_aj_7⟩ := cells8_ BK_aj.out
  clear hcz_w0_0 hfz_w0_0 hcz_w0_1 hfz_w0_1
  replace BK_w0 := Aside0.mk (blk_below BK_w0.out hp_)
  obtain ⟨hcz_w0_0, hfz_w0_0, hcz_w0_1, hfz_w0_1⟩ := cells2_ BK_w0.out
  clear hcz_x0_0 hfz_x0_0 hcz_x0_1 hfz_x0_1 hcz_x0_2 hfz_x0_2 hcz_x0_3 hfz_x0_3 hcz_x0_4 hfz_x0_4 hcz_x0_5 hfz_x0_5 hcz_x0_6 hfz_x0_6 hcz_x0_7 hfz_x0_7
  replace BK_x0 := Aside0.mk (blk_below BK_x0.out hp_)
  obtain ⟨hcz_x0_0, hfz_x0_0, hcz_x0_1, hfz_x0_1, hcz_x0_2, hfz_x0_2, hcz_x0_3, hfz_x0_3, hcz_x0_4, hfz_x0_4, hcz_x0_5, hfz_x0_5, hcz_x0_6, hfz_x0_6, hcz_x0_7, hfz_x0_7⟩ := cells8_ BK_x0.out
  clear hcz_g0_0 hfz_g0_0 hcz_g0_1 hfz_g0_1
  replace BK_g0 := Aside0.mk (blk_below BK_g0.out hp_)
  obtain ⟨hcz_g0_0, hfz_g0_0, hcz_g0_1, hfz_g0_1⟩ := cells2_ BK_g0.out
  clear hb_ hp_
  have hl_ := HL_r2.out
  obtain ⟨km22, h_⟩ := (markPlan_ev r1v r2v 1 (by omega) (by omega)).rounds
  have HM22 := Aside0.mk h_
  clear h_
  obtain ⟨kh22, h_⟩ := (heldPlan_ev r1v r2v.length 1 (by omega) (by omega)).rounds
  have HH22 := Aside0.mk h_
  clear h_ hl_
  go_wp2_with fail
  refine (laws_markPlan.calls km22 r1v _ _ r2v 1 _ _ w _ (more HB.out (by repeat (first | exact Below.refl _ _ | (with_reducible apply below_alloc) | (with_reducible apply pw_below_drewN) | (with_reducible apply below_drew1)))) (by have q_ := Vg0.out.r; repeat (first | exact q_ | (with_reducible refine Kd.R_alloc ?_ _) | (with_reducible refine Kd.S_alloc ?_ _))) HM22.out).mono ?_
  rintro e w19_ ⟨rfl, hr_, hb_, hk0_⟩
  have hk_ := Kept.then_ (w := w18_) (Kept.of_below (by repeat (first | exact Below.refl _ _ | (with_reducible apply below_alloc) | (with_reducible apply pw_below_drewN) | (with_reducible apply below_drew1))) _) hk0_ (fun _ h_ => Or.inl h_)
  have HZ23 := Aside0.mk hk_.1
  replace HZ := Aside0.mk (And.intro HZ.out HZ23.out)
  clear HZ23
  clear HB
  have HB := Aside0.mk hb_
  have X_ := Aside0.mk (Vw0.out.kept hk_ (fun k h1_ h2_ h3_ => by have h4_ := h3_.1; have z_ := HZ.out; omega))
  clear Vw0
  have Vw0 := X_
  clear X_
  clear hcz_aj_0 hfz_aj_0 hcz_aj_1 hfz_aj_1 hcz_aj_2 hfz_aj_2 hcz_aj_3 hfz_aj_3 hcz_aj_4 hfz_aj_4 hcz_aj_5 hfz_aj_5 hcz_aj_6 hfz_aj_6 hcz_aj_7 hfz_aj_7
  have X_ := Aside0.mk (blk_kept BK_aj.out hk_ (fun h3_ => by have h4_ := h3_.1; have z_ := HZ.out; omega))
  clear BK_aj
  have BK_aj := X_
  clear X_
  obtain ⟨hcz_aj_0, hfz_aj_0, hcz_aj_1, hfz_aj_1, hcz_aj_2, hfz_aj_2, hcz_aj_3, hfz_aj_3, hcz_aj_4, hfz_aj_4, hcz_aj_5, hfz_aj_5, hcz_aj_6, hfz_aj_6, hcz_aj_7, hfz_aj_7⟩ := cells8_ BK_aj.out
  clear hcz_w0_0 hfz_w0_0 hcz_w0_1 hfz_w0_1
  have X_ := Aside0.mk (blk_kept BK_w0.out hk_ (fun h3_ => by have h4_ := h3_.1; have z_ := HZ.out; omega))
  clear BK_w0
  have BK_w0 := X_
  clear X_
  obtain ⟨hcz_w0_0, hfz_w0_0, hcz_w0_1, hfz_w0_1⟩ := cells2_ BK_w0.out
  clear hcz_x0_0 hfz_x0_0 hcz_x0_1 hfz_x0_1 hcz_x0_2 hfz_x0_2 hcz_x0_3 hfz_x0_3 hcz_x0_4 hfz_x0_4 hcz_x0_5 hfz_x0_5 hcz_x0_6 hfz_x0_6 hcz_x0_7 hfz_x0_7
  have X_ := Aside0.mk (blk_kept BK_x0.out hk_ (fun h3_ => by have h4_ := h3_.1; have z_ := HZ.out; omega))
  clear BK_x0
  have BK_x0 := X_
  clear X_
  obtain ⟨hcz_x0_0, hfz_x0_0, hcz_x0_1, hfz_x0_1, hcz_x0_2, hfz_x0_2, hcz_x0_3, hfz_x0_3, hcz_x0_4, hfz_x0_4, hcz_x0_5, hfz_x0_5, hcz_x0_6, hfz_x0_6, hcz_x0_7, hfz_x0_7⟩ := cells8_ BK_x0.out
  clear hcz_g0_0 hfz_g0_0 hcz_g0_1 hfz_g0_1
  have X_ := Aside0.mk (blk_kept BK_g0.out hk_ (fun h3_ => by have h4_ := h3_.1; have z_ := HZ.out; omega))
  clear BK_g0
  have BK_g0 := X_
  clear X_
  obtain ⟨hcz_g0_0, hfz_g0_0, hcz_g0_1, hfz_g0_1⟩ := cells2_ BK_g0.out
  replace Vg0 := Aside0.mk (Vg0.out.marked hr_ hk_)
  clear hr_ hb_ hk_ hk0_
  have hml_ : (markedI r2v.length 1).length = r2v.length := by simp [markedI]
  have HML := Aside0.mk hml_
  clear hml_
  obtain ⟨mt, em_⟩ : ∃ m_ : Int, m_ = (1 + (r2v.length : Int)) := ⟨_, rfl⟩
  have EM := Aside0.mk em_
  rw [← em_]
  have HH22' := Aside0.mk (show _ = some mt from em_ ▸ HH22.out)
  have hmt : 0 ≤ mt := by omega
  have dm_ : decide (mt < 0) = false := decide_eq_false (by omega)
  clear em_ hmt
  have HCm := Aside0.mk (show (markedI r2v.length 1).length ≤ cVg0 from by rw [HML.out]; exact HCVg0.out)
  go_wp2_with fail
  try rw [show (Value.slice AVg0 r2v.length cVg0) = .slice AVg0 (markedI r2v.length 1).length cVg0 from by rw [HML.out]]
  refine (laws_heldPlan.calls kh22 r1v _ _ (markedI r2v.length 1) 1 mt _ (by repeat (first | exact Vg0.out.C | (with_reducible refine Kd.C_alloc ?_ _) | (with_reducible refine Kd.C_drewN ?_ _) | (with_reducible refine Kd.C_drew ?_))) HCm.out HH22'.out).mono ?_
  rintro e w20_ ⟨rfl, hd_⟩
  have hp_ : Below w19_.heap.size w19_ w20_ := below_step (by repeat (first | exact Below.refl _ _ | (with_reducible apply below_alloc) | (with_reducible apply pw_below_drewN) | (with_reducible apply below_drew1))) (hd_)
  have HZ24 := Aside0.mk hp_.size
  replace HZ := Aside0.mk (And.intro HZ.out HZ24.out)
  clear HZ24
  replace HB := Aside0.mk (more HB.out hp_)
  replace Vw0 := Aside0.mk (Vw0.out.step hp_)
  replace Vg0 := Aside0.mk (Vg0.out.step hp_)
  clear hcz_aj_0 hfz_aj_0 hcz_aj_1 hfz_aj_1 hcz_aj_2 hfz_aj_2 hcz_aj_3 hfz_aj_3 hcz_aj_4 hfz_aj_4 hcz_aj_5 hfz_aj_5 hcz_aj_6 hfz_aj_6 hcz_aj_7 hfz_aj_7
  replace BK_aj := Aside0.mk (blk_below BK_aj.out hp_)
  obtain ⟨hcz_aj_0, hfz_aj_0, hcz_aj_1, hfz_aj_1, hcz_aj_2, hfz_aj_2, hcz_aj_3, hfz_aj_3, hcz_aj_4, hfz_aj_4, hcz_aj_5, hfz_aj_5, hcz_aj_6, hfz_aj_6, hcz_aj_7, hfz_aj_7⟩ := cells8_ BK_aj.out
  clear hcz_w0_0 hfz_w0_0 hcz_w0_1 hfz_w0_1
  replace BK_w0 := Aside0.mk (blk_below BK_w0.out hp_)
  obtain ⟨hcz_w0_0, hfz_w0_0, hcz_w0_1, hfz_w0_1⟩ := cells2_ BK_w0.out
  clear hcz_x0_0 hfz_x0_0 hcz_x0_1 hfz_x0_1 hcz_x0_2 hfz_x0_2 hcz_x0_3 hfz_x0_3 hcz_x0_4 hfz_x0_4 hcz_x0_5 hfz_x0_5 hcz_x0_6 hfz_x0_6 hcz_x0_7 hfz_x0_7
  replace BK_x0 := Aside0.mk (blk_below BK_x0.out hp_)
  obtain ⟨hcz_x0_0, hfz_x0_0, hcz_x0_1, hfz_x0_1, hcz_x0_2, hfz_x0_2, hcz_x0_3, hfz_x0_3, hcz_x0_4, hfz_x0_4, hcz_x0_5, hfz_x0_5, hcz_x0_6, hfz_x0_6, hcz_x0_7, hfz_x0_7⟩ := cells8_ BK_x0.out
  clear hcz_g0_0 hfz_g0_0 hcz_g0_1 hfz_g0_1
  replace BK_g0 := Aside0.mk (blk_below BK_g0.out hp_)
  obtain ⟨hcz_g0_0, hfz_g0_0, hcz_g0_1, hfz_g0_1⟩ := cells2_ BK_g0.out
  clear hd_ hp_
  go_wp2_with fail
  refine (laws_toJob.calls kt_aJ _ _ aj_0 _ _ aj_1 _ _ aj_2 aj_3 aj_4 aj_5 aj_6 aj_7 aj_0 aj_1 aj_2 aj_3 aj_4 aj_5 aj_6 aj_7 _ (by repeat (first | exact (Kd.C_below HR_aj_0.out HB.out) | (with_reducible refine Kd.C_alloc ?_ _) | (with_reducible refine Kd.C_drewN ?_ _) | (with_reducible refine Kd.C_drew ?_))) HC_aj_0.out (by repeat (first | exact (Kd.C_below HR_aj_1.out HB.out) | (with_reducible refine Kd.C_alloc ?_ _) | (with_reducible refine Kd.C_drewN ?_ _) | (with_reducible refine Kd.C_drew ?_))) HC_aj_1.out (by repeat (first | exact (Kd.C_below HR_aj_2.out HB.out) | (with_reducible refine Kd.C_alloc ?_ _) | (with_reducible refine Kd.C_drewN ?_ _) | (with_reducible refine Kd.C_drew ?_))) HC_aj_2.out Hkt_aJ.out).mono ?_
  rintro e w21_ ⟨v0_n21, v1_n21, v2_n21, rfl, ho0_, ho1_, ho2_, hb_⟩
  have hp_ : Below w20_.heap.size w20_ w21_ := below_step (by repeat (first | exact Below.refl _ _ | (with_reducible apply below_alloc) | (with_reducible apply pw_below_drewN) | (with_reducible apply below_drew1))) hb_
  obtain ⟨B25, H25, eB_, eH_, hi1_, hi2_, hi3_⟩ := spot (W0 := w20_) (by repeat (first | exact Below.refl _ _ | (with_reducible apply below_alloc) | (with_reducible apply pw_below_drewN) | (with_reducible apply below_drew1))) hb_
  have HZ25 := Aside0.mk (⟨hi1_, hi2_, hi3_, hp_.size⟩ : _ ∧ _ ∧ _ ∧ _)
  have N25_0 := Aside0.mk (OwnS.new (W0 := w20_) (b := w.heap.size) (by repeat (first | exact Below.refl _ _ | (with_reducible apply below_alloc) | (with_reducible apply pw_below_drewN) | (with_reducible apply below_drew1))) ho0_ hb_ HB.out.size _ _ eB_ eH_)
  have N25_1 := Aside0.mk (Own.new (W0 := w20_) (b := w.heap.size) (by repeat (first | exact Below.refl _ _ | (with_reducible apply below_alloc) | (with_reducible apply pw_below_drewN) | (with_reducible apply below_drew1))) (tightRow rfl ho1_) hb_ HB.out.size _ _ eB_ eH_)
  have N25_2 := Aside0.mk (Own.new (W0 := w20_) (b := w.heap.size) (by repeat (first | exact Below.refl _ _ | (with_reducible apply below_alloc) | (with_reducible apply pw_below_drewN) | (with_reducible apply below_drew1))) (tightRow rfl ho2_) hb_ HB.out.size _ _ eB_ eH_)
  clear eB_ eH_ hi1_ hi2_ hi3_ ho0_ ho1_ ho2_
  replace HZ := Aside0.mk (And.intro HZ.out HZ25.out)
  clear HZ25
  replace HB := Aside0.mk (more HB.out hp_)
  replace Vw0 := Aside0.mk (Vw0.out.step hp_)
  replace Vg0 := Aside0.mk (Vg0.out.step hp_)
  clear hcz_aj_0 hfz_aj_0 hcz_aj_1 hfz_aj_1 hcz_aj_2 hfz_aj_2 hcz_aj_3 hfz_aj_3 hcz_aj_4 hfz_aj_4 hcz_aj_5 hfz_aj_5 hcz_aj_6 hfz_aj_6 hcz_aj_7 hfz_aj_7
  replace BK_aj := Aside0.mk (blk_below BK_aj.out hp_)
  obtain ⟨hcz_aj_0, hfz_aj_0, hcz_aj_1, hfz_aj_1, hcz_aj_2, hfz_aj_2, hcz_aj_3, hfz_aj_3, hcz_aj_4, hfz_aj_4, hcz_aj_5, hfz_aj_5, hcz_aj_6, hfz_aj_6, hcz_aj_7, hfz_aj_7⟩ := cells8_ BK_aj.out
  clear hcz_w0_0 hfz_w0_0 hcz_w0_1 hfz_w0_1
  replace BK_w0 := Aside0.mk (blk_below BK_w0.out hp_)
  obtain ⟨hcz_w0_0, hfz_w0_0, hcz_w0_1, hfz_w0_1⟩ := cells2_ BK_w0.out
  clear hcz_x0_0 hfz_x0_0 hcz_x0_1 hfz_x0_1 hcz_x0_2 hfz_x0_2 hcz_x0_3 hfz_x0_3 hcz_x0_4 hfz_x0_4 hcz_x0_5 hfz_x0_5 hcz_x0_6 hfz_x0_6 hcz_x0_7 hfz_x0_7
  replace BK_x0 := Aside0.mk (blk_below BK_x0.out hp_)
  obtain ⟨hcz_x0_0, hfz_x0_0, hcz_x0_1, hfz_x0_1, hcz_x0_2, hfz_x0_2, hcz_x0_3, hfz_x0_3, hcz_x0_4, hfz_x0_4, hcz_x0_5, hfz_x0_5, hcz_x0_6, hfz_x0_6, hcz_x0_7, hfz_x0_7⟩ := cells8_ BK_x0.out
  clear hcz_g0_0 hfz_g0_0 hcz_g0_1 hfz_g0_1
  replace BK_g0 := Aside0.mk (blk_below BK_g0.out hp_)
  obtain ⟨hcz_g0_0, hfz_g0_0, hcz_g0_1, hfz_g0_1⟩ := cells2_ BK_g0.out
  clear hb_ hp_
  have T25_0 := N25_0
  clear N25_0
  obtain ⟨AT25_0, cT25_0, rfl, hc_⟩ := T25_0.out.reads
  have HCT25_0 := Aside0.mk hc_
  clear hc_
  have T25_1 := N25_1
  clear N25_1
  obtain ⟨AT25_1, cT25_1, rfl, hc_⟩ := T25_1.out.reads
  have HCT25_1 := Aside0.mk hc_
  clear hc_
  have T25_2 := N25_2
  clear N25_2
  obtain ⟨AT25_2, cT25_2, rfl, hc_⟩ := T25_2.out.reads
  have HCT25_2 := Aside0.mk hc_
  clear hc_
  go_wp2_with fail
  refine (impl_ParsePlan.calls kei_ _ _ aj_0 _ _ aj_1 _ _ aj_2 aj_3 aj_4 aj_5 aj_6 aj_7 as_ r1v r2v r3v _ (by repeat (first | exact T25_0.out.C | (with_reducible refine Kd.C_alloc ?_ _) | (with_reducible refine Kd.C_drewN ?_ _) | (with_reducible refine Kd.C_drew ?_))) HCT25_0.out (by repeat (first | exact T25_1.out.C | (with_reducible refine Kd.C_alloc ?_ _) | (with_reducible refine Kd.C_drewN ?_ _) | (with_reducible refine Kd.C_drew ?_))) HCT25_1.out (by repeat (first | exact T25_2.out.C | (with_reducible refine Kd.C_alloc ?_ _) | (with_reducible refine Kd.C_drewN ?_ _) | (with_reducible refine Kd.C_drew ?_))) HCT25_2.out HEI.out (tabW_below HT.out (by repeat (first | exact HB.out | (with_reducible apply below_alloc) | (with_reducible apply pw_below_drewN) | (with_reducible apply below_drew1))))).mono ?_
  rintro e w22_ ⟨v1_n22, rfl, ho0_, hb_⟩
  have hp_ : Below w21_.heap.size w21_ w22_ := below_step (by repeat (first | exact Below.refl _ _ | (with_reducible apply below_alloc) | (with_reducible apply pw_below_drewN) | (with_reducible apply below_drew1))) hb_
  obtain ⟨B26, H26, eB_, eH_, hi1_, hi2_, hi3_⟩ := spot (W0 := w21_) (by repeat (first | exact Below.refl _ _ | (with_reducible apply below_alloc) | (with_reducible apply pw_below_drewN) | (with_reducible apply below_drew1))) hb_
  have HZ26 := Aside0.mk (⟨hi1_, hi2_, hi3_, hp_.size⟩ : _ ∧ _ ∧ _ ∧ _)
  have N26_0 := Aside0.mk (Own.new (W0 := w21_) (b := w.heap.size) (by repeat (first | exact Below.refl _ _ | (with_reducible apply below_alloc) | (with_reducible apply pw_below_drewN) | (with_reducible apply below_drew1))) ho0_ hb_ HB.out.size _ _ eB_ eH_)
  clear eB_ eH_ hi1_ hi2_ hi3_ ho0_
  replace HZ := Aside0.mk (And.intro HZ.out HZ26.out)
  clear HZ26
  replace HB := Aside0.mk (more HB.out hp_)
  replace Vw0 := Aside0.mk (Vw0.out.step hp_)
  replace Vg0 := Aside0.mk (Vg0.out.step hp_)
  replace T25_0 := Aside0.mk (T25_0.out.step hp_)
  replace T25_1 := Aside0.mk (T25_1.out.step hp_)
  replace T25_2 := Aside0.mk (T25_2.out.step hp_)
  clear hcz_aj_0 hfz_aj_0 hcz_aj_1 hfz_aj_1 hcz_aj_2 hfz_aj_2 hcz_aj_3 hfz_aj_3 hcz_aj_4 hfz_aj_4 hcz_aj_5 hfz_aj_5 hcz_aj_6 hfz_aj_6 hcz_aj_7 hfz_aj_7
  replace BK_aj := Aside0.mk (blk_below BK_aj.out hp_)
  obtain ⟨hcz_aj_0, hfz_aj_0, hcz_aj_1, hfz_aj_1, hcz_aj_2, hfz_aj_2, hcz_aj_3, hfz_aj_3, hcz_aj_4, hfz_aj_4, hcz_aj_5, hfz_aj_5, hcz_aj_6, hfz_aj_6, hcz_aj_7, hfz_aj_7⟩ := cells8_ BK_aj.out
  clear hcz_w0_0 hfz_w0_0 hcz_w0_1 hfz_w0_1
  replace BK_w0 := Aside0.mk (blk_below BK_w0.out hp_)
  obtain ⟨hcz_w0_0, hfz_w0_0, hcz_w0_1, hfz_w0_1⟩ := cells2_ BK_w0.out
  clear hcz_x0_0 hfz_x0_0 hcz_x0_1 hfz_x0_1 hcz_x0_2 hfz_x0_2 hcz_x0_3 hfz_x0_3 hcz_x0_4 hfz_x0_4 hcz_x0_5 hfz_x0_5 hcz_x0_6 hfz_x0_6 hcz_x0_7 hfz_x0_7
  replace BK_x0 := Aside0.mk (blk_below BK_x0.out hp_)
  obtain ⟨hcz_x0_0, hfz_x0_0, hcz_x0_1, hfz_x0_1, hcz_x0_2, hfz_x0_2, hcz_x0_3, hfz_x0_3, hcz_x0_4, hfz_x0_4, hcz_x0_5, hfz_x0_5, hcz_x0_6, hfz_x0_6, hcz_x0_7, hfz_x0_7⟩ := cells8_ BK_x0.out
  clear hcz_g0_0 hfz_g0_0 hcz_g0_1 hfz_g0_1
  replace BK_g0 := Aside0.mk (blk_below BK_g0.out hp_)
  obtain ⟨hcz_g0_0, hfz_g0_0, hcz_g0_1, hfz_g0_1⟩ := cells2_ BK_g0.out
  clear hb_ hp_
  have Vh0 := N26_0
  clear N26_0
  obtain ⟨AVh0, cVh0, rfl, hc_⟩ := Vh0.out.reads
  have HCVh0 := Aside0.mk hc_
  clear hc_
  clear T25_0 HCT25_0
  clear T25_1 HCT25_1
  clear T25_2 HCT25_2
  go_wp2_with (first | ((with_reducible refine gate_dst (N := 14) rfl ?_); refine box_event ?hg (N := 14) ?hd (cs := #[.int .i64 0, .slice none 0 0]) (t := 38) ?hr ?_; (case hd => rfl); (case hg => rfl); (case hr => first | (go_simp; done) | (go_simp; rfl)); intro g_h0 hg_ w23_ hbox_ hb_; have hp_ : Below w22_.heap.size w22_ w23_ := below_step (by repeat (first | exact Below.refl _ _ | (with_reducible apply below_alloc) | (with_reducible apply pw_below_drewN) | (with_reducible apply below_drew1))) hb_; have hz_ : w22_.heap.size ≤ g_h0 := Nat.le_trans (below_size (by repeat (first | exact Below.refl _ _ | (with_reducible apply below_alloc) | (with_reducible apply pw_below_drewN) | (with_reducible apply below_drew1)))) (Nat.le_of_eq hg_.symm); have HZ27 := Aside0.mk (⟨hz_, blk_lt hbox_, hp_.size⟩ : _ ∧ _ ∧ _); replace HZ := Aside0.mk (And.intro HZ.out HZ27.out); clear HZ27; have HGW_h0 := Aside0.mk (Nat.le_trans HB.out.size hz_ : w.heap.size ≤ g_h0); have hnb_h0_aj : g_h0 ≠ g_aj := Nat.ne_of_gt (Nat.lt_of_lt_of_le (blk_lt BK_aj.out) hz_); have hnb_aj_h0 : g_aj ≠ g_h0 := hnb_h0_aj.symm; have hnb_h0_w0 : g_h0 ≠ g_w0 := Nat.ne_of_gt (Nat.lt_of_lt_of_le (blk_lt BK_w0.out) hz_); have hnb_w0_h0 : g_w0 ≠ g_h0 := hnb_h0_w0.symm; have hnb_h0_x0 : g_h0 ≠ g_x0 := Nat.ne_of_gt (Nat.lt_of_lt_of_le (blk_lt BK_x0.out) hz_); have hnb_x0_h0 : g_x0 ≠ g_h0 := hnb_h0_x0.symm; have hnb_h0_g0 : g_h0 ≠ g_g0 := Nat.ne_of_gt (Nat.lt_of_lt_of_le (blk_lt BK_g0.out) hz_); have hnb_g0_h0 : g_g0 ≠ g_h0 := hnb_h0_g0.symm; replace HB := Aside0.mk (more HB.out hp_); replace Vw0 := Aside0.mk (Vw0.out.step hp_); replace Vg0 := Aside0.mk (Vg0.out.step hp_); replace Vh0 := Aside0.mk (Vh0.out.step hp_); clear hcz_aj_0 hfz_aj_0 hcz_aj_1 hfz_aj_1 hcz_aj_2 hfz_aj_2 hcz_aj_3 hfz_aj_3 hcz_aj_4 hfz_aj_4 hcz_aj_5 hfz_aj_5 hcz_aj_6 hfz_aj_6 hcz_aj_7 hfz_aj_7; replace BK_aj := Aside0.mk (blk_below BK_aj.out hp_); obtain ⟨hcz_aj_0, hfz_aj_0, hcz_aj_1, hfz_aj_1, hcz_aj_2, hfz_aj_2, hcz_aj_3, hfz_aj_3, hcz_aj_4, hfz_aj_4, hcz_aj_5, hfz_aj_5, hcz_aj_6, hfz_aj_6, hcz_aj_7, hfz_aj_7⟩ := cells8_ BK_aj.out; clear hcz_w0_0 hfz_w0_0 hcz_w0_1 hfz_w0_1; replace BK_w0 := Aside0.mk (blk_below BK_w0.out hp_); obtain ⟨hcz_w0_0, hfz_w0_0, hcz_w0_1, hfz_w0_1⟩ := cells2_ BK_w0.out; clear hcz_x0_0 hfz_x0_0 hcz_x0_1 hfz_x0_1 hcz_x0_2 hfz_x0_2 hcz_x0_3 hfz_x0_3 hcz_x0_4 hfz_x0_4 hcz_x0_5 hfz_x0_5 hcz_x0_6 hfz_x0_6 hcz_x0_7 hfz_x0_7; replace BK_x0 := Aside0.mk (blk_below BK_x0.out hp_); obtain ⟨hcz_x0_0, hfz_x0_0, hcz_x0_1, hfz_x0_1, hcz_x0_2, hfz_x0_2, hcz_x0_3, hfz_x0_3, hcz_x0_4, hfz_x0_4, hcz_x0_5, hfz_x0_5, hcz_x0_6, hfz_x0_6, hcz_x0_7, hfz_x0_7⟩ := cells8_ BK_x0.out; clear hcz_g0_0 hfz_g0_0 hcz_g0_1 hfz_g0_1; replace BK_g0 := Aside0.mk (blk_below BK_g0.out hp_); obtain ⟨hcz_g0_0, hfz_g0_0, hcz_g0_1, hfz_g0_1⟩ := cells2_ BK_g0.out; have BK_h0 := Aside0.mk hbox_; obtain ⟨hcz_h0_0, hfz_h0_0, hcz_h0_1, hfz_h0_1⟩ := cells2_ BK_h0.out; clear hg_ hbox_ hb_ hp_ hz_))
  obtain ⟨w24_, ew_⟩ : ∃ w_ : World, w_ = (World.setCell (World.setCell w23_ ⟨g_h0, 0, none⟩ (.int .i64 r1v)) ⟨g_h0, 1, none⟩ (.slice AVh0 r2v.length cVh0)) := ⟨_, rfl⟩
  rw [← ew_]
  have hbk_ : w24_.heap[g_h0]? = some (.cells #[.int .i64 r1v, .slice AVh0 r2v.length cVh0] 38 (0, 0)) := by rw [ew_]; exact blk_set (blk_set (BK_h0.out) 0 (.int .i64 r1v)) 1 (.slice AVh0 r2v.length cVh0)
  have hk_ : Kept w23_ w24_ (fun k_ => k_ = g_h0) := by rw [ew_]; exact Kept.setCell (Kept.setCell (Kept.refl _ (fun k_ => k_ = g_h0)) (Or.inl rfl) (.int .i64 r1v)) (Or.inl rfl) (.slice AVh0 r2v.length cVh0)
  have hb_ : Below w.heap.size w w24_ := by rw [ew_]; exact below_set (below_set (HB.out) HGW_h0.out) HGW_h0.out
  have HZ28 := Aside0.mk hk_.1
  replace HZ := Aside0.mk (And.intro HZ.out HZ28.out)
  clear HZ28
  clear ew_ HB
  have HB := Aside0.mk hb_
  have X_ := Aside0.mk (Vw0.out.kept hk_ (fun k h1_ h2_ h3_ => by have z_ := HZ.out; omega))
  clear Vw0
  have Vw0 := X_
  clear X_
  have X_ := Aside0.mk (Vg0.out.kept hk_ (fun k h1_ h2_ h3_ => by have z_ := HZ.out; omega))
  clear Vg0
  have Vg0 := X_
  clear X_
  have X_ := Aside0.mk (Vh0.out.kept hk_ (fun k h1_ h2_ h3_ => by have z_ := HZ.out; omega))
  clear Vh0
  have Vh0 := X_
  clear X_
  clear hcz_h0_0 hfz_h0_0 hcz_h0_1 hfz_h0_1
  clear hcz_aj_0 hfz_aj_0 hcz_aj_1 hfz_aj_1 hcz_aj_2 hfz_aj_2 hcz_aj_3 hfz_aj_3 hcz_aj_4 hfz_aj_4 hcz_aj_5 hfz_aj_5 hcz_aj_6 hfz_aj_6 hcz_aj_7 hfz_aj_7
  have X_ := Aside0.mk (blk_kept BK_aj.out hk_ (fun h3_ => by have z_ := HZ.out; omega))
  clear BK_aj
  have BK_aj := X_
  clear X_
  obtain ⟨hcz_aj_0, hfz_aj_0, hcz_aj_1, hfz_aj_1, hcz_aj_2, hfz_aj_2, hcz_aj_3, hfz_aj_3, hcz_aj_4, hfz_aj_4, hcz_aj_5, hfz_aj_5, hcz_aj_6, hfz_aj_6, hcz_aj_7, hfz_aj_7⟩ := cells8_ BK_aj.out
  clear hcz_w0_0 hfz_w0_0 hcz_w0_1 hfz_w0_1
  have X_ := Aside0.mk (blk_kept BK_w0.out hk_ (fun h3_ => by have z_ := HZ.out; omega))
  clear BK_w0
  have BK_w0 := X_
  clear X_
  obtain ⟨hcz_w0_0, hfz_w0_0, hcz_w0_1, hfz_w0_1⟩ := cells2_ BK_w0.out
  clear hcz_x0_0 hfz_x0_0 hcz_x0_1 hfz_x0_1 hcz_x0_2 hfz_x0_2 hcz_x0_3 hfz_x0_3 hcz_x0_4 hfz_x0_4 hcz_x0_5 hfz_x0_5 hcz_x0_6 hfz_x0_6 hcz_x0_7 hfz_x0_7
  have X_ := Aside0.mk (blk_kept BK_x0.out hk_ (fun h3_ => by have z_ := HZ.out; omega))
  clear BK_x0
  have BK_x0 := X_
  clear X_
  obtain ⟨hcz_x0_0, hfz_x0_0, hcz_x0_1, hfz_x0_1, hcz_x0_2, hfz_x0_2, hcz_x0_3, hfz_x0_3, hcz_x0_4, hfz_x0_4, hcz_x0_5, hfz_x0_5, hcz_x0_6, hfz_x0_6, hcz_x0_7, hfz_x0_7⟩ := cells8_ BK_x0.out
  clear hcz_g0_0 hfz_g0_0 hcz_g0_1 hfz_g0_1
  have X_ := Aside0.mk (blk_kept BK_g0.out hk_ (fun h3_ => by have z_ := HZ.out; omega))
  clear BK_g0
  have BK_g0 := X_
  clear X_
  obtain ⟨hcz_g0_0, hfz_g0_0, hcz_g0_1, hfz_g0_1⟩ := cells2_ BK_g0.out
  clear BK_h0
  have BK_h0 := Aside0.mk hbk_
  obtain ⟨hcz_h0_0, hfz_h0_0, hcz_h0_1, hfz_h0_1⟩ := cells2_ BK_h0.out
  clear hbk_ hk_ hb_
  refine (laws_eqPlan.calls kgq r1v _ _ r2v r1v _ _ r2v true _ (by repeat (first | exact Vh0.out.C | (with_reducible refine Kd.C_alloc ?_ _) | (with_reducible refine Kd.C_drewN ?_ _) | (with_reducible refine Kd.C_drew ?_))) HCVh0.out (by repeat (first | exact Vw0.out.C | (with_reducible refine Kd.C_alloc ?_ _) | (with_reducible refine Kd.C_drewN ?_ _) | (with_reducible refine Kd.C_drew ?_))) HCVw0.out Hkgq.out).mono ?_
  rintro e w25_ ⟨rfl, hd_⟩
  have hb_ := hd_
  clear hd_
  have hp_ : Below w24_.heap.size w24_ w25_ := below_step (by repeat (first | exact Below.refl _ _ | (with_reducible apply below_alloc) | (with_reducible apply pw_below_drewN) | (with_reducible apply below_drew1))) hb_
  have HZ29 := Aside0.mk hp_.size
  replace HZ := Aside0.mk (And.intro HZ.out HZ29.out)
  clear HZ29
  replace HB := Aside0.mk (more HB.out hp_)
  replace Vw0 := Aside0.mk (Vw0.out.step hp_)
  replace Vg0 := Aside0.mk (Vg0.out.step hp_)
  replace Vh0 := Aside0.mk (Vh0.out.step hp_)
  clear hcz_aj_0 hfz_aj_0 hcz_aj_1 hfz_aj_1 hcz_aj_2 hfz_aj_2 hcz_aj_3 hfz_aj_3 hcz_aj_4 hfz_aj_4 hcz_aj_5 hfz_aj_5 hcz_aj_6 hfz_aj_6 hcz_aj_7 hfz_aj_7
  replace BK_aj := Aside0.mk (blk_below BK_aj.out hp_)
  obtain ⟨hcz_aj_0, hfz_aj_0, hcz_aj_1, hfz_aj_1, hcz_aj_2, hfz_aj_2, hcz_aj_3, hfz_aj_3, hcz_aj_4, hfz_aj_4, hcz_aj_5, hfz_aj_5, hcz_aj_6, hfz_aj_6, hcz_aj_7, hfz_aj_7⟩ := cells8_ BK_aj.out
  clear hcz_w0_0 hfz_w0_0 hcz_w0_1 hfz_w0_1
  replace BK_w0 := Aside0.mk (blk_below BK_w0.out hp_)
  obtain ⟨hcz_w0_0, hfz_w0_0, hcz_w0_1, hfz_w0_1⟩ := cells2_ BK_w0.out
  clear hcz_x0_0 hfz_x0_0 hcz_x0_1 hfz_x0_1 hcz_x0_2 hfz_x0_2 hcz_x0_3 hfz_x0_3 hcz_x0_4 hfz_x0_4 hcz_x0_5 hfz_x0_5 hcz_x0_6 hfz_x0_6 hcz_x0_7 hfz_x0_7
  replace BK_x0 := Aside0.mk (blk_below BK_x0.out hp_)
  obtain ⟨hcz_x0_0, hfz_x0_0, hcz_x0_1, hfz_x0_1, hcz_x0_2, hfz_x0_2, hcz_x0_3, hfz_x0_3, hcz_x0_4, hfz_x0_4, hcz_x0_5, hfz_x0_5, hcz_x0_6, hfz_x0_6, hcz_x0_7, hfz_x0_7⟩ := cells8_ BK_x0.out
  clear hcz_g0_0 hfz_g0_0 hcz_g0_1 hfz_g0_1
  replace BK_g0 := Aside0.mk (blk_below BK_g0.out hp_)
  obtain ⟨hcz_g0_0, hfz_g0_0, hcz_g0_1, hfz_g0_1⟩ := cells2_ BK_g0.out
  clear hcz_h0_0 hfz_h0_0 hcz_h0_1 hfz_h0_1
  replace BK_h0 := Aside0.mk (blk_below BK_h0.out hp_)
  obtain ⟨hcz_h0_0, hfz_h0_0, hcz_h0_1, hfz_h0_1⟩ := cells2_ BK_h0.out
  clear hb_ hp_
  go_wp2_with fail
  try rw [show (Value.slice AVg0 r2v.length cVg0) = .slice AVg0 (markedI r2v.length 1).length cVg0 from by rw [HML.out]]
  refine (laws_heldPlan.calls kh22 r1v _ _ (markedI r2v.length 1) 1 mt _ (by repeat (first | exact Vg0.out.C | (with_reducible refine Kd.C_alloc ?_ _) | (with_reducible refine Kd.C_drewN ?_ _) | (with_reducible refine Kd.C_drew ?_))) HCm.out HH22'.out).mono ?_
  rintro e w26_ ⟨rfl, hd_⟩
  have hp_ : Below w25_.heap.size w25_ w26_ := below_step (by repeat (first | exact Below.refl _ _ | (with_reducible apply below_alloc) | (with_reducible apply pw_below_drewN) | (with_reducible apply below_drew1))) (hd_)
  have HZ30 := Aside0.mk hp_.size
  replace HZ := Aside0.mk (And.intro HZ.out HZ30.out)
  clear HZ30
  replace HB := Aside0.mk (more HB.out hp_)
  replace Vw0 := Aside0.mk (Vw0.out.step hp_)
  replace Vg0 := Aside0.mk (Vg0.out.step hp_)
  replace Vh0 := Aside0.mk (Vh0.out.step hp_)
  clear hcz_aj_0 hfz_aj_0 hcz_aj_1 hfz_aj_1 hcz_aj_2 hfz_aj_2 hcz_aj_3 hfz_aj_3 hcz_aj_4 hfz_aj_4 hcz_aj_5 hfz_aj_5 hcz_aj_6 hfz_aj_6 hcz_aj_7 hfz_aj_7
  replace BK_aj := Aside0.mk (blk_below BK_aj.out hp_)
  obtain ⟨hcz_aj_0, hfz_aj_0, hcz_aj_1, hfz_aj_1, hcz_aj_2, hfz_aj_2, hcz_aj_3, hfz_aj_3, hcz_aj_4, hfz_aj_4, hcz_aj_5, hfz_aj_5, hcz_aj_6, hfz_aj_6, hcz_aj_7, hfz_aj_7⟩ := cells8_ BK_aj.out
  clear hcz_w0_0 hfz_w0_0 hcz_w0_1 hfz_w0_1
  replace BK_w0 := Aside0.mk (blk_below BK_w0.out hp_)
  obtain ⟨hcz_w0_0, hfz_w0_0, hcz_w0_1, hfz_w0_1⟩ := cells2_ BK_w0.out
  clear hcz_x0_0 hfz_x0_0 hcz_x0_1 hfz_x0_1 hcz_x0_2 hfz_x0_2 hcz_x0_3 hfz_x0_3 hcz_x0_4 hfz_x0_4 hcz_x0_5 hfz_x0_5 hcz_x0_6 hfz_x0_6 hcz_x0_7 hfz_x0_7
  replace BK_x0 := Aside0.mk (blk_below BK_x0.out hp_)
  obtain ⟨hcz_x0_0, hfz_x0_0, hcz_x0_1, hfz_x0_1, hcz_x0_2, hfz_x0_2, hcz_x0_3, hfz_x0_3, hcz_x0_4, hfz_x0_4, hcz_x0_5, hfz_x0_5, hcz_x0_6, hfz_x0_6, hcz_x0_7, hfz_x0_7⟩ := cells8_ BK_x0.out
  clear hcz_g0_0 hfz_g0_0 hcz_g0_1 hfz_g0_1
  replace BK_g0 := Aside0.mk (blk_below BK_g0.out hp_)
  obtain ⟨hcz_g0_0, hfz_g0_0, hcz_g0_1, hfz_g0_1⟩ := cells2_ BK_g0.out
  clear hcz_h0_0 hfz_h0_0 hcz_h0_1 hfz_h0_1
  replace BK_h0 := Aside0.mk (blk_below BK_h0.out hp_)
  obtain ⟨hcz_h0_0, hfz_h0_0, hcz_h0_1, hfz_h0_1⟩ := cells2_ BK_h0.out
  clear hd_ hp_
  go_wp2_with fail
  go_ret
  exact ⟨rfl, by repeat (first | exact HB.out | (with_reducible apply below_alloc) | (with_reducible apply pw_below_drewN) | (with_reducible apply below_drew1))⟩
end Go.Proofs.YtjjbohacmmhddaaDoor.WalkFnExactParsePlan

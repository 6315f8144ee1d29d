/- FnExactFactorValues over numbers and lists alone: what the program's text computes and what the reference's text computes is the same, for all arguments that the row lets in; no further condition. -/
import Derived.Test.YtgflhbfnhmofoaaPFnExactFactorValuesx3
import Derived.Test.YtgflhbfnhmofoaaGen
import Derived.Test.YtgflhbfnhmofoaaOpn
set_option linter.unusedVariables false
set_option linter.unusedSimpArgs false
namespace Go.Proofs.Ytgflhbfnhmofoaa.Pure
open Go.RowKit Go.Proofs.Ytgflhbfnhmofoaa.PFnExactFactorValues Go.Proofs.YtgflhbfnhmofoaaW.PrintWords Go.Proofs.YtgflhbfnhmofoaaW.PrintLast Go.Proofs.Ytgflhbfnhmofoaa.Gen Go.Proofs.Ytgflhbfnhmofoaa.Opn
theorem toIntS_l (x0 : List Int) (hx : x0.length < 9223372036854775807) : ∀ (suf pre : List Int), pre ++ suf = x0 →
    Ev (fun k => laws_toIntS.l0 k x0 (pre ++ List.replicate suf.length 0) (pre.length : Int)) x0 := by
  intro suf
  induction suf with
  | nil =>
    rintro pre rfl
    refine Ev.step (fun k => by rw [laws_toIntS.l0]) ?_
    refine Ev.neg (by simp) ?_
    refine Ev.cast (by simp) (Ev.now _)
  | cons x suf ih =>
    rintro pre rfl
    refine Ev.step (fun k => by rw [laws_toIntS.l0]) ?_
    refine Ev.pos (mid_lt _ _ _) (Ev.pos (nn _) (Ev.pos (by simp; omega) ?_))
    rw [wr_mid pre x suf _ rfl hx, rd_mid, List.length_cons, List.replicate_succ, set_mid]
    exact ih (pre ++ [x]) (by simp)

theorem toIntS_ev (x : List Int) (hx : x.length ≤ 35184372088832) : Ev (fun k => laws_toIntS.f k x) x := by
  unfold laws_toIntS.f
  refine Ev.pos (nn _) (Ev.pos (by simpa using hx) ?_)
  simpa using toIntS_l x (by omega) x [] rfl

theorem eqIntS_l (x0 x1 : List Int) (hx : x0.length < 9223372036854775807) (hl : x0.length = x1.length) : ∀ (d i : Nat), i + d = x0.length →
    Ev (fun k => laws_eqIntS.l0 k x0 x1 (i : Int)) (decide (x0.drop i = x1.drop i)) := by
  intro d
  induction d with
  | zero =>
    intro i hi
    refine Ev.step (fun k => by rw [laws_eqIntS.l0]) ?_
    refine Ev.neg (by omega) (Ev.cast ?_ (Ev.now _))
    rw [List.drop_eq_nil_of_le (by omega), List.drop_eq_nil_of_le (by omega)]; rfl
  | succ d ih =>
    intro i hi
    refine Ev.step (fun k => by rw [laws_eqIntS.l0]) ?_
    refine Ev.pos (by omega) (Ev.pos (nn _) (Ev.pos (by omega) ?_))
    rw [rd_get x0 i (by omega), rd_get x1 i (by omega), dr x0 i (by omega), dr x1 i (by omega)]
    refine Ev.cases (fun h => ?_) (fun h => ?_)
    · rw [wr_nat i _ (by omega) hx]
      refine Ev.cast ?_ (ih (i + 1) (by omega))
      simp only [List.cons.injEq, h, true_and]
    · refine Ev.cast ?_ (Ev.now _)
      simp only [List.cons.injEq, h, false_and, decide_false]

theorem eqIntS_ev (x y : List Int) (hx : x.length < 9223372036854775807) : Ev (fun k => laws_eqIntS.f k x y) (decide (x = y)) := by
  unfold laws_eqIntS.f
  refine Ev.cases (fun h => ?_) (fun h => ?_)
  · exact eqIntS_l x y hx (by omega) x.length 0 (by omega)
  · refine Ev.cast ?_ (Ev.now _)
    exact (decide_eq_false (fun e => h (by rw [e]))).symm

theorem l1In_eq (n a b : Int) : spec_l1In.f n a b = some (decide (a ≤ n ∧ n ≤ b)) := by
  unfold spec_l1In.f
  by_cases h : n ≥ a
  · rw [if_pos h]; simp [show a ≤ n from h]
  · rw [if_neg h]; simp [show ¬ a ≤ n from h]

def inB (a b : Int) (x : Int) : Bool := decide (a ≤ x ∧ x ≤ b)

theorem l1All_l (a b : Int) (xs : List Int) (hx : xs.length < 9223372036854775807) : ∀ (d i : Nat), i + d = xs.length →
    Ev (fun k => spec_l1All.l0 k a b xs (xs.length : Int) (i : Int)) ((xs.drop i).all (inB a b)) := by
  intro d
  induction d with
  | zero =>
    intro i hi
    refine Ev.step (fun k => by rw [spec_l1All.l0]) ?_
    refine Ev.neg (by omega) (Ev.cast ?_ (Ev.now _))
    rw [List.drop_eq_nil_of_le (by omega)]; rfl
  | succ d ih =>
    intro i hi
    refine Ev.step (fun k => by rw [spec_l1All.l0]) ?_
    refine Ev.pos (by omega) (Ev.pos (nn _) (Ev.pos (by omega) ?_))
    rw [rd_get xs i (by omega), dr xs i (by omega), l1In_eq]
    refine Ev.sbind (Ev.cases (fun h => ?_) (fun h => ?_))
    · rw [wr_nat i _ (by omega) hx]
      refine Ev.cast ?_ (ih (i + 1) (by omega))
      rw [List.all_cons, inB, h, Bool.true_and]
    · refine Ev.cast ?_ (Ev.now _)
      rw [List.all_cons, inB, bf h, Bool.false_and]

theorem l1All_ev (a b : Int) (xs : List Int) (hx : xs.length < 9223372036854775807) : Ev (fun k => spec_l1All.f k xs a b) (xs.all (inB a b)) := by
  unfold spec_l1All.f
  exact l1All_l a b xs hx xs.length 0 (by omega)

def gainsOk (g c : List Int) (n : Int) : Bool := decide (1 ≤ n ∧ n ≤ 120) && decide ((g.length : Int) = n) && decide ((c.length : Int) = n) && g.all (inB 0 10000) && c.all (inB 0 400000)

theorem spec_neGains_ev (g c : List Int) (n : Int) (hg : g.length < 9223372036854775807) (hc : c.length < 9223372036854775807) :
    Ev (fun k => spec_neGains.f k g c n) (gainsOk g c n) := by
  unfold spec_neGains.f gainsOk
  rw [l1In_eq]
  refine Ev.sbind ?_
  refine Ev.cases (fun h1 => ?_) (fun h => Ev.cast (by rw [bf h]; rfl) (Ev.now _))
  refine Ev.cases (fun h2 => ?_) (fun h => Ev.cast (by simp [h]) (Ev.now _))
  refine Ev.cases (fun h3 => ?_) (fun h => Ev.cast (by simp [h]) (Ev.now _))
  refine Ev.bind (l1All_ev _ _ _ hg) ?_
  refine Ev.cases (fun h4 => ?_) (fun h => Ev.cast (by rw [bf h]; simp) (Ev.now _))
  refine Ev.bind (l1All_ev _ _ _ hc) (Ev.cast ?_ (Ev.now _))
  rw [h1, h4]; simp [h2, h3]

theorem impl_AreGains_l (g c : List Int) (n : Nat) (hn : n ≤ 120) (hg : g.length = n) (hc : c.length = n) : ∀ (d i : Nat), i + d = n →
    Ev (fun k => impl_AreGains.l0 k g c (n : Int) (i : Int)) ((g.drop i).all (inB 0 10000) && (c.drop i).all (inB 0 400000)) := by
  intro d
  induction d with
  | zero =>
    intro i hi
    refine Ev.step (fun k => by rw [impl_AreGains.l0]) ?_
    refine Ev.neg (by omega) (Ev.cast ?_ (Ev.now _))
    rw [dr0 _ _ (by omega), dr0 _ _ (by omega)]; rfl
  | succ d ih =>
    intro i hi
    refine Ev.step (fun k => by rw [impl_AreGains.l0]) ?_
    refine Ev.pos (by omega) (Ev.pos (nn _) (Ev.pos (by omega) ?_))
    rw [rd_get g i (by omega), rd_get c i (by omega), dr g i (by omega), dr c i (by omega), List.all_cons, List.all_cons]
    unfold inB
    refine Ev.cases (fun h => Ev.cast (by simp; omega) (Ev.now _)) (fun h1 => ?_)
    refine Ev.cases (fun h => Ev.cast (by simp; omega) (Ev.now _)) (fun h2 => ?_)
    refine Ev.pos (by omega) ?_
    refine Ev.cases (fun h => Ev.cast (by simp; omega) (Ev.now _)) (fun h3 => ?_)
    refine Ev.cases (fun h => Ev.cast (by simp; omega) (Ev.now _)) (fun h4 => ?_)
    rw [wr_nat i _ (by omega) (by omega : n < _)]
    refine Ev.cast ?_ (ih (i + 1) (by omega))
    unfold inB
    rw [decide_eq_true (show 0 ≤ g[i] ∧ g[i] ≤ 10000 by omega), decide_eq_true (show 0 ≤ c[i] ∧ c[i] ≤ 400000 by omega), Bool.true_and, Bool.true_and]

theorem impl_AreGains_ev (g c : List Int) (n : Int) :
    Ev (fun k => impl_AreGains.f k g c n) (gainsOk g c n) := by
  unfold impl_AreGains.f gainsOk
  have J : ∀ r, r = false → Ev (fun k => impl_AreGains.j0 k g c n true) r := by
    intro r hr
    subst hr
    refine Ev.step (fun k => by rw [impl_AreGains.j0]) ?_
    exact Ev.pos rfl (Ev.now _)
  refine Ev.cases (fun h => J _ (by simp; omega)) (fun h1 => ?_)
  refine Ev.cases (fun h => J _ (by simp; omega)) (fun h2 => ?_)
  refine Ev.cases (fun h3 => ?_) (fun h => J _ (by simp [h]))
  by_cases h4 : (c.length : Int) = n
  · obtain ⟨m, rfl⟩ := Int.eq_ofNat_of_zero_le (by omega : 0 ≤ n)
    refine Ev.step (fun k => by rw [impl_AreGains.j0]) ?_
    refine Ev.neg (by simp [h4]) ?_
    refine Ev.cast ?_ (impl_AreGains_l g c m (by omega) (by omega) (by omega) m 0 (by omega))
    rw [decide_eq_true (show 1 ≤ (m : Int) ∧ (m : Int) ≤ 120 by omega), decide_eq_true h3, decide_eq_true h4]; rfl
  · rw [show ((c.length : Int) != n) = true by simp [h4]]
    exact J _ (by simp [h4])

def fvL (g c : List Int) (f : Int) : List Int := (List.range g.length).map fun i => g.getD i 0 * f - c.getD i 0

theorem fvL_take (g c : List Int) (f : Int) (i : Nat) (h : i < g.length) : ((List.range i).map fun i => g.getD i 0 * f - c.getD i 0) ++ [g.getD i 0 * f - c.getD i 0] = (List.range (i + 1)).map fun i => g.getD i 0 * f - c.getD i 0 := by
  rw [List.range_succ, List.map_append]; rfl

theorem all_at {p : Int → Bool} {xs : List Int} (h : xs.all p = true) (i : Nat) (hi : i < xs.length) : p (xs.getD i 0) = true := by
  rw [List.all_eq_true] at h
  rw [List.getD_eq_getElem?_getD, List.getElem?_eq_getElem hi]
  exact h _ (List.getElem_mem hi)

theorem fv_small (g c : List Int) (f : Int) (hg : g.all (inB 0 10000) = true) (hc : c.all (inB 0 400000) = true) (hl : c.length = g.length) (h0 : 0 ≤ f) (h1 : f ≤ 60) (i : Nat) (hi : i < g.length) :
    wrap64 (wrap64 (rd g (i : Int) * f) - rd c (i : Int)) = g.getD i 0 * f - c.getD i 0 := by
  rw [rd_nat, rd_nat]
  have a := of_decide_eq_true (all_at hg i hi)
  have b := of_decide_eq_true (all_at hc i (by omega))
  have m0 : 0 ≤ g.getD i 0 * f := Int.mul_nonneg a.1 h0
  have m1 : g.getD i 0 * f ≤ 10000 * 60 := Int.mul_le_mul a.2 h1 h0 (by omega)
  rw [wr (g.getD i 0 * f) (by omega) (by omega), wr _ (by omega) (by omega)]

theorem spec_neValues_l (g c : List Int) (f : Int) (hg : g.all (inB 0 10000) = true) (hc : c.all (inB 0 400000) = true) (hl : c.length = g.length) (h0 : 0 ≤ f) (h1 : f ≤ 60) (hn : g.length ≤ 120) : ∀ (d i : Nat), i + d = g.length →
    Ev (fun k => spec_neValues.l0 k c f ((List.range i).map fun i => g.getD i 0 * f - c.getD i 0) g (g.length : Int) (i : Int)) (fvL g c f) := by
  intro d
  induction d with
  | zero =>
    intro i hi
    refine Ev.step (fun k => by rw [spec_neValues.l0]) ?_
    refine Ev.neg (by omega) (Ev.cast ?_ (Ev.now _))
    rw [fvL, ← hi]; rfl
  | succ d ih =>
    intro i hi
    refine Ev.step (fun k => by rw [spec_neValues.l0]) ?_
    refine Ev.pos (by omega) (Ev.pos (nn _) (Ev.pos (by omega) (Ev.pos (by omega) (Ev.pos (by simp; omega) ?_))))
    rw [fv_small g c f hg hc hl h0 h1 i (by omega), fvL_take g c f i (by omega), wr_nat i _ (by omega) (by omega : g.length < _)]
    exact ih (i + 1) (by omega)

theorem impl_factorValues_l (g c : List Int) (f : Int) (hg : g.all (inB 0 10000) = true) (hc : c.all (inB 0 400000) = true) (hl : c.length = g.length) (h0 : 0 ≤ f) (h1 : f ≤ 60) (hn : g.length ≤ 120) : ∀ (d i : Nat), i + d = g.length →
    Ev (fun k => impl_factorValues.l0 k c f ((List.range i).map fun i => g.getD i 0 * f - c.getD i 0) g (g.length : Int) (i : Int)) (fvL g c f) := by
  intro d
  induction d with
  | zero =>
    intro i hi
    refine Ev.step (fun k => by rw [impl_factorValues.l0]) ?_
    refine Ev.neg (by omega) (Ev.cast ?_ (Ev.now _))
    rw [fvL, ← hi]; rfl
  | succ d ih =>
    intro i hi
    refine Ev.step (fun k => by rw [impl_factorValues.l0]) ?_
    refine Ev.pos (by omega) (Ev.pos (nn _) (Ev.pos (by omega) (Ev.pos (by omega) (Ev.pos (by simp; omega) ?_))))
    rw [fv_small g c f hg hc hl h0 h1 i (by omega), fvL_take g c f i (by omega), wr_nat i _ (by omega) (by omega : g.length < _)]
    exact ih (i + 1) (by omega)

theorem gainsOk_parts {g c : List Int} {n : Int} (h : gainsOk g c n = true) : 1 ≤ n ∧ n ≤ 120 ∧ (g.length : Int) = n ∧ (c.length : Int) = n ∧ g.all (inB 0 10000) = true ∧ c.all (inB 0 400000) = true := by
  unfold gainsOk at h
  simp only [Bool.and_eq_true, decide_eq_true_eq] at h
  exact ⟨h.1.1.1.1.1, h.1.1.1.1.2, h.1.1.1.2, h.1.1.2, h.1.2, h.2⟩

theorem neFactor_eq (f : Int) : spec_neFactor.f f = some (decide (0 ≤ f ∧ f ≤ 60)) := by unfold spec_neFactor.f; rw [l1In_eq]; rfl

theorem isFactor_eq (f : Int) : impl_isFactor.f f = some (decide (0 ≤ f ∧ f ≤ 60)) := by
  unfold impl_isFactor.f
  by_cases h : f ≥ 0
  · rw [if_pos h]; simp [show 0 ≤ f from h]
  · rw [if_neg h]; simp [show ¬ 0 ≤ f from h]

def fvR (g c : List Int) (f : Int) : List Int × Bool := if gainsOk g c (g.length : Int) = true ∧ 0 ≤ f ∧ f ≤ 60 then (fvL g c f, true) else ([], false)

theorem spec_FactorValues_ev (g c : List Int) (f : Int) (hg : g.length < 9223372036854775807) (hc : c.length < 9223372036854775807) : Ev (fun k => spec_FactorValues.f k g c f) (fvR g c f) := by
  unfold spec_FactorValues.f fvR
  refine Ev.bind (spec_neGains_ev g c _ hg hc) (Ev.cases (fun h => ?_) (fun h => Ev.cast (by rw [if_neg (fun e => h e.1)]) (Ev.now _)))
  rw [neFactor_eq]
  refine Ev.sbind (Ev.cases (fun h2 => ?_) (fun h2 => Ev.cast (by rw [if_neg (fun e => h2 (decide_eq_true e.2))]) (Ev.now _)))
  have p := gainsOk_parts h
  have q := of_decide_eq_true h2
  rw [if_pos ⟨h, q⟩]
  exact Ev.bind (a := fvL g c f) (by unfold spec_neValues.f; simpa using spec_neValues_l g c f p.2.2.2.2.1 p.2.2.2.2.2 (by omega) q.1 q.2 (by omega) g.length 0 (by omega)) (Ev.now _)

theorem impl_FactorValues_ev (g c : List Int) (f : Int) : Ev (fun k => impl_FactorValues.f k g c f) (fvR g c f) := by
  unfold impl_FactorValues.f fvR
  refine Ev.bind (impl_AreGains_ev g c _) (Ev.cases (fun h => ?_) (fun h => Ev.cast (by rw [if_neg (fun e => h e.1)]) (Ev.now _)))
  rw [isFactor_eq]
  refine Ev.sbind (Ev.cases (fun h2 => ?_) (fun h2 => Ev.cast (by rw [if_neg (fun e => h2 (decide_eq_true e.2))]) (Ev.now _)))
  have p := gainsOk_parts h
  have q := of_decide_eq_true h2
  rw [if_pos ⟨h, q⟩]
  exact Ev.bind (a := fvL g c f) (by unfold impl_factorValues.f; simpa using impl_factorValues_l g c f p.2.2.2.2.1 p.2.2.2.2.2 (by omega) q.1 q.2 (by omega) g.length 0 (by omega)) (Ev.now _)

def markedI (n : Nat) (a : Int) : List Int := (List.range n).map fun i : Nat => a + (i : Int)

theorem markIntS_l (a : Int) (ha : 0 ≤ a) : ∀ (suf pre : List Int), pre = markedI pre.length a → a + (pre.length : Int) + (suf.length : Int) < 9223372036854775807 →
    Ev (fun k => laws_markIntS.l0 k (pre ++ suf) (a + (pre.length : Int)) (pre.length : Int)) (a + ((pre ++ suf).length : Int), markedI (pre ++ suf).length a) := by
  intro suf
  induction suf with
  | nil =>
    intro pre hp hb
    refine Ev.step (fun k => by rw [laws_markIntS.l0]) ?_
    refine Ev.neg (by simp) (Ev.cast ?_ (Ev.now _))
    rw [List.append_nil, ← hp]
  | cons x suf ih =>
    intro pre hp hb
    refine Ev.step (fun k => by rw [laws_markIntS.l0]) ?_
    refine Ev.pos (mid_lt _ _ _) (Ev.pos (nn _) ?_)
    rw [List.length_cons] at hb
    rw [wr_mid pre x suf _ rfl (by simp; omega), set_mid, wr _ (by omega) (by omega)]
    have := ih (pre ++ [a + (pre.length : Int)]) (by
      unfold markedI; rw [List.length_append, List.length_singleton, List.range_succ, List.map_append, List.map_singleton]; unfold markedI at hp; rw [← hp]) (by simp; omega)
    simp only [List.length_append, List.length_cons, List.length_nil] at this ⊢
    rw [show a + (pre.length : Int) + 1 = a + ((pre.length + (0 + 1) : Nat) : Int) by omega, show pre.length + (suf.length + 1) = pre.length + (0 + 1) + suf.length by omega]
    exact this

theorem markIntS_ev (x : List Int) (a : Int) (ha : 0 ≤ a) (hb : a + (x.length : Int) < 9223372036854775807) : Ev (fun k => laws_markIntS.f k x a) (a + (x.length : Int), markedI x.length a) := by
  unfold laws_markIntS.f
  simpa using markIntS_l a ha x [] rfl (by simpa using hb)

theorem heldIntS_l (a : Int) (ha : 0 ≤ a) (n : Nat) (hb : a + (n : Int) < 9223372036854775807) : ∀ (d i : Nat), i + d = n →
    Ev (fun k => laws_heldIntS.l0 k (markedI n a) (a + (i : Int)) (i : Int)) (a + (n : Int)) := by
  intro d
  have hl : (markedI n a).length = n := by simp [markedI]
  induction d with
  | zero =>
    intro i hi
    refine Ev.step (fun k => by rw [laws_heldIntS.l0]) ?_
    refine Ev.neg (by omega) (Ev.cast (by omega) (Ev.now _))
  | succ d ih =>
    intro i hi
    refine Ev.step (fun k => by rw [laws_heldIntS.l0]) ?_
    refine Ev.pos (by omega) (Ev.pos (nn _) ?_)
    rw [rd_get _ i (by omega)]
    refine Ev.pos (by simp [markedI]) ?_
    rw [wr_nat i n (by omega) (by omega), wr _ (by omega) (by omega), Int.add_assoc]
    exact ih (i + 1) (by omega)

theorem heldIntS_ev (n : Nat) (a : Int) (ha : 0 ≤ a) (hb : a + (n : Int) < 9223372036854775807) : Ev (fun k => laws_heldIntS.f k (markedI n a) a) (a + (n : Int)) := by
  unfold laws_heldIntS.f
  simpa using heldIntS_l a ha n hb n 0 (by omega)

theorem FnExactFactorValues (g c : List Int) (f : Int) (_ : g.length * 8 ≤ 140737488351232) (_ : okI .i64 g) (_ : c.length * 8 ≤ 140737488351232) (_ : okI .i64 c) (_ : (Lit.int .i64 f).wf = true) : ∃ k, laws_FnExactFactorValues.f k g c f = some true := by
  refine Ev.ex (g := fun k => laws_FnExactFactorValues.f k g c f) ?_
  unfold laws_FnExactFactorValues.f
  refine Ev.cases (fun h => Ev.now _) (fun h1 => ?_)
  refine Ev.cases (fun h => Ev.now _) (fun h2 => ?_)
  have T1 := toIntS_ev g (by omega)
  have T2 := toIntS_ev c (by omega)
  have hr : (fvR g c f).1.length ≤ 1048576 := by
    unfold fvR; split
    · simp [fvL]; omega
    · simp
  have I := impl_FactorValues_ev g c f
  have E := eqIntS_ev (fvR g c f).1 (fvR g c f).1 (by omega)
  have HE := heldIntS_ev (fvR g c f).1.length 1 (by omega) (by omega)
  refine Ev.bind T1 (Ev.bind T2 (Ev.bind (spec_FactorValues_ev g c f (by omega) (by omega)) (Ev.bind T1 (Ev.bind T2 (Ev.bind I ?_)))))
  refine Ev.bind E (Ev.pos (by simp) ?_)
  refine Ev.step (fun k => by rw [laws_FnExactFactorValues.j0]) ?_
  refine Ev.neg (by simp) ?_
  refine Ev.bind T1 (Ev.bind (eqIntS_ev g g (by omega)) (Ev.pos (by simp) ?_))
  refine Ev.bind T2 (Ev.bind (eqIntS_ev c c (by omega)) (Ev.pos (by simp) ?_))
  refine Ev.bind (markIntS_ev g 1 (by omega) (by omega)) (Ev.bind (markIntS_ev c _ (by omega) (by omega)) (Ev.neg (by omega) ?_))
  refine Ev.bind E (Ev.pos (by simp) ?_)
  refine Ev.step (fun k => by rw [laws_FnExactFactorValues.j1]) ?_
  refine Ev.neg (by simp) ?_
  refine Ev.bind (markIntS_ev _ 1 (by omega) (by omega)) (Ev.bind HE (Ev.neg (by omega) (Ev.pos rfl ?_)))
  refine Ev.bind T1 (Ev.bind T2 (Ev.bind I (Ev.bind E (Ev.pos (by simp) ?_))))
  refine Ev.step (fun k => by rw [laws_FnExactFactorValues.j2]) ?_
  refine Ev.neg (by simp) ?_
  exact Ev.bind HE (Ev.neg (by omega) (Ev.pos rfl (Ev.now _)))

end Go.Proofs.Ytgflhbfnhmofoaa.Pure

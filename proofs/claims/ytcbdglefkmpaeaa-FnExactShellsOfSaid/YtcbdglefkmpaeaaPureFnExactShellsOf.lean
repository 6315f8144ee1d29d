/- FnExactShellsOf over numbers and lists alone: what the program's text computes and what the reference's text computes is the same, for all arguments that the row lets in; no further condition. -/
import Derived.Test.YtcbdglefkmpaeaaPFnExactShellsOfx
import Derived.Test.YtcbdglefkmpaeaaGen
import Derived.Test.YtcbdglefkmpaeaaOpn
set_option linter.unusedVariables false
set_option linter.unusedSimpArgs false
namespace Go.Proofs.Ytcbdglefkmpaeaa.Pure
open Go.RowKit Go.Proofs.Ytcbdglefkmpaeaa.PFnExactShellsOf Go.Proofs.YtcbdglefkmpaeaaW.PrintWords Go.Proofs.YtcbdglefkmpaeaaW.PrintLast Go.Proofs.Ytcbdglefkmpaeaa.Gen Go.Proofs.Ytcbdglefkmpaeaa.Opn
theorem toIntS_l (x0 : List Int) (hx : x0.length < 9223372036854775807) : ∀ (suf pre : List Int), pre ++ suf = x0 →
    Ev (fun k => laws_toIntS.l0 k x0 (pre ++ List.replicate suf.length 0) (pre.length : Int)) x0 := by
  intro suf
  induction suf with
  | nil =>
    rintro pre rfl
    refine Ev.step (fun k => by rw [laws_toIntS.l0]) ?_
    refine Ev.neg (by simp) ?_
    refine Ev.cast (by simp) (Ev.now _)
  | cons x suf ih =>
    rintro pre rfl
    refine Ev.step (fun k => by rw [laws_toIntS.l0]) ?_
    refine Ev.pos (mid_lt _ _ _) (Ev.pos (nn _) (Ev.pos (by simp; omega) ?_))
    rw [wr_mid pre x suf _ rfl hx, rd_mid, List.length_cons, List.replicate_succ, set_mid]
    exact ih (pre ++ [x]) (by simp)

theorem toIntS_ev (x : List Int) (hx : x.length ≤ 35184372088832) : Ev (fun k => laws_toIntS.f k x) x := by
  unfold laws_toIntS.f
  refine Ev.pos (nn _) (Ev.pos (by simpa using hx) ?_)
  simpa using toIntS_l x (by omega) x [] rfl

theorem eqIntS_l (x0 x1 : List Int) (hx : x0.length < 9223372036854775807) (hl : x0.length = x1.length) : ∀ (d i : Nat), i + d = x0.length →
    Ev (fun k => laws_eqIntS.l0 k x0 x1 (i : Int)) (decide (x0.drop i = x1.drop i)) := by
  intro d
  induction d with
  | zero =>
    intro i hi
    refine Ev.step (fun k => by rw [laws_eqIntS.l0]) ?_
    refine Ev.neg (by omega) (Ev.cast ?_ (Ev.now _))
    rw [List.drop_eq_nil_of_le (by omega), List.drop_eq_nil_of_le (by omega)]; rfl
  | succ d ih =>
    intro i hi
    refine Ev.step (fun k => by rw [laws_eqIntS.l0]) ?_
    refine Ev.pos (by omega) (Ev.pos (nn _) (Ev.pos (by omega) ?_))
    rw [rd_get x0 i (by omega), rd_get x1 i (by omega), dr x0 i (by omega), dr x1 i (by omega)]
    refine Ev.cases (fun h => ?_) (fun h => ?_)
    · rw [wr_nat i _ (by omega) hx]
      refine Ev.cast ?_ (ih (i + 1) (by omega))
      simp only [List.cons.injEq, h, true_and]
    · refine Ev.cast ?_ (Ev.now _)
      simp only [List.cons.injEq, h, false_and, decide_false]

theorem eqIntS_ev (x y : List Int) (hx : x.length < 9223372036854775807) : Ev (fun k => laws_eqIntS.f k x y) (decide (x = y)) := by
  unfold laws_eqIntS.f
  refine Ev.cases (fun h => ?_) (fun h => ?_)
  · exact eqIntS_l x y hx (by omega) x.length 0 (by omega)
  · refine Ev.cast ?_ (Ev.now _)
    exact (decide_eq_false (fun e => h (by rw [e]))).symm

theorem l1In_eq (n a b : Int) : spec_l1In.f n a b = some (decide (a ≤ n ∧ n ≤ b)) := by
  unfold spec_l1In.f
  by_cases h : n ≥ a
  · rw [if_pos h]; simp [show a ≤ n from h]
  · rw [if_neg h]; simp [show ¬ a ≤ n from h]

def inB (a b : Int) (x : Int) : Bool := decide (a ≤ x ∧ x ≤ b)

theorem l1All_l (a b : Int) (xs : List Int) (hx : xs.length < 9223372036854775807) : ∀ (d i : Nat), i + d = xs.length →
    Ev (fun k => spec_l1All.l0 k a b xs (xs.length : Int) (i : Int)) ((xs.drop i).all (inB a b)) := by
  intro d
  induction d with
  | zero =>
    intro i hi
    refine Ev.step (fun k => by rw [spec_l1All.l0]) ?_
    refine Ev.neg (by omega) (Ev.cast ?_ (Ev.now _))
    rw [List.drop_eq_nil_of_le (by omega)]; rfl
  | succ d ih =>
    intro i hi
    refine Ev.step (fun k => by rw [spec_l1All.l0]) ?_
    refine Ev.pos (by omega) (Ev.pos (nn _) (Ev.pos (by omega) ?_))
    rw [rd_get xs i (by omega), dr xs i (by omega), l1In_eq]
    refine Ev.sbind (Ev.cases (fun h => ?_) (fun h => ?_))
    · rw [wr_nat i _ (by omega) hx]
      refine Ev.cast ?_ (ih (i + 1) (by omega))
      rw [List.all_cons, inB, h, Bool.true_and]
    · refine Ev.cast ?_ (Ev.now _)
      rw [List.all_cons, inB, bf h, Bool.false_and]

theorem l1All_ev (a b : Int) (xs : List Int) (hx : xs.length < 9223372036854775807) : Ev (fun k => spec_l1All.f k xs a b) (xs.all (inB a b)) := by
  unfold spec_l1All.f
  exact l1All_l a b xs hx xs.length 0 (by omega)

def gainsOk (g c : List Int) (n : Int) : Bool := decide (1 ≤ n ∧ n ≤ 120) && decide ((g.length : Int) = n) && decide ((c.length : Int) = n) && g.all (inB 0 10000) && c.all (inB 0 400000)

theorem spec_neGains_ev (g c : List Int) (n : Int) (hg : g.length < 9223372036854775807) (hc : c.length < 9223372036854775807) :
    Ev (fun k => spec_neGains.f k g c n) (gainsOk g c n) := by
  unfold spec_neGains.f gainsOk
  rw [l1In_eq]
  refine Ev.sbind ?_
  refine Ev.cases (fun h1 => ?_) (fun h => Ev.cast (by rw [bf h]; rfl) (Ev.now _))
  refine Ev.cases (fun h2 => ?_) (fun h => Ev.cast (by simp [h]) (Ev.now _))
  refine Ev.cases (fun h3 => ?_) (fun h => Ev.cast (by simp [h]) (Ev.now _))
  refine Ev.bind (l1All_ev _ _ _ hg) ?_
  refine Ev.cases (fun h4 => ?_) (fun h => Ev.cast (by rw [bf h]; simp) (Ev.now _))
  refine Ev.bind (l1All_ev _ _ _ hc) (Ev.cast ?_ (Ev.now _))
  rw [h1, h4]; simp [h2, h3]

theorem impl_AreGains_l (g c : List Int) (n : Nat) (hn : n ≤ 120) (hg : g.length = n) (hc : c.length = n) : ∀ (d i : Nat), i + d = n →
    Ev (fun k => impl_AreGains.l0 k g c (n : Int) (i : Int)) ((g.drop i).all (inB 0 10000) && (c.drop i).all (inB 0 400000)) := by
  intro d
  induction d with
  | zero =>
    intro i hi
    refine Ev.step (fun k => by rw [impl_AreGains.l0]) ?_
    refine Ev.neg (by omega) (Ev.cast ?_ (Ev.now _))
    rw [dr0 _ _ (by omega), dr0 _ _ (by omega)]; rfl
  | succ d ih =>
    intro i hi
    refine Ev.step (fun k => by rw [impl_AreGains.l0]) ?_
    refine Ev.pos (by omega) (Ev.pos (nn _) (Ev.pos (by omega) ?_))
    rw [rd_get g i (by omega), rd_get c i (by omega), dr g i (by omega), dr c i (by omega), List.all_cons, List.all_cons]
    unfold inB
    refine Ev.cases (fun h => Ev.cast (by simp; omega) (Ev.now _)) (fun h1 => ?_)
    refine Ev.cases (fun h => Ev.cast (by simp; omega) (Ev.now _)) (fun h2 => ?_)
    refine Ev.pos (by omega) ?_
    refine Ev.cases (fun h => Ev.cast (by simp; omega) (Ev.now _)) (fun h3 => ?_)
    refine Ev.cases (fun h => Ev.cast (by simp; omega) (Ev.now _)) (fun h4 => ?_)
    rw [wr_nat i _ (by omega) (by omega : n < _)]
    refine Ev.cast ?_ (ih (i + 1) (by omega))
    unfold inB
    rw [decide_eq_true (show 0 ≤ g[i] ∧ g[i] ≤ 10000 by omega), decide_eq_true (show 0 ≤ c[i] ∧ c[i] ≤ 400000 by omega), Bool.true_and, Bool.true_and]

theorem impl_AreGains_ev (g c : List Int) (n : Int) :
    Ev (fun k => impl_AreGains.f k g c n) (gainsOk g c n) := by
  unfold impl_AreGains.f gainsOk
  have J : ∀ r, r = false → Ev (fun k => impl_AreGains.j0 k g c n true) r := by
    intro r hr
    subst hr
    refine Ev.step (fun k => by rw [impl_AreGains.j0]) ?_
    exact Ev.pos rfl (Ev.now _)
  refine Ev.cases (fun h => J _ (by simp; omega)) (fun h1 => ?_)
  refine Ev.cases (fun h => J _ (by simp; omega)) (fun h2 => ?_)
  refine Ev.cases (fun h3 => ?_) (fun h => J _ (by simp [h]))
  by_cases h4 : (c.length : Int) = n
  · obtain ⟨m, rfl⟩ := Int.eq_ofNat_of_zero_le (by omega : 0 ≤ n)
    refine Ev.step (fun k => by rw [impl_AreGains.j0]) ?_
    refine Ev.neg (by simp [h4]) ?_
    refine Ev.cast ?_ (impl_AreGains_l g c m (by omega) (by omega) (by omega) m 0 (by omega))
    rw [decide_eq_true (show 1 ≤ (m : Int) ∧ (m : Int) ≤ 120 by omega), decide_eq_true h3, decide_eq_true h4]; rfl
  · rw [show ((c.length : Int) != n) = true by simp [h4]]
    exact J _ (by simp [h4])

def fvL (g c : List Int) (f : Int) : List Int := (List.range g.length).map fun i => g.getD i 0 * f - c.getD i 0

theorem fvL_take (g c : List Int) (f : Int) (i : Nat) (h : i < g.length) : ((List.range i).map fun i => g.getD i 0 * f - c.getD i 0) ++ [g.getD i 0 * f - c.getD i 0] = (List.range (i + 1)).map fun i => g.getD i 0 * f - c.getD i 0 := by
  rw [List.range_succ, List.map_append]; rfl

theorem all_at {p : Int → Bool} {xs : List Int} (h : xs.all p = true) (i : Nat) (hi : i < xs.length) : p (xs.getD i 0) = true := by
  rw [List.all_eq_true] at h
  rw [List.getD_eq_getElem?_getD, List.getElem?_eq_getElem hi]
  exact h _ (List.getElem_mem hi)

theorem fv_small (g c : List Int) (f : Int) (hg : g.all (inB 0 10000) = true) (hc : c.all (inB 0 400000) = true) (hl : c.length = g.length) (h0 : 0 ≤ f) (h1 : f ≤ 60) (i : Nat) (hi : i < g.length) :
    wrap64 (wrap64 (rd g (i : Int) * f) - rd c (i : Int)) = g.getD i 0 * f - c.getD i 0 := by
  rw [rd_nat, rd_nat]
  have a := of_decide_eq_true (all_at hg i hi)
  have b := of_decide_eq_true (all_at hc i (by omega))
  have m0 : 0 ≤ g.getD i 0 * f := Int.mul_nonneg a.1 h0
  have m1 : g.getD i 0 * f ≤ 10000 * 60 := Int.mul_le_mul a.2 h1 h0 (by omega)
  rw [wr (g.getD i 0 * f) (by omega) (by omega), wr _ (by omega) (by omega)]

theorem spec_neValues_l (g c : List Int) (f : Int) (hg : g.all (inB 0 10000) = true) (hc : c.all (inB 0 400000) = true) (hl : c.length = g.length) (h0 : 0 ≤ f) (h1 : f ≤ 60) (hn : g.length ≤ 120) : ∀ (d i : Nat), i + d = g.length →
    Ev (fun k => spec_neValues.l0 k c f ((List.range i).map fun i => g.getD i 0 * f - c.getD i 0) g (g.length : Int) (i : Int)) (fvL g c f) := by
  intro d
  induction d with
  | zero =>
    intro i hi
    refine Ev.step (fun k => by rw [spec_neValues.l0]) ?_
    refine Ev.neg (by omega) (Ev.cast ?_ (Ev.now _))
    rw [fvL, ← hi]; rfl
  | succ d ih =>
    intro i hi
    refine Ev.step (fun k => by rw [spec_neValues.l0]) ?_
    refine Ev.pos (by omega) (Ev.pos (nn _) (Ev.pos (by omega) (Ev.pos (by omega) (Ev.pos (by simp; omega) ?_))))
    rw [fv_small g c f hg hc hl h0 h1 i (by omega), fvL_take g c f i (by omega), wr_nat i _ (by omega) (by omega : g.length < _)]
    exact ih (i + 1) (by omega)

theorem impl_factorValues_l (g c : List Int) (f : Int) (hg : g.all (inB 0 10000) = true) (hc : c.all (inB 0 400000) = true) (hl : c.length = g.length) (h0 : 0 ≤ f) (h1 : f ≤ 60) (hn : g.length ≤ 120) : ∀ (d i : Nat), i + d = g.length →
    Ev (fun k => impl_factorValues.l0 k c f ((List.range i).map fun i => g.getD i 0 * f - c.getD i 0) g (g.length : Int) (i : Int)) (fvL g c f) := by
  intro d
  induction d with
  | zero =>
    intro i hi
    refine Ev.step (fun k => by rw [impl_factorValues.l0]) ?_
    refine Ev.neg (by omega) (Ev.cast ?_ (Ev.now _))
    rw [fvL, ← hi]; rfl
  | succ d ih =>
    intro i hi
    refine Ev.step (fun k => by rw [impl_factorValues.l0]) ?_
    refine Ev.pos (by omega) (Ev.pos (nn _) (Ev.pos (by omega) (Ev.pos (by omega) (Ev.pos (by simp; omega) ?_))))
    rw [fv_small g c f hg hc hl h0 h1 i (by omega), fvL_take g c f i (by omega), wr_nat i _ (by omega) (by omega : g.length < _)]
    exact ih (i + 1) (by omega)

theorem gainsOk_parts {g c : List Int} {n : Int} (h : gainsOk g c n = true) : 1 ≤ n ∧ n ≤ 120 ∧ (g.length : Int) = n ∧ (c.length : Int) = n ∧ g.all (inB 0 10000) = true ∧ c.all (inB 0 400000) = true := by
  unfold gainsOk at h
  simp only [Bool.and_eq_true, decide_eq_true_eq] at h
  exact ⟨h.1.1.1.1.1, h.1.1.1.1.2, h.1.1.1.2, h.1.1.2, h.1.2, h.2⟩

theorem neFactor_eq (f : Int) : spec_neFactor.f f = some (decide (0 ≤ f ∧ f ≤ 60)) := by unfold spec_neFactor.f; rw [l1In_eq]; rfl

theorem isFactor_eq (f : Int) : impl_isFactor.f f = some (decide (0 ≤ f ∧ f ≤ 60)) := by
  unfold impl_isFactor.f
  by_cases h : f ≥ 0
  · rw [if_pos h]; simp [show 0 ≤ f from h]
  · rw [if_neg h]; simp [show ¬ 0 ≤ f from h]

def markedI (n : Nat) (a : Int) : List Int := (List.range n).map fun i : Nat => a + (i : Int)

theorem markIntS_l (a : Int) (ha : 0 ≤ a) : ∀ (suf pre : List Int), pre = markedI pre.length a → a + (pre.length : Int) + (suf.length : Int) < 9223372036854775807 →
    Ev (fun k => laws_markIntS.l0 k (pre ++ suf) (a + (pre.length : Int)) (pre.length : Int)) (a + ((pre ++ suf).length : Int), markedI (pre ++ suf).length a) := by
  intro suf
  induction suf with
  | nil =>
    intro pre hp hb
    refine Ev.step (fun k => by rw [laws_markIntS.l0]) ?_
    refine Ev.neg (by simp) (Ev.cast ?_ (Ev.now _))
    rw [List.append_nil, ← hp]
  | cons x suf ih =>
    intro pre hp hb
    refine Ev.step (fun k => by rw [laws_markIntS.l0]) ?_
    refine Ev.pos (mid_lt _ _ _) (Ev.pos (nn _) ?_)
    rw [List.length_cons] at hb
    rw [wr_mid pre x suf _ rfl (by simp; omega), set_mid, wr _ (by omega) (by omega)]
    have := ih (pre ++ [a + (pre.length : Int)]) (by
      unfold markedI; rw [List.length_append, List.length_singleton, List.range_succ, List.map_append, List.map_singleton]; unfold markedI at hp; rw [← hp]) (by simp; omega)
    simp only [List.length_append, List.length_cons, List.length_nil] at this ⊢
    rw [show a + (pre.length : Int) + 1 = a + ((pre.length + (0 + 1) : Nat) : Int) by omega, show pre.length + (suf.length + 1) = pre.length + (0 + 1) + suf.length by omega]
    exact this

theorem markIntS_ev (x : List Int) (a : Int) (ha : 0 ≤ a) (hb : a + (x.length : Int) < 9223372036854775807) : Ev (fun k => laws_markIntS.f k x a) (a + (x.length : Int), markedI x.length a) := by
  unfold laws_markIntS.f
  simpa using markIntS_l a ha x [] rfl (by simpa using hb)

theorem heldIntS_l (a : Int) (ha : 0 ≤ a) (n : Nat) (hb : a + (n : Int) < 9223372036854775807) : ∀ (d i : Nat), i + d = n →
    Ev (fun k => laws_heldIntS.l0 k (markedI n a) (a + (i : Int)) (i : Int)) (a + (n : Int)) := by
  intro d
  have hl : (markedI n a).length = n := by simp [markedI]
  induction d with
  | zero =>
    intro i hi
    refine Ev.step (fun k => by rw [laws_heldIntS.l0]) ?_
    refine Ev.neg (by omega) (Ev.cast (by omega) (Ev.now _))
  | succ d ih =>
    intro i hi
    refine Ev.step (fun k => by rw [laws_heldIntS.l0]) ?_
    refine Ev.pos (by omega) (Ev.pos (nn _) ?_)
    rw [rd_get _ i (by omega)]
    refine Ev.pos (by simp [markedI]) ?_
    rw [wr_nat i n (by omega) (by omega), wr _ (by omega) (by omega), Int.add_assoc]
    exact ih (i + 1) (by omega)

theorem heldIntS_ev (n : Nat) (a : Int) (ha : 0 ≤ a) (hb : a + (n : Int) < 9223372036854775807) : Ev (fun k => laws_heldIntS.f k (markedI n a) a) (a + (n : Int)) := by
  unfold laws_heldIntS.f
  simpa using heldIntS_l a ha n hb n 0 (by omega)

theorem rdL1_get (xs : List (List Int)) (i : Nat) (h : i < xs.length) : rd_L1 xs (i : Int) = xs[i] := by
  unfold rd_L1; rw [Int.toNat_natCast]; simp [List.getD_eq_getElem?_getD, h]

theorem rdL1_mid (pre : List (List Int)) (x : List Int) (suf : List (List Int)) : rd_L1 (pre ++ x :: suf) (pre.length : Int) = x := by
  unfold rd_L1; rw [Int.toNat_natCast]; simp

theorem szIntS_eq (x : List Int) (left : Int) (h0 : 0 ≤ left) (h1 : left ≤ 1048576) (hx : x.length ≤ maxLen) : ∃ r, laws_szIntS.f x left = some r ∧ r ≤ 1048576 ∧ (0 ≤ r → r = left - x.length) := by
  unfold laws_szIntS.f
  unfold maxLen at hx
  rw [wr _ (by omega) (by omega)]
  by_cases h : left - (x.length : Int) < 0
  · rw [if_pos h]; exact ⟨-1, rfl, by omega, by omega⟩
  · rw [if_neg h]; exact ⟨_, rfl, by omega, fun _ => rfl⟩

def totL (xs : List (List Int)) : Nat := (xs.map List.length).sum

theorem szIntSS_l (x : List (List Int)) (hx : x.length < 9223372036854775807) (hi : ∀ z ∈ x, z.length ≤ maxLen) : ∀ (suf pre : List (List Int)) (left : Int), pre ++ suf = x → 0 ≤ left → left ≤ 1048576 →
    ∃ r, Ev (fun k => laws_szIntSS.l0 k x left (pre.length : Int)) r ∧ r ≤ 1048576 ∧ (0 ≤ r → r = left - totL suf) := by
  intro suf
  induction suf with
  | nil =>
    rintro pre left rfl h0 h1
    refine ⟨left, ?_, h1, fun _ => by simp [totL]⟩
    refine Ev.step (fun k => by rw [laws_szIntSS.l0]) ?_
    exact Ev.neg (by simp) (Ev.now _)
  | cons y suf ih =>
    rintro pre left rfl h0 h1
    obtain ⟨r, hr, hr1, hr2⟩ := szIntS_eq y left h0 h1 (hi y (by simp))
    by_cases h : r < 0
    · refine ⟨-1, ?_, by omega, by omega⟩
      refine Ev.step (fun k => by rw [laws_szIntSS.l0]) ?_
      refine Ev.pos (mid_lt _ _ _) (Ev.pos (nn _) ?_)
      rw [rdL1_mid, hr]
      exact Ev.sbind (Ev.pos h (Ev.now _))
    · obtain ⟨q, hq, hq1, hq2⟩ := ih (pre ++ [y]) r (by simp) (by omega) hr1
      refine ⟨q, ?_, hq1, fun hh => ?_⟩
      · refine Ev.step (fun k => by rw [laws_szIntSS.l0]) ?_
        refine Ev.pos (mid_lt _ _ _) (Ev.pos (nn _) ?_)
        rw [rdL1_mid, hr]
        refine Ev.sbind (Ev.neg h ?_)
        rw [wr_mid pre y suf _ rfl hx]
        exact hq
      · have a := hq2 hh
        have b := hr2 (by omega)
        simp only [totL, List.map_cons, List.sum_cons] at a ⊢
        omega

theorem szIntSS_ev (x : List (List Int)) (left : Int) (h0 : 0 ≤ left) (h1 : left ≤ 1048576) (hx : x.length ≤ maxLen) (hi : ∀ z ∈ x, z.length ≤ maxLen) :
    ∃ r, Ev (fun k => laws_szIntSS.f k x left) r ∧ r ≤ 1048576 ∧ (0 ≤ r → r = left - x.length - totL x) := by
  unfold laws_szIntSS.f
  have hx' := hx
  unfold maxLen at hx'
  rw [wr _ (by omega) (by omega)]
  by_cases h : left - (x.length : Int) < 0
  · exact ⟨-1, Ev.pos h (Ev.now _), by omega, by omega⟩
  · obtain ⟨r, hr, a, b⟩ := szIntSS_l x (by omega) hi x [] (left - x.length) rfl (by omega) (by omega)
    exact ⟨r, Ev.neg h hr, a, b⟩

theorem tot_mem {xs : List (List Int)} {z : List Int} (h : z ∈ xs) : z.length ≤ totL xs := by
  induction xs with
  | nil => cases h
  | cons y ys ih =>
    rcases List.mem_cons.1 h with rfl | h
    · simp [totL]
    · have := ih h
      simp only [totL, List.map_cons, List.sum_cons] at this ⊢
      omega

theorem toIntSS_l (x0 : List (List Int)) (hx : x0.length < 9223372036854775807) (hi : ∀ z ∈ x0, z.length ≤ 1048576) : ∀ (suf pre : List (List Int)), pre ++ suf = x0 →
    Ev (fun k => laws_toIntSS.l0 k x0 (pre ++ List.replicate suf.length []) (pre.length : Int)) x0 := by
  intro suf
  induction suf with
  | nil =>
    rintro pre rfl
    refine Ev.step (fun k => by rw [laws_toIntSS.l0]) ?_
    refine Ev.neg (by simp) ?_
    refine Ev.cast (by simp) (Ev.now _)
  | cons x suf ih =>
    rintro pre rfl
    refine Ev.step (fun k => by rw [laws_toIntSS.l0]) ?_
    refine Ev.pos (mid_lt _ _ _) (Ev.pos (nn _) ?_)
    rw [rdL1_mid]
    refine Ev.bind (toIntS_ev x (by have := hi x (by simp); omega)) (Ev.pos (by simp; omega) ?_)
    rw [wr_mid pre x suf _ rfl hx, List.length_cons, List.replicate_succ, set_mid]
    exact ih (pre ++ [x]) (by simp)

theorem toIntSS_ev (x : List (List Int)) (hx : x.length ≤ 1048576) (hi : ∀ z ∈ x, z.length ≤ 1048576) : Ev (fun k => laws_toIntSS.f k x) x := by
  unfold laws_toIntSS.f
  refine Ev.pos (nn _) (Ev.pos (by rw [Int.toNat_natCast]; omega) ?_)
  simpa using toIntSS_l x (by omega) hi x [] rfl

theorem eqIntSS_l (x0 : List (List Int)) (hx : x0.length < 9223372036854775807) (hi : ∀ z ∈ x0, z.length ≤ 1048576) : ∀ (d i : Nat), i + d = x0.length → Ev (fun k => laws_eqIntSS.l0 k x0 x0 (i : Int)) true := by
  intro d
  induction d with
  | zero =>
    intro i hi
    refine Ev.step (fun k => by rw [laws_eqIntSS.l0]) ?_
    exact Ev.neg (by omega) (Ev.now _)
  | succ d ih =>
    intro i hd
    refine Ev.step (fun k => by rw [laws_eqIntSS.l0]) ?_
    refine Ev.pos (by omega) (Ev.pos (nn _) (Ev.pos (by omega) ?_))
    rw [rdL1_get x0 i (by omega)]
    refine Ev.bind (eqIntS_ev _ _ (by have := hi x0[i] (List.getElem_mem _); omega)) (Ev.pos (by simp) ?_)
    rw [wr_nat i _ (by omega) hx]
    exact ih (i + 1) (by omega)

theorem eqIntSS_ev (x : List (List Int)) (hx : x.length ≤ 1048576) (hi : ∀ z ∈ x, z.length ≤ 1048576) : Ev (fun k => laws_eqIntSS.f k x x) true := by
  unfold laws_eqIntSS.f
  exact Ev.pos rfl (eqIntSS_l x (by omega) hi x.length 0 (by omega))

def incr : List Int → Bool
  | a :: b :: t => decide (a < b) && incr (b :: t)
  | _ => true

theorem incr_cons {a b : Int} {t : List Int} : incr (a :: b :: t) = (decide (a < b) && incr (b :: t)) := by rw [incr]

theorem incr_short (p : List Int) (h : p.length ≤ 1) : incr p = true := by
  match p, h with
  | [], _ => rfl
  | [a], _ => rfl
  | a :: b :: t, h => simp at h

def rise (lo hi : Int) (xs : List Int) : Bool := xs.all (inB lo hi) && incr xs

theorem l1Rising_ev (xs : List Int) (lo hi : Int) (hx : xs.length < 9223372036854775807) : Ev (fun k => spec_l1Rising.f k xs lo hi) (rise lo hi xs) := by
  unfold spec_l1Rising.f rise
  have key : ∀ (d i : Nat), i + d = xs.length → Ev (fun k => spec_l1Rising.l0 k xs lo hi xs (xs.length : Int) (i : Int)) ((xs.drop i).all (inB lo hi) && incr (xs.drop (i - 1))) := by
    intro d
    induction d with
    | zero =>
      intro i hi
      refine Ev.step (fun k => by rw [spec_l1Rising.l0]) ?_
      refine Ev.neg (by omega) (Ev.cast ?_ (Ev.now _))
      rw [dr0 _ _ (by omega), incr_short _ (by rw [List.length_drop]; omega)]; rfl
    | succ d ih =>
      intro i hd
      refine Ev.step (fun k => by rw [spec_l1Rising.l0]) ?_
      refine Ev.pos (by omega) (Ev.pos (nn _) (Ev.pos (by omega) ?_))
      rw [rd_get xs i (by omega), l1In_eq]
      refine Ev.sbind (Ev.cases (fun h => ?_) (fun h => Ev.cast (by rw [dr xs i (by omega), List.all_cons, inB, bf h]; rfl) (Ev.now _)))
      rw [dr xs i (by omega), List.all_cons, inB, h, Bool.true_and]
      refine Ev.cases (fun h1 => ?_) (fun h1 => ?_)
      · have e : wrap64 ((i : Int) - 1) = ((i - 1 : Nat) : Int) := by rw [wr _ (by omega) (by omega)]; omega
        rw [e]
        refine Ev.pos (nn _) (Ev.pos (by omega) ?_)
        rw [rd_get xs (i - 1) (by omega), dr xs (i - 1) (by omega), show i - 1 + 1 = i by omega, dr xs i (by omega), incr_cons]
        refine Ev.cases (fun h2 => Ev.cast (by rw [decide_eq_false (show ¬ xs[i - 1] < xs[i] by omega)]; simp) (Ev.now _)) (fun h2 => ?_)
        rw [decide_eq_true (show xs[i - 1] < xs[i] by omega), Bool.true_and, ← dr xs i (by omega), wr_nat i xs.length (by omega) hx]
        exact ih (i + 1) (by omega)
      · obtain rfl : i = 0 := by omega
        rw [wr_nat 0 xs.length (by omega) hx]
        exact ih 1 (by omega)
  exact key xs.length 0 (by omega)

theorem areBlocks_ev (xs : List Int) (n : Int) (hx : xs.length < 9223372036854775807) : Ev (fun k => impl_areBlocks.f k xs n) (rise 0 (n - 1) xs) := by
  unfold impl_areBlocks.f rise
  have key : ∀ (d i : Nat), i + d = xs.length → Ev (fun k => impl_areBlocks.l0 k xs n xs (xs.length : Int) (i : Int)) ((xs.drop i).all (inB 0 (n - 1)) && incr (xs.drop (i - 1))) := by
    intro d
    induction d with
    | zero =>
      intro i hi
      refine Ev.step (fun k => by rw [impl_areBlocks.l0]) ?_
      refine Ev.neg (by omega) (Ev.cast ?_ (Ev.now _))
      rw [dr0 _ _ (by omega), incr_short _ (by rw [List.length_drop]; omega)]; rfl
    | succ d ih =>
      intro i hd
      refine Ev.step (fun k => by rw [impl_areBlocks.l0]) ?_
      refine Ev.pos (by omega) (Ev.pos (nn _) (Ev.pos (by omega) ?_))
      rw [rd_get xs i (by omega), dr xs i (by omega), List.all_cons]
      refine Ev.cases (fun h => Ev.cast (by rw [inB, decide_eq_false (by omega)]; rfl) (Ev.now _)) (fun h1 => ?_)
      refine Ev.cases (fun h => Ev.cast (by rw [inB, decide_eq_false (by omega)]; rfl) (Ev.now _)) (fun h2 => ?_)
      rw [inB, decide_eq_true (show 0 ≤ xs[i] ∧ xs[i] ≤ n - 1 by omega), Bool.true_and]
      refine Ev.cases (fun h3 => ?_) (fun h3 => ?_)
      · have e : wrap64 ((i : Int) - 1) = ((i - 1 : Nat) : Int) := by rw [wr _ (by omega) (by omega)]; omega
        rw [e]
        refine Ev.pos (nn _) (Ev.pos (by omega) ?_)
        rw [rd_get xs (i - 1) (by omega), dr xs (i - 1) (by omega), show i - 1 + 1 = i by omega, dr xs i (by omega), incr_cons]
        refine Ev.cases (fun h2 => Ev.cast (by rw [decide_eq_false (show ¬ xs[i - 1] < xs[i] by omega)]; simp) (Ev.now _)) (fun h2 => ?_)
        rw [decide_eq_true (show xs[i - 1] < xs[i] by omega), Bool.true_and, ← dr xs i (by omega), wr_nat i xs.length (by omega) hx]
        exact ih (i + 1) (by omega)
      · obtain rfl : i = 0 := by omega
        rw [wr_nat 0 xs.length (by omega) hx]
        exact ih 1 (by omega)
  exact key xs.length 0 (by omega)

theorem rise_mem {lo hi : Int} {xs : List Int} (h : rise lo hi xs = true) {x : Int} (hx : x ∈ xs) : lo ≤ x ∧ x ≤ hi := by
  unfold rise at h
  rw [Bool.and_eq_true, List.all_eq_true] at h
  exact of_decide_eq_true (h.1 x hx)

def marks (n : Nat) (l : List Int) : List Bool := (List.range n).map fun i : Nat => decide ((i : Int) ∈ l)

def arcsFrom : Nat → List (List Int) → Bool
  | _, [] => true
  | i, l :: t => rise 0 ((i : Int) - 1) l && arcsFrom (i + 1) t

def arcsOk (a : List (List Int)) : Bool := decide (1 ≤ a.length ∧ a.length ≤ 120) && arcsFrom 0 a

theorem arcsFrom_at : ∀ (a : List (List Int)) (n : Nat), arcsFrom n a = true → ∀ i (h : i < a.length), rise 0 (((n + i : Nat) : Int) - 1) a[i] = true
  | [], _, _, i, h => by simp at h
  | l :: t, n, hh, i, h => by
    rw [arcsFrom, Bool.and_eq_true] at hh
    cases i with
    | zero => simpa using hh.1
    | succ i =>
      have := arcsFrom_at t (n + 1) hh.2 i (by simpa using h)
      rw [show n + 1 + i = n + (i + 1) by omega] at this
      simpa using this

theorem arcsOk_parts {a : List (List Int)} (h : arcsOk a = true) : 1 ≤ a.length ∧ a.length ≤ 120 ∧ ∀ i (h : i < a.length), rise 0 ((i : Int) - 1) a[i] = true := by
  unfold arcsOk at h
  rw [Bool.and_eq_true, decide_eq_true_eq] at h
  exact ⟨h.1.1, h.1.2, fun i hi => by simpa using arcsFrom_at a 0 h.2 i hi⟩

theorem arcsOk_mem {a : List (List Int)} (h : arcsOk a = true) (i : Nat) (hi : i < a.length) : ∀ k ∈ a[i], 0 ≤ k ∧ k < (i : Int) := by
  obtain ⟨_, _, h3⟩ := arcsOk_parts h
  intro k hk
  have := rise_mem (h3 i hi) hk
  omega

theorem incr_drop_len : ∀ (xs : List Int) (lo hi : Int), xs.all (inB lo hi) = true → incr xs = true → (xs.length : Int) ≤ max 0 (hi - lo + 1)
  | [], _, _, _, _ => by simp; omega
  | [a], lo, hi, h, _ => by
    simp only [List.all_cons, List.all_nil, Bool.and_true] at h
    have := of_decide_eq_true h
    simp; omega
  | a :: b :: t, lo, hi, h, hc => by
    rw [incr_cons, Bool.and_eq_true] at hc
    rw [List.all_cons, Bool.and_eq_true] at h
    have h1 := of_decide_eq_true hc.1
    have h2 := of_decide_eq_true h.1
    have hb : ∀ (ys : List Int) (c : Int), incr (c :: ys) = true → ∀ y ∈ ys, c < y := by
      intro ys
      induction ys with
      | nil => intro c _ y hy; cases hy
      | cons z zs ih =>
        intro c hc y hy
        rw [incr_cons, Bool.and_eq_true] at hc
        have hz := of_decide_eq_true hc.1
        rcases List.mem_cons.1 hy with rfl | hy
        · exact hz
        · have := ih z hc.2 y hy; omega
    have h3 : (b :: t).all (inB (lo + 1) hi) = true := by
      rw [List.all_eq_true] at h ⊢
      intro y hy
      have q := of_decide_eq_true (h.2 y hy)
      have : a < y := by
        rcases List.mem_cons.1 hy with rfl | hy
        · exact h1
        · have := hb t b hc.2 y hy; omega
      exact decide_eq_true (by omega)
    have := incr_drop_len (b :: t) (lo + 1) hi h3 hc.2
    rw [List.length_cons]
    have h4 := of_decide_eq_true ((List.all_eq_true.1 h3) b (by simp))
    omega

theorem rise_len {lo hi : Int} {xs : List Int} (h : rise lo hi xs = true) : (xs.length : Int) ≤ max 0 (hi - lo + 1) := by
  unfold rise at h
  rw [Bool.and_eq_true] at h
  exact incr_drop_len xs lo hi h.1 h.2

theorem AreArcs_ev (a : List (List Int)) (hi : ∀ z ∈ a, z.length < 9223372036854775807) : Ev (fun k => impl_AreArcs.f k a) (arcsOk a) := by
  unfold impl_AreArcs.f arcsOk
  have J : ∀ b : Bool, b = true → ∀ r, r = false → Ev (fun k => impl_AreArcs.j0 k a b) r := by
    rintro b rfl r rfl
    exact Ev.step (fun k => by rw [impl_AreArcs.j0]) (Ev.pos rfl (Ev.now _))
  refine Ev.cases (fun h => J _ rfl _ (by rw [decide_eq_false (show ¬ (1 ≤ a.length ∧ a.length ≤ 120) by omega)]; rfl)) (fun h1 => ?_)
  by_cases h2 : (a.length : Int) > 120
  · exact J _ (decide_eq_true h2) _ (by rw [decide_eq_false (show ¬ (1 ≤ a.length ∧ a.length ≤ 120) by omega)]; rfl)
  · rw [decide_eq_false h2, decide_eq_true (show 1 ≤ a.length ∧ a.length ≤ 120 by omega), Bool.true_and]
    refine Ev.step (fun k => by rw [impl_AreArcs.j0]) (Ev.neg (by simp) ?_)
    have key : ∀ (d i : Nat), i + d = a.length → Ev (fun k => impl_AreArcs.l0 k a (a.length : Int) (i : Int)) (arcsFrom i (a.drop i)) := by
      intro d
      induction d with
      | zero =>
        intro i hd
        refine Ev.step (fun k => by rw [impl_AreArcs.l0]) ?_
        refine Ev.neg (by omega) (Ev.cast ?_ (Ev.now _))
        rw [dr0 _ _ (by omega), arcsFrom]
      | succ d ih =>
        intro i hd
        refine Ev.step (fun k => by rw [impl_AreArcs.l0]) ?_
        refine Ev.pos (by omega) (Ev.pos (nn _) (Ev.pos (by omega) ?_))
        rw [rdL1_get a i (by omega), dr a i (by omega), arcsFrom]
        refine Ev.bind (areBlocks_ev a[i] (i : Int) (hi _ (List.getElem_mem _))) (Ev.cases (fun h => ?_) (fun h => Ev.cast (by rw [bf h]; rfl) (Ev.now _)))
        rw [h, Bool.true_and, wr_nat i a.length (by omega) (by omega)]
        exact ih (i + 1) (by omega)
    exact key a.length 0 (by omega)

theorem clArcs_ev (a : List (List Int)) (ha : a.length < 9223372036854775807) (hi : ∀ z ∈ a, z.length < 9223372036854775807) : Ev (fun k => spec_clArcs.f k a) (arcsOk a) := by
  unfold spec_clArcs.f arcsOk
  have key : ∀ (d i : Nat), i + d = a.length → Ev (fun k => spec_clArcs.l0 k a a (a.length : Int) (i : Int)) (decide (1 ≤ a.length ∧ a.length ≤ 120) && arcsFrom i (a.drop i)) := by
    intro d
    induction d with
    | zero =>
      intro i hd
      refine Ev.step (fun k => by rw [spec_clArcs.l0]) ?_
      refine Ev.neg (by omega) ?_
      rw [dr0 _ _ (by omega), arcsFrom, l1In_eq, Bool.and_true]
      exact Ev.sbind (Ev.cast (decide_eq_decide.2 (by omega)) (Ev.now _))
    | succ d ih =>
      intro i hd
      refine Ev.step (fun k => by rw [spec_clArcs.l0]) ?_
      refine Ev.pos (by omega) (Ev.pos (nn _) (Ev.pos (by omega) ?_))
      rw [rdL1_get a i (by omega), dr a i (by omega), arcsFrom, wr ((i : Int) - 1) (by omega) (by omega)]
      refine Ev.bind (l1Rising_ev a[i] 0 ((i : Int) - 1) (hi _ (List.getElem_mem _))) (Ev.cases (fun h => ?_) (fun h => Ev.cast (by rw [bf h]; simp) (Ev.now _)))
      rw [h, Bool.true_and, wr_nat i a.length (by omega) ha]
      exact ih (i + 1) (by omega)
  exact key a.length 0 (by omega)

def trueIdx (m : List Bool) : List Int := ((List.range m.length).filter fun i => m.getD i false).map fun i : Nat => (i : Int)

def trueTo (m : List Bool) (n : Nat) : List Int := ((List.range n).filter fun i => m.getD i false).map fun i : Nat => (i : Int)

theorem trueTo_len (m : List Bool) (n : Nat) : (trueTo m n).length ≤ n := by
  unfold trueTo
  rw [List.length_map]
  exact Nat.le_trans (List.length_filter_le _ _) (by simp)

theorem trueIdx_len (m : List Bool) : (trueIdx m).length ≤ m.length := trueTo_len m m.length

def marksSS : List (List Int) → Int → List (List Int)
  | [], _ => []
  | x :: xs, a => markedI x.length a :: marksSS xs (a + (x.length : Int))

theorem marksSS_len (xs : List (List Int)) (a : Int) : (marksSS xs a).length = xs.length := by
  induction xs generalizing a with
  | nil => rfl
  | cons x xs ih => rw [marksSS, List.length_cons, ih, List.length_cons]

theorem marksSS_snoc (xs : List (List Int)) (x : List Int) (a : Int) : marksSS (xs ++ [x]) a = marksSS xs a ++ [markedI x.length (a + (totL xs : Int))] := by
  induction xs generalizing a with
  | nil => simp [marksSS, totL]
  | cons y ys ih =>
    rw [List.cons_append, marksSS, ih, marksSS, List.cons_append]
    have : a + (y.length : Int) + (totL ys : Int) = a + (totL (y :: ys) : Int) := by simp [totL]; omega
    rw [this]

theorem totL_snoc (xs : List (List Int)) (x : List Int) : totL (xs ++ [x]) = totL xs + x.length := by simp [totL]

theorem heldIntSS_l (l : List (List Int)) (a : Int) (ha : 0 ≤ a) (hb : a + (totL l : Int) < 1000000000000) (hl : l.length < 9223372036854775807) : ∀ (suf pre : List (List Int)), pre ++ suf = l →
    Ev (fun k => laws_heldIntSS.l0 k (marksSS l a) (a + (totL pre : Int)) (pre.length : Int)) (a + (totL l : Int)) := by
  have hlen := marksSS_len l a
  intro suf
  induction suf with
  | nil =>
    intro pre h
    rw [List.append_nil] at h
    subst h
    refine Ev.step (fun k => by rw [laws_heldIntSS.l0]) ?_
    exact Ev.neg (by omega) (Ev.now _)
  | cons x suf ih =>
    intro pre h
    have e := ih (pre ++ [x]) (by rw [← h]; simp)
    have h1 : l.length = pre.length + suf.length + 1 := by rw [← h]; simp; omega
    have h2 : totL l = totL pre + x.length + totL suf := by rw [← h]; simp [totL]; omega
    have hx : rd_L1 (marksSS l a) (pre.length : Int) = markedI x.length (a + (totL pre : Int)) := by
      have e2 : ∀ (ys zs : List (List Int)) (b : Int), (marksSS (ys ++ zs) b) = marksSS ys b ++ marksSS zs (b + (totL ys : Int)) := by
        intro ys
        induction ys with
        | nil => intro zs b; simp [marksSS, totL]
        | cons y ys ih =>
          intro zs b
          rw [List.cons_append, marksSS, ih, marksSS, List.cons_append]
          have : b + (y.length : Int) + (totL ys : Int) = b + (totL (y :: ys) : Int) := by simp [totL]; omega
          rw [this]
      unfold rd_L1
      rw [Int.toNat_natCast, ← h, e2, marksSS, ← marksSS_len pre a]
      simp
    refine Ev.step (fun k => by rw [laws_heldIntSS.l0]) ?_
    refine Ev.pos (by omega) (Ev.pos (nn _) ?_)
    rw [hx]
    refine Ev.bind (heldIntS_ev x.length (a + (totL pre : Int)) (by omega) (by omega)) (Ev.neg (by omega) ?_)
    rw [totL_snoc, List.length_append, List.length_singleton] at e
    rw [wr _ (by omega) (by omega)]
    have c1 : a + ((totL pre + x.length : Nat) : Int) = a + (totL pre : Int) + (x.length : Int) := by omega
    have c2 : ((pre.length + 1 : Nat) : Int) = (pre.length : Int) + 1 := by omega
    rw [c1, c2] at e
    exact e

theorem heldIntSS_ev (l : List (List Int)) (a : Int) (ha : 0 ≤ a) (hb : a + (totL l : Int) < 1000000000000) (hl : l.length < 9223372036854775807) : Ev (fun k => laws_heldIntSS.f k (marksSS l a) a) (a + (totL l : Int)) := by
  unfold laws_heldIntSS.f
  simpa [totL] using heldIntSS_l l a ha hb hl l [] rfl

theorem trueIdx_mem (m : List Bool) (x : Int) : x ∈ trueIdx m ↔ 0 ≤ x ∧ m.getD x.toNat false = true := by
  unfold trueIdx
  rw [List.mem_map]
  constructor
  · rintro ⟨i, hi, rfl⟩
    have := (List.mem_filter.1 hi).2
    exact ⟨nn _, by rw [Int.toNat_natCast]; exact this⟩
  · rintro ⟨h0, h1⟩
    refine ⟨x.toNat, List.mem_filter.2 ⟨List.mem_range.2 ?_, h1⟩, Int.toNat_of_nonneg h0⟩
    apply Classical.byContradiction
    intro h
    rw [List.getD_eq_getElem?_getD, List.getElem?_eq_none (by omega)] at h1
    cases h1

def nestOk (a : List (List Int)) (g c : List Int) (f : Int) : Bool := arcsOk a && (gainsOk g c (a.length : Int) && decide (0 ≤ f ∧ f ≤ 60))

theorem nestOk_parts {a : List (List Int)} {g c : List Int} {f : Int} (h : nestOk a g c f = true) : arcsOk a = true ∧ gainsOk g c (a.length : Int) = true ∧ 0 ≤ f ∧ f ≤ 60 := by
  unfold nestOk at h
  rw [Bool.and_eq_true, Bool.and_eq_true] at h
  exact ⟨h.1, h.2.1, of_decide_eq_true h.2.2⟩

theorem areNested_ev (a : List (List Int)) (g c : List Int) (f : Int) (hi : ∀ z ∈ a, z.length < 9223372036854775807) : Ev (fun k => impl_areNested.f k a g c f) (nestOk a g c f) := by
  unfold impl_areNested.f nestOk
  refine Ev.bind (AreArcs_ev a hi) (Ev.cases (fun h => ?_) (fun h => Ev.cast (by rw [bf h]; rfl) (Ev.now _)))
  refine Ev.bind (impl_AreGains_ev g c _) (Ev.cases (fun h2 => ?_) (fun h2 => Ev.cast (by rw [h, bf h2]; rfl) (Ev.now _)))
  rw [isFactor_eq]
  exact Ev.sbind (Ev.cast (by rw [h, h2, Bool.true_and, Bool.true_and]) (Ev.now _))

theorem neAsked_ev (a : List (List Int)) (g c : List Int) (f : Int) (ha : a.length < 9223372036854775807) (hi : ∀ z ∈ a, z.length < 9223372036854775807) (hg : g.length < 9223372036854775807) (hc : c.length < 9223372036854775807) : Ev (fun k => spec_neAsked.f k a g c f) (nestOk a g c f) := by
  unfold spec_neAsked.f nestOk
  refine Ev.bind (clArcs_ev a ha hi) (Ev.cases (fun h => ?_) (fun h => Ev.cast (by rw [bf h]; rfl) (Ev.now _)))
  refine Ev.bind (spec_neGains_ev g c _ hg hc) (Ev.cases (fun h2 => ?_) (fun h2 => Ev.cast (by rw [h, bf h2]; rfl) (Ev.now _)))
  rw [neFactor_eq]
  exact Ev.sbind (Ev.cast (by rw [h, h2, Bool.true_and, Bool.true_and]) (Ev.now _))

theorem neValues_ev (g c : List Int) (f n : Int) (h : gainsOk g c n = true) (h0 : 0 ≤ f) (h1 : f ≤ 60) : Ev (fun k => spec_neValues.f k g c f) (fvL g c f) := by
  have p := gainsOk_parts h
  unfold spec_neValues.f
  simpa using spec_neValues_l g c f p.2.2.2.2.1 p.2.2.2.2.2 (by omega) h0 h1 (by omega) g.length 0 (by omega)

theorem factorValues_ev (g c : List Int) (f n : Int) (h : gainsOk g c n = true) (h0 : 0 ≤ f) (h1 : f ≤ 60) : Ev (fun k => impl_factorValues.f k g c f) (fvL g c f) := by
  have p := gainsOk_parts h
  unfold impl_factorValues.f
  simpa using impl_factorValues_l g c f p.2.2.2.2.1 p.2.2.2.2.2 (by omega) h0 h1 (by omega) g.length 0 (by omega)

def pitL (a : List (List Int)) (v : List Int) : List Int := trueIdx (Flow.bestB a v)

theorem pit_idx (a : List (List Int)) (v : List Int) : NetQ.idxB (Flow.bestB a v) a.length = pitL a v := by
  unfold pitL trueIdx NetQ.idxB
  rw [Flow.bestB_len]
  rfl

theorem pitL_len {a : List (List Int)} {v : List Int} : (pitL a v).length ≤ a.length := by
  have := trueIdx_len (Flow.bestB a v)
  rw [Flow.bestB_len] at this
  exact this

theorem arcs_of {a : List (List Int)} (ha : arcsOk a = true) : Flow.Arcs a ∧ ∀ i, i < a.length → (a.getD i []).length ≤ 120 := by
  obtain ⟨h1, h2, h3⟩ := arcsOk_parts ha
  have hg : ∀ i (h : i < a.length), a.getD i [] = a[i] := fun i h => by simp [List.getD_eq_getElem?_getD, h]
  refine ⟨fun i hi k hk => ?_, fun i hi => ?_⟩
  · rw [hg i hi] at hk; exact arcsOk_mem ha i hi k hk
  · have := rise_len (h3 i hi); rw [hg i hi]; omega

theorem fit_of {a : List (List Int)} {v : List Int} (ha : arcsOk a = true) (hv : v.length = a.length) (hb : ∀ x ∈ v, -1000000000 ≤ x ∧ x ≤ 1000000) : Flow.Fit a v :=
  ⟨(arcsOk_parts ha).2.1, hv, (arcs_of ha).2, (arcs_of ha).1, hb⟩

theorem fv_len {g c : List Int} {f : Int} : (fvL g c f).length = g.length := by simp [fvL]

theorem fv_fit {a : List (List Int)} {g c : List Int} {f : Int} (ha : arcsOk a = true) (hg : gainsOk g c (a.length : Int) = true) (h0 : 0 ≤ f) (h1 : f ≤ 60) : Flow.Fit a (fvL g c f) := by
  have p := gainsOk_parts hg
  refine fit_of ha (by rw [fv_len]; omega) fun x hx => ?_
  unfold fvL at hx
  rw [List.mem_map] at hx
  obtain ⟨i, hi, rfl⟩ := hx
  rw [List.mem_range] at hi
  have q1 := of_decide_eq_true (all_at p.2.2.2.2.1 i hi)
  have q2 := of_decide_eq_true (all_at p.2.2.2.2.2 i (by omega))
  have m0 : 0 ≤ g.getD i 0 * f := Int.mul_nonneg q1.1 h0
  have m1 : g.getD i 0 * f ≤ 10000 * 60 := Int.mul_le_mul q1.2 h1 h0 (by omega)
  omega

theorem paFind_eq {a : List (List Int)} {v : List Int} (F : Flow.Fit a v) : spec_paFind.f a v = some (pitL a v) := by
  unfold spec_paFind.f
  rw [if_pos (Flow.fitB_iff.2 F), pit_idx]

theorem free_nil {v : List Int} {n : Nat} (h : v.length = n) : Res.freeV v [] [] n = v := by
  unfold Res.freeV
  rw [Res.mkV_congr (f := Res.frv v [] []) (g := fun i => v.getD i 0) (fun i _ => rfl)]
  exact Res.mkV_self h

theorem res_nil {a : List (List Int)} {v : List Int} (h : v.length = a.length) : Res.resB a v [] [] = Flow.bestB a v := by
  unfold Res.resB
  rw [free_nil h, Res.mkB_congr (g := Flow.isB (Flow.bestB a v)) (fun i _ => by rw [Res.isB_nil, Bool.or_false])]
  exact Res.mkB_self (Flow.bestB_len a v)

theorem best0_eq {a : List (List Int)} {v : List Int} (F : Flow.Fit a v) (h1 : 1 ≤ a.length) : impl_bestPit.f0 a v = some (Flow.bestB a v) := by
  unfold impl_bestPit.f0
  rw [free_nil F.vl, if_pos ⟨h1, F.vl, Flow.fitB_iff.2 F⟩, res_nil F.vl]

theorem nePit_ev {a : List (List Int)} {g c : List Int} {f : Int} (ha : arcsOk a = true) (hg : gainsOk g c (a.length : Int) = true) (h0 : 0 ≤ f) (h1 : f ≤ 60) : Ev (fun k => spec_nePit.f k a g c f) (pitL a (fvL g c f)) := by
  unfold spec_nePit.f
  refine Ev.bind (neValues_ev g c f _ hg h0 h1) ?_
  rw [paFind_eq (fv_fit ha hg h0 h1)]
  exact Ev.sbind (Ev.now _)

theorem pitAt_ev {a : List (List Int)} {g c : List Int} {f : Int} (ha : arcsOk a = true) (hg : gainsOk g c (a.length : Int) = true) (h0 : 0 ≤ f) (h1 : f ≤ 60) : Ev (fun k => impl_pitAt.f k a g c f) (Flow.bestB a (fvL g c f)) := by
  unfold impl_pitAt.f
  refine Ev.bind (factorValues_ev g c f _ hg h0 h1) ?_
  rw [best0_eq (fv_fit ha hg h0 h1) (arcsOk_parts ha).1]
  exact Ev.sbind (Ev.now _)

def pitsM (a : List (List Int)) (g c : List Int) (n : Nat) : List (List Bool) := (List.range n).map fun f : Nat => Flow.bestB a (fvL g c (f : Int))

def pitsN (a : List (List Int)) (g c : List Int) (n : Nat) : List (List Int) := (List.range n).map fun f : Nat => pitL a (fvL g c (f : Int))

theorem pitsM_len (a : List (List Int)) (g c : List Int) (n : Nat) : (pitsM a g c n).length = n := by simp [pitsM]

theorem pitsN_len (a : List (List Int)) (g c : List Int) (n : Nat) : (pitsN a g c n).length = n := by simp [pitsN]

theorem pitsM_succ (a : List (List Int)) (g c : List Int) (n : Nat) : pitsM a g c (n + 1) = pitsM a g c n ++ [Flow.bestB a (fvL g c (n : Int))] := by unfold pitsM; rw [List.range_succ, List.map_append]; rfl

theorem pitsN_succ (a : List (List Int)) (g c : List Int) (n : Nat) : pitsN a g c (n + 1) = pitsN a g c n ++ [pitL a (fvL g c (n : Int))] := by unfold pitsN; rw [List.range_succ, List.map_append]; rfl

theorem pitsM_at {a : List (List Int)} {g c : List Int} {n i : Nat} (h : i < n) : rd_L4 (pitsM a g c n) (i : Int) = Flow.bestB a (fvL g c (i : Int)) := by
  unfold rd_L4 pitsM
  rw [Int.toNat_natCast, List.getD_eq_getElem?_getD, List.getElem?_map, List.getElem?_range h]; rfl

theorem pitsN_mem {a : List (List Int)} {g c : List Int} {n : Nat} {z : List Int} (h : z ∈ pitsN a g c n) : z.length ≤ a.length := by
  unfold pitsN at h
  rw [List.mem_map] at h
  obtain ⟨i, _, rfl⟩ := h
  exact pitL_len

theorem nePits_ev {a : List (List Int)} {g c : List Int} {most : Int} (ha : arcsOk a = true) (hg : gainsOk g c (a.length : Int) = true) (h0 : 0 ≤ most) (h1 : most ≤ 60) : Ev (fun k => spec_nePits.f k a g c most) (pitsN a g c (most.toNat + 1)) := by
  unfold spec_nePits.f
  have key : ∀ (d i : Nat), i + d = most.toNat + 1 → Ev (fun k => spec_nePits.l0 k a g c most (pitsN a g c i) (i : Int)) (pitsN a g c (most.toNat + 1)) := by
    intro d
    induction d with
    | zero =>
      intro i hd
      refine Ev.step (fun k => by rw [spec_nePits.l0]) ?_
      exact Ev.neg (by omega) (Ev.cast (by rw [show i = most.toNat + 1 by omega]) (Ev.now _))
    | succ d ih =>
      intro i hd
      have e := ih (i + 1) (by omega)
      rw [pitsN_succ] at e
      refine Ev.step (fun k => by rw [spec_nePits.l0]) ?_
      refine Ev.pos (by omega) (Ev.bind (nePit_ev ha hg (by omega) (by omega)) (Ev.pos (by rw [pitsN_len]; omega) ?_))
      rw [wr_nat i 1000 (by omega) (by omega)]
      exact e
  exact key (most.toNat + 1) 0 (by omega)

theorem pitsTo_ev {a : List (List Int)} {g c : List Int} {most : Int} (ha : arcsOk a = true) (hg : gainsOk g c (a.length : Int) = true) (h0 : 0 ≤ most) (h1 : most ≤ 60) : Ev (fun k => impl_pitsTo.f k a g c most) (pitsM a g c (most.toNat + 1)) := by
  unfold impl_pitsTo.f
  have key : ∀ (d i : Nat), i + d = most.toNat + 1 → Ev (fun k => impl_pitsTo.l0 k a g c most (pitsM a g c i) (i : Int)) (pitsM a g c (most.toNat + 1)) := by
    intro d
    induction d with
    | zero =>
      intro i hd
      refine Ev.step (fun k => by rw [impl_pitsTo.l0]) ?_
      exact Ev.neg (by omega) (Ev.cast (by rw [show i = most.toNat + 1 by omega]) (Ev.now _))
    | succ d ih =>
      intro i hd
      have e := ih (i + 1) (by omega)
      rw [pitsM_succ] at e
      refine Ev.step (fun k => by rw [impl_pitsTo.l0]) ?_
      refine Ev.pos (by omega) (Ev.bind (pitAt_ev ha hg (by omega) (by omega)) (Ev.pos (by rw [pitsM_len]; omega) ?_))
      rw [wr_nat i 1000 (by omega) (by omega)]
      exact e
  exact key (most.toNat + 1) 0 (by omega)

theorem totL_le : ∀ (xs : List (List Int)) (m : Nat), (∀ z ∈ xs, z.length ≤ m) → totL xs ≤ xs.length * m
  | [], _, _ => by simp [totL]
  | x :: xs, m, h => by
    have a := h x (List.mem_cons_self ..)
    have b := totL_le xs m fun z hz => h z (List.mem_cons_of_mem _ hz)
    have e : totL (x :: xs) = x.length + totL xs := by simp [totL]
    rw [e, List.length_cons, Nat.add_mul, Nat.one_mul]
    omega

def ffAt (a : List (List Int)) (g c : List Int) : Nat → Nat → Int
  | 0, _ => -1
  | n + 1, i => if ffAt a g c n i < 0 ∧ Flow.isB (Flow.bestB a (fvL g c (n : Int))) i = true then (n : Int) else ffAt a g c n i

def ffT (a : List (List Int)) (g c : List Int) (n : Nat) : List Int := Res.mkV (ffAt a g c n) a.length

theorem ffAt_set {a : List (List Int)} {g c : List Int} {n i : Nat} (h : ffAt a g c n i < 0) (hb : Flow.isB (Flow.bestB a (fvL g c (n : Int))) i = true) : ffAt a g c (n + 1) i = (n : Int) := by rw [ffAt, if_pos ⟨h, hb⟩]

theorem ffAt_keep {a : List (List Int)} {g c : List Int} {n i : Nat} (h : ¬ (ffAt a g c n i < 0 ∧ Flow.isB (Flow.bestB a (fvL g c (n : Int))) i = true)) : ffAt a g c (n + 1) i = ffAt a g c n i := by rw [ffAt, if_neg h]

theorem mkV_rd {f : Nat → Int} {n i : Nat} (h : i < n) : rd (Res.mkV f n) (i : Int) = f i := by rw [rd_nat, List.getD_eq_getElem?_getD, Res.mkV_at h]; rfl

theorem mkV_const (x : Int) (n : Nat) : List.replicate n x = Res.mkV (fun _ => x) n := by
  refine List.ext_getElem? fun i => ?_
  by_cases h : i < n
  · rw [Res.mkV_at h, List.getElem?_replicate, if_pos h]
  · rw [List.getElem?_eq_none (by rw [List.length_replicate]; omega), List.getElem?_eq_none (by rw [Res.mkV_len]; omega)]

theorem impl_ff_l2 {a : List (List Int)} {g c : List Int} {F n : Nat} (hn : n < F + 1) (ha : a.length ≤ 120) (hF : F ≤ 60) (r : List Int) (h : Ev (fun k => impl_firstFactors.l1 k (ffT a g c (n + 1)) (pitsM a g c (F + 1)) ((F + 1 : Nat) : Int) ((n + 1 : Nat) : Int)) r) : ∀ (d j : Nat), j + d = a.length →
    Ev (fun k => impl_firstFactors.l2 k (Res.mkV (fun i => if i < j then ffAt a g c (n + 1) i else ffAt a g c n i) a.length) (n : Int) (pitsM a g c (F + 1)) ((F + 1 : Nat) : Int) (n : Int) (Flow.bestB a (fvL g c (n : Int))) (a.length : Int) (j : Int)) r := by
  intro d
  induction d with
  | zero =>
    intro j hd
    refine Ev.step (fun k => by rw [impl_firstFactors.l2]) ?_
    refine Ev.neg (by omega) ?_
    rw [wr_nat n 1000 (by omega) (by omega), Res.mkV_congr (g := ffAt a g c (n + 1)) (fun i hi => if_pos (by omega))]
    exact h
  | succ d ih =>
    intro j hd
    have e := ih (j + 1) (by omega)
    have hbl := Flow.bestB_len a (fvL g c (n : Int))
    refine Ev.step (fun k => by rw [impl_firstFactors.l2]) ?_
    refine Ev.pos (by omega) (Ev.pos (nn _) (Ev.pos (by omega) ?_))
    rw [rdOf_nat, mkV_rd (by omega), if_neg (Nat.lt_irrefl j), wr_nat j 1000 (by omega) (by omega)]
    have same : ffAt a g c (n + 1) j = ffAt a g c n j → Res.mkV (fun i => if i < j + 1 then ffAt a g c (n + 1) i else ffAt a g c n i) a.length = Res.mkV (fun i => if i < j then ffAt a g c (n + 1) i else ffAt a g c n i) a.length := fun hs => Res.mkV_congr fun i hi => by
      by_cases q : i = j
      · subst q; rw [if_pos (by omega), if_neg (by omega), hs]
      · by_cases q2 : i < j
        · rw [if_pos q2, if_pos (by omega)]
        · rw [if_neg q2, if_neg (by omega)]
    refine Ev.cases (fun hb => Ev.pos (by rw [Res.mkV_len]; omega) (Ev.cases (fun hl => ?_) (fun hl => ?_))) (fun hb => ?_)
    · rw [Int.toNat_natCast, Res.mkV_set]
      refine Ev.cast rfl ?_
      rw [Res.mkV_congr (g := fun i => if i < j + 1 then ffAt a g c (n + 1) i else ffAt a g c n i) (fun i hi => ?_)]
      · exact e
      · by_cases q : i = j
        · subst q; rw [if_pos rfl, if_pos (by omega), ffAt_set hl hb]
        · rw [if_neg q]
          by_cases q2 : i < j
          · rw [if_pos q2, if_pos (by omega)]
          · rw [if_neg q2, if_neg (by omega)]
    · rw [same (ffAt_keep (fun q => hl q.1))] at e; exact e
    · rw [same (ffAt_keep (fun q => hb q.2))] at e; exact e

theorem impl_ff_l1 {a : List (List Int)} {g c : List Int} {F : Nat} (ha : a.length ≤ 120) (hF : F ≤ 60) : ∀ (d n : Nat), n + d = F + 1 → Ev (fun k => impl_firstFactors.l1 k (ffT a g c n) (pitsM a g c (F + 1)) ((F + 1 : Nat) : Int) (n : Int)) (ffT a g c (F + 1)) := by
  intro d
  induction d with
  | zero =>
    intro n hd
    refine Ev.step (fun k => by rw [impl_firstFactors.l1]) ?_
    exact Ev.neg (by omega) (Ev.cast (by rw [show n = F + 1 by omega]) (Ev.now _))
  | succ d ih =>
    intro n hd
    refine Ev.step (fun k => by rw [impl_firstFactors.l1]) ?_
    refine Ev.pos (by omega) (Ev.pos (nn _) (Ev.pos (by rw [pitsM_len]; omega) ?_))
    rw [pitsM_at (by omega), Flow.bestB_len]
    have := impl_ff_l2 (n := n) (F := F) (by omega) ha hF _ (ih (n + 1) (by omega)) a.length 0 (by omega)
    rw [Res.mkV_congr (g := ffAt a g c n) (fun i _ => if_neg (by omega))] at this
    exact this

theorem firstFactors_ev {a : List (List Int)} {g c : List Int} {f : Int} (q1 : arcsOk a = true) (q2 : gainsOk g c (a.length : Int) = true) (q3 : 0 ≤ f) (q4 : f ≤ 60) : Ev (fun k => impl_firstFactors.f k a g c f) (ffT a g c (f.toNat + 1)) := by
  have ha := (arcsOk_parts q1).2.1
  unfold impl_firstFactors.f
  refine Ev.pos (nn _) (Ev.pos (by omega) (Ev.sbind ?_))
  rw [Int.toNat_natCast, List.length_replicate]
  have key : ∀ (d j : Nat), j + d = a.length → Ev (fun k => impl_firstFactors.l0 k a g c f (Res.mkV (fun i => if i < j then -1 else 0) a.length) (a.length : Int) (j : Int)) (ffT a g c (f.toNat + 1)) := by
    intro d
    induction d with
    | zero =>
      intro j hd
      refine Ev.step (fun k => by rw [impl_firstFactors.l0]) ?_
      refine Ev.neg (by omega) (Ev.bind (pitsTo_ev q1 q2 q3 q4) ?_)
      rw [pitsM_len, Res.mkV_congr (g := ffAt a g c 0) (fun i hi => by rw [if_pos (by omega)]; rfl)]
      exact impl_ff_l1 ha (by omega) (f.toNat + 1) 0 (by omega)
    | succ d ih =>
      intro j hd
      have e := ih (j + 1) (by omega)
      refine Ev.step (fun k => by rw [impl_firstFactors.l0]) ?_
      refine Ev.pos (by omega) (Ev.pos (nn _) (Ev.pos (by rw [Res.mkV_len]; omega) ?_))
      rw [Int.toNat_natCast, Res.mkV_set, wr_nat j 1000 (by omega) (by omega), Res.mkV_congr (g := fun i => if i < j + 1 then -1 else 0) (fun i hi => ?_)]
      · exact e
      · by_cases q : i = j
        · subst q; rw [if_pos rfl, if_pos (by omega)]
        · rw [if_neg q]
          by_cases q2 : i < j
          · rw [if_pos q2, if_pos (by omega)]
          · rw [if_neg q2, if_neg (by omega)]
  have := key a.length 0 (by omega)
  rw [Res.mkV_congr (g := fun _ => 0) (fun i _ => if_neg (by omega)), ← mkV_const] at this
  exact this

theorem pit_mark {a : List (List Int)} {v : List Int} {i : Nat} : (i : Int) ∈ pitL a v ↔ Flow.isB (Flow.bestB a v) i = true := by
  unfold pitL
  rw [trueIdx_mem, Int.toNat_natCast]
  exact ⟨fun h => h.2, fun h => ⟨nn _, h⟩⟩

theorem fit_best {a : List (List Int)} {v : List Int} (F : Flow.Fit a v) : Flow.Best a v (Flow.isB (Flow.bestB a v)) := by
  obtain ⟨_, _, _, _, _, _, _, _, _, _, _, h, _⟩ := F.reach (φ := fun _ V => V) (fun _ _ _ R => R) (big := 1) (by omega)
  exact h

def shRow (a : List (List Int)) (g c : List Int) (N i f : Nat) : List Int := ((List.range i).filter fun j => decide (ffAt a g c N j = (f : Int))).map fun j : Nat => (j : Int)

def shT (a : List (List Int)) (g c : List Int) (N i : Nat) : List (List Int) := (List.range N).map (shRow a g c N i)

theorem shT_len (a : List (List Int)) (g c : List Int) (N i : Nat) : (shT a g c N i).length = N := by simp [shT]

theorem shT_at {a : List (List Int)} {g c : List Int} {N i f : Nat} (h : f < N) : (shT a g c N i)[f]? = some (shRow a g c N i f) := by unfold shT; rw [List.getElem?_map, List.getElem?_range h]; rfl

theorem shRow_succ (a : List (List Int)) (g c : List Int) (N i f : Nat) : shRow a g c N (i + 1) f = shRow a g c N i f ++ (if ffAt a g c N i = (f : Int) then [(i : Int)] else []) := by
  unfold shRow
  rw [List.range_succ, List.filter_append, List.map_append]
  congr 1
  by_cases h : ffAt a g c N i = (f : Int)
  · rw [if_pos h, List.filter_cons_of_pos (by exact decide_eq_true h)]; rfl
  · rw [if_neg h, List.filter_cons_of_neg (by rw [decide_eq_false h]; decide)]; rfl

theorem shRow_len (a : List (List Int)) (g c : List Int) (N i f : Nat) : (shRow a g c N i f).length ≤ i := by
  unfold shRow
  rw [List.length_map]
  have := List.length_filter_le (fun j => decide (ffAt a g c N j = (f : Int))) (List.range i)
  rwa [List.length_range] at this

theorem shT_hit {a : List (List Int)} {g c : List Int} {N i f : Nat} (h : ffAt a g c N i = (f : Int)) : (shT a g c N i).set f (shRow a g c N i f ++ [(i : Int)]) = shT a g c N (i + 1) := by
  refine List.ext_getElem? fun j => ?_
  rw [List.getElem?_set]
  by_cases hj : j < N
  · rw [shT_at (i := i) hj, shT_at (i := i + 1) hj, shRow_succ]
    by_cases e : f = j
    · subst e; rw [if_pos rfl, shT_len, if_pos hj, if_pos h]
    · rw [if_neg e, if_neg (fun q => e (by omega)), List.append_nil]
  · rw [List.getElem?_eq_none (l := shT a g c N (i + 1)) (by rw [shT_len]; omega)]
    split
    · rw [shT_len, if_neg (by omega)]
    · rw [List.getElem?_eq_none (by rw [shT_len]; omega)]

theorem shT_miss {a : List (List Int)} {g c : List Int} {N i : Nat} (h : ffAt a g c N i < 0) : shT a g c N i = shT a g c N (i + 1) := by
  unfold shT
  refine List.map_congr_left fun f _ => ?_
  rw [shRow_succ, if_neg (fun q => by omega), List.append_nil]

theorem shT_zero (a : List (List Int)) (g c : List Int) (N : Nat) : List.replicate N ([] : List Int) = shT a g c N 0 := by
  refine List.ext_getElem? fun i => ?_
  by_cases h : i < N
  · rw [shT_at h, List.getElem?_replicate, if_pos h]; rfl
  · rw [List.getElem?_eq_none (by rw [List.length_replicate]; omega), List.getElem?_eq_none (by rw [shT_len]; omega)]

theorem ffAt_is (a : List (List Int)) (g c : List Int) (i : Nat) : ∀ n : Nat, (ffAt a g c n i < 0 ∧ ∀ m : Nat, m < n → Flow.isB (Flow.bestB a (fvL g c (m : Int))) i = false) ∨ ∃ m : Nat, m < n ∧ ffAt a g c n i = (m : Int) ∧ Flow.isB (Flow.bestB a (fvL g c (m : Int))) i = true ∧ ∀ j : Nat, j < m → Flow.isB (Flow.bestB a (fvL g c (j : Int))) i = false
  | 0 => .inl ⟨by show (-1 : Int) < 0; decide, fun m h => absurd h (by omega)⟩
  | n + 1 => by
    rcases ffAt_is a g c i n with ⟨h1, h2⟩ | ⟨m, h0, h1, h2, h3⟩
    · by_cases hb : Flow.isB (Flow.bestB a (fvL g c (n : Int))) i = true
      · exact .inr ⟨n, by omega, ffAt_set h1 hb, hb, h2⟩
      · refine .inl ⟨by rw [ffAt_keep (fun q => hb q.2)]; exact h1, fun m hm => ?_⟩
        by_cases e : m = n
        · subst e; exact bf hb
        · exact h2 m (by omega)
    · exact .inr ⟨m, by omega, by rw [ffAt_keep (fun q => by omega)]; exact h1, h2, h3⟩

theorem fv_get {g c : List Int} {f : Int} {i : Nat} (h : i < g.length) : (fvL g c f).getD i 0 = g.getD i 0 * f - c.getD i 0 := by
  unfold fvL
  rw [List.getD_eq_getElem?_getD, List.getElem?_map, List.getElem?_range h]; rfl

theorem pit_grows {a : List (List Int)} {g c : List Int} (q1 : arcsOk a = true) (q2 : gainsOk g c (a.length : Int) = true) {m n : Nat} (h : m ≤ n) (hn : n ≤ 60) {i : Nat} (hi : i < a.length) (hb : Flow.isB (Flow.bestB a (fvL g c (m : Int))) i = true) : Flow.isB (Flow.bestB a (fvL g c (n : Int))) i = true := by
  have p := gainsOk_parts q2
  refine Flow.best_grows (fit_best (fv_fit q1 q2 (by omega) (by omega))) (fit_best (fv_fit q1 q2 (by omega) (by omega))) (fun j hj => ?_) i hi hb
  have hjg : j < g.length := by omega
  rw [fv_get hjg, fv_get hjg]
  have q := of_decide_eq_true (all_at p.2.2.2.2.1 j hjg)
  have := Int.mul_le_mul_of_nonneg_left (show (m : Int) ≤ (n : Int) by omega) q.1
  omega

theorem shell_at {a : List (List Int)} {g c : List Int} (q1 : arcsOk a = true) (q2 : gainsOk g c (a.length : Int) = true) {N f i : Nat} (hN : N ≤ 61) (hf : f < N) (hi : i < a.length) :
    (Flow.isB (Flow.bestB a (fvL g c (f : Int))) i = true ∧ (f = 0 ∨ Flow.isB (Flow.bestB a (fvL g c ((f - 1 : Nat) : Int))) i = false)) ↔ ffAt a g c N i = (f : Int) := by
  constructor
  · rintro ⟨h1, h2⟩
    rcases ffAt_is a g c i N with ⟨_, h⟩ | ⟨m, h0, h3, h4, h5⟩
    · rw [h f hf] at h1; cases h1
    · rw [h3]
      by_cases e : m = f
      · rw [e]
      · by_cases l : m < f
        · rcases h2 with rfl | h2
          · omega
          · rw [pit_grows q1 q2 (show m ≤ f - 1 by omega) (by omega) hi h4] at h2; cases h2
        · rw [h5 f (by omega)] at h1; cases h1
  · intro h
    rcases ffAt_is a g c i N with ⟨h1, _⟩ | ⟨m, h0, h3, h4, h5⟩
    · omega
    · have e : m = f := by omega
      subst e
      refine ⟨h4, ?_⟩
      by_cases z : m = 0
      · exact .inl z
      · exact .inr (h5 (m - 1) (by omega))

theorem pitsN_get {a : List (List Int)} {g c : List Int} {n i : Nat} (h : i < n) : (pitsN a g c n).getD i [] = pitL a (fvL g c (i : Int)) := by
  unfold pitsN
  rw [List.getD_eq_getElem?_getD, List.getElem?_map, List.getElem?_range h]; rfl

theorem shell_eq {a : List (List Int)} {g c : List Int} (q1 : arcsOk a = true) (q2 : gainsOk g c (a.length : Int) = true) {N f : Nat} (hN : N ≤ 61) (hf : f < N) : spec_ShellsOf.sh (pitsN a g c N) f = shRow a g c N a.length f := by
  unfold spec_ShellsOf.sh
  rw [pitsN_get hf]
  unfold pitL trueIdx shRow
  rw [List.filter_map, List.filter_filter, Flow.bestB_len]
  congr 1
  refine List.filter_congr fun i hi => ?_
  have hi := List.mem_range.1 hi
  have key := shell_at q1 q2 hN hf hi
  have hm : ((i : Int) ∈ (if f = 0 then [] else (pitsN a g c N).getD (f - 1) [])) ↔ (f ≠ 0 ∧ Flow.isB (Flow.bestB a (fvL g c ((f - 1 : Nat) : Int))) i = true) := by
    by_cases z : f = 0
    · rw [if_pos z]; simp [z]
    · rw [if_neg z, pitsN_get (by omega), pit_mark]
      exact ⟨fun h => ⟨z, h⟩, fun h => h.2⟩
  show (!decide ((i : Int) ∈ (if f = 0 then [] else (pitsN a g c N).getD (f - 1) [])) && (Flow.bestB a (fvL g c (f : Int))).getD i false) = decide (ffAt a g c N i = (f : Int))
  rw [Bool.eq_iff_iff, decide_eq_true_iff, ← key, Bool.and_eq_true]
  constructor
  · rintro ⟨h1, h2⟩
    refine ⟨h2, ?_⟩
    by_cases z : f = 0
    · exact .inl z
    · refine .inr (bf fun e => ?_)
      rw [decide_eq_true (hm.2 ⟨z, e⟩)] at h1
      cases h1
  · rintro ⟨h1, h2⟩
    refine ⟨?_, h1⟩
    rw [decide_eq_false]
    · rfl
    · intro e
      obtain ⟨z, e⟩ := hm.1 e
      rcases h2 with h2 | h2
      · exact z h2
      · rw [h2] at e; cases e

def shlR (a : List (List Int)) (g c : List Int) (most : Int) : List (List Int) × Bool := if nestOk a g c most = true then (shT a g c (most.toNat + 1) a.length, true) else ([], false)

theorem spec_ShellsOf_ev (a : List (List Int)) (g c : List Int) (f : Int) (h1 : a.length ≤ 1048576) (h2 : ∀ z ∈ a, z.length ≤ 1048576) (h3 : g.length ≤ 1048576) (h4 : c.length ≤ 1048576) : Ev (fun k => spec_ShellsOf.f k a g c f) (shlR a g c f) := by
  unfold spec_ShellsOf.f shlR
  refine Ev.bind (neAsked_ev a g c f (by omega) (fun z hz => by have := h2 z hz; omega) (by omega) (by omega)) (Ev.cases (fun h => ?_) (fun h => Ev.cast (by rw [if_neg h]) (Ev.now _)))
  obtain ⟨q1, q2, q3, q4⟩ := nestOk_parts h
  have hl := (arcsOk_parts q1).2.1
  rw [if_pos h]
  refine Ev.bind (nePits_ev q1 q2 q3 q4) (Ev.pos ⟨q3, by rw [pitsN_len]; omega, by rw [pitsN_len]; omega, List.all_eq_true.2 fun p hp => decide_eq_true (Nat.le_trans (pitsN_mem hp) (by omega))⟩ (Ev.cast ?_ (Ev.now _)))
  rw [pitsN_len]
  unfold shT
  congr 1
  exact List.map_congr_left fun j hj => shell_eq q1 q2 (by omega) (List.mem_range.1 hj)

theorem impl_ShellsOf_ev (a : List (List Int)) (g c : List Int) (f : Int) (h2 : ∀ z ∈ a, z.length ≤ 1048576) : Ev (fun k => impl_ShellsOf.f k a g c f) (shlR a g c f) := by
  unfold impl_ShellsOf.f shlR
  refine Ev.bind (areNested_ev a g c f (fun z hz => by have := h2 z hz; omega)) (Ev.cases (fun h => ?_) (fun h => Ev.cast (by rw [if_neg h]) (Ev.now _)))
  obtain ⟨q1, q2, q3, q4⟩ := nestOk_parts h
  have hl := (arcsOk_parts q1).2.1
  have w0 : wrap64 (f + 1) = f + 1 := by unfold wrap64; omega
  have t0 : (f + 1).toNat = f.toNat + 1 := by omega
  rw [if_pos h, w0, t0]
  refine Ev.pos (by omega) (Ev.pos (by omega) (Ev.bind (firstFactors_ev q1 q2 q3 q4) ?_))
  have hfl : (ffT a g c (f.toNat + 1)).length = a.length := Res.mkV_len _ _
  rw [hfl, shT_zero a g c]
  have key : ∀ (d i : Nat), i + d = a.length → Ev (fun k => impl_ShellsOf.l0 k (shT a g c (f.toNat + 1) i) (ffT a g c (f.toNat + 1)) (a.length : Int) (i : Int)) (shT a g c (f.toNat + 1) a.length, true) := by
    intro d
    induction d with
    | zero =>
      intro i hd
      refine Ev.step (fun k => by rw [impl_ShellsOf.l0]) ?_
      exact Ev.neg (by omega) (Ev.cast (by rw [show i = a.length by omega]) (Ev.now _))
    | succ d ih =>
      intro i hd
      have e := ih (i + 1) (by omega)
      have hrd : rd (ffT a g c (f.toNat + 1)) (i : Int) = ffAt a g c (f.toNat + 1) i := mkV_rd (by omega)
      refine Ev.step (fun k => by rw [impl_ShellsOf.l0]) ?_
      rw [hrd, wr_nat i 1000 (by omega) (by omega)]
      refine Ev.pos (by omega) (Ev.pos (nn _) (Ev.pos (by rw [hfl]; omega) ?_))
      rcases ffAt_is a g c i (f.toNat + 1) with ⟨hm, _⟩ | ⟨m, hm, hme, _, _⟩
      · refine Ev.neg (by omega) ?_
        rw [shT_miss hm]
        exact e
      · have hrow : rd_L1 (shT a g c (f.toNat + 1) i) (m : Int) = shRow a g c (f.toNat + 1) i m := by
          unfold rd_L1
          rw [Int.toNat_natCast, List.getD_eq_getElem?_getD, shT_at hm]; rfl
        have hrl := shRow_len a g c (f.toNat + 1) i m
        rw [hme, hrow, Int.toNat_natCast, shT_hit hme]
        exact Ev.pos (by omega) (Ev.pos (nn _) (Ev.pos (by rw [shT_len]; omega) (Ev.pos (by omega) e)))
  exact key a.length 0 (by omega)

theorem FnExactShellsOf (a : List (List Int)) (g c : List Int) (f : Int) (h1 : a.length ≤ 1048576) (h2 : ∀ z ∈ a, z.length ≤ 1048576) (h3 : g.length ≤ 1048576) (h4 : c.length ≤ 1048576) :
    ∃ r1 r2, Ev (fun k => spec_ShellsOf.f k a g c f) (r1, r2) ∧ Ev (fun k => impl_ShellsOf.f k a g c f) (r1, r2) ∧ r1.length ≤ 1048576 ∧ ((∀ z ∈ r1, z.length ≤ 1048576) ∧ totL r1 ≤ 1048576) := by
  refine ⟨(shlR a g c f).1, (shlR a g c f).2, spec_ShellsOf_ev a g c f h1 h2 h3 h4, impl_ShellsOf_ev a g c f h2, ?_⟩
  unfold shlR
  split
  · rename_i h
    obtain ⟨q1, q2, q3, q4⟩ := nestOk_parts h
    have hl := (arcsOk_parts q1).2.1
    have hm : ∀ z ∈ shT a g c (f.toNat + 1) a.length, z.length ≤ 120 := fun z hz => by
      unfold shT at hz
      rw [List.mem_map] at hz
      obtain ⟨i, _, rfl⟩ := hz
      exact Nat.le_trans (shRow_len _ _ _ _ _ _) hl
    refine ⟨by show (shT a g c (f.toNat + 1) a.length).length ≤ _; rw [shT_len]; omega, fun z hz => Nat.le_trans (hm z hz) (by omega), ?_⟩
    have := totL_le _ _ hm
    rw [shT_len] at this
    have e : (f.toNat + 1) * 120 ≤ 61 * 120 := Nat.mul_le_mul_right _ (by omega)
    exact Nat.le_trans this (by omega)
  · refine ⟨Nat.zero_le _, fun z hz => ?_, Nat.zero_le _⟩
    exact absurd (show z ∈ ([] : List (List Int)) from hz) (by simp)

end Go.Proofs.Ytcbdglefkmpaeaa.Pure

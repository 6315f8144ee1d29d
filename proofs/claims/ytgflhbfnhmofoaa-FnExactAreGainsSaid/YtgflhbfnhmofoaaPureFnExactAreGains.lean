/- FnExactAreGains over numbers and lists alone: what the program's text computes and what the reference's text computes is the same, for all arguments that the row lets in; no further condition. -/
import Derived.Test.YtgflhbfnhmofoaaPFnExactAreGainsx2
import Derived.Test.YtgflhbfnhmofoaaGen
import Derived.Test.YtgflhbfnhmofoaaOpn
set_option linter.unusedVariables false
set_option linter.unusedSimpArgs false
namespace Go.Proofs.Ytgflhbfnhmofoaa.Pure
open Go.RowKit Go.Proofs.Ytgflhbfnhmofoaa.PFnExactAreGains Go.Proofs.YtgflhbfnhmofoaaW.PrintWords Go.Proofs.YtgflhbfnhmofoaaW.PrintLast Go.Proofs.Ytgflhbfnhmofoaa.Gen Go.Proofs.Ytgflhbfnhmofoaa.Opn
theorem toIntS_l (x0 : List Int) (hx : x0.length < 9223372036854775807) : ∀ (suf pre : List Int), pre ++ suf = x0 →
    Ev (fun k => laws_toIntS.l0 k x0 (pre ++ List.replicate suf.length 0) (pre.length : Int)) x0 := by
  intro suf
  induction suf with
  | nil =>
    rintro pre rfl
    refine Ev.step (fun k => by rw [laws_toIntS.l0]) ?_
    refine Ev.neg (by simp) ?_
    refine Ev.cast (by simp) (Ev.now _)
  | cons x suf ih =>
    rintro pre rfl
    refine Ev.step (fun k => by rw [laws_toIntS.l0]) ?_
    refine Ev.pos (mid_lt _ _ _) (Ev.pos (nn _) (Ev.pos (by simp; omega) ?_))
    rw [wr_mid pre x suf _ rfl hx, rd_mid, List.length_cons, List.replicate_succ, set_mid]
    exact ih (pre ++ [x]) (by simp)

theorem toIntS_ev (x : List Int) (hx : x.length ≤ 35184372088832) : Ev (fun k => laws_toIntS.f k x) x := by
  unfold laws_toIntS.f
  refine Ev.pos (nn _) (Ev.pos (by simpa using hx) ?_)
  simpa using toIntS_l x (by omega) x [] rfl

theorem eqIntS_l (x0 x1 : List Int) (hx : x0.length < 9223372036854775807) (hl : x0.length = x1.length) : ∀ (d i : Nat), i + d = x0.length →
    Ev (fun k => laws_eqIntS.l0 k x0 x1 (i : Int)) (decide (x0.drop i = x1.drop i)) := by
  intro d
  induction d with
  | zero =>
    intro i hi
    refine Ev.step (fun k => by rw [laws_eqIntS.l0]) ?_
    refine Ev.neg (by omega) (Ev.cast ?_ (Ev.now _))
    rw [List.drop_eq_nil_of_le (by omega), List.drop_eq_nil_of_le (by omega)]; rfl
  | succ d ih =>
    intro i hi
    refine Ev.step (fun k => by rw [laws_eqIntS.l0]) ?_
    refine Ev.pos (by omega) (Ev.pos (nn _) (Ev.pos (by omega) ?_))
    rw [rd_get x0 i (by omega), rd_get x1 i (by omega), dr x0 i (by omega), dr x1 i (by omega)]
    refine Ev.cases (fun h => ?_) (fun h => ?_)
    · rw [wr_nat i _ (by omega) hx]
      refine Ev.cast ?_ (ih (i + 1) (by omega))
      simp only [List.cons.injEq, h, true_and]
    · refine Ev.cast ?_ (Ev.now _)
      simp only [List.cons.injEq, h, false_and, decide_false]

theorem eqIntS_ev (x y : List Int) (hx : x.length < 9223372036854775807) : Ev (fun k => laws_eqIntS.f k x y) (decide (x = y)) := by
  unfold laws_eqIntS.f
  refine Ev.cases (fun h => ?_) (fun h => ?_)
  · exact eqIntS_l x y hx (by omega) x.length 0 (by omega)
  · refine Ev.cast ?_ (Ev.now _)
    exact (decide_eq_false (fun e => h (by rw [e]))).symm

theorem l1In_eq (n a b : Int) : spec_l1In.f n a b = some (decide (a ≤ n ∧ n ≤ b)) := by
  unfold spec_l1In.f
  by_cases h : n ≥ a
  · rw [if_pos h]; simp [show a ≤ n from h]
  · rw [if_neg h]; simp [show ¬ a ≤ n from h]

def inB (a b : Int) (x : Int) : Bool := decide (a ≤ x ∧ x ≤ b)

theorem l1All_l (a b : Int) (xs : List Int) (hx : xs.length < 9223372036854775807) : ∀ (d i : Nat), i + d = xs.length →
    Ev (fun k => spec_l1All.l0 k a b xs (xs.length : Int) (i : Int)) ((xs.drop i).all (inB a b)) := by
  intro d
  induction d with
  | zero =>
    intro i hi
    refine Ev.step (fun k => by rw [spec_l1All.l0]) ?_
    refine Ev.neg (by omega) (Ev.cast ?_ (Ev.now _))
    rw [List.drop_eq_nil_of_le (by omega)]; rfl
  | succ d ih =>
    intro i hi
    refine Ev.step (fun k => by rw [spec_l1All.l0]) ?_
    refine Ev.pos (by omega) (Ev.pos (nn _) (Ev.pos (by omega) ?_))
    rw [rd_get xs i (by omega), dr xs i (by omega), l1In_eq]
    refine Ev.sbind (Ev.cases (fun h => ?_) (fun h => ?_))
    · rw [wr_nat i _ (by omega) hx]
      refine Ev.cast ?_ (ih (i + 1) (by omega))
      rw [List.all_cons, inB, h, Bool.true_and]
    · refine Ev.cast ?_ (Ev.now _)
      rw [List.all_cons, inB, bf h, Bool.false_and]

theorem l1All_ev (a b : Int) (xs : List Int) (hx : xs.length < 9223372036854775807) : Ev (fun k => spec_l1All.f k xs a b) (xs.all (inB a b)) := by
  unfold spec_l1All.f
  exact l1All_l a b xs hx xs.length 0 (by omega)

theorem spec_AreGains_ev (g c : List Int) (n : Int) (hg : g.length < 9223372036854775807) (hc : c.length < 9223372036854775807) :
    Ev (fun k => spec_AreGains.f k g c n) (decide (1 ≤ n ∧ n ≤ 120) && decide ((g.length : Int) = n) && decide ((c.length : Int) = n) && g.all (inB 0 10000) && c.all (inB 0 400000)) := by
  unfold spec_AreGains.f spec_neGains.f
  rw [l1In_eq]
  refine Ev.bind (a := (decide (1 ≤ n ∧ n ≤ 120) && decide ((g.length : Int) = n) && decide ((c.length : Int) = n) && g.all (inB 0 10000) && c.all (inB 0 400000))) ?_ (Ev.now _)
  refine Ev.sbind ?_
  refine Ev.cases (fun h1 => ?_) (fun h => Ev.cast (by rw [bf h]; rfl) (Ev.now _))
  refine Ev.cases (fun h2 => ?_) (fun h => Ev.cast (by simp [h]) (Ev.now _))
  refine Ev.cases (fun h3 => ?_) (fun h => Ev.cast (by simp [h]) (Ev.now _))
  refine Ev.bind (l1All_ev _ _ _ hg) ?_
  refine Ev.cases (fun h4 => ?_) (fun h => Ev.cast (by rw [bf h]; simp) (Ev.now _))
  refine Ev.bind (l1All_ev _ _ _ hc) (Ev.cast ?_ (Ev.now _))
  rw [h1, h4]; simp [h2, h3]

theorem impl_AreGains_l (g c : List Int) (n : Nat) (hn : n ≤ 120) (hg : g.length = n) (hc : c.length = n) : ∀ (d i : Nat), i + d = n →
    Ev (fun k => impl_AreGains.l0 k g c (n : Int) (i : Int)) ((g.drop i).all (inB 0 10000) && (c.drop i).all (inB 0 400000)) := by
  intro d
  induction d with
  | zero =>
    intro i hi
    refine Ev.step (fun k => by rw [impl_AreGains.l0]) ?_
    refine Ev.neg (by omega) (Ev.cast ?_ (Ev.now _))
    rw [dr0 _ _ (by omega), dr0 _ _ (by omega)]; rfl
  | succ d ih =>
    intro i hi
    refine Ev.step (fun k => by rw [impl_AreGains.l0]) ?_
    refine Ev.pos (by omega) (Ev.pos (nn _) (Ev.pos (by omega) ?_))
    rw [rd_get g i (by omega), rd_get c i (by omega), dr g i (by omega), dr c i (by omega), List.all_cons, List.all_cons]
    unfold inB
    refine Ev.cases (fun h => Ev.cast (by simp; omega) (Ev.now _)) (fun h1 => ?_)
    refine Ev.cases (fun h => Ev.cast (by simp; omega) (Ev.now _)) (fun h2 => ?_)
    refine Ev.pos (by omega) ?_
    refine Ev.cases (fun h => Ev.cast (by simp; omega) (Ev.now _)) (fun h3 => ?_)
    refine Ev.cases (fun h => Ev.cast (by simp; omega) (Ev.now _)) (fun h4 => ?_)
    rw [wr_nat i _ (by omega) (by omega : n < _)]
    refine Ev.cast ?_ (ih (i + 1) (by omega))
    unfold inB
    rw [decide_eq_true (show 0 ≤ g[i] ∧ g[i] ≤ 10000 by omega), decide_eq_true (show 0 ≤ c[i] ∧ c[i] ≤ 400000 by omega), Bool.true_and, Bool.true_and]

theorem impl_AreGains_ev (g c : List Int) (n : Int) :
    Ev (fun k => impl_AreGains.f k g c n) (decide (1 ≤ n ∧ n ≤ 120) && decide ((g.length : Int) = n) && decide ((c.length : Int) = n) && g.all (inB 0 10000) && c.all (inB 0 400000)) := by
  unfold impl_AreGains.f
  have J : ∀ r, r = false → Ev (fun k => impl_AreGains.j0 k g c n true) r := by
    intro r hr
    subst hr
    refine Ev.step (fun k => by rw [impl_AreGains.j0]) ?_
    exact Ev.pos rfl (Ev.now _)
  refine Ev.cases (fun h => J _ (by simp; omega)) (fun h1 => ?_)
  refine Ev.cases (fun h => J _ (by simp; omega)) (fun h2 => ?_)
  refine Ev.cases (fun h3 => ?_) (fun h => J _ (by simp [h]))
  by_cases h4 : (c.length : Int) = n
  · obtain ⟨m, rfl⟩ := Int.eq_ofNat_of_zero_le (by omega : 0 ≤ n)
    refine Ev.step (fun k => by rw [impl_AreGains.j0]) ?_
    refine Ev.neg (by simp [h4]) ?_
    refine Ev.cast ?_ (impl_AreGains_l g c m (by omega) (by omega) (by omega) m 0 (by omega))
    rw [decide_eq_true (show 1 ≤ (m : Int) ∧ (m : Int) ≤ 120 by omega), decide_eq_true h3, decide_eq_true h4]; rfl
  · rw [show ((c.length : Int) != n) = true by simp [h4]]
    exact J _ (by simp [h4])

theorem FnExactAreGains (g c : List Int) (n : Int) (_ : g.length * 8 ≤ 140737488351232) (_ : okI .i64 g) (_ : c.length * 8 ≤ 140737488351232) (_ : okI .i64 c) (_ : (Lit.int .i64 n).wf = true) : ∃ k, laws_FnExactAreGains.f k g c n = some true := by
  refine Ev.ex (g := fun k => laws_FnExactAreGains.f k g c n) ?_
  unfold laws_FnExactAreGains.f
  refine Ev.cases (fun h => Ev.now _) (fun h1 => ?_)
  refine Ev.cases (fun h => Ev.now _) (fun h2 => ?_)
  have T1 := toIntS_ev g (by omega)
  have T2 := toIntS_ev c (by omega)
  refine Ev.bind T1 (Ev.bind T2 (Ev.bind (spec_AreGains_ev g c n (by omega) (by omega)) (Ev.bind T1 (Ev.bind T2 (Ev.bind (impl_AreGains_ev g c n) ?_)))))
  refine Ev.neg (by simp) ?_
  refine Ev.bind T1 (Ev.bind (eqIntS_ev g g (by omega)) (Ev.pos (by simp) ?_))
  refine Ev.bind T2 (Ev.bind (eqIntS_ev c c (by omega)) (Ev.pos (by simp) (Ev.now _)))

end Go.Proofs.Ytgflhbfnhmofoaa.Pure

/- FnExactPlanText over numbers and lists alone: what the program's text computes and what the reference's text computes is the same, for all arguments that the row lets in; no further condition. -/
import Derived.Test.YtjjbohacmmhddaaDoorPFnExactPlanTextx
import Derived.Test.YtjjbohacmmhddaaDoorGen
import Derived.Test.YtjjbohacmmhddaaDoorOpn
set_option linter.unusedVariables false
set_option linter.unusedSimpArgs false
namespace Go.Proofs.YtjjbohacmmhddaaDoor.Pure
open Go.RowKit Go.Proofs.YtjjbohacmmhddaaDoor.PFnExactPlanText Go.Proofs.YtjjbohacmmhddaaDoorW.PrintWords Go.Proofs.YtjjbohacmmhddaaDoorW.PrintLast Go.Proofs.YtjjbohacmmhddaaDoor.Gen Go.Proofs.YtjjbohacmmhddaaDoor.Opn
theorem toIntS_l (x0 : List Int) (hx : x0.length < 9223372036854775807) : ∀ (suf pre : List Int), pre ++ suf = x0 →
    Ev (fun k => laws_toIntS.l0 k x0 (pre ++ List.replicate suf.length 0) (pre.length : Int)) x0 := by
  intro suf
  induction suf with
  | nil =>
    rintro pre rfl
    refine Ev.step (fun k => by rw [laws_toIntS.l0]) ?_
    refine Ev.neg (by simp) ?_
    refine Ev.cast (by simp) (Ev.now _)
  | cons x suf ih =>
    rintro pre rfl
    refine Ev.step (fun k => by rw [laws_toIntS.l0]) ?_
    refine Ev.pos (mid_lt _ _ _) (Ev.pos (nn _) (Ev.pos (by simp; omega) ?_))
    rw [wr_mid pre x suf _ rfl hx, rd_mid, List.length_cons, List.replicate_succ, set_mid]
    exact ih (pre ++ [x]) (by simp)

theorem toIntS_ev (x : List Int) (hx : x.length ≤ 35184372088832) : Ev (fun k => laws_toIntS.f k x) x := by
  unfold laws_toIntS.f
  refine Ev.pos (nn _) (Ev.pos (by simpa using hx) ?_)
  simpa using toIntS_l x (by omega) x [] rfl

theorem eqIntS_l (x0 x1 : List Int) (hx : x0.length < 9223372036854775807) (hl : x0.length = x1.length) : ∀ (d i : Nat), i + d = x0.length →
    Ev (fun k => laws_eqIntS.l0 k x0 x1 (i : Int)) (decide (x0.drop i = x1.drop i)) := by
  intro d
  induction d with
  | zero =>
    intro i hi
    refine Ev.step (fun k => by rw [laws_eqIntS.l0]) ?_
    refine Ev.neg (by omega) (Ev.cast ?_ (Ev.now _))
    rw [List.drop_eq_nil_of_le (by omega), List.drop_eq_nil_of_le (by omega)]; rfl
  | succ d ih =>
    intro i hi
    refine Ev.step (fun k => by rw [laws_eqIntS.l0]) ?_
    refine Ev.pos (by omega) (Ev.pos (nn _) (Ev.pos (by omega) ?_))
    rw [rd_get x0 i (by omega), rd_get x1 i (by omega), dr x0 i (by omega), dr x1 i (by omega)]
    refine Ev.cases (fun h => ?_) (fun h => ?_)
    · rw [wr_nat i _ (by omega) hx]
      refine Ev.cast ?_ (ih (i + 1) (by omega))
      simp only [List.cons.injEq, h, true_and]
    · refine Ev.cast ?_ (Ev.now _)
      simp only [List.cons.injEq, h, false_and, decide_false]

theorem eqIntS_ev (x y : List Int) (hx : x.length < 9223372036854775807) : Ev (fun k => laws_eqIntS.f k x y) (decide (x = y)) := by
  unfold laws_eqIntS.f
  refine Ev.cases (fun h => ?_) (fun h => ?_)
  · exact eqIntS_l x y hx (by omega) x.length 0 (by omega)
  · refine Ev.cast ?_ (Ev.now _)
    exact (decide_eq_false (fun e => h (by rw [e]))).symm

theorem l1In_eq (n a b : Int) : spec_l1In.f n a b = some (decide (a ≤ n ∧ n ≤ b)) := by
  unfold spec_l1In.f
  by_cases h : n ≥ a
  · rw [if_pos h]; simp [show a ≤ n from h]
  · rw [if_neg h]; simp [show ¬ a ≤ n from h]

def inB (a b : Int) (x : Int) : Bool := decide (a ≤ x ∧ x ≤ b)

theorem l1All_l (a b : Int) (xs : List Int) (hx : xs.length < 9223372036854775807) : ∀ (d i : Nat), i + d = xs.length →
    Ev (fun k => spec_l1All.l0 k a b xs (xs.length : Int) (i : Int)) ((xs.drop i).all (inB a b)) := by
  intro d
  induction d with
  | zero =>
    intro i hi
    refine Ev.step (fun k => by rw [spec_l1All.l0]) ?_
    refine Ev.neg (by omega) (Ev.cast ?_ (Ev.now _))
    rw [List.drop_eq_nil_of_le (by omega)]; rfl
  | succ d ih =>
    intro i hi
    refine Ev.step (fun k => by rw [spec_l1All.l0]) ?_
    refine Ev.pos (by omega) (Ev.pos (nn _) (Ev.pos (by omega) ?_))
    rw [rd_get xs i (by omega), dr xs i (by omega), l1In_eq]
    refine Ev.sbind (Ev.cases (fun h => ?_) (fun h => ?_))
    · rw [wr_nat i _ (by omega) hx]
      refine Ev.cast ?_ (ih (i + 1) (by omega))
      rw [List.all_cons, inB, h, Bool.true_and]
    · refine Ev.cast ?_ (Ev.now _)
      rw [List.all_cons, inB, bf h, Bool.false_and]

theorem l1All_ev (a b : Int) (xs : List Int) (hx : xs.length < 9223372036854775807) : Ev (fun k => spec_l1All.f k xs a b) (xs.all (inB a b)) := by
  unfold spec_l1All.f
  exact l1All_l a b xs hx xs.length 0 (by omega)

theorem rdL1_get (xs : List (List Int)) (i : Nat) (h : i < xs.length) : rd_L1 xs (i : Int) = xs[i] := by
  unfold rd_L1; rw [Int.toNat_natCast]; simp [List.getD_eq_getElem?_getD, h]

theorem rdL1_mid (pre : List (List Int)) (x : List Int) (suf : List (List Int)) : rd_L1 (pre ++ x :: suf) (pre.length : Int) = x := by
  unfold rd_L1; rw [Int.toNat_natCast]; simp

theorem szIntS_eq (x : List Int) (left : Int) (h0 : 0 ≤ left) (h1 : left ≤ 1048576) (hx : x.length ≤ maxLen) : ∃ r, laws_szIntS.f x left = some r ∧ r ≤ 1048576 ∧ (0 ≤ r → r = left - x.length) := by
  unfold laws_szIntS.f
  unfold maxLen at hx
  rw [wr _ (by omega) (by omega)]
  by_cases h : left - (x.length : Int) < 0
  · rw [if_pos h]; exact ⟨-1, rfl, by omega, by omega⟩
  · rw [if_neg h]; exact ⟨_, rfl, by omega, fun _ => rfl⟩

def totL (xs : List (List Int)) : Nat := (xs.map List.length).sum

theorem szIntSS_l (x : List (List Int)) (hx : x.length < 9223372036854775807) (hi : ∀ z ∈ x, z.length ≤ maxLen) : ∀ (suf pre : List (List Int)) (left : Int), pre ++ suf = x → 0 ≤ left → left ≤ 1048576 →
    ∃ r, Ev (fun k => laws_szIntSS.l0 k x left (pre.length : Int)) r ∧ r ≤ 1048576 ∧ (0 ≤ r → r = left - totL suf) := by
  intro suf
  induction suf with
  | nil =>
    rintro pre left rfl h0 h1
    refine ⟨left, ?_, h1, fun _ => by simp [totL]⟩
    refine Ev.step (fun k => by rw [laws_szIntSS.l0]) ?_
    exact Ev.neg (by simp) (Ev.now _)
  | cons y suf ih =>
    rintro pre left rfl h0 h1
    obtain ⟨r, hr, hr1, hr2⟩ := szIntS_eq y left h0 h1 (hi y (by simp))
    by_cases h : r < 0
    · refine ⟨-1, ?_, by omega, by omega⟩
      refine Ev.step (fun k => by rw [laws_szIntSS.l0]) ?_
      refine Ev.pos (mid_lt _ _ _) (Ev.pos (nn _) ?_)
      rw [rdL1_mid, hr]
      exact Ev.sbind (Ev.pos h (Ev.now _))
    · obtain ⟨q, hq, hq1, hq2⟩ := ih (pre ++ [y]) r (by simp) (by omega) hr1
      refine ⟨q, ?_, hq1, fun hh => ?_⟩
      · refine Ev.step (fun k => by rw [laws_szIntSS.l0]) ?_
        refine Ev.pos (mid_lt _ _ _) (Ev.pos (nn _) ?_)
        rw [rdL1_mid, hr]
        refine Ev.sbind (Ev.neg h ?_)
        rw [wr_mid pre y suf _ rfl hx]
        exact hq
      · have a := hq2 hh
        have b := hr2 (by omega)
        simp only [totL, List.map_cons, List.sum_cons] at a ⊢
        omega

theorem szIntSS_ev (x : List (List Int)) (left : Int) (h0 : 0 ≤ left) (h1 : left ≤ 1048576) (hx : x.length ≤ maxLen) (hi : ∀ z ∈ x, z.length ≤ maxLen) :
    ∃ r, Ev (fun k => laws_szIntSS.f k x left) r ∧ r ≤ 1048576 ∧ (0 ≤ r → r = left - x.length - totL x) := by
  unfold laws_szIntSS.f
  have hx' := hx
  unfold maxLen at hx'
  rw [wr _ (by omega) (by omega)]
  by_cases h : left - (x.length : Int) < 0
  · exact ⟨-1, Ev.pos h (Ev.now _), by omega, by omega⟩
  · obtain ⟨r, hr, a, b⟩ := szIntSS_l x (by omega) hi x [] (left - x.length) rfl (by omega) (by omega)
    exact ⟨r, Ev.neg h hr, a, b⟩

theorem tot_mem {xs : List (List Int)} {z : List Int} (h : z ∈ xs) : z.length ≤ totL xs := by
  induction xs with
  | nil => cases h
  | cons y ys ih =>
    rcases List.mem_cons.1 h with rfl | h
    · simp [totL]
    · have := ih h
      simp only [totL, List.map_cons, List.sum_cons] at this ⊢
      omega

theorem toIntSS_l (x0 : List (List Int)) (hx : x0.length < 9223372036854775807) (hi : ∀ z ∈ x0, z.length ≤ 1048576) : ∀ (suf pre : List (List Int)), pre ++ suf = x0 →
    Ev (fun k => laws_toIntSS.l0 k x0 (pre ++ List.replicate suf.length []) (pre.length : Int)) x0 := by
  intro suf
  induction suf with
  | nil =>
    rintro pre rfl
    refine Ev.step (fun k => by rw [laws_toIntSS.l0]) ?_
    refine Ev.neg (by simp) ?_
    refine Ev.cast (by simp) (Ev.now _)
  | cons x suf ih =>
    rintro pre rfl
    refine Ev.step (fun k => by rw [laws_toIntSS.l0]) ?_
    refine Ev.pos (mid_lt _ _ _) (Ev.pos (nn _) ?_)
    rw [rdL1_mid]
    refine Ev.bind (toIntS_ev x (by have := hi x (by simp); omega)) (Ev.pos (by simp; omega) ?_)
    rw [wr_mid pre x suf _ rfl hx, List.length_cons, List.replicate_succ, set_mid]
    exact ih (pre ++ [x]) (by simp)

theorem toIntSS_ev (x : List (List Int)) (hx : x.length ≤ 1048576) (hi : ∀ z ∈ x, z.length ≤ 1048576) : Ev (fun k => laws_toIntSS.f k x) x := by
  unfold laws_toIntSS.f
  refine Ev.pos (nn _) (Ev.pos (by rw [Int.toNat_natCast]; omega) ?_)
  simpa using toIntSS_l x (by omega) hi x [] rfl

theorem eqIntSS_l (x0 : List (List Int)) (hx : x0.length < 9223372036854775807) (hi : ∀ z ∈ x0, z.length ≤ 1048576) : ∀ (d i : Nat), i + d = x0.length → Ev (fun k => laws_eqIntSS.l0 k x0 x0 (i : Int)) true := by
  intro d
  induction d with
  | zero =>
    intro i hi
    refine Ev.step (fun k => by rw [laws_eqIntSS.l0]) ?_
    exact Ev.neg (by omega) (Ev.now _)
  | succ d ih =>
    intro i hd
    refine Ev.step (fun k => by rw [laws_eqIntSS.l0]) ?_
    refine Ev.pos (by omega) (Ev.pos (nn _) (Ev.pos (by omega) ?_))
    rw [rdL1_get x0 i (by omega)]
    refine Ev.bind (eqIntS_ev _ _ (by have := hi x0[i] (List.getElem_mem _); omega)) (Ev.pos (by simp) ?_)
    rw [wr_nat i _ (by omega) hx]
    exact ih (i + 1) (by omega)

theorem eqIntSS_ev (x : List (List Int)) (hx : x.length ≤ 1048576) (hi : ∀ z ∈ x, z.length ≤ 1048576) : Ev (fun k => laws_eqIntSS.f k x x) true := by
  unfold laws_eqIntSS.f
  exact Ev.pos rfl (eqIntSS_l x (by omega) hi x.length 0 (by omega))

theorem goodValues_ev (c : List Int) : Ev (fun k => impl_goodValues.f k c) (decide (1 ≤ c.length ∧ c.length ≤ 120) && c.all (inB (-1000000) 1000000)) := by
  unfold impl_goodValues.f
  have J : ∀ b : Bool, b = true → ∀ r, r = false → Ev (fun k => impl_goodValues.j0 k c b) r := by
    rintro b rfl r rfl
    exact Ev.step (fun k => by rw [impl_goodValues.j0]) (Ev.pos rfl (Ev.now _))
  refine Ev.cases (fun h => J _ rfl _ (by rw [decide_eq_false (by omega)]; rfl)) (fun h1 => ?_)
  by_cases h2 : (c.length : Int) > 120
  · exact J _ (decide_eq_true h2) _ (by rw [decide_eq_false (by omega)]; rfl)
  · rw [decide_eq_false h2]
    refine Ev.step (fun k => by rw [impl_goodValues.j0]) (Ev.neg (by simp) ?_)
    rw [decide_eq_true (by omega), Bool.true_and]
    have key : ∀ (d i : Nat), i + d = c.length → Ev (fun k => impl_goodValues.l0 k c (c.length : Int) (i : Int)) ((c.drop i).all (inB (-1000000) 1000000)) := by
      intro d
      induction d with
      | zero =>
        intro i hi
        refine Ev.step (fun k => by rw [impl_goodValues.l0]) ?_
        refine Ev.neg (by omega) (Ev.cast ?_ (Ev.now _))
        rw [dr0 _ _ (by omega)]; rfl
      | succ d ih =>
        intro i hi
        refine Ev.step (fun k => by rw [impl_goodValues.l0]) ?_
        refine Ev.pos (by omega) (Ev.pos (nn _) (Ev.pos (by omega) ?_))
        rw [rd_get c i (by omega), dr c i (by omega), List.all_cons]
        unfold inB
        refine Ev.cases (fun h => Ev.cast (by rw [decide_eq_false (by omega)]; rfl) (Ev.now _)) (fun h1 => ?_)
        refine Ev.cases (fun h => Ev.cast (by rw [decide_eq_false (by omega)]; rfl) (Ev.now _)) (fun h2 => ?_)
        rw [wr_nat i _ (by omega) (by omega : c.length < _), decide_eq_true (by omega), Bool.true_and]
        exact ih (i + 1) (by omega)
    exact key c.length 0 (by omega)

def incr : List Int → Bool
  | a :: b :: t => decide (a < b) && incr (b :: t)
  | _ => true

theorem incr_cons {a b : Int} {t : List Int} : incr (a :: b :: t) = (decide (a < b) && incr (b :: t)) := by rw [incr]

theorem incr_short (p : List Int) (h : p.length ≤ 1) : incr p = true := by
  match p, h with
  | [], _ => rfl
  | [a], _ => rfl
  | a :: b :: t, h => simp at h

def rise (lo hi : Int) (xs : List Int) : Bool := xs.all (inB lo hi) && incr xs

theorem l1Rising_ev (xs : List Int) (lo hi : Int) (hx : xs.length < 9223372036854775807) : Ev (fun k => spec_l1Rising.f k xs lo hi) (rise lo hi xs) := by
  unfold spec_l1Rising.f rise
  have key : ∀ (d i : Nat), i + d = xs.length → Ev (fun k => spec_l1Rising.l0 k xs lo hi xs (xs.length : Int) (i : Int)) ((xs.drop i).all (inB lo hi) && incr (xs.drop (i - 1))) := by
    intro d
    induction d with
    | zero =>
      intro i hi
      refine Ev.step (fun k => by rw [spec_l1Rising.l0]) ?_
      refine Ev.neg (by omega) (Ev.cast ?_ (Ev.now _))
      rw [dr0 _ _ (by omega), incr_short _ (by rw [List.length_drop]; omega)]; rfl
    | succ d ih =>
      intro i hd
      refine Ev.step (fun k => by rw [spec_l1Rising.l0]) ?_
      refine Ev.pos (by omega) (Ev.pos (nn _) (Ev.pos (by omega) ?_))
      rw [rd_get xs i (by omega), l1In_eq]
      refine Ev.sbind (Ev.cases (fun h => ?_) (fun h => Ev.cast (by rw [dr xs i (by omega), List.all_cons, inB, bf h]; rfl) (Ev.now _)))
      rw [dr xs i (by omega), List.all_cons, inB, h, Bool.true_and]
      refine Ev.cases (fun h1 => ?_) (fun h1 => ?_)
      · have e : wrap64 ((i : Int) - 1) = ((i - 1 : Nat) : Int) := by rw [wr _ (by omega) (by omega)]; omega
        rw [e]
        refine Ev.pos (nn _) (Ev.pos (by omega) ?_)
        rw [rd_get xs (i - 1) (by omega), dr xs (i - 1) (by omega), show i - 1 + 1 = i by omega, dr xs i (by omega), incr_cons]
        refine Ev.cases (fun h2 => Ev.cast (by rw [decide_eq_false (show ¬ xs[i - 1] < xs[i] by omega)]; simp) (Ev.now _)) (fun h2 => ?_)
        rw [decide_eq_true (show xs[i - 1] < xs[i] by omega), Bool.true_and, ← dr xs i (by omega), wr_nat i xs.length (by omega) hx]
        exact ih (i + 1) (by omega)
      · obtain rfl : i = 0 := by omega
        rw [wr_nat 0 xs.length (by omega) hx]
        exact ih 1 (by omega)
  exact key xs.length 0 (by omega)

theorem areBlocks_ev (xs : List Int) (n : Int) (hx : xs.length < 9223372036854775807) : Ev (fun k => impl_areBlocks.f k xs n) (rise 0 (n - 1) xs) := by
  unfold impl_areBlocks.f rise
  have key : ∀ (d i : Nat), i + d = xs.length → Ev (fun k => impl_areBlocks.l0 k xs n xs (xs.length : Int) (i : Int)) ((xs.drop i).all (inB 0 (n - 1)) && incr (xs.drop (i - 1))) := by
    intro d
    induction d with
    | zero =>
      intro i hi
      refine Ev.step (fun k => by rw [impl_areBlocks.l0]) ?_
      refine Ev.neg (by omega) (Ev.cast ?_ (Ev.now _))
      rw [dr0 _ _ (by omega), incr_short _ (by rw [List.length_drop]; omega)]; rfl
    | succ d ih =>
      intro i hd
      refine Ev.step (fun k => by rw [impl_areBlocks.l0]) ?_
      refine Ev.pos (by omega) (Ev.pos (nn _) (Ev.pos (by omega) ?_))
      rw [rd_get xs i (by omega), dr xs i (by omega), List.all_cons]
      refine Ev.cases (fun h => Ev.cast (by rw [inB, decide_eq_false (by omega)]; rfl) (Ev.now _)) (fun h1 => ?_)
      refine Ev.cases (fun h => Ev.cast (by rw [inB, decide_eq_false (by omega)]; rfl) (Ev.now _)) (fun h2 => ?_)
      rw [inB, decide_eq_true (show 0 ≤ xs[i] ∧ xs[i] ≤ n - 1 by omega), Bool.true_and]
      refine Ev.cases (fun h3 => ?_) (fun h3 => ?_)
      · have e : wrap64 ((i : Int) - 1) = ((i - 1 : Nat) : Int) := by rw [wr _ (by omega) (by omega)]; omega
        rw [e]
        refine Ev.pos (nn _) (Ev.pos (by omega) ?_)
        rw [rd_get xs (i - 1) (by omega), dr xs (i - 1) (by omega), show i - 1 + 1 = i by omega, dr xs i (by omega), incr_cons]
        refine Ev.cases (fun h2 => Ev.cast (by rw [decide_eq_false (show ¬ xs[i - 1] < xs[i] by omega)]; simp) (Ev.now _)) (fun h2 => ?_)
        rw [decide_eq_true (show xs[i - 1] < xs[i] by omega), Bool.true_and, ← dr xs i (by omega), wr_nat i xs.length (by omega) hx]
        exact ih (i + 1) (by omega)
      · obtain rfl : i = 0 := by omega
        rw [wr_nat 0 xs.length (by omega) hx]
        exact ih 1 (by omega)
  exact key xs.length 0 (by omega)

theorem rise_mem {lo hi : Int} {xs : List Int} (h : rise lo hi xs = true) {x : Int} (hx : x ∈ xs) : lo ≤ x ∧ x ≤ hi := by
  unfold rise at h
  rw [Bool.and_eq_true, List.all_eq_true] at h
  exact of_decide_eq_true (h.1 x hx)

def arcsFrom : Nat → List (List Int) → Bool
  | _, [] => true
  | i, l :: t => rise 0 ((i : Int) - 1) l && arcsFrom (i + 1) t

def arcsOk (a : List (List Int)) : Bool := decide (1 ≤ a.length ∧ a.length ≤ 120) && arcsFrom 0 a

theorem arcsFrom_at : ∀ (a : List (List Int)) (n : Nat), arcsFrom n a = true → ∀ i (h : i < a.length), rise 0 (((n + i : Nat) : Int) - 1) a[i] = true
  | [], _, _, i, h => by simp at h
  | l :: t, n, hh, i, h => by
    rw [arcsFrom, Bool.and_eq_true] at hh
    cases i with
    | zero => simpa using hh.1
    | succ i =>
      have := arcsFrom_at t (n + 1) hh.2 i (by simpa using h)
      rw [show n + 1 + i = n + (i + 1) by omega] at this
      simpa using this

theorem arcsOk_parts {a : List (List Int)} (h : arcsOk a = true) : 1 ≤ a.length ∧ a.length ≤ 120 ∧ ∀ i (h : i < a.length), rise 0 ((i : Int) - 1) a[i] = true := by
  unfold arcsOk at h
  rw [Bool.and_eq_true, decide_eq_true_eq] at h
  exact ⟨h.1.1, h.1.2, fun i hi => by simpa using arcsFrom_at a 0 h.2 i hi⟩

theorem arcsOk_mem {a : List (List Int)} (h : arcsOk a = true) (i : Nat) (hi : i < a.length) : ∀ k ∈ a[i], 0 ≤ k ∧ k < (i : Int) := by
  obtain ⟨_, _, h3⟩ := arcsOk_parts h
  intro k hk
  have := rise_mem (h3 i hi) hk
  omega

theorem AreArcs_ev (a : List (List Int)) (hi : ∀ z ∈ a, z.length < 9223372036854775807) : Ev (fun k => impl_AreArcs.f k a) (arcsOk a) := by
  unfold impl_AreArcs.f arcsOk
  have J : ∀ b : Bool, b = true → ∀ r, r = false → Ev (fun k => impl_AreArcs.j0 k a b) r := by
    rintro b rfl r rfl
    exact Ev.step (fun k => by rw [impl_AreArcs.j0]) (Ev.pos rfl (Ev.now _))
  refine Ev.cases (fun h => J _ rfl _ (by rw [decide_eq_false (show ¬ (1 ≤ a.length ∧ a.length ≤ 120) by omega)]; rfl)) (fun h1 => ?_)
  by_cases h2 : (a.length : Int) > 120
  · exact J _ (decide_eq_true h2) _ (by rw [decide_eq_false (show ¬ (1 ≤ a.length ∧ a.length ≤ 120) by omega)]; rfl)
  · rw [decide_eq_false h2, decide_eq_true (show 1 ≤ a.length ∧ a.length ≤ 120 by omega), Bool.true_and]
    refine Ev.step (fun k => by rw [impl_AreArcs.j0]) (Ev.neg (by simp) ?_)
    have key : ∀ (d i : Nat), i + d = a.length → Ev (fun k => impl_AreArcs.l0 k a (a.length : Int) (i : Int)) (arcsFrom i (a.drop i)) := by
      intro d
      induction d with
      | zero =>
        intro i hd
        refine Ev.step (fun k => by rw [impl_AreArcs.l0]) ?_
        refine Ev.neg (by omega) (Ev.cast ?_ (Ev.now _))
        rw [dr0 _ _ (by omega), arcsFrom]
      | succ d ih =>
        intro i hd
        refine Ev.step (fun k => by rw [impl_AreArcs.l0]) ?_
        refine Ev.pos (by omega) (Ev.pos (nn _) (Ev.pos (by omega) ?_))
        rw [rdL1_get a i (by omega), dr a i (by omega), arcsFrom]
        refine Ev.bind (areBlocks_ev a[i] (i : Int) (hi _ (List.getElem_mem _))) (Ev.cases (fun h => ?_) (fun h => Ev.cast (by rw [bf h]; rfl) (Ev.now _)))
        rw [h, Bool.true_and, wr_nat i a.length (by omega) (by omega)]
        exact ih (i + 1) (by omega)
    exact key a.length 0 (by omega)

theorem clArcs_ev (a : List (List Int)) (ha : a.length < 9223372036854775807) (hi : ∀ z ∈ a, z.length < 9223372036854775807) : Ev (fun k => spec_clArcs.f k a) (arcsOk a) := by
  unfold spec_clArcs.f arcsOk
  have key : ∀ (d i : Nat), i + d = a.length → Ev (fun k => spec_clArcs.l0 k a a (a.length : Int) (i : Int)) (decide (1 ≤ a.length ∧ a.length ≤ 120) && arcsFrom i (a.drop i)) := by
    intro d
    induction d with
    | zero =>
      intro i hd
      refine Ev.step (fun k => by rw [spec_clArcs.l0]) ?_
      refine Ev.neg (by omega) ?_
      rw [dr0 _ _ (by omega), arcsFrom, l1In_eq, Bool.and_true]
      exact Ev.sbind (Ev.cast (decide_eq_decide.2 (by omega)) (Ev.now _))
    | succ d ih =>
      intro i hd
      refine Ev.step (fun k => by rw [spec_clArcs.l0]) ?_
      refine Ev.pos (by omega) (Ev.pos (nn _) (Ev.pos (by omega) ?_))
      rw [rdL1_get a i (by omega), dr a i (by omega), arcsFrom, wr ((i : Int) - 1) (by omega) (by omega)]
      refine Ev.bind (l1Rising_ev a[i] 0 ((i : Int) - 1) (hi _ (List.getElem_mem _))) (Ev.cases (fun h => ?_) (fun h => Ev.cast (by rw [bf h]; simp) (Ev.now _)))
      rw [h, Bool.true_and, wr_nat i a.length (by omega) ha]
      exact ih (i + 1) (by omega)
  exact key a.length 0 (by omega)

def jobOk (a : List (List Int)) (t v : List Int) (mi ml pe nu de : Int) : Bool :=
  arcsOk a && (decide (t.length = a.length) && (decide (v.length = a.length) && (t.all (inB 0 10000) && (v.all (inB (-1000000) 1000000) && decide ((0 ≤ mi ∧ mi ≤ 1000000) ∧ (0 ≤ ml ∧ ml ≤ 1000000) ∧ (1 ≤ pe ∧ pe ≤ 6) ∧ (1 ≤ nu ∧ nu ≤ de) ∧ (1 ≤ de ∧ de ≤ 20))))))

theorem szJob_ev (a : List (List Int)) (t v : List Int) (mi ml pe nu de : Int) (left : Int) (h0 : 0 ≤ left) (h1 : left ≤ 1048576) (hx : a.length ≤ maxLen) (hi : ∀ z ∈ a, z.length ≤ maxLen) (ht : t.length ≤ maxLen) (hv : v.length ≤ maxLen) :
    ∃ r, Ev (fun k => laws_szJob.f k a t v mi ml pe nu de left) r ∧ r ≤ 1048576 ∧ (0 ≤ r → r = left - a.length - totL a - t.length - v.length) := by
  unfold laws_szJob.f
  obtain ⟨r, hr, a1, b1⟩ := szIntSS_ev a left h0 h1 hx hi
  by_cases c : r < 0
  · exact ⟨-1, Ev.bind hr (Ev.pos c (Ev.now _)), by omega, by omega⟩
  · obtain ⟨q, hq, a2, b2⟩ := szIntS_eq t r (by omega) a1 ht
    by_cases c2 : q < 0
    · exact ⟨-1, Ev.bind hr (Ev.neg c (by rw [hq]; exact Ev.sbind (Ev.pos c2 (Ev.now _)))), by omega, by omega⟩
    · obtain ⟨s, hs, a3, b3⟩ := szIntS_eq v q (by omega) a2 hv
      have b1 := b1 (by omega)
      have b2 := b2 (by omega)
      by_cases c3 : s < 0
      · exact ⟨-1, Ev.bind hr (Ev.neg c (by rw [hq]; exact Ev.sbind (Ev.neg c2 (by rw [hs]; exact Ev.sbind (Ev.pos c3 (Ev.now _)))))), by omega, by omega⟩
      · have b3 := b3 (by omega)
        exact ⟨s, Ev.bind hr (Ev.neg c (by rw [hq]; exact Ev.sbind (Ev.neg c2 (by rw [hs]; exact Ev.sbind (Ev.neg c3 (Ev.now _)))))), by omega, fun _ => by omega⟩

theorem toJob_ev (a : List (List Int)) (t v : List Int) (mi ml pe nu de : Int) (ha : a.length ≤ 1048576) (hi : ∀ z ∈ a, z.length ≤ 1048576) (ht : t.length ≤ 1048576) (hv : v.length ≤ 1048576) :
    Ev (fun k => laws_toJob.f k a t v mi ml pe nu de) (a, t, v, mi, ml, pe, nu, de) := by
  unfold laws_toJob.f laws_toLimits.f
  exact Ev.bind (toIntSS_ev a ha hi) (Ev.bind (toIntS_ev t (by omega)) (Ev.bind (toIntS_ev v (by omega)) (Ev.now _)))

theorem eqJob_ev (a : List (List Int)) (t v : List Int) (mi ml pe nu de : Int) (ha : a.length ≤ 1048576) (hi : ∀ z ∈ a, z.length ≤ 1048576) (ht : t.length ≤ 1048576) (hv : v.length ≤ 1048576) :
    Ev (fun k => laws_eqJob.f k a t v mi ml pe nu de a t v mi ml pe nu de) true := by
  unfold laws_eqJob.f laws_eqLimits.f
  refine Ev.bind (eqIntSS_ev a ha hi) (Ev.pos rfl (Ev.bind (eqIntS_ev t t (by omega)) (Ev.pos (by simp) (Ev.bind (eqIntS_ev v v (by omega)) (Ev.pos (by simp) ?_)))))
  rw [if_pos rfl, if_pos rfl]
  exact Ev.sbind (Ev.pos rfl (Ev.pos rfl (Ev.pos rfl (Ev.pos rfl (Ev.now _)))))

theorem areValued_ev (a : List (List Int)) (v : List Int) (hi : ∀ z ∈ a, z.length < 9223372036854775807) : Ev (fun k => impl_areValued.f k a v) (arcsOk a && (decide (v.length = a.length) && v.all (inB (-1000000) 1000000))) := by
  unfold impl_areValued.f
  refine Ev.bind (AreArcs_ev a hi) (Ev.cases (fun h => ?_) (fun h => Ev.cast (by rw [bf h]; rfl) (Ev.now _)))
  rw [h, Bool.true_and]
  obtain ⟨a0, a1, _⟩ := arcsOk_parts h
  refine Ev.bind (goodValues_ev v) (Ev.cases (fun h1 => ?_) (fun h1 => ?_))
  · rw [Bool.and_eq_true] at h1
    rw [h1.2, Bool.and_true]
    refine Ev.cast ?_ (Ev.now _)
    by_cases e : v.length = a.length
    · simp [e]
    · rw [decide_eq_false e]
      simp only [beq_eq_false_iff_ne, ne_eq]; omega
  · refine Ev.cast ?_ (Ev.now _)
    by_cases e : v.length = a.length
    · rw [decide_eq_true (show 1 ≤ v.length ∧ v.length ≤ 120 by omega), Bool.true_and] at h1
      rw [bf h1]; simp
    · rw [decide_eq_false e]; rfl

theorem impl_IsJob_ev (a : List (List Int)) (t v : List Int) (mi ml pe nu de : Int) (hi : ∀ z ∈ a, z.length < 9223372036854775807) (ht : t.length < 9223372036854775807) : Ev (fun k => impl_IsJob.f k a t v mi ml pe nu de) (jobOk a t v mi ml pe nu de) := by
  unfold impl_IsJob.f jobOk
  have J : ∀ b : Bool, b = true → ∀ r, r = false → Ev (fun k => impl_IsJob.j0 k b a t v mi ml pe nu de) r := by
    rintro b rfl r rfl
    exact Ev.step (fun k => by rw [impl_IsJob.j0]) (Ev.pos rfl (Ev.now _))
  refine Ev.bind (areValued_ev a v hi) (Ev.cases (fun h => ?_) (fun h => J _ rfl _ ?_))
  · simp only [Bool.and_eq_true] at h
    rw [h.1, h.2.1, h.2.2, Bool.true_and, Bool.true_and, Bool.true_and]
    by_cases e : t.length = a.length
    · rw [decide_eq_true e, Bool.true_and, show ((t.length : Int) != (a.length : Int)) = false by simp [e]]
      refine Ev.step (fun k => by rw [impl_IsJob.j0]) (Ev.neg (by simp) ?_)
      have key : ∀ (d i : Nat), i + d = t.length → Ev (fun k => impl_IsJob.l0 k t (t.length : Int) (i : Int) a t v mi ml pe nu de) ((t.drop i).all (inB 0 10000) && decide ((0 ≤ mi ∧ mi ≤ 1000000) ∧ (0 ≤ ml ∧ ml ≤ 1000000) ∧ (1 ≤ pe ∧ pe ≤ 6) ∧ (1 ≤ nu ∧ nu ≤ de) ∧ (1 ≤ de ∧ de ≤ 20))) := by
        intro d
        induction d with
        | zero =>
          intro i hd
          refine Ev.step (fun k => by rw [impl_IsJob.l0]) ?_
          refine Ev.neg (by omega) ?_
          rw [dr0 _ _ (by omega), List.all_nil, Bool.true_and]
          refine Ev.cases (fun h1 => ?_) (fun h1 => Ev.cast (decide_eq_false (by omega)).symm (Ev.now _))
          refine Ev.cases (fun h2 => ?_) (fun h2 => Ev.cast (decide_eq_false (by omega)).symm (Ev.now _))
          refine Ev.cases (fun h3 => ?_) (fun h3 => Ev.cast (decide_eq_false (by omega)).symm (Ev.now _))
          refine Ev.cases (fun h4 => ?_) (fun h4 => Ev.cast (decide_eq_false (by omega)).symm (Ev.now _))
          refine Ev.cases (fun h5 => ?_) (fun h5 => Ev.cast (decide_eq_false (by omega)).symm (Ev.now _))
          refine Ev.cases (fun h6 => ?_) (fun h6 => Ev.cast (decide_eq_false (by omega)).symm (Ev.now _))
          refine Ev.cases (fun h7 => ?_) (fun h7 => Ev.cast (decide_eq_false (by omega)).symm (Ev.now _))
          refine Ev.cases (fun h8 => ?_) (fun h8 => Ev.cast (decide_eq_false (by omega)).symm (Ev.now _))
          exact Ev.cast (decide_eq_decide.2 (by omega)) (Ev.now _)
        | succ d ih =>
          intro i hd
          refine Ev.step (fun k => by rw [impl_IsJob.l0]) ?_
          refine Ev.pos (by omega) (Ev.pos (nn _) (Ev.pos (by omega) ?_))
          rw [rd_get t i (by omega), dr t i (by omega), List.all_cons]
          refine Ev.cases (fun h => Ev.cast (by rw [inB, decide_eq_false (show ¬ (0 ≤ t[i] ∧ t[i] ≤ 10000) by omega)]; rfl) (Ev.now _)) (fun h1 => ?_)
          refine Ev.cases (fun h => Ev.cast (by rw [inB, decide_eq_false (show ¬ (0 ≤ t[i] ∧ t[i] ≤ 10000) by omega)]; rfl) (Ev.now _)) (fun h2 => ?_)
          rw [inB, decide_eq_true (show 0 ≤ t[i] ∧ t[i] ≤ 10000 by omega), Bool.true_and, wr_nat i t.length (by omega) ht]
          exact ih (i + 1) (by omega)
      exact key t.length 0 (by omega)
    · exact J _ (by simp; omega) _ (by rw [decide_eq_false e]; rfl)
  · by_cases c1 : arcsOk a = true
    · by_cases c2 : v.length = a.length
      · rw [c1, decide_eq_true c2, Bool.true_and, Bool.true_and] at h
        rw [bf h]; simp
      · rw [decide_eq_false c2]; simp
    · rw [bf c1]; rfl

theorem plJob_ev (a : List (List Int)) (t v : List Int) (mi ml pe nu de : Int) (ha : a.length < 9223372036854775807) (hi : ∀ z ∈ a, z.length < 9223372036854775807) (ht : t.length < 9223372036854775807) (hv : v.length < 9223372036854775807) : Ev (fun k => spec_plJob.f k a t v mi ml pe nu de) (jobOk a t v mi ml pe nu de) := by
  unfold spec_plJob.f jobOk
  have J : ∀ b : Bool, b = true → ∀ r, r = false → Ev (fun k => spec_plJob.j0 k b a t v mi ml pe nu de) r := by
    rintro b rfl r rfl
    exact Ev.step (fun k => by rw [spec_plJob.j0]) (Ev.pos rfl (Ev.now _))
  refine Ev.bind (clArcs_ev a ha hi) (Ev.cases (fun h => ?_) (fun h => J _ rfl _ (by rw [bf h]; rfl)))
  refine Ev.cases (fun h1 => ?_) (fun h1 => J _ rfl _ (by rw [decide_eq_false (show ¬ t.length = a.length by omega)]; simp))
  refine Ev.cases (fun h2 => ?_) (fun h2 => J _ rfl _ (by rw [decide_eq_false (show ¬ v.length = a.length by omega)]; simp))
  refine Ev.bind (l1All_ev 0 10000 t ht) (Ev.cases (fun h3 => ?_) (fun h3 => J _ rfl _ (by rw [bf h3]; simp)))
  refine Ev.bind (l1All_ev (-1000000) 1000000 v hv) ?_
  by_cases h4 : v.all (inB (-1000000) 1000000) = true
  · rw [h, h3, h4, decide_eq_true (show t.length = a.length by omega), decide_eq_true (show v.length = a.length by omega)]
    simp only [Bool.true_and, Bool.not_true]
    refine Ev.step (fun k => by rw [spec_plJob.j0]) (Ev.neg (by simp) ?_)
    rw [l1In_eq, l1In_eq, l1In_eq, l1In_eq, l1In_eq]
    refine Ev.sbind (Ev.cases (fun q1 => ?_) (fun q1 => Ev.cast (decide_eq_false (by have := of_decide_eq_false (bf q1); omega)).symm (Ev.now _)))
    refine Ev.sbind (Ev.cases (fun q2 => ?_) (fun q2 => Ev.cast (decide_eq_false (by have := of_decide_eq_false (bf q2); omega)).symm (Ev.now _)))
    refine Ev.sbind (Ev.cases (fun q3 => ?_) (fun q3 => Ev.cast (decide_eq_false (by have := of_decide_eq_false (bf q3); omega)).symm (Ev.now _)))
    refine Ev.sbind (Ev.cases (fun q4 => ?_) (fun q4 => Ev.cast (decide_eq_false (by have := of_decide_eq_false (bf q4); omega)).symm (Ev.now _)))
    have q1 := of_decide_eq_true q1
    have q2 := of_decide_eq_true q2
    have q3 := of_decide_eq_true q3
    have q4 := of_decide_eq_true q4
    exact Ev.sbind (Ev.cast (decide_eq_decide.2 (by omega)) (Ev.now _))
  · rw [bf h4]
    exact J _ rfl _ (by simp)

structure JobSmall (a : List (List Int)) (t v : List Int) : Prop where
  la : a.length ≤ 1048576
  li : ∀ z ∈ a, z.length ≤ 1048576
  lt : t.length ≤ 1048576
  lv : v.length ≤ 1048576
theorem JobSmall.of {a : List (List Int)} {t v : List Int} {r left : Int} (h : r = left - a.length - totL a - t.length - v.length) (h0 : 0 ≤ r) (h1 : left ≤ 1048576) : JobSmall a t v :=
  ⟨by omega, fun z hz => by have := tot_mem hz; omega, by omega, by omega⟩
theorem JobSmall.li' {a : List (List Int)} {t v : List Int} (h : JobSmall a t v) : ∀ z ∈ a, z.length < 9223372036854775807 := fun z hz => by have := h.li z hz; omega

def planOk (a : List (List Int)) (pe pp : Int) (w : List Int) : Bool := decide (pp = pe) && (decide (w.length = a.length) && w.all (inB (-1) (pe - 1)))

structure JobIn (a : List (List Int)) (t v : List Int) (mi ml pe nu de : Int) : Prop where
  arcs : arcsOk a = true
  n1 : 1 ≤ a.length
  n2 : a.length ≤ 120
  tl : t.length = a.length
  vl : v.length = a.length
  tr : ∀ i (h : i < t.length), 0 ≤ t[i] ∧ t[i] ≤ 10000
  vr : ∀ i (h : i < v.length), -1000000 ≤ v[i] ∧ v[i] ≤ 1000000
  pe : 1 ≤ pe ∧ pe ≤ 6
  nu : 1 ≤ nu ∧ nu ≤ de
  de : 1 ≤ de ∧ de ≤ 20
  mi : 0 ≤ mi ∧ mi ≤ 1000000
  ml : 0 ≤ ml ∧ ml ≤ 1000000
theorem JobIn.of {a : List (List Int)} {t v : List Int} {mi ml pe nu de : Int} (h : jobOk a t v mi ml pe nu de = true) : JobIn a t v mi ml pe nu de := by
  unfold jobOk at h
  simp only [Bool.and_eq_true, decide_eq_true_eq, List.all_eq_true] at h
  obtain ⟨h1, h2, h3, h4, h5, h6, h7, h8, h9, h10⟩ := h
  obtain ⟨a0, a1, _⟩ := arcsOk_parts h1
  exact ⟨h1, a0, a1, h2, h3, fun i h => of_decide_eq_true (h4 _ (List.getElem_mem h)), fun i h => of_decide_eq_true (h5 _ (List.getElem_mem h)), h8, h9, h10, h6, h7⟩
theorem JobIn.i {a : List (List Int)} {t v : List Int} {mi ml pe nu de : Int} (J : JobIn a t v mi ml pe nu de) (i : Nat) (h : i < a.length) : ∀ k ∈ a[i], 0 ≤ k ∧ k < (i : Int) := arcsOk_mem J.arcs i h

structure PlanIn (a : List (List Int)) (pe pp : Int) (w : List Int) : Prop where
  pp : pp = pe
  wl : w.length = a.length
  wr : ∀ i (h : i < w.length), -1 ≤ w[i] ∧ w[i] ≤ pe - 1
theorem PlanIn.of {a : List (List Int)} {pe pp : Int} {w : List Int} (h : planOk a pe pp w = true) : PlanIn a pe pp w := by
  unfold planOk at h
  simp only [Bool.and_eq_true, decide_eq_true_eq, List.all_eq_true] at h
  exact ⟨h.1, h.2.1, fun i hi => of_decide_eq_true (h.2.2 _ (List.getElem_mem hi))⟩

theorem szPlan_eq (pp : Int) (w : List Int) (left : Int) (h0 : 0 ≤ left) (h1 : left ≤ 1048576) (hw : w.length ≤ maxLen) : ∃ r, laws_szPlan.f pp w left = some r ∧ r ≤ 1048576 ∧ (0 ≤ r → r = left - w.length) := by
  unfold laws_szPlan.f
  obtain ⟨r, hr, a, b⟩ := szIntS_eq w left h0 h1 hw
  rw [hr, Option.bind_some]
  by_cases c : r < 0
  · rw [if_pos c]; exact ⟨-1, rfl, by omega, by omega⟩
  · rw [if_neg c]; exact ⟨r, rfl, a, b⟩

theorem toPlan_ev (pp : Int) (w : List Int) (hw : w.length ≤ 1048576) : Ev (fun k => laws_toPlan.f k pp w) (pp, w) := by
  unfold laws_toPlan.f
  exact Ev.bind (toIntS_ev w (by omega)) (Ev.now _)

theorem eqPlan_ev (pp : Int) (w : List Int) (hw : w.length ≤ 1048576) : Ev (fun k => laws_eqPlan.f k pp w pp w) true := by
  unfold laws_eqPlan.f
  exact Ev.pos rfl (Ev.bind (eqIntS_ev w w (by omega)) (Ev.pos (by simp) (Ev.now _)))

theorem plGood_ev (a : List (List Int)) (t v : List Int) (mi ml pe nu de pp : Int) (w : List Int) (hpe : -1000 ≤ pe ∧ pe ≤ 1000) (hw : w.length < 9223372036854775807) : Ev (fun k => spec_plGood.f k a t v mi ml pe nu de pp w) (planOk a pe pp w) := by
  unfold spec_plGood.f planOk
  refine Ev.cases (fun h => ?_) (fun h => Ev.cast (by rw [decide_eq_false h]; rfl) (Ev.now _))
  refine Ev.cases (fun h2 => ?_) (fun h2 => Ev.cast (by rw [decide_eq_false (show ¬ w.length = a.length by omega)]; simp) (Ev.now _))
  rw [decide_eq_true h, decide_eq_true (show w.length = a.length by omega), Bool.true_and, Bool.true_and, wr _ (by omega) (by omega)]
  exact Ev.bind (l1All_ev (-1) (pe - 1) w hw) (Ev.now _)

theorem isPlan_ev (a : List (List Int)) (t v : List Int) (mi ml pe nu de pp : Int) (w : List Int) (hw : w.length < 9223372036854775807) : Ev (fun k => impl_isPlan.f k a t v mi ml pe nu de pp w) (planOk a pe pp w) := by
  unfold impl_isPlan.f planOk
  have J : ∀ b : Bool, b = true → ∀ r, r = false → Ev (fun k => impl_isPlan.j0 k b a t v mi ml pe nu de pp w) r := by
    rintro b rfl r rfl
    exact Ev.step (fun k => by rw [impl_isPlan.j0]) (Ev.pos rfl (Ev.now _))
  refine Ev.cases (fun h => ?_) (fun h => J _ rfl _ (by rw [decide_eq_false h]; rfl))
  by_cases e : w.length = a.length
  · rw [decide_eq_true h, decide_eq_true e, Bool.true_and, Bool.true_and, show ((w.length : Int) != (a.length : Int)) = false by simp [e]]
    refine Ev.step (fun k => by rw [impl_isPlan.j0]) (Ev.neg (by simp) ?_)
    have key : ∀ (d i : Nat), i + d = w.length → Ev (fun k => impl_isPlan.l0 k w (w.length : Int) (i : Int) a t v mi ml pe nu de) ((w.drop i).all (inB (-1) (pe - 1))) := by
      intro d
      induction d with
      | zero =>
        intro i hd
        refine Ev.step (fun k => by rw [impl_isPlan.l0]) ?_
        refine Ev.neg (by omega) (Ev.cast ?_ (Ev.now _))
        rw [dr0 _ _ (by omega)]; rfl
      | succ d ih =>
        intro i hd
        refine Ev.step (fun k => by rw [impl_isPlan.l0]) ?_
        refine Ev.pos (by omega) (Ev.pos (nn _) (Ev.pos (by omega) ?_))
        rw [rd_get w i (by omega), dr w i (by omega), List.all_cons]
        refine Ev.cases (fun h => Ev.cast (by rw [inB, decide_eq_false (show ¬ (-1 ≤ w[i] ∧ w[i] ≤ pe - 1) by omega)]; rfl) (Ev.now _)) (fun h1 => ?_)
        refine Ev.cases (fun h => Ev.cast (by rw [inB, decide_eq_false (show ¬ (-1 ≤ w[i] ∧ w[i] ≤ pe - 1) by omega)]; rfl) (Ev.now _)) (fun h2 => ?_)
        rw [inB, decide_eq_true (show -1 ≤ w[i] ∧ w[i] ≤ pe - 1 by omega), Bool.true_and, wr_nat i w.length (by omega) hw]
        exact ih (i + 1) (by omega)
    exact key w.length 0 (by omega)
  · exact J _ (by simp; omega) _ (by rw [decide_eq_false e]; simp)

theorem plBoth_ev (a : List (List Int)) (t v : List Int) (mi ml pe nu de pp : Int) (w : List Int) (S : JobSmall a t v) (hw : w.length < 9223372036854775807) : Ev (fun k => spec_plBoth.f k a t v mi ml pe nu de pp w) (jobOk a t v mi ml pe nu de && planOk a pe pp w) := by
  unfold spec_plBoth.f
  refine Ev.bind (plJob_ev a t v mi ml pe nu de (by have := S.la; omega) S.li' (by have := S.lt; omega) (by have := S.lv; omega)) (Ev.cases (fun h => ?_) (fun h => Ev.cast (by rw [bf h]; rfl) (Ev.now _)))
  have J := JobIn.of h
  rw [h, Bool.true_and]
  exact Ev.bind (plGood_ev a t v mi ml pe nu de pp w (by have := J.pe; omega) hw) (Ev.now _)

def num (n : Int) : ByteArray := ⟨(Lib.itoa n).toArray⟩

def plRow (t : Int) : List Int → Int → ByteArray → ByteArray
  | [], _, s => s
  | x :: xs, i, s => plRow t xs (i + 1) (if x = t then s ++ ((⟨#[32]⟩ : ByteArray) ++ num i) else s)

def plTx (w : List Int) : Nat → Int → ByteArray → ByteArray
  | 0, _, s => s
  | d + 1, t, s => plTx w d (t + 1) (plRow t w 0 (s ++ (num t ++ (⟨#[58]⟩ : ByteArray))) ++ (⟨#[10]⟩ : ByteArray))

theorem digits_len : ∀ (d u : Nat), u < 10 ^ (d + 1) → (Lib.decDigits u).length ≤ d + 1
  | 0, u, h => by rw [Lib.decDigits, dif_pos (by omega)]; simp
  | d + 1, u, h => by
    rw [Lib.decDigits]
    split
    · simp
    · rw [List.length_append]
      have := digits_len d (u / 10) (by rw [Nat.pow_succ] at h; omega)
      simp
      omega

theorem num_nn {n : Int} (h : 0 ≤ n) : num n = ⟨(Lib.decDigits n.toNat).toArray⟩ := by unfold num Lib.itoa; rw [if_neg (by omega)]

theorem num_size {n : Int} (h : 0 ≤ n) (h1 : n < 1000) : (num n).size ≤ 3 := by
  rw [num_nn h]
  have := digits_len 2 n.toNat (by omega)
  simpa [ByteArray.size] using this

theorem digit_str (u : Nat) (h : u < 10) : strOfNums [(wrap64 (48 + (u : Int))) % 256] = ⟨[UInt8.ofNat (48 + u)].toArray⟩ := by
  rw [show wrap64 (48 + (u : Int)) = 48 + (u : Int) by unfold wrap64; omega, show (48 + (u : Int)) % 256 = ((48 + u : Nat) : Int) by omega]
  rfl

theorem l1Num_ev : ∀ (d : Nat) (n : Nat), n < 10 ^ (d + 1) → d ≤ 5 → Ev (fun k => spec_l1Num.f k (n : Int)) (num (n : Int))
  | 0, n, h, _ => by
    refine Ev.step (fun k => by rw [spec_l1Num.f]) ?_
    refine Ev.pos (by omega) (Ev.cast ?_ (Ev.now _))
    rw [num_nn (nn _), Int.toNat_natCast, Lib.decDigits, dif_pos (by omega), digit_str n (by omega)]
  | d + 1, n, h, hd => by
    have hp : 10 ^ (d + 1 + 1) ≤ 10 ^ 6 := Nat.pow_le_pow_right (by omega) (by omega)
    by_cases c : n < 10
    · refine Ev.step (fun k => by rw [spec_l1Num.f]) (Ev.pos (by omega) (Ev.cast ?_ (Ev.now _)))
      rw [num_nn (nn _), Int.toNat_natCast, Lib.decDigits, dif_pos c, digit_str n c]
    · have hq : n / 10 < 10 ^ (d + 1) := by rw [Nat.pow_succ] at h; omega
      have ih := l1Num_ev d (n / 10) hq (by omega)
      have w1 : wrap64 (Int.tdiv (n : Int) 10) = ((n / 10 : Nat) : Int) := by
        rw [Int.tdiv_eq_ediv_of_nonneg (nn _)]
        unfold wrap64; omega
      have w2 : Int.tmod (n : Int) 10 = ((n % 10 : Nat) : Int) := by rw [Int.tmod_eq_emod_of_nonneg (nn _)]; omega
      have e : num (n : Int) = num ((n / 10 : Nat) : Int) ++ ⟨[UInt8.ofNat (48 + n % 10)].toArray⟩ := by
        rw [num_nn (nn _), num_nn (nn _), Int.toNat_natCast, Int.toNat_natCast, Lib.decDigits, dif_neg c]
        apply ByteArray.ext
        simp
      have hl := digits_len d (n / 10) hq
      have hs : (num ((n / 10 : Nat) : Int)).size ≤ d + 1 := by rw [num_nn (nn _), Int.toNat_natCast]; simpa [ByteArray.size] using hl
      refine Ev.step (fun k => by rw [spec_l1Num.f]) ?_
      refine Ev.neg (by omega) ?_
      rw [w1, w2]
      refine Ev.bind ih (Ev.sbind ?_)
      rw [digit_str _ (by omega)]
      refine Ev.pos ?_ (Ev.cast e.symm (Ev.now _))
      have : (⟨[UInt8.ofNat (48 + n % 10)].toArray⟩ : ByteArray).size = 1 := rfl
      omega

theorem l1Num_num {n : Int} (h : 0 ≤ n) (h1 : n < 1000) : Ev (fun k => spec_l1Num.f k n) (num n) := by
  have := l1Num_ev 2 n.toNat (by omega) (by omega)
  rwa [Int.toNat_of_nonneg h] at this

theorem itoa_num {n : Int} (h : 0 ≤ n) (h1 : n < 1000) : Ev (fun k => strconv_Itoa_44.f k n) (num n) := by
  unfold strconv_Itoa_44.f
  exact Ev.pos (by omega) (Ev.now _)

theorem plRow_size (t : Int) : ∀ (xs : List Int) (i : Int) (s : ByteArray), 0 ≤ i → i + (xs.length : Int) ≤ 1000 → (plRow t xs i s).size ≤ s.size + 4 * xs.length
  | [], _, s, _, _ => Nat.le_refl _
  | x :: xs, i, s, h0, h1 => by
    rw [List.length_cons] at h1
    unfold plRow
    have ih := fun s' => plRow_size t xs (i + 1) s' (by omega) (by omega)
    have hn := num_size (n := i) h0 (by omega)
    rw [List.length_cons]
    by_cases c : x = t
    · rw [if_pos c]
      have := ih (s ++ ((⟨#[32]⟩ : ByteArray) ++ num i))
      rw [ByteArray.size_append, ByteArray.size_append, show (⟨#[32]⟩ : ByteArray).size = 1 from rfl] at this
      omega
    · rw [if_neg c]
      have := ih s
      omega

theorem spec_row (w : List Int) (pp t : Int) (hw : w.length ≤ 120) (r : ByteArray) : ∀ (suf pre : List Int) (s : ByteArray), w = pre ++ suf → s.size + 4 * suf.length ≤ 100000 → Ev (fun k => spec_plText.l0 k (plRow t suf (pre.length : Int) s ++ (⟨#[10]⟩ : ByteArray)) (wrap64 (t + 1)) pp w) r → Ev (fun k => spec_plText.l1 k s t w (w.length : Int) (pre.length : Int) pp w) r := by
  intro suf
  induction suf with
  | nil =>
    intro pre s he hs h
    rw [List.append_nil] at he
    refine Ev.step (fun k => by rw [spec_plText.l1]) ?_
    refine Ev.neg (by rw [he]; omega) (Ev.pos (by simp at hs; omega) h)
  | cons x suf ih =>
    intro pre s he hs h
    have hlen : w.length = pre.length + suf.length + 1 := by rw [he]; simp; omega
    have hrd : rd w (pre.length : Int) = x := by rw [he]; exact rd_mid pre x suf
    have hn := num_size (n := (pre.length : Int)) (nn _) (by omega)
    rw [List.length_cons] at hs
    have hz : ((⟨#[32]⟩ : ByteArray) ++ num (pre.length : Int)).size = 1 + (num (pre.length : Int)).size := by rw [ByteArray.size_append]; rfl
    have step := fun s' => ih (pre ++ [x]) s' (by rw [he]; simp)
    refine Ev.step (fun k => by rw [spec_plText.l1]) ?_
    refine Ev.pos (by omega) (Ev.pos (nn _) (Ev.pos (by omega) ?_))
    rw [hrd, wr_nat pre.length 1000 (by omega) (by omega)]
    unfold plRow at h
    refine Ev.cases (fun c => ?_) (fun c => ?_)
    · rw [if_pos c] at h
      refine Ev.bind (l1Num_num (nn _) (by omega)) (Ev.pos (by omega) (Ev.pos (by rw [hz]; omega) ?_))
      have := step (s ++ ((⟨#[32]⟩ : ByteArray) ++ num (pre.length : Int))) (by rw [ByteArray.size_append, hz]; omega) (by simpa using h)
      simpa using this
    · rw [if_neg c] at h
      have := step s (by omega) (by simpa using h)
      simpa using this

theorem plTx_ev (w : List Int) (pp : Int) (hw : w.length ≤ 120) : ∀ (d : Nat) (t : Int) (s : ByteArray), 0 ≤ t → t + (d : Int) = pp → pp ≤ 100 → s.size + d * 600 ≤ 90000 → Ev (fun k => spec_plText.l0 k s t pp w) (plTx w d t s)
  | 0, t, s, h0, h1, h2, hs => by
    refine Ev.step (fun k => by rw [spec_plText.l0]) ?_
    refine Ev.neg (by omega) (Ev.now _)
  | d + 1, t, s, h0, h1, h2, hs => by
    have hn := num_size (n := t) h0 (by omega)
    have hz : (num t ++ (⟨#[58]⟩ : ByteArray)).size = (num t).size + 1 := by rw [ByteArray.size_append]; rfl
    have w1 : wrap64 (t + 1) = t + 1 := by unfold wrap64; omega
    refine Ev.step (fun k => by rw [spec_plText.l0]) ?_
    refine Ev.pos (by omega) (Ev.bind (l1Num_num h0 (by omega)) (Ev.pos (by omega) (Ev.pos (by rw [hz]; omega) ?_)))
    have hr := plRow_size t w 0 (s ++ (num t ++ (⟨#[58]⟩ : ByteArray))) (by omega) (by omega)
    rw [ByteArray.size_append, hz] at hr
    refine spec_row w pp t hw _ w [] _ rfl (by rw [ByteArray.size_append, hz]; omega) ?_
    rw [w1]
    exact plTx_ev w pp hw d (t + 1) _ (by omega) (by omega) h2 (by rw [ByteArray.size_append, show (⟨#[10]⟩ : ByteArray).size = 1 from rfl]; show (plRow t w 0 _).size + 1 + _ ≤ _; omega)

theorem impl_row (w : List Int) (pp t : Int) (hw : w.length ≤ 120) (r : ByteArray) : ∀ (suf pre : List Int) (s : ByteArray), w = pre ++ suf → s.size + 4 * suf.length ≤ 100000 → Ev (fun k => impl_planText.l0 k (plRow t suf (pre.length : Int) s ++ (⟨#[10]⟩ : ByteArray)) (wrap64 (t + 1)) pp w) r → Ev (fun k => impl_planText.l1 k s t w (w.length : Int) (pre.length : Int) pp w) r := by
  intro suf
  induction suf with
  | nil =>
    intro pre s he hs h
    rw [List.append_nil] at he
    refine Ev.step (fun k => by rw [impl_planText.l1]) ?_
    refine Ev.neg (by rw [he]; omega) (Ev.pos (by simp at hs; omega) h)
  | cons x suf ih =>
    intro pre s he hs h
    have hlen : w.length = pre.length + suf.length + 1 := by rw [he]; simp; omega
    have hrd : rd w (pre.length : Int) = x := by rw [he]; exact rd_mid pre x suf
    have hn := num_size (n := (pre.length : Int)) (nn _) (by omega)
    rw [List.length_cons] at hs
    have hz : ((⟨#[32]⟩ : ByteArray) ++ num (pre.length : Int)).size = 1 + (num (pre.length : Int)).size := by rw [ByteArray.size_append]; rfl
    have step := fun s' => ih (pre ++ [x]) s' (by rw [he]; simp)
    refine Ev.step (fun k => by rw [impl_planText.l1]) ?_
    refine Ev.pos (by omega) (Ev.pos (nn _) (Ev.pos (by omega) ?_))
    rw [hrd, wr_nat pre.length 1000 (by omega) (by omega)]
    unfold plRow at h
    refine Ev.cases (fun c => ?_) (fun c => ?_)
    · rw [if_pos c] at h
      refine Ev.bind (itoa_num (nn _) (by omega)) (Ev.pos (by omega) (Ev.pos (by rw [hz]; omega) ?_))
      have := step (s ++ ((⟨#[32]⟩ : ByteArray) ++ num (pre.length : Int))) (by rw [ByteArray.size_append, hz]; omega) (by simpa using h)
      simpa using this
    · rw [if_neg c] at h
      have := step s (by omega) (by simpa using h)
      simpa using this

theorem planTx_ev (w : List Int) (pp : Int) (hw : w.length ≤ 120) : ∀ (d : Nat) (t : Int) (s : ByteArray), 0 ≤ t → t + (d : Int) = pp → pp ≤ 100 → s.size + d * 600 ≤ 90000 → Ev (fun k => impl_planText.l0 k s t pp w) (plTx w d t s)
  | 0, t, s, h0, h1, h2, hs => by
    refine Ev.step (fun k => by rw [impl_planText.l0]) ?_
    refine Ev.neg (by omega) (Ev.now _)
  | d + 1, t, s, h0, h1, h2, hs => by
    have hn := num_size (n := t) h0 (by omega)
    have hz : (num t ++ (⟨#[58]⟩ : ByteArray)).size = (num t).size + 1 := by rw [ByteArray.size_append]; rfl
    have w1 : wrap64 (t + 1) = t + 1 := by unfold wrap64; omega
    refine Ev.step (fun k => by rw [impl_planText.l0]) ?_
    refine Ev.pos (by omega) (Ev.bind (itoa_num h0 (by omega)) (Ev.pos (by omega) (Ev.pos (by rw [hz]; omega) ?_)))
    have hr := plRow_size t w 0 (s ++ (num t ++ (⟨#[58]⟩ : ByteArray))) (by omega) (by omega)
    rw [ByteArray.size_append, hz] at hr
    refine impl_row w pp t hw _ w [] _ rfl (by rw [ByteArray.size_append, hz]; omega) ?_
    rw [w1]
    exact planTx_ev w pp hw d (t + 1) _ (by omega) (by omega) h2 (by rw [ByteArray.size_append, show (⟨#[10]⟩ : ByteArray).size = 1 from rfl]; show (plRow t w 0 _).size + 1 + _ ≤ _; omega)

def ptxR (a : List (List Int)) (t v : List Int) (mi ml pe nu de pp : Int) (w : List Int) : ByteArray × Bool := if jobOk a t v mi ml pe nu de = true ∧ planOk a pe pp w = true then (plTx w pp.toNat 0 (⟨#[]⟩ : ByteArray), true) else ((⟨#[]⟩ : ByteArray), false)

theorem spec_PlanText_ev (a : List (List Int)) (t v : List Int) (mi ml pe nu de pp : Int) (w : List Int) (S : JobSmall a t v) (hw : w.length < 9223372036854775807) : Ev (fun k => spec_PlanText.f k a t v mi ml pe nu de pp w) (ptxR a t v mi ml pe nu de pp w) := by
  unfold spec_PlanText.f ptxR
  refine Ev.bind (plBoth_ev a t v mi ml pe nu de pp w S hw) (Ev.cases (fun h => ?_) (fun h => Ev.cast (by rw [if_neg (fun e => h (by rw [e.1, e.2]; rfl))]) (Ev.now _)))
  rw [Bool.and_eq_true] at h
  rw [if_pos h]
  have J := JobIn.of h.1
  have P := PlanIn.of h.2
  have := J.pe; have := J.n2; have := P.pp; have := P.wl
  unfold spec_plText.f
  exact Ev.bind (plTx_ev w pp (by omega) pp.toNat 0 _ (Int.le_refl _) (by omega) (by omega) (by show 0 + _ ≤ _; omega)) (Ev.now _)

theorem impl_PlanText_ev (a : List (List Int)) (t v : List Int) (mi ml pe nu de pp : Int) (w : List Int) (S : JobSmall a t v) (hw : w.length < 9223372036854775807) : Ev (fun k => impl_PlanText.f k a t v mi ml pe nu de pp w) (ptxR a t v mi ml pe nu de pp w) := by
  unfold impl_PlanText.f ptxR
  refine Ev.bind (impl_IsJob_ev a t v mi ml pe nu de S.li' (by have := S.lt; omega)) (Ev.cases (fun h1 => ?_) (fun h1 => Ev.cast (by rw [if_neg (fun e => h1 e.1)]) (Ev.now _)))
  refine Ev.bind (isPlan_ev a t v mi ml pe nu de pp w hw) (Ev.cases (fun h2 => ?_) (fun h2 => Ev.cast (by rw [if_neg (fun e => h2 e.2)]) (Ev.now _)))
  rw [if_pos ⟨h1, h2⟩]
  have J := JobIn.of h1
  have P := PlanIn.of h2
  have := J.pe; have := J.n2; have := P.pp; have := P.wl
  unfold impl_planText.f
  exact Ev.bind (planTx_ev w pp (by omega) pp.toNat 0 _ (Int.le_refl _) (by omega) (by omega) (by show 0 + _ ≤ _; omega)) (Ev.now _)

theorem FnExactPlanText (a : List (List Int)) (t v : List Int) (mi ml pe nu de pp : Int) (w : List Int) (ha : a.length ≤ maxLen) (hi : ∀ z ∈ a, z.length ≤ maxLen) (_ : ∀ z ∈ a, okI .i64 z) (ht : t.length ≤ maxLen) (_ : okI .i64 t) (hv : v.length ≤ maxLen) (_ : okI .i64 v)
    (_ : (Lit.int .i64 mi).wf = true) (_ : (Lit.int .i64 ml).wf = true) (_ : (Lit.int .i64 pe).wf = true) (_ : (Lit.int .i64 nu).wf = true) (_ : (Lit.int .i64 de).wf = true) (_ : (Lit.int .i64 pp).wf = true) (hw : w.length ≤ maxLen) (_ : okI .i64 w) : ∃ k, laws_FnExactPlanText.f k a t v mi ml pe nu de pp w = some true := by
  refine Ev.ex (g := fun k => laws_FnExactPlanText.f k a t v mi ml pe nu de pp w) ?_
  unfold laws_FnExactPlanText.f
  obtain ⟨r, hr, hr1, hb⟩ := szJob_ev a t v mi ml pe nu de 1048576 (by omega) (by omega) ha hi ht hv
  refine Ev.bind hr (Ev.cases (fun _ => Ev.now _) (fun h => ?_))
  have S := JobSmall.of (hb (by omega)) (by omega) (by omega)
  obtain ⟨q, hq, hq1, hqb⟩ := szPlan_eq pp w r (by omega) hr1 hw
  rw [hq]
  refine Ev.sbind (Ev.cases (fun _ => Ev.now _) (fun h2 => ?_))
  have hwl : w.length ≤ 1048576 := by have := hqb (by omega); omega
  have T := toJob_ev a t v mi ml pe nu de S.la S.li S.lt S.lv
  have U := toPlan_ev pp w hwl
  refine Ev.bind T (Ev.bind U (Ev.bind (spec_PlanText_ev a t v mi ml pe nu de pp w S (by omega)) (Ev.bind T (Ev.bind U (Ev.bind (impl_PlanText_ev a t v mi ml pe nu de pp w S (by omega)) (Ev.pos rfl ?_))))))
  refine Ev.step (fun k => by rw [laws_FnExactPlanText.j0]) ?_
  refine Ev.neg (by simp) ?_
  exact Ev.bind T (Ev.bind (eqJob_ev a t v mi ml pe nu de S.la S.li S.lt S.lv) (Ev.pos rfl (Ev.bind U (Ev.bind (eqPlan_ev pp w hwl) (Ev.pos rfl (Ev.now _))))))

end Go.Proofs.YtjjbohacmmhddaaDoor.Pure

/- FnExactGreatestProfile over numbers and lists alone: what the program's text computes and what the reference's text computes is the same, for all arguments that the row lets in; no further condition. -/
import Derived.Test.YtgflhbfnhmofoaaPFnExactGreatestProfilex
import Derived.Test.YtgflhbfnhmofoaaGen
import Derived.Test.YtgflhbfnhmofoaaOpn
set_option linter.unusedVariables false
set_option linter.unusedSimpArgs false
namespace Go.Proofs.Ytgflhbfnhmofoaa.Pure
open Go.RowKit Go.Proofs.Ytgflhbfnhmofoaa.PFnExactGreatestProfile Go.Proofs.YtgflhbfnhmofoaaW.PrintWords Go.Proofs.YtgflhbfnhmofoaaW.PrintLast Go.Proofs.Ytgflhbfnhmofoaa.Gen Go.Proofs.Ytgflhbfnhmofoaa.Opn
theorem toIntS_l (x0 : List Int) (hx : x0.length < 9223372036854775807) : ∀ (suf pre : List Int), pre ++ suf = x0 →
    Ev (fun k => laws_toIntS.l0 k x0 (pre ++ List.replicate suf.length 0) (pre.length : Int)) x0 := by
  intro suf
  induction suf with
  | nil =>
    rintro pre rfl
    refine Ev.step (fun k => by rw [laws_toIntS.l0]) ?_
    refine Ev.neg (by simp) ?_
    refine Ev.cast (by simp) (Ev.now _)
  | cons x suf ih =>
    rintro pre rfl
    refine Ev.step (fun k => by rw [laws_toIntS.l0]) ?_
    refine Ev.pos (mid_lt _ _ _) (Ev.pos (nn _) (Ev.pos (by simp; omega) ?_))
    rw [wr_mid pre x suf _ rfl hx, rd_mid, List.length_cons, List.replicate_succ, set_mid]
    exact ih (pre ++ [x]) (by simp)

theorem toIntS_ev (x : List Int) (hx : x.length ≤ 35184372088832) : Ev (fun k => laws_toIntS.f k x) x := by
  unfold laws_toIntS.f
  refine Ev.pos (nn _) (Ev.pos (by simpa using hx) ?_)
  simpa using toIntS_l x (by omega) x [] rfl

theorem eqIntS_l (x0 x1 : List Int) (hx : x0.length < 9223372036854775807) (hl : x0.length = x1.length) : ∀ (d i : Nat), i + d = x0.length →
    Ev (fun k => laws_eqIntS.l0 k x0 x1 (i : Int)) (decide (x0.drop i = x1.drop i)) := by
  intro d
  induction d with
  | zero =>
    intro i hi
    refine Ev.step (fun k => by rw [laws_eqIntS.l0]) ?_
    refine Ev.neg (by omega) (Ev.cast ?_ (Ev.now _))
    rw [List.drop_eq_nil_of_le (by omega), List.drop_eq_nil_of_le (by omega)]; rfl
  | succ d ih =>
    intro i hi
    refine Ev.step (fun k => by rw [laws_eqIntS.l0]) ?_
    refine Ev.pos (by omega) (Ev.pos (nn _) (Ev.pos (by omega) ?_))
    rw [rd_get x0 i (by omega), rd_get x1 i (by omega), dr x0 i (by omega), dr x1 i (by omega)]
    refine Ev.cases (fun h => ?_) (fun h => ?_)
    · rw [wr_nat i _ (by omega) hx]
      refine Ev.cast ?_ (ih (i + 1) (by omega))
      simp only [List.cons.injEq, h, true_and]
    · refine Ev.cast ?_ (Ev.now _)
      simp only [List.cons.injEq, h, false_and, decide_false]

theorem eqIntS_ev (x y : List Int) (hx : x.length < 9223372036854775807) : Ev (fun k => laws_eqIntS.f k x y) (decide (x = y)) := by
  unfold laws_eqIntS.f
  refine Ev.cases (fun h => ?_) (fun h => ?_)
  · exact eqIntS_l x y hx (by omega) x.length 0 (by omega)
  · refine Ev.cast ?_ (Ev.now _)
    exact (decide_eq_false (fun e => h (by rw [e]))).symm

theorem l1In_eq (n a b : Int) : spec_l1In.f n a b = some (decide (a ≤ n ∧ n ≤ b)) := by
  unfold spec_l1In.f
  by_cases h : n ≥ a
  · rw [if_pos h]; simp [show a ≤ n from h]
  · rw [if_neg h]; simp [show ¬ a ≤ n from h]

def inB (a b : Int) (x : Int) : Bool := decide (a ≤ x ∧ x ≤ b)

theorem l1All_l (a b : Int) (xs : List Int) (hx : xs.length < 9223372036854775807) : ∀ (d i : Nat), i + d = xs.length →
    Ev (fun k => spec_l1All.l0 k a b xs (xs.length : Int) (i : Int)) ((xs.drop i).all (inB a b)) := by
  intro d
  induction d with
  | zero =>
    intro i hi
    refine Ev.step (fun k => by rw [spec_l1All.l0]) ?_
    refine Ev.neg (by omega) (Ev.cast ?_ (Ev.now _))
    rw [List.drop_eq_nil_of_le (by omega)]; rfl
  | succ d ih =>
    intro i hi
    refine Ev.step (fun k => by rw [spec_l1All.l0]) ?_
    refine Ev.pos (by omega) (Ev.pos (nn _) (Ev.pos (by omega) ?_))
    rw [rd_get xs i (by omega), dr xs i (by omega), l1In_eq]
    refine Ev.sbind (Ev.cases (fun h => ?_) (fun h => ?_))
    · rw [wr_nat i _ (by omega) hx]
      refine Ev.cast ?_ (ih (i + 1) (by omega))
      rw [List.all_cons, inB, h, Bool.true_and]
    · refine Ev.cast ?_ (Ev.now _)
      rw [List.all_cons, inB, bf h, Bool.false_and]

theorem l1All_ev (a b : Int) (xs : List Int) (hx : xs.length < 9223372036854775807) : Ev (fun k => spec_l1All.f k xs a b) (xs.all (inB a b)) := by
  unfold spec_l1All.f
  exact l1All_l a b xs hx xs.length 0 (by omega)

def markedI (n : Nat) (a : Int) : List Int := (List.range n).map fun i : Nat => a + (i : Int)

theorem markIntS_l (a : Int) (ha : 0 ≤ a) : ∀ (suf pre : List Int), pre = markedI pre.length a → a + (pre.length : Int) + (suf.length : Int) < 9223372036854775807 →
    Ev (fun k => laws_markIntS.l0 k (pre ++ suf) (a + (pre.length : Int)) (pre.length : Int)) (a + ((pre ++ suf).length : Int), markedI (pre ++ suf).length a) := by
  intro suf
  induction suf with
  | nil =>
    intro pre hp hb
    refine Ev.step (fun k => by rw [laws_markIntS.l0]) ?_
    refine Ev.neg (by simp) (Ev.cast ?_ (Ev.now _))
    rw [List.append_nil, ← hp]
  | cons x suf ih =>
    intro pre hp hb
    refine Ev.step (fun k => by rw [laws_markIntS.l0]) ?_
    refine Ev.pos (mid_lt _ _ _) (Ev.pos (nn _) ?_)
    rw [List.length_cons] at hb
    rw [wr_mid pre x suf _ rfl (by simp; omega), set_mid, wr _ (by omega) (by omega)]
    have := ih (pre ++ [a + (pre.length : Int)]) (by
      unfold markedI; rw [List.length_append, List.length_singleton, List.range_succ, List.map_append, List.map_singleton]; unfold markedI at hp; rw [← hp]) (by simp; omega)
    simp only [List.length_append, List.length_cons, List.length_nil] at this ⊢
    rw [show a + (pre.length : Int) + 1 = a + ((pre.length + (0 + 1) : Nat) : Int) by omega, show pre.length + (suf.length + 1) = pre.length + (0 + 1) + suf.length by omega]
    exact this

theorem markIntS_ev (x : List Int) (a : Int) (ha : 0 ≤ a) (hb : a + (x.length : Int) < 9223372036854775807) : Ev (fun k => laws_markIntS.f k x a) (a + (x.length : Int), markedI x.length a) := by
  unfold laws_markIntS.f
  simpa using markIntS_l a ha x [] rfl (by simpa using hb)

theorem heldIntS_l (a : Int) (ha : 0 ≤ a) (n : Nat) (hb : a + (n : Int) < 9223372036854775807) : ∀ (d i : Nat), i + d = n →
    Ev (fun k => laws_heldIntS.l0 k (markedI n a) (a + (i : Int)) (i : Int)) (a + (n : Int)) := by
  intro d
  have hl : (markedI n a).length = n := by simp [markedI]
  induction d with
  | zero =>
    intro i hi
    refine Ev.step (fun k => by rw [laws_heldIntS.l0]) ?_
    refine Ev.neg (by omega) (Ev.cast (by omega) (Ev.now _))
  | succ d ih =>
    intro i hi
    refine Ev.step (fun k => by rw [laws_heldIntS.l0]) ?_
    refine Ev.pos (by omega) (Ev.pos (nn _) ?_)
    rw [rd_get _ i (by omega)]
    refine Ev.pos (by simp [markedI]) ?_
    rw [wr_nat i n (by omega) (by omega), wr _ (by omega) (by omega), Int.add_assoc]
    exact ih (i + 1) (by omega)

theorem heldIntS_ev (n : Nat) (a : Int) (ha : 0 ≤ a) (hb : a + (n : Int) < 9223372036854775807) : Ev (fun k => laws_heldIntS.f k (markedI n a) a) (a + (n : Int)) := by
  unfold laws_heldIntS.f
  simpa using heldIntS_l a ha n hb n 0 (by omega)

theorem rdL1_get (xs : List (List Int)) (i : Nat) (h : i < xs.length) : rd_L1 xs (i : Int) = xs[i] := by
  unfold rd_L1; rw [Int.toNat_natCast]; simp [List.getD_eq_getElem?_getD, h]

theorem rdL1_mid (pre : List (List Int)) (x : List Int) (suf : List (List Int)) : rd_L1 (pre ++ x :: suf) (pre.length : Int) = x := by
  unfold rd_L1; rw [Int.toNat_natCast]; simp

theorem rdL1_zero (xs : List (List Int)) : rd_L1 xs 0 = xs.headD [] := by
  cases xs <;> rfl

theorem szIntS_eq (x : List Int) (left : Int) (h0 : 0 ≤ left) (h1 : left ≤ 1048576) (hx : x.length ≤ maxLen) : ∃ r, laws_szIntS.f x left = some r ∧ r ≤ 1048576 ∧ (0 ≤ r → r = left - x.length) := by
  unfold laws_szIntS.f
  unfold maxLen at hx
  rw [wr _ (by omega) (by omega)]
  by_cases h : left - (x.length : Int) < 0
  · rw [if_pos h]; exact ⟨-1, rfl, by omega, by omega⟩
  · rw [if_neg h]; exact ⟨_, rfl, by omega, fun _ => rfl⟩

def totL (xs : List (List Int)) : Nat := (xs.map List.length).sum

theorem szIntSS_l (x : List (List Int)) (hx : x.length < 9223372036854775807) (hi : ∀ z ∈ x, z.length ≤ maxLen) : ∀ (suf pre : List (List Int)) (left : Int), pre ++ suf = x → 0 ≤ left → left ≤ 1048576 →
    ∃ r, Ev (fun k => laws_szIntSS.l0 k x left (pre.length : Int)) r ∧ r ≤ 1048576 ∧ (0 ≤ r → r = left - totL suf) := by
  intro suf
  induction suf with
  | nil =>
    rintro pre left rfl h0 h1
    refine ⟨left, ?_, h1, fun _ => by simp [totL]⟩
    refine Ev.step (fun k => by rw [laws_szIntSS.l0]) ?_
    exact Ev.neg (by simp) (Ev.now _)
  | cons y suf ih =>
    rintro pre left rfl h0 h1
    obtain ⟨r, hr, hr1, hr2⟩ := szIntS_eq y left h0 h1 (hi y (by simp))
    by_cases h : r < 0
    · refine ⟨-1, ?_, by omega, by omega⟩
      refine Ev.step (fun k => by rw [laws_szIntSS.l0]) ?_
      refine Ev.pos (mid_lt _ _ _) (Ev.pos (nn _) ?_)
      rw [rdL1_mid, hr]
      exact Ev.sbind (Ev.pos h (Ev.now _))
    · obtain ⟨q, hq, hq1, hq2⟩ := ih (pre ++ [y]) r (by simp) (by omega) hr1
      refine ⟨q, ?_, hq1, fun hh => ?_⟩
      · refine Ev.step (fun k => by rw [laws_szIntSS.l0]) ?_
        refine Ev.pos (mid_lt _ _ _) (Ev.pos (nn _) ?_)
        rw [rdL1_mid, hr]
        refine Ev.sbind (Ev.neg h ?_)
        rw [wr_mid pre y suf _ rfl hx]
        exact hq
      · have a := hq2 hh
        have b := hr2 (by omega)
        simp only [totL, List.map_cons, List.sum_cons] at a ⊢
        omega

theorem szIntSS_ev (x : List (List Int)) (left : Int) (h0 : 0 ≤ left) (h1 : left ≤ 1048576) (hx : x.length ≤ maxLen) (hi : ∀ z ∈ x, z.length ≤ maxLen) :
    ∃ r, Ev (fun k => laws_szIntSS.f k x left) r ∧ r ≤ 1048576 ∧ (0 ≤ r → r = left - x.length - totL x) := by
  unfold laws_szIntSS.f
  have hx' := hx
  unfold maxLen at hx'
  rw [wr _ (by omega) (by omega)]
  by_cases h : left - (x.length : Int) < 0
  · exact ⟨-1, Ev.pos h (Ev.now _), by omega, by omega⟩
  · obtain ⟨r, hr, a, b⟩ := szIntSS_l x (by omega) hi x [] (left - x.length) rfl (by omega) (by omega)
    exact ⟨r, Ev.neg h hr, a, b⟩

theorem tot_mem {xs : List (List Int)} {z : List Int} (h : z ∈ xs) : z.length ≤ totL xs := by
  induction xs with
  | nil => cases h
  | cons y ys ih =>
    rcases List.mem_cons.1 h with rfl | h
    · simp [totL]
    · have := ih h
      simp only [totL, List.map_cons, List.sum_cons] at this ⊢
      omega

theorem toIntSS_l (x0 : List (List Int)) (hx : x0.length < 9223372036854775807) (hi : ∀ z ∈ x0, z.length ≤ 1048576) : ∀ (suf pre : List (List Int)), pre ++ suf = x0 →
    Ev (fun k => laws_toIntSS.l0 k x0 (pre ++ List.replicate suf.length []) (pre.length : Int)) x0 := by
  intro suf
  induction suf with
  | nil =>
    rintro pre rfl
    refine Ev.step (fun k => by rw [laws_toIntSS.l0]) ?_
    refine Ev.neg (by simp) ?_
    refine Ev.cast (by simp) (Ev.now _)
  | cons x suf ih =>
    rintro pre rfl
    refine Ev.step (fun k => by rw [laws_toIntSS.l0]) ?_
    refine Ev.pos (mid_lt _ _ _) (Ev.pos (nn _) ?_)
    rw [rdL1_mid]
    refine Ev.bind (toIntS_ev x (by have := hi x (by simp); omega)) (Ev.pos (by simp; omega) ?_)
    rw [wr_mid pre x suf _ rfl hx, List.length_cons, List.replicate_succ, set_mid]
    exact ih (pre ++ [x]) (by simp)

theorem toIntSS_ev (x : List (List Int)) (hx : x.length ≤ 1048576) (hi : ∀ z ∈ x, z.length ≤ 1048576) : Ev (fun k => laws_toIntSS.f k x) x := by
  unfold laws_toIntSS.f
  refine Ev.pos (nn _) (Ev.pos (by rw [Int.toNat_natCast]; omega) ?_)
  simpa using toIntSS_l x (by omega) hi x [] rfl

theorem eqIntSS_l (x0 : List (List Int)) (hx : x0.length < 9223372036854775807) (hi : ∀ z ∈ x0, z.length ≤ 1048576) : ∀ (d i : Nat), i + d = x0.length → Ev (fun k => laws_eqIntSS.l0 k x0 x0 (i : Int)) true := by
  intro d
  induction d with
  | zero =>
    intro i hi
    refine Ev.step (fun k => by rw [laws_eqIntSS.l0]) ?_
    exact Ev.neg (by omega) (Ev.now _)
  | succ d ih =>
    intro i hd
    refine Ev.step (fun k => by rw [laws_eqIntSS.l0]) ?_
    refine Ev.pos (by omega) (Ev.pos (nn _) (Ev.pos (by omega) ?_))
    rw [rdL1_get x0 i (by omega)]
    refine Ev.bind (eqIntS_ev _ _ (by have := hi x0[i] (List.getElem_mem _); omega)) (Ev.pos (by simp) ?_)
    rw [wr_nat i _ (by omega) hx]
    exact ih (i + 1) (by omega)

theorem eqIntSS_ev (x : List (List Int)) (hx : x.length ≤ 1048576) (hi : ∀ z ∈ x, z.length ≤ 1048576) : Ev (fun k => laws_eqIntSS.f k x x) true := by
  unfold laws_eqIntSS.f
  exact Ev.pos rfl (eqIntSS_l x (by omega) hi x.length 0 (by omega))

def secCol (n : Nat) (c : List Int) : Bool := decide (c.length = n) && decide (1 ≤ c.length ∧ c.length ≤ 6) && c.all (inB (-1000000) 1000000)

def secOk (v : List (List Int)) : Bool := decide (1 ≤ v.length ∧ v.length ≤ 8) && v.all (secCol (v.headD []).length)

theorem goodValues_ev (c : List Int) : Ev (fun k => impl_goodValues.f k c) (decide (1 ≤ c.length ∧ c.length ≤ 120) && c.all (inB (-1000000) 1000000)) := by
  unfold impl_goodValues.f
  have J : ∀ b : Bool, b = true → ∀ r, r = false → Ev (fun k => impl_goodValues.j0 k c b) r := by
    rintro b rfl r rfl
    exact Ev.step (fun k => by rw [impl_goodValues.j0]) (Ev.pos rfl (Ev.now _))
  refine Ev.cases (fun h => J _ rfl _ (by rw [decide_eq_false (by omega)]; rfl)) (fun h1 => ?_)
  by_cases h2 : (c.length : Int) > 120
  · exact J _ (decide_eq_true h2) _ (by rw [decide_eq_false (by omega)]; rfl)
  · rw [decide_eq_false h2]
    refine Ev.step (fun k => by rw [impl_goodValues.j0]) (Ev.neg (by simp) ?_)
    rw [decide_eq_true (by omega), Bool.true_and]
    have key : ∀ (d i : Nat), i + d = c.length → Ev (fun k => impl_goodValues.l0 k c (c.length : Int) (i : Int)) ((c.drop i).all (inB (-1000000) 1000000)) := by
      intro d
      induction d with
      | zero =>
        intro i hi
        refine Ev.step (fun k => by rw [impl_goodValues.l0]) ?_
        refine Ev.neg (by omega) (Ev.cast ?_ (Ev.now _))
        rw [dr0 _ _ (by omega)]; rfl
      | succ d ih =>
        intro i hi
        refine Ev.step (fun k => by rw [impl_goodValues.l0]) ?_
        refine Ev.pos (by omega) (Ev.pos (nn _) (Ev.pos (by omega) ?_))
        rw [rd_get c i (by omega), dr c i (by omega), List.all_cons]
        unfold inB
        refine Ev.cases (fun h => Ev.cast (by rw [decide_eq_false (by omega)]; rfl) (Ev.now _)) (fun h1 => ?_)
        refine Ev.cases (fun h => Ev.cast (by rw [decide_eq_false (by omega)]; rfl) (Ev.now _)) (fun h2 => ?_)
        rw [wr_nat i _ (by omega) (by omega : c.length < _), decide_eq_true (by omega), Bool.true_and]
        exact ih (i + 1) (by omega)
    exact key c.length 0 (by omega)

theorem IsSection_ev (v : List (List Int)) : Ev (fun k => impl_IsSection.f k v) (secOk v) := by
  unfold impl_IsSection.f secOk
  have J : ∀ b : Bool, b = true → ∀ r, r = false → Ev (fun k => impl_IsSection.j0 k v b) r := by
    rintro b rfl r rfl
    exact Ev.step (fun k => by rw [impl_IsSection.j0]) (Ev.pos rfl (Ev.now _))
  refine Ev.cases (fun h => J _ rfl _ (by rw [decide_eq_false (by omega)]; rfl)) (fun h1 => ?_)
  refine Ev.cases (fun h => J _ rfl _ (by rw [decide_eq_false (by omega)]; rfl)) (fun h2 => ?_)
  refine Ev.pos (by omega) ?_
  rw [rdL1_zero, decide_eq_true (show 1 ≤ v.length ∧ v.length ≤ 8 by omega), Bool.true_and]
  have hne : v ≠ [] := by intro e; subst e; exact h1 (by simp)
  have hh : ∀ r : Bool, (secCol (v.headD []).length (v.headD []) = false → r = false) → (¬ (1 ≤ (v.headD []).length ∧ (v.headD []).length ≤ 6) → r = false) := by
    intro r hr hn
    apply hr
    unfold secCol
    rw [decide_eq_false hn]; simp
  have hall : secCol (v.headD []).length (v.headD []) = false → v.all (secCol (v.headD []).length) = false := by
    intro h
    obtain ⟨c, cs, rfl⟩ := List.exists_cons_of_ne_nil hne
    rw [List.all_cons]
    simp only [List.headD_cons] at h ⊢
    rw [h]; rfl
  refine Ev.cases (fun h => J _ rfl _ (hh _ hall (by omega))) (fun h3 => ?_)
  by_cases h4 : ((v.headD []).length : Int) > 6
  · exact J _ (decide_eq_true h4) _ (hh _ hall (by omega))
  · rw [decide_eq_false h4]
    refine Ev.step (fun k => by rw [impl_IsSection.j0]) (Ev.neg (by simp) ?_)
    have key : ∀ (d i : Nat), i + d = v.length → Ev (fun k => impl_IsSection.l0 k v v (v.length : Int) (i : Int)) ((v.drop i).all (secCol (v.headD []).length)) := by
      intro d
      induction d with
      | zero =>
        intro i hi
        refine Ev.step (fun k => by rw [impl_IsSection.l0]) ?_
        refine Ev.neg (by omega) (Ev.cast ?_ (Ev.now _))
        rw [dr0 _ _ (by omega)]; rfl
      | succ d ih =>
        intro i hi
        refine Ev.step (fun k => by rw [impl_IsSection.l0]) ?_
        refine Ev.pos (by omega) (Ev.pos (nn _) (Ev.pos (by omega) (Ev.pos (by omega) ?_)))
        rw [rdL1_get v i (by omega), dr v i (by omega), List.all_cons, rdL1_zero]
        refine Ev.cases (fun h5 => ?_) (fun h => Ev.cast (by unfold secCol; rw [decide_eq_false (show ¬ v[i].length = (v.headD []).length by omega)]; rfl) (Ev.now _))
        refine Ev.bind (goodValues_ev _) (Ev.cases (fun h6 => ?_) (fun h => Ev.cast (by
          unfold secCol
          rw [decide_eq_true (show v[i].length = _ by omega), decide_eq_true (show 1 ≤ v[i].length ∧ v[i].length ≤ 6 by omega), Bool.true_and]
          rw [decide_eq_true (show 1 ≤ v[i].length ∧ v[i].length ≤ 120 by omega), Bool.true_and] at h
          rw [bf h]; rfl) (Ev.now _)))
        rw [wr_nat i _ (by omega) (by omega : v.length < _)]
        refine Ev.cast ?_ (ih (i + 1) (by omega))
        rw [Bool.and_eq_true] at h6
        rw [secCol, decide_eq_true (show v[i].length = _ by omega), decide_eq_true (show 1 ≤ v[i].length ∧ v[i].length ≤ 6 by omega), h6.2]; rfl
    exact key v.length 0 (by omega)

theorem seGood_ev (v : List (List Int)) (hv : v.length < 9223372036854775807) (hi : ∀ z ∈ v, z.length < 9223372036854775807) : Ev (fun k => spec_seGood.f k v) (secOk v) := by
  unfold spec_seGood.f secOk
  have key : ∀ (d i : Nat), i + d = v.length → Ev (fun k => spec_seGood.l0 k v v (v.length : Int) (i : Int)) (decide (1 ≤ v.length ∧ v.length ≤ 8) && (v.drop i).all (secCol (v.headD []).length)) := by
    intro d
    induction d with
    | zero =>
      intro i hi
      refine Ev.step (fun k => by rw [spec_seGood.l0]) ?_
      refine Ev.neg (by omega) ?_
      rw [dr0 _ _ (by omega), l1In_eq]
      refine Ev.sbind (Ev.cast ?_ (Ev.now _))
      rw [List.all_nil, Bool.and_true]
      exact decide_eq_decide.2 (by omega)
    | succ d ih =>
      intro i hd
      refine Ev.step (fun k => by rw [spec_seGood.l0]) ?_
      refine Ev.pos (by omega) (Ev.pos (nn _) (Ev.pos (by omega) (Ev.pos (by omega) ?_)))
      rw [rdL1_get v i (by omega), dr v i (by omega), List.all_cons, rdL1_zero, l1In_eq]
      refine Ev.cases (fun h5 => ?_) (fun h => Ev.cast (by unfold secCol; rw [decide_eq_false (show ¬ v[i].length = (v.headD []).length by omega)]; simp) (Ev.now _))
      refine Ev.sbind (Ev.cases (fun h6 => ?_) (fun h => Ev.cast (by
        unfold secCol
        rw [decide_eq_false (show ¬ (1 ≤ v[i].length ∧ v[i].length ≤ 6) by have := of_decide_eq_false (bf h); omega)]; simp) (Ev.now _)))
      have h6' := of_decide_eq_true h6
      refine Ev.bind (l1All_ev _ _ _ (hi _ (List.getElem_mem _))) (Ev.cases (fun h7 => ?_) (fun h => Ev.cast (by unfold secCol; rw [bf h]; simp) (Ev.now _)))
      rw [wr_nat i _ (by omega) hv]
      refine Ev.cast ?_ (ih (i + 1) (by omega))
      rw [secCol, decide_eq_true (show v[i].length = _ by omega), decide_eq_true (show 1 ≤ v[i].length ∧ v[i].length ≤ 6 by omega), h7]; rfl
  exact key v.length 0 (by omega)

def depOk (v : List (List Int)) (p : List Int) : Bool := decide (p.length = v.length) && p.all (inB 0 (v.headD []).length)

theorem abs_eq (n : Int) (h1 : -1000000000 ≤ n) (h2 : n ≤ 1000000000) : impl_abs.f n = some (if n ≤ 0 then -n else n) := by
  unfold impl_abs.f mx
  rw [wr _ (by omega) (by omega)]
  congr 1
  split <;> split <;> omega

theorem l1Least_eq (a b : Int) : spec_l1Least.f a b = some (if a ≤ b then a else b) := by
  unfold spec_l1Least.f
  by_cases h : a < b
  · rw [if_pos h, if_pos (by omega)]
  · rw [if_neg h]; split <;> congr 1; omega

theorem areDepths_ev (v : List (List Int)) (p : List Int) (hv : v.length < 9223372036854775807) (hv0 : 0 < v.length) : Ev (fun k => impl_areDepths.f k v p) (depOk v p) := by
  unfold impl_areDepths.f depOk
  refine Ev.cases (fun h => ?_) (fun h => Ev.cast (by rw [decide_eq_false (by omega)]; rfl) (Ev.now _))
  rw [decide_eq_true (show p.length = v.length by omega), Bool.true_and]
  have key : ∀ (d i : Nat), i + d = p.length → Ev (fun k => impl_areDepths.l0 k v p (p.length : Int) (i : Int)) ((p.drop i).all (inB 0 (v.headD []).length)) := by
    intro d
    induction d with
    | zero =>
      intro i hi
      refine Ev.step (fun k => by rw [impl_areDepths.l0]) ?_
      refine Ev.neg (by omega) (Ev.cast ?_ (Ev.now _))
      rw [dr0 _ _ (by omega)]; rfl
    | succ d ih =>
      intro i hi
      refine Ev.step (fun k => by rw [impl_areDepths.l0]) ?_
      refine Ev.pos (by omega) (Ev.pos (nn _) (Ev.pos (by omega) ?_))
      rw [rd_get p i (by omega), dr p i (by omega), List.all_cons, rdL1_zero]
      unfold inB
      refine Ev.cases (fun h => Ev.cast (by rw [decide_eq_false (show ¬ (0 ≤ p[i] ∧ p[i] ≤ ((v.headD []).length : Int)) by omega)]; rfl) (Ev.now _)) (fun h1 => ?_)
      refine Ev.pos (by omega) ?_
      refine Ev.cases (fun h => Ev.cast (by rw [decide_eq_false (show ¬ (0 ≤ p[i] ∧ p[i] ≤ ((v.headD []).length : Int)) by omega)]; rfl) (Ev.now _)) (fun h2 => ?_)
      rw [wr_nat i _ (by omega) (by omega : p.length < _), decide_eq_true (show 0 ≤ p[i] ∧ p[i] ≤ ((v.headD []).length : Int) by omega), Bool.true_and]
      exact ih (i + 1) (by omega)
  exact key p.length 0 (by omega)

theorem dep_at {v : List (List Int)} {p : List Int} (h : depOk v p = true) (i : Nat) (hi : i < p.length) : 0 ≤ p[i] ∧ p[i] ≤ ((v.headD []).length : Int) := by
  unfold depOk at h
  rw [Bool.and_eq_true, List.all_eq_true] at h
  exact of_decide_eq_true (h.2 _ (List.getElem_mem hi))

theorem depLen {v : List (List Int)} {p : List Int} (h : depOk v p = true) : p.length = v.length := by
  unfold depOk at h
  rw [Bool.and_eq_true] at h
  exact of_decide_eq_true h.1

theorem secOk_parts {v : List (List Int)} (hs : secOk v = true) : 1 ≤ v.length ∧ v.length ≤ 8 ∧ (1 ≤ (v.headD []).length ∧ (v.headD []).length ≤ 6) ∧ ∀ i (h : i < v.length), v[i].length = (v.headD []).length ∧ v[i].all (inB (-1000000) 1000000) = true := by
  unfold secOk at hs
  rw [Bool.and_eq_true, List.all_eq_true] at hs
  have h1 := of_decide_eq_true hs.1
  have h2 : ∀ c ∈ v, c.length = (v.headD []).length ∧ (1 ≤ c.length ∧ c.length ≤ 6) ∧ c.all (inB (-1000000) 1000000) = true := by
    intro c hc
    have := hs.2 c hc
    unfold secCol at this
    simp only [Bool.and_eq_true, decide_eq_true_eq] at this
    exact ⟨this.1.1, this.1.2, this.2⟩
  have h3 : v.headD [] ∈ v := by
    match v, h1 with
    | c :: cs, _ => simp
  exact ⟨h1.1, h1.2, (h2 _ h3).2.1, fun i h => ⟨(h2 _ (List.getElem_mem h)).1, (h2 _ (List.getElem_mem h)).2.2⟩⟩

theorem seDepths_ev (v : List (List Int)) (p : List Int) (hv0 : 0 < v.length) (hp : p.length < 9223372036854775807) : Ev (fun k => spec_seDepths.f k v p) (depOk v p) := by
  unfold spec_seDepths.f depOk
  refine Ev.cases (fun h => ?_) (fun h => Ev.cast (by rw [decide_eq_false (by omega)]; rfl) (Ev.now _))
  refine Ev.pos (by omega) ?_
  rw [decide_eq_true (show p.length = v.length by omega), Bool.true_and, rdL1_zero]
  exact Ev.bind (l1All_ev _ _ _ hp) (Ev.now _)

theorem gD {α : Type} (xs : List α) (d : α) (i : Nat) (h : i < xs.length) : xs.getD i d = xs[i] := by
  rw [List.getD_eq_getElem?_getD, List.getElem?_eq_getElem h]; rfl

def marks (n : Nat) (l : List Int) : List Bool := (List.range n).map fun i : Nat => decide ((i : Int) ∈ l)

def marksSS : List (List Int) → Int → List (List Int)
  | [], _ => []
  | x :: xs, a => markedI x.length a :: marksSS xs (a + (x.length : Int))

theorem marksSS_len (xs : List (List Int)) (a : Int) : (marksSS xs a).length = xs.length := by
  induction xs generalizing a with
  | nil => rfl
  | cons x xs ih => rw [marksSS, List.length_cons, ih, List.length_cons]

theorem marksSS_snoc (xs : List (List Int)) (x : List Int) (a : Int) : marksSS (xs ++ [x]) a = marksSS xs a ++ [markedI x.length (a + (totL xs : Int))] := by
  induction xs generalizing a with
  | nil => simp [marksSS, totL]
  | cons y ys ih =>
    rw [List.cons_append, marksSS, ih, marksSS, List.cons_append]
    have : a + (y.length : Int) + (totL ys : Int) = a + (totL (y :: ys) : Int) := by simp [totL]; omega
    rw [this]

theorem totL_snoc (xs : List (List Int)) (x : List Int) : totL (xs ++ [x]) = totL xs + x.length := by simp [totL]

theorem mid_set {α : Type} (pre : List α) (a b : α) (suf : List α) (i : Nat) (h : pre.length = i) : (pre ++ a :: suf).set i b = pre ++ b :: suf := by
  subst h
  rw [List.set_append_right _ _ (Nat.le_refl _), Nat.sub_self, List.set_cons_zero]

theorem mid_get (pre : List Int) (a : Int) (suf : List Int) (i : Nat) (h : pre.length = i) : rd (pre ++ a :: suf) (i : Int) = a := by
  subst h
  exact rd_mid pre a suf

def gpAt (p : List Int) (c k : Nat) : Int := p.getD k 0 + (if c ≤ k then (k : Int) - (c : Int) else (c : Int) - (k : Int))

def gpBest (p : List Int) (c : Nat) : Nat → Int
  | 0 => p.getD c 0
  | j + 1 => if gpBest p c j > gpAt p c j then gpAt p c j else gpBest p c j

def gpIs (p : List Int) (n c : Nat) (x : Int) : Prop := (∀ k, k < n → gpAt p c k ≥ x) ∧ ∃ k, k < n ∧ x = gpAt p c k

theorem gpIs_unique {p : List Int} {n c : Nat} {x y : Int} (hx : gpIs p n c x) (hy : gpIs p n c y) : x = y := by
  obtain ⟨h1, k1, hk1, e1⟩ := hx
  obtain ⟨h2, k2, hk2, e2⟩ := hy
  have a := h1 k2 hk2
  have b := h2 k1 hk1
  omega

theorem gpBest_is (p : List Int) (n c : Nat) (hc : c < n) : gpIs p n c (gpBest p c n) := by
  have key : ∀ j, j ≤ n → (∀ k, k < j → gpAt p c k ≥ gpBest p c j) ∧ p.getD c 0 ≥ gpBest p c j ∧ ∃ k, k < n ∧ gpBest p c j = gpAt p c k := by
    intro j
    induction j with
    | zero => intro _; exact ⟨fun k hk => absurd hk (by omega), by simp [gpBest], c, hc, by simp [gpBest, gpAt]⟩
    | succ j ih =>
      intro hj
      obtain ⟨h1, h2, k, hk, h3⟩ := ih (by omega)
      rw [gpBest]
      split
      · rename_i h
        refine ⟨fun q hq => ?_, by omega, j, by omega, rfl⟩
        by_cases e : q = j
        · subst e; omega
        · have := h1 q (by omega); omega
      · rename_i h
        refine ⟨fun q hq => ?_, h2, k, hk, h3⟩
        by_cases e : q = j
        · subst e; omega
        · exact h1 q (by omega)
  obtain ⟨h1, _, h3⟩ := key n (Nat.le_refl _)
  exact ⟨h1, h3⟩

def gpF (p : List Int) : Nat → Int
  | 0 => p.getD 0 0
  | i + 1 => if gpF p i + 1 ≥ p.getD (i + 1) 0 then p.getD (i + 1) 0 else gpF p i + 1

theorem gpF_is (p : List Int) : ∀ i : Nat, (∀ k, k ≤ i → p.getD k 0 + ((i : Int) - (k : Int)) ≥ gpF p i) ∧ ∃ k, k ≤ i ∧ gpF p i = p.getD k 0 + ((i : Int) - (k : Int)) := by
  intro i
  induction i with
  | zero => exact ⟨fun k hk => by obtain rfl : k = 0 := by omega
                                  simp [gpF], 0, Nat.le_refl _, by simp [gpF]⟩
  | succ i ih =>
    obtain ⟨h1, k, hk, h2⟩ := ih
    rw [gpF]
    split
    · rename_i h
      refine ⟨fun q hq => ?_, i + 1, Nat.le_refl _, by omega⟩
      by_cases e : q = i + 1
      · subst e; omega
      · have := h1 q (by omega); omega
    · rename_i h
      refine ⟨fun q hq => ?_, k, by omega, by omega⟩
      by_cases e : q = i + 1
      · subst e; omega
      · have := h1 q (by omega); omega

def gpG (p : List Int) (n : Nat) : Nat → Int
  | 0 => gpF p (n - 1)
  | d + 1 => if gpG p n d + 1 ≥ gpF p (n - 2 - d) then gpF p (n - 2 - d) else gpG p n d + 1

theorem gpG_is (p : List Int) (n : Nat) : ∀ d : Nat, d < n → gpIs p n (n - 1 - d) (gpG p n d) := by
  intro d
  induction d with
  | zero =>
    intro hd
    obtain ⟨h1, k, hk, h2⟩ := gpF_is p (n - 1)
    refine ⟨fun q hq => ?_, k, by omega, ?_⟩
    · have := h1 q (by omega)
      rw [gpG, gpAt]
      split <;> omega
    · rw [gpG, h2, gpAt]
      split <;> omega
  | succ d ih =>
    intro hd
    obtain ⟨g1, gk, ghk, g2⟩ := ih (by omega)
    obtain ⟨h1, k, hk, h2⟩ := gpF_is p (n - 2 - d)
    rw [show n - 1 - (d + 1) = n - 2 - d by omega, gpG]
    have low : ∀ q, q ≤ n - 2 - d → gpAt p (n - 2 - d) q ≥ gpF p (n - 2 - d) := by
      intro q hq
      have := h1 q hq
      rw [gpAt]
      split <;> omega
    have high : ∀ q, n - 2 - d < q → q < n → gpAt p (n - 2 - d) q ≥ gpG p n d + 1 := by
      intro q hq hq2
      have := g1 q hq2
      rw [gpAt, if_pos (by omega)] at this
      rw [gpAt, if_pos (by omega)]
      omega
    split
    · rename_i h
      refine ⟨fun q hq => ?_, k, by omega, ?_⟩
      · by_cases e : q ≤ n - 2 - d
        · exact low q e
        · have := high q (by omega) hq; omega
      · rw [h2, gpAt]
        split <;> omega
    · rename_i h
      refine ⟨fun q hq => ?_, gk, ghk, ?_⟩
      · by_cases e : q ≤ n - 2 - d
        · have := low q e; omega
        · exact high q (by omega) hq
      · by_cases e : gk ≤ n - 2 - d
        · have := h1 gk e
          rw [gpAt] at g2
          split at g2 <;> omega
        · rw [g2, gpAt, gpAt, if_pos (by omega), if_pos (by omega)]
          omega

def gpL (p : List Int) : List Int := (List.range p.length).map fun c => gpBest p c p.length

theorem gp_same (p : List Int) : (List.range p.length).map (fun i => gpG p p.length (p.length - 1 - i)) = gpL p := by
  unfold gpL
  refine List.map_congr_left (fun i hi => ?_)
  have hi := List.mem_range.1 hi
  have g := gpG_is p p.length (p.length - 1 - i) (by omega)
  rw [show p.length - 1 - (p.length - 1 - i) = i by omega] at g
  exact gpIs_unique g (gpBest_is p p.length i hi)

theorem gpF_small (p : List Int) (hp : ∀ i (h : i < p.length), 0 ≤ p[i] ∧ p[i] ≤ 6) (hl : p.length ≤ 8) (i : Nat) (hi : i < p.length) : -20 ≤ gpF p i ∧ gpF p i ≤ 20 := by
  obtain ⟨h1, k, hk, h2⟩ := gpF_is p i
  have := hp k (by omega)
  rw [gD p 0 k (by omega)] at h2
  omega

theorem gpG_small (p : List Int) (hp : ∀ i (h : i < p.length), 0 ≤ p[i] ∧ p[i] ≤ 6) (hl : p.length ≤ 8) (d : Nat) (hd : d < p.length) : -20 ≤ gpG p p.length d ∧ gpG p p.length d ≤ 20 := by
  obtain ⟨h1, k, hk, h2⟩ := gpG_is p p.length d hd
  have := hp k (by omega)
  rw [gpAt, gD p 0 k (by omega)] at h2
  split at h2 <;> omega

theorem gpBest_small (p : List Int) (hp : ∀ i (h : i < p.length), 0 ≤ p[i] ∧ p[i] ≤ 6) (hl : p.length ≤ 8) (c : Nat) (hc : c < p.length) : ∀ j, j ≤ p.length → -20 ≤ gpBest p c j ∧ gpBest p c j ≤ 20 := by
  intro j
  induction j with
  | zero => intro _; have := hp c hc; rw [gpBest, gD p 0 c hc]; omega
  | succ j ih =>
    intro hj
    have a := ih (by omega)
    have b := hp j (by omega)
    rw [gpBest, gpAt, gD p 0 j (by omega)]
    split <;> split <;> omega

theorem impl_GreatestProfile_l1 (p : List Int) (hp : ∀ i (h : i < p.length), 0 ≤ p[i] ∧ p[i] ≤ 6) (hl : p.length ≤ 8) (c : Nat) (hc : c < p.length) (pre : List Int) (hpre : pre.length = c) (r : List Int × Bool)
    (h : Ev (fun k => impl_GreatestProfile.l0 k p (pre ++ gpBest p c p.length :: p.drop (c + 1)) (p.length : Int) (wrap64 ((c : Int) + 1))) r) : ∀ (d j : Nat), j + d = p.length →
    Ev (fun k => impl_GreatestProfile.l1 k p (pre ++ gpBest p c j :: p.drop (c + 1)) (c : Int) (p.length : Int) (c : Int) p (p.length : Int) (j : Int)) r := by
  intro d
  induction d with
  | zero =>
    intro j hj
    refine Ev.step (fun k => by rw [impl_GreatestProfile.l1]) ?_
    refine Ev.neg (by omega) ?_
    rw [show j = p.length by omega]
    exact h
  | succ d ih =>
    intro j hj
    have e := ih (j + 1) (by omega)
    have b := hp j (by omega)
    have bs := gpBest_small p hp hl c hc j (by omega)
    have bs2 := gpBest_small p hp hl c hc (j + 1) (by omega)
    have hlen : (pre ++ gpBest p c j :: p.drop (c + 1)).length = p.length := by simp; omega
    refine Ev.step (fun k => by rw [impl_GreatestProfile.l1]) ?_
    rw [hlen, rd_get p j (by omega), mid_get pre _ _ c hpre, wr ((c : Int) - (j : Int)) (by omega) (by omega), abs_eq _ (by omega) (by omega), wr_nat j p.length (by omega) (by omega)]
    refine Ev.pos (by omega) (Ev.pos (nn _) (Ev.pos (by omega) (Ev.pos (nn _) (Ev.pos (by omega) (Ev.sbind ?_)))))
    have ea : wrap64 (p[j] + (if (c : Int) - (j : Int) ≤ 0 then -((c : Int) - (j : Int)) else (c : Int) - (j : Int))) = gpAt p c j := by
      rw [gpAt, gD p 0 j (by omega)]
      split <;> split <;> rw [wr _ (by omega) (by omega)] <;> omega
    rw [ea, Int.toNat_natCast, mid_set _ _ _ _ c hpre]
    have em : mn (gpBest p c j) (gpAt p c j) = gpBest p c (j + 1) := by
      rw [gpBest]; unfold mn; rfl
    rw [em]
    exact e

theorem impl_GreatestProfile_ev (v : List (List Int)) (p : List Int) : Ev (fun k => impl_GreatestProfile.f k v p) (if secOk v = true ∧ depOk v p = true then (gpL p, true) else ([], false)) := by
  unfold impl_GreatestProfile.f
  have J : ∀ b : Bool, b = true → ∀ r, r = ([], false) → Ev (fun k => impl_GreatestProfile.j0 k p b) r := by
    rintro b rfl r rfl
    exact Ev.step (fun k => by rw [impl_GreatestProfile.j0]) (Ev.pos rfl (Ev.now _))
  refine Ev.bind (IsSection_ev v) (Ev.cases (fun hs => ?_) (fun h => J _ rfl _ (by rw [if_neg (fun e => h e.1)])))
  obtain ⟨h0, h1, h2, h3⟩ := secOk_parts hs
  refine Ev.bind (areDepths_ev v p (by omega) (by omega)) ?_
  by_cases hd : depOk v p = true
  · rw [if_pos ⟨hs, hd⟩, hd]
    have hl := depLen hd
    have hp : ∀ i (h : i < p.length), 0 ≤ p[i] ∧ p[i] ≤ 6 := fun i h => by have := dep_at hd i h; omega
    refine Ev.step (fun k => by rw [impl_GreatestProfile.j0]) ?_
    refine Ev.neg (by simp) ?_
    refine Ev.sbind (Ev.pos (by simp; omega) (Ev.sbind ?_))
    rw [List.nil_append]
    have key : ∀ (d c : Nat), c + d = p.length → Ev (fun k => impl_GreatestProfile.l0 k p ((List.range c).map (fun c => gpBest p c p.length) ++ p.drop c) (p.length : Int) (c : Int)) (gpL p, true) := by
      intro d
      induction d with
      | zero =>
        intro c hc
        refine Ev.step (fun k => by rw [impl_GreatestProfile.l0]) ?_
        refine Ev.neg (by omega) (Ev.cast ?_ (Ev.now _))
        rw [dr0 _ _ (by omega), List.append_nil, gpL, show c = p.length by omega]
      | succ d ih =>
        intro c hc
        have e := ih (c + 1) (by omega)
        rw [List.range_succ, List.map_append, List.map_singleton, List.append_assoc, List.singleton_append, ← wr_nat c p.length (by omega) (by omega)] at e
        refine Ev.step (fun k => by rw [impl_GreatestProfile.l0]) ?_
        refine Ev.pos (by omega) ?_
        have e2 := impl_GreatestProfile_l1 p hp (by omega) c (by omega) ((List.range c).map fun c => gpBest p c p.length) (by simp) _ e p.length 0 (Nat.zero_add _)
        rw [show gpBest p c 0 = p[c] from gD p 0 c (by omega), ← dr p c (by omega)] at e2
        exact e2
    simpa using key p.length 0 (Nat.zero_add _)
  · rw [if_neg (fun e => hd e.2), bf hd]
    exact J _ rfl _ rfl

theorem spec_seLower_l1 (p : List Int) (hp : ∀ i (h : i < p.length), 0 ≤ p[i] ∧ p[i] ≤ 6) (hl : p.length ≤ 8) : ∀ (i d : Nat), i + d = p.length → 1 ≤ d →
    Ev (fun k => spec_seLower.l1 k ((List.range i).map (gpF p) ++ (List.range' i d).map (fun i => gpG p p.length (p.length - 1 - i))) ((i : Int) - 1)) (gpL p) := by
  intro i
  induction i with
  | zero =>
    intro d hd h1
    refine Ev.step (fun k => by rw [spec_seLower.l1]) ?_
    refine Ev.neg (by omega) (Ev.cast ?_ (Ev.now _))
    rw [← gp_same p, show d = p.length by omega, ← List.range_eq_range']; rfl
  | succ i ih =>
    intro d hd h1
    have e := ih (d + 1) (by omega) (by omega)
    have f := gpF_small p hp hl i (by omega)
    have g := gpG_small p hp hl (p.length - 1 - (i + 1)) (by omega)
    have hlen : ((List.range (i + 1)).map (gpF p) ++ (List.range' (i + 1) d).map (fun i => gpG p p.length (p.length - 1 - i))).length = p.length := by simp; omega
    have r0 : (List.range (i + 1)).map (gpF p) ++ (List.range' (i + 1) d).map (fun i => gpG p p.length (p.length - 1 - i)) = (List.range i).map (gpF p) ++ gpF p i :: (List.range' (i + 1) d).map (fun i => gpG p p.length (p.length - 1 - i)) := by
      rw [List.range_succ, List.map_append, List.map_singleton, List.append_assoc, List.singleton_append]
    have r1 : (List.range' (i + 1) d).map (fun i => gpG p p.length (p.length - 1 - i)) = gpG p p.length (p.length - 1 - (i + 1)) :: (List.range' (i + 2) (d - 1)).map (fun i => gpG p p.length (p.length - 1 - i)) := by
      obtain ⟨d', rfl⟩ : ∃ d', d = d' + 1 := ⟨d - 1, by omega⟩
      rw [List.range'_succ, List.map_cons]; rfl
    refine Ev.step (fun k => by rw [spec_seLower.l1]) ?_
    rw [hlen, show ((i + 1 : Nat) : Int) - 1 = (i : Int) by omega, wr_nat i p.length (by omega) (by omega), wr ((i : Int) - 1) (by omega) (by omega)]
    refine Ev.pos (by omega) (Ev.pos (by omega) (Ev.pos (by omega) (Ev.pos (by omega) (Ev.pos (by omega) ?_))))
    have q0 : rd ((List.range (i + 1)).map (gpF p) ++ (List.range' (i + 1) d).map (fun i => gpG p p.length (p.length - 1 - i))) (i : Int) = gpF p i := by
      rw [r0]; exact mid_get _ _ _ i (by simp)
    have q1 : rd ((List.range (i + 1)).map (gpF p) ++ (List.range' (i + 1) d).map (fun i => gpG p p.length (p.length - 1 - i))) ((i + 1 : Nat) : Int) = gpG p p.length (p.length - 1 - (i + 1)) := by
      rw [r1]; exact mid_get _ _ _ (i + 1) (by simp)
    rw [q0, q1, wr (gpG p p.length (p.length - 1 - (i + 1)) + 1) (by omega) (by omega), l1Least_eq]
    refine Ev.sbind ?_
    rw [Int.toNat_natCast, r0, mid_set _ _ _ _ i (by simp)]
    have eg : (if gpF p i ≤ gpG p p.length (p.length - 1 - (i + 1)) + 1 then gpF p i else gpG p p.length (p.length - 1 - (i + 1)) + 1) = gpG p p.length (p.length - 1 - i) := by
      rw [show p.length - 1 - i = (p.length - 1 - (i + 1)) + 1 by omega, gpG, show p.length - 2 - (p.length - 1 - (i + 1)) = i by omega]
      try split
      all_goals (try split)
      all_goals (try omega)
    rw [eg]
    rw [List.range'_succ, List.map_cons] at e
    exact e

theorem spec_seLower_l0 (p : List Int) (hp : ∀ i (h : i < p.length), 0 ≤ p[i] ∧ p[i] ≤ 6) (hl : p.length ≤ 8) (h0 : 1 ≤ p.length) : ∀ (d i : Nat), i + d = p.length → 1 ≤ i →
    Ev (fun k => spec_seLower.l0 k ((List.range i).map (gpF p) ++ p.drop i) (i : Int)) (gpL p) := by
  intro d
  induction d with
  | zero =>
    intro i hi h1
    refine Ev.step (fun k => by rw [spec_seLower.l0]) ?_
    have hlen : ((List.range i).map (gpF p) ++ p.drop i).length = p.length := by simp; omega
    rw [hlen]
    refine Ev.neg (by omega) ?_
    have e := spec_seLower_l1 p hp hl (p.length - 1) 1 (by omega) (by omega)
    have e3 : (List.range' (p.length - 1) 1).map (fun i => gpG p p.length (p.length - 1 - i)) = [gpF p (p.length - 1)] := by
      simp [gpG]
    rw [e3] at e
    rw [wr _ (by omega) (by omega), dr0 _ _ (by omega), List.append_nil, show i = (p.length - 1) + 1 by omega, List.range_succ, List.map_append, List.map_singleton]
    rw [show ((p.length - 1 : Nat) : Int) - 1 = (p.length : Int) - 2 by omega] at e
    exact e
  | succ d ih =>
    intro i hi h1
    have e := ih (i + 1) (by omega) (by omega)
    have f := gpF_small p hp hl (i - 1) (by omega)
    have b := hp i (by omega)
    have hlen : ((List.range i).map (gpF p) ++ p.drop i).length = p.length := by simp; omega
    refine Ev.step (fun k => by rw [spec_seLower.l0]) ?_
    have e1 : wrap64 ((i : Int) - 1) = ((i - 1 : Nat) : Int) := by rw [wr _ (by omega) (by omega)]; omega
    rw [hlen, e1, wr_nat i p.length (by omega) (by omega)]
    refine Ev.pos (by omega) (Ev.pos (nn _) (Ev.pos (nn _) (Ev.pos (by omega) ?_)))
    have r0 : (List.range i).map (gpF p) ++ p.drop i = (List.range i).map (gpF p) ++ p[i] :: p.drop (i + 1) := by rw [dr p i (by omega)]
    have q0 : rd ((List.range i).map (gpF p) ++ p.drop i) (i : Int) = p[i] := by rw [r0]; exact mid_get _ _ _ i (by simp)
    have q1 : rd ((List.range i).map (gpF p) ++ p.drop i) ((i - 1 : Nat) : Int) = gpF p (i - 1) := by
      rw [rd_nat, List.getD_eq_getElem?_getD, List.getElem?_append_left (by simp; omega), List.getElem?_map, List.getElem?_range (by omega)]; rfl
    rw [q0, q1, wr (gpF p (i - 1) + 1) (by omega) (by omega), l1Least_eq]
    refine Ev.sbind ?_
    rw [Int.toNat_natCast, r0, mid_set _ _ _ _ i (by simp)]
    have eg : (if p[i] ≤ gpF p (i - 1) + 1 then p[i] else gpF p (i - 1) + 1) = gpF p i := by
      obtain ⟨i', rfl⟩ : ∃ i', i = i' + 1 := ⟨i - 1, by omega⟩
      rw [gpF, gD p 0 (i' + 1) (by omega), Nat.add_sub_cancel]
      try split
      all_goals (try split)
      all_goals (try omega)
    rw [eg]
    rw [List.range_succ, List.map_append, List.map_singleton, List.append_assoc, List.singleton_append] at e
    exact e

theorem seLower_ev (v : List (List Int)) (p : List Int) (hs : secOk v = true) (hd : depOk v p = true) : Ev (fun k => spec_seLower.f k p) (gpL p) := by
  obtain ⟨h0, h1, h2, h3⟩ := secOk_parts hs
  have hl := depLen hd
  have hp : ∀ i (h : i < p.length), 0 ≤ p[i] ∧ p[i] ≤ 6 := fun i h => by have := dep_at hd i h; omega
  unfold spec_seLower.f spec_l1Own.f
  refine Ev.bind (a := p) (Ev.sbind (Ev.pos (by simp; omega) (Ev.now _))) ?_
  have e := spec_seLower_l0 p hp (by omega) (by omega) (p.length - 1) 1 (by omega) (by omega)
  have e2 : (List.range 1).map (gpF p) ++ p.drop 1 = p := by
    match p, hl with
    | [], hl => simp at hl; omega
    | a :: t, _ => simp [gpF]
  rw [e2] at e
  exact e

theorem spec_GreatestProfile_ev (v : List (List Int)) (p : List Int) (hv : v.length < 9223372036854775807) (hi : ∀ z ∈ v, z.length < 9223372036854775807) (hp : p.length < 9223372036854775807) : Ev (fun k => spec_GreatestProfile.f k v p) (if secOk v = true ∧ depOk v p = true then (gpL p, true) else ([], false)) := by
  unfold spec_GreatestProfile.f
  refine Ev.bind (seGood_ev v hv hi) (Ev.cases (fun hs => ?_) (fun h => Ev.cast (by rw [if_neg (fun e => h e.1)]) (Ev.now _)))
  obtain ⟨h0, h1, h2, h3⟩ := secOk_parts hs
  refine Ev.bind (seDepths_ev v p (by omega) hp) (Ev.cases (fun hd => ?_) (fun h => Ev.cast (by rw [if_neg (fun e => h e.2)]) (Ev.now _)))
  rw [if_pos ⟨hs, hd⟩]
  exact Ev.bind (seLower_ev v p hs hd) (Ev.now _)

theorem FnExactGreatestProfile (v : List (List Int)) (p : List Int) (h1 : v.length ≤ 1048576) (h2 : ∀ z ∈ v, z.length ≤ 1048576) (h3 : p.length ≤ 1048576) :
    ∃ r1 r2, Ev (fun k => spec_GreatestProfile.f k v p) (r1, r2) ∧ Ev (fun k => impl_GreatestProfile.f k v p) (r1, r2) ∧ r1.length ≤ 1048576 := by
  have a := spec_GreatestProfile_ev v p (by omega) (fun z hz => by have := h2 z hz; omega) (by omega)
  have b := impl_GreatestProfile_ev v p
  by_cases h : secOk v = true ∧ depOk v p = true
  · rw [if_pos h] at a b
    exact ⟨_, _, a, b, by simp [gpL]; omega⟩
  · rw [if_neg h] at a b
    exact ⟨_, _, a, b, by simp⟩

end Go.Proofs.Ytgflhbfnhmofoaa.Pure

/- FnExactProfileBlocks over numbers and lists alone: what the program's text computes and what the reference's text computes is the same, for all arguments that the row lets in; no further condition. -/
import Derived.Test.YtgflhbfnhmofoaaPFnExactProfileBlocksx
import Derived.Test.YtgflhbfnhmofoaaGen
import Derived.Test.YtgflhbfnhmofoaaOpn
set_option linter.unusedVariables false
set_option linter.unusedSimpArgs false
namespace Go.Proofs.Ytgflhbfnhmofoaa.Pure
open Go.RowKit Go.Proofs.Ytgflhbfnhmofoaa.PFnExactProfileBlocks Go.Proofs.YtgflhbfnhmofoaaW.PrintWords Go.Proofs.YtgflhbfnhmofoaaW.PrintLast Go.Proofs.Ytgflhbfnhmofoaa.Gen Go.Proofs.Ytgflhbfnhmofoaa.Opn
theorem toIntS_l (x0 : List Int) (hx : x0.length < 9223372036854775807) : ∀ (suf pre : List Int), pre ++ suf = x0 →
    Ev (fun k => laws_toIntS.l0 k x0 (pre ++ List.replicate suf.length 0) (pre.length : Int)) x0 := by
  intro suf
  induction suf with
  | nil =>
    rintro pre rfl
    refine Ev.step (fun k => by rw [laws_toIntS.l0]) ?_
    refine Ev.neg (by simp) ?_
    refine Ev.cast (by simp) (Ev.now _)
  | cons x suf ih =>
    rintro pre rfl
    refine Ev.step (fun k => by rw [laws_toIntS.l0]) ?_
    refine Ev.pos (mid_lt _ _ _) (Ev.pos (nn _) (Ev.pos (by simp; omega) ?_))
    rw [wr_mid pre x suf _ rfl hx, rd_mid, List.length_cons, List.replicate_succ, set_mid]
    exact ih (pre ++ [x]) (by simp)

theorem toIntS_ev (x : List Int) (hx : x.length ≤ 35184372088832) : Ev (fun k => laws_toIntS.f k x) x := by
  unfold laws_toIntS.f
  refine Ev.pos (nn _) (Ev.pos (by simpa using hx) ?_)
  simpa using toIntS_l x (by omega) x [] rfl

theorem eqIntS_l (x0 x1 : List Int) (hx : x0.length < 9223372036854775807) (hl : x0.length = x1.length) : ∀ (d i : Nat), i + d = x0.length →
    Ev (fun k => laws_eqIntS.l0 k x0 x1 (i : Int)) (decide (x0.drop i = x1.drop i)) := by
  intro d
  induction d with
  | zero =>
    intro i hi
    refine Ev.step (fun k => by rw [laws_eqIntS.l0]) ?_
    refine Ev.neg (by omega) (Ev.cast ?_ (Ev.now _))
    rw [List.drop_eq_nil_of_le (by omega), List.drop_eq_nil_of_le (by omega)]; rfl
  | succ d ih =>
    intro i hi
    refine Ev.step (fun k => by rw [laws_eqIntS.l0]) ?_
    refine Ev.pos (by omega) (Ev.pos (nn _) (Ev.pos (by omega) ?_))
    rw [rd_get x0 i (by omega), rd_get x1 i (by omega), dr x0 i (by omega), dr x1 i (by omega)]
    refine Ev.cases (fun h => ?_) (fun h => ?_)
    · rw [wr_nat i _ (by omega) hx]
      refine Ev.cast ?_ (ih (i + 1) (by omega))
      simp only [List.cons.injEq, h, true_and]
    · refine Ev.cast ?_ (Ev.now _)
      simp only [List.cons.injEq, h, false_and, decide_false]

theorem eqIntS_ev (x y : List Int) (hx : x.length < 9223372036854775807) : Ev (fun k => laws_eqIntS.f k x y) (decide (x = y)) := by
  unfold laws_eqIntS.f
  refine Ev.cases (fun h => ?_) (fun h => ?_)
  · exact eqIntS_l x y hx (by omega) x.length 0 (by omega)
  · refine Ev.cast ?_ (Ev.now _)
    exact (decide_eq_false (fun e => h (by rw [e]))).symm

theorem l1In_eq (n a b : Int) : spec_l1In.f n a b = some (decide (a ≤ n ∧ n ≤ b)) := by
  unfold spec_l1In.f
  by_cases h : n ≥ a
  · rw [if_pos h]; simp [show a ≤ n from h]
  · rw [if_neg h]; simp [show ¬ a ≤ n from h]

def inB (a b : Int) (x : Int) : Bool := decide (a ≤ x ∧ x ≤ b)

theorem l1All_l (a b : Int) (xs : List Int) (hx : xs.length < 9223372036854775807) : ∀ (d i : Nat), i + d = xs.length →
    Ev (fun k => spec_l1All.l0 k a b xs (xs.length : Int) (i : Int)) ((xs.drop i).all (inB a b)) := by
  intro d
  induction d with
  | zero =>
    intro i hi
    refine Ev.step (fun k => by rw [spec_l1All.l0]) ?_
    refine Ev.neg (by omega) (Ev.cast ?_ (Ev.now _))
    rw [List.drop_eq_nil_of_le (by omega)]; rfl
  | succ d ih =>
    intro i hi
    refine Ev.step (fun k => by rw [spec_l1All.l0]) ?_
    refine Ev.pos (by omega) (Ev.pos (nn _) (Ev.pos (by omega) ?_))
    rw [rd_get xs i (by omega), dr xs i (by omega), l1In_eq]
    refine Ev.sbind (Ev.cases (fun h => ?_) (fun h => ?_))
    · rw [wr_nat i _ (by omega) hx]
      refine Ev.cast ?_ (ih (i + 1) (by omega))
      rw [List.all_cons, inB, h, Bool.true_and]
    · refine Ev.cast ?_ (Ev.now _)
      rw [List.all_cons, inB, bf h, Bool.false_and]

theorem l1All_ev (a b : Int) (xs : List Int) (hx : xs.length < 9223372036854775807) : Ev (fun k => spec_l1All.f k xs a b) (xs.all (inB a b)) := by
  unfold spec_l1All.f
  exact l1All_l a b xs hx xs.length 0 (by omega)

def markedI (n : Nat) (a : Int) : List Int := (List.range n).map fun i : Nat => a + (i : Int)

theorem markIntS_l (a : Int) (ha : 0 ≤ a) : ∀ (suf pre : List Int), pre = markedI pre.length a → a + (pre.length : Int) + (suf.length : Int) < 9223372036854775807 →
    Ev (fun k => laws_markIntS.l0 k (pre ++ suf) (a + (pre.length : Int)) (pre.length : Int)) (a + ((pre ++ suf).length : Int), markedI (pre ++ suf).length a) := by
  intro suf
  induction suf with
  | nil =>
    intro pre hp hb
    refine Ev.step (fun k => by rw [laws_markIntS.l0]) ?_
    refine Ev.neg (by simp) (Ev.cast ?_ (Ev.now _))
    rw [List.append_nil, ← hp]
  | cons x suf ih =>
    intro pre hp hb
    refine Ev.step (fun k => by rw [laws_markIntS.l0]) ?_
    refine Ev.pos (mid_lt _ _ _) (Ev.pos (nn _) ?_)
    rw [List.length_cons] at hb
    rw [wr_mid pre x suf _ rfl (by simp; omega), set_mid, wr _ (by omega) (by omega)]
    have := ih (pre ++ [a + (pre.length : Int)]) (by
      unfold markedI; rw [List.length_append, List.length_singleton, List.range_succ, List.map_append, List.map_singleton]; unfold markedI at hp; rw [← hp]) (by simp; omega)
    simp only [List.length_append, List.length_cons, List.length_nil] at this ⊢
    rw [show a + (pre.length : Int) + 1 = a + ((pre.length + (0 + 1) : Nat) : Int) by omega, show pre.length + (suf.length + 1) = pre.length + (0 + 1) + suf.length by omega]
    exact this

theorem markIntS_ev (x : List Int) (a : Int) (ha : 0 ≤ a) (hb : a + (x.length : Int) < 9223372036854775807) : Ev (fun k => laws_markIntS.f k x a) (a + (x.length : Int), markedI x.length a) := by
  unfold laws_markIntS.f
  simpa using markIntS_l a ha x [] rfl (by simpa using hb)

theorem heldIntS_l (a : Int) (ha : 0 ≤ a) (n : Nat) (hb : a + (n : Int) < 9223372036854775807) : ∀ (d i : Nat), i + d = n →
    Ev (fun k => laws_heldIntS.l0 k (markedI n a) (a + (i : Int)) (i : Int)) (a + (n : Int)) := by
  intro d
  have hl : (markedI n a).length = n := by simp [markedI]
  induction d with
  | zero =>
    intro i hi
    refine Ev.step (fun k => by rw [laws_heldIntS.l0]) ?_
    refine Ev.neg (by omega) (Ev.cast (by omega) (Ev.now _))
  | succ d ih =>
    intro i hi
    refine Ev.step (fun k => by rw [laws_heldIntS.l0]) ?_
    refine Ev.pos (by omega) (Ev.pos (nn _) ?_)
    rw [rd_get _ i (by omega)]
    refine Ev.pos (by simp [markedI]) ?_
    rw [wr_nat i n (by omega) (by omega), wr _ (by omega) (by omega), Int.add_assoc]
    exact ih (i + 1) (by omega)

theorem heldIntS_ev (n : Nat) (a : Int) (ha : 0 ≤ a) (hb : a + (n : Int) < 9223372036854775807) : Ev (fun k => laws_heldIntS.f k (markedI n a) a) (a + (n : Int)) := by
  unfold laws_heldIntS.f
  simpa using heldIntS_l a ha n hb n 0 (by omega)

theorem rdL1_get (xs : List (List Int)) (i : Nat) (h : i < xs.length) : rd_L1 xs (i : Int) = xs[i] := by
  unfold rd_L1; rw [Int.toNat_natCast]; simp [List.getD_eq_getElem?_getD, h]

theorem rdL1_mid (pre : List (List Int)) (x : List Int) (suf : List (List Int)) : rd_L1 (pre ++ x :: suf) (pre.length : Int) = x := by
  unfold rd_L1; rw [Int.toNat_natCast]; simp

theorem rdL1_zero (xs : List (List Int)) : rd_L1 xs 0 = xs.headD [] := by
  cases xs <;> rfl

theorem szIntS_eq (x : List Int) (left : Int) (h0 : 0 ≤ left) (h1 : left ≤ 1048576) (hx : x.length ≤ maxLen) : ∃ r, laws_szIntS.f x left = some r ∧ r ≤ 1048576 ∧ (0 ≤ r → r = left - x.length) := by
  unfold laws_szIntS.f
  unfold maxLen at hx
  rw [wr _ (by omega) (by omega)]
  by_cases h : left - (x.length : Int) < 0
  · rw [if_pos h]; exact ⟨-1, rfl, by omega, by omega⟩
  · rw [if_neg h]; exact ⟨_, rfl, by omega, fun _ => rfl⟩

def totL (xs : List (List Int)) : Nat := (xs.map List.length).sum

theorem szIntSS_l (x : List (List Int)) (hx : x.length < 9223372036854775807) (hi : ∀ z ∈ x, z.length ≤ maxLen) : ∀ (suf pre : List (List Int)) (left : Int), pre ++ suf = x → 0 ≤ left → left ≤ 1048576 →
    ∃ r, Ev (fun k => laws_szIntSS.l0 k x left (pre.length : Int)) r ∧ r ≤ 1048576 ∧ (0 ≤ r → r = left - totL suf) := by
  intro suf
  induction suf with
  | nil =>
    rintro pre left rfl h0 h1
    refine ⟨left, ?_, h1, fun _ => by simp [totL]⟩
    refine Ev.step (fun k => by rw [laws_szIntSS.l0]) ?_
    exact Ev.neg (by simp) (Ev.now _)
  | cons y suf ih =>
    rintro pre left rfl h0 h1
    obtain ⟨r, hr, hr1, hr2⟩ := szIntS_eq y left h0 h1 (hi y (by simp))
    by_cases h : r < 0
    · refine ⟨-1, ?_, by omega, by omega⟩
      refine Ev.step (fun k => by rw [laws_szIntSS.l0]) ?_
      refine Ev.pos (mid_lt _ _ _) (Ev.pos (nn _) ?_)
      rw [rdL1_mid, hr]
      exact Ev.sbind (Ev.pos h (Ev.now _))
    · obtain ⟨q, hq, hq1, hq2⟩ := ih (pre ++ [y]) r (by simp) (by omega) hr1
      refine ⟨q, ?_, hq1, fun hh => ?_⟩
      · refine Ev.step (fun k => by rw [laws_szIntSS.l0]) ?_
        refine Ev.pos (mid_lt _ _ _) (Ev.pos (nn _) ?_)
        rw [rdL1_mid, hr]
        refine Ev.sbind (Ev.neg h ?_)
        rw [wr_mid pre y suf _ rfl hx]
        exact hq
      · have a := hq2 hh
        have b := hr2 (by omega)
        simp only [totL, List.map_cons, List.sum_cons] at a ⊢
        omega

theorem szIntSS_ev (x : List (List Int)) (left : Int) (h0 : 0 ≤ left) (h1 : left ≤ 1048576) (hx : x.length ≤ maxLen) (hi : ∀ z ∈ x, z.length ≤ maxLen) :
    ∃ r, Ev (fun k => laws_szIntSS.f k x left) r ∧ r ≤ 1048576 ∧ (0 ≤ r → r = left - x.length - totL x) := by
  unfold laws_szIntSS.f
  have hx' := hx
  unfold maxLen at hx'
  rw [wr _ (by omega) (by omega)]
  by_cases h : left - (x.length : Int) < 0
  · exact ⟨-1, Ev.pos h (Ev.now _), by omega, by omega⟩
  · obtain ⟨r, hr, a, b⟩ := szIntSS_l x (by omega) hi x [] (left - x.length) rfl (by omega) (by omega)
    exact ⟨r, Ev.neg h hr, a, b⟩

theorem tot_mem {xs : List (List Int)} {z : List Int} (h : z ∈ xs) : z.length ≤ totL xs := by
  induction xs with
  | nil => cases h
  | cons y ys ih =>
    rcases List.mem_cons.1 h with rfl | h
    · simp [totL]
    · have := ih h
      simp only [totL, List.map_cons, List.sum_cons] at this ⊢
      omega

theorem toIntSS_l (x0 : List (List Int)) (hx : x0.length < 9223372036854775807) (hi : ∀ z ∈ x0, z.length ≤ 1048576) : ∀ (suf pre : List (List Int)), pre ++ suf = x0 →
    Ev (fun k => laws_toIntSS.l0 k x0 (pre ++ List.replicate suf.length []) (pre.length : Int)) x0 := by
  intro suf
  induction suf with
  | nil =>
    rintro pre rfl
    refine Ev.step (fun k => by rw [laws_toIntSS.l0]) ?_
    refine Ev.neg (by simp) ?_
    refine Ev.cast (by simp) (Ev.now _)
  | cons x suf ih =>
    rintro pre rfl
    refine Ev.step (fun k => by rw [laws_toIntSS.l0]) ?_
    refine Ev.pos (mid_lt _ _ _) (Ev.pos (nn _) ?_)
    rw [rdL1_mid]
    refine Ev.bind (toIntS_ev x (by have := hi x (by simp); omega)) (Ev.pos (by simp; omega) ?_)
    rw [wr_mid pre x suf _ rfl hx, List.length_cons, List.replicate_succ, set_mid]
    exact ih (pre ++ [x]) (by simp)

theorem toIntSS_ev (x : List (List Int)) (hx : x.length ≤ 1048576) (hi : ∀ z ∈ x, z.length ≤ 1048576) : Ev (fun k => laws_toIntSS.f k x) x := by
  unfold laws_toIntSS.f
  refine Ev.pos (nn _) (Ev.pos (by rw [Int.toNat_natCast]; omega) ?_)
  simpa using toIntSS_l x (by omega) hi x [] rfl

theorem eqIntSS_l (x0 : List (List Int)) (hx : x0.length < 9223372036854775807) (hi : ∀ z ∈ x0, z.length ≤ 1048576) : ∀ (d i : Nat), i + d = x0.length → Ev (fun k => laws_eqIntSS.l0 k x0 x0 (i : Int)) true := by
  intro d
  induction d with
  | zero =>
    intro i hi
    refine Ev.step (fun k => by rw [laws_eqIntSS.l0]) ?_
    exact Ev.neg (by omega) (Ev.now _)
  | succ d ih =>
    intro i hd
    refine Ev.step (fun k => by rw [laws_eqIntSS.l0]) ?_
    refine Ev.pos (by omega) (Ev.pos (nn _) (Ev.pos (by omega) ?_))
    rw [rdL1_get x0 i (by omega)]
    refine Ev.bind (eqIntS_ev _ _ (by have := hi x0[i] (List.getElem_mem _); omega)) (Ev.pos (by simp) ?_)
    rw [wr_nat i _ (by omega) hx]
    exact ih (i + 1) (by omega)

theorem eqIntSS_ev (x : List (List Int)) (hx : x.length ≤ 1048576) (hi : ∀ z ∈ x, z.length ≤ 1048576) : Ev (fun k => laws_eqIntSS.f k x x) true := by
  unfold laws_eqIntSS.f
  exact Ev.pos rfl (eqIntSS_l x (by omega) hi x.length 0 (by omega))

def secCol (n : Nat) (c : List Int) : Bool := decide (c.length = n) && decide (1 ≤ c.length ∧ c.length ≤ 6) && c.all (inB (-1000000) 1000000)

def secOk (v : List (List Int)) : Bool := decide (1 ≤ v.length ∧ v.length ≤ 8) && v.all (secCol (v.headD []).length)

theorem goodValues_ev (c : List Int) : Ev (fun k => impl_goodValues.f k c) (decide (1 ≤ c.length ∧ c.length ≤ 120) && c.all (inB (-1000000) 1000000)) := by
  unfold impl_goodValues.f
  have J : ∀ b : Bool, b = true → ∀ r, r = false → Ev (fun k => impl_goodValues.j0 k c b) r := by
    rintro b rfl r rfl
    exact Ev.step (fun k => by rw [impl_goodValues.j0]) (Ev.pos rfl (Ev.now _))
  refine Ev.cases (fun h => J _ rfl _ (by rw [decide_eq_false (by omega)]; rfl)) (fun h1 => ?_)
  by_cases h2 : (c.length : Int) > 120
  · exact J _ (decide_eq_true h2) _ (by rw [decide_eq_false (by omega)]; rfl)
  · rw [decide_eq_false h2]
    refine Ev.step (fun k => by rw [impl_goodValues.j0]) (Ev.neg (by simp) ?_)
    rw [decide_eq_true (by omega), Bool.true_and]
    have key : ∀ (d i : Nat), i + d = c.length → Ev (fun k => impl_goodValues.l0 k c (c.length : Int) (i : Int)) ((c.drop i).all (inB (-1000000) 1000000)) := by
      intro d
      induction d with
      | zero =>
        intro i hi
        refine Ev.step (fun k => by rw [impl_goodValues.l0]) ?_
        refine Ev.neg (by omega) (Ev.cast ?_ (Ev.now _))
        rw [dr0 _ _ (by omega)]; rfl
      | succ d ih =>
        intro i hi
        refine Ev.step (fun k => by rw [impl_goodValues.l0]) ?_
        refine Ev.pos (by omega) (Ev.pos (nn _) (Ev.pos (by omega) ?_))
        rw [rd_get c i (by omega), dr c i (by omega), List.all_cons]
        unfold inB
        refine Ev.cases (fun h => Ev.cast (by rw [decide_eq_false (by omega)]; rfl) (Ev.now _)) (fun h1 => ?_)
        refine Ev.cases (fun h => Ev.cast (by rw [decide_eq_false (by omega)]; rfl) (Ev.now _)) (fun h2 => ?_)
        rw [wr_nat i _ (by omega) (by omega : c.length < _), decide_eq_true (by omega), Bool.true_and]
        exact ih (i + 1) (by omega)
    exact key c.length 0 (by omega)

theorem IsSection_ev (v : List (List Int)) : Ev (fun k => impl_IsSection.f k v) (secOk v) := by
  unfold impl_IsSection.f secOk
  have J : ∀ b : Bool, b = true → ∀ r, r = false → Ev (fun k => impl_IsSection.j0 k v b) r := by
    rintro b rfl r rfl
    exact Ev.step (fun k => by rw [impl_IsSection.j0]) (Ev.pos rfl (Ev.now _))
  refine Ev.cases (fun h => J _ rfl _ (by rw [decide_eq_false (by omega)]; rfl)) (fun h1 => ?_)
  refine Ev.cases (fun h => J _ rfl _ (by rw [decide_eq_false (by omega)]; rfl)) (fun h2 => ?_)
  refine Ev.pos (by omega) ?_
  rw [rdL1_zero, decide_eq_true (show 1 ≤ v.length ∧ v.length ≤ 8 by omega), Bool.true_and]
  have hne : v ≠ [] := by intro e; subst e; exact h1 (by simp)
  have hh : ∀ r : Bool, (secCol (v.headD []).length (v.headD []) = false → r = false) → (¬ (1 ≤ (v.headD []).length ∧ (v.headD []).length ≤ 6) → r = false) := by
    intro r hr hn
    apply hr
    unfold secCol
    rw [decide_eq_false hn]; simp
  have hall : secCol (v.headD []).length (v.headD []) = false → v.all (secCol (v.headD []).length) = false := by
    intro h
    obtain ⟨c, cs, rfl⟩ := List.exists_cons_of_ne_nil hne
    rw [List.all_cons]
    simp only [List.headD_cons] at h ⊢
    rw [h]; rfl
  refine Ev.cases (fun h => J _ rfl _ (hh _ hall (by omega))) (fun h3 => ?_)
  by_cases h4 : ((v.headD []).length : Int) > 6
  · exact J _ (decide_eq_true h4) _ (hh _ hall (by omega))
  · rw [decide_eq_false h4]
    refine Ev.step (fun k => by rw [impl_IsSection.j0]) (Ev.neg (by simp) ?_)
    have key : ∀ (d i : Nat), i + d = v.length → Ev (fun k => impl_IsSection.l0 k v v (v.length : Int) (i : Int)) ((v.drop i).all (secCol (v.headD []).length)) := by
      intro d
      induction d with
      | zero =>
        intro i hi
        refine Ev.step (fun k => by rw [impl_IsSection.l0]) ?_
        refine Ev.neg (by omega) (Ev.cast ?_ (Ev.now _))
        rw [dr0 _ _ (by omega)]; rfl
      | succ d ih =>
        intro i hi
        refine Ev.step (fun k => by rw [impl_IsSection.l0]) ?_
        refine Ev.pos (by omega) (Ev.pos (nn _) (Ev.pos (by omega) (Ev.pos (by omega) ?_)))
        rw [rdL1_get v i (by omega), dr v i (by omega), List.all_cons, rdL1_zero]
        refine Ev.cases (fun h5 => ?_) (fun h => Ev.cast (by unfold secCol; rw [decide_eq_false (show ¬ v[i].length = (v.headD []).length by omega)]; rfl) (Ev.now _))
        refine Ev.bind (goodValues_ev _) (Ev.cases (fun h6 => ?_) (fun h => Ev.cast (by
          unfold secCol
          rw [decide_eq_true (show v[i].length = _ by omega), decide_eq_true (show 1 ≤ v[i].length ∧ v[i].length ≤ 6 by omega), Bool.true_and]
          rw [decide_eq_true (show 1 ≤ v[i].length ∧ v[i].length ≤ 120 by omega), Bool.true_and] at h
          rw [bf h]; rfl) (Ev.now _)))
        rw [wr_nat i _ (by omega) (by omega : v.length < _)]
        refine Ev.cast ?_ (ih (i + 1) (by omega))
        rw [Bool.and_eq_true] at h6
        rw [secCol, decide_eq_true (show v[i].length = _ by omega), decide_eq_true (show 1 ≤ v[i].length ∧ v[i].length ≤ 6 by omega), h6.2]; rfl
    exact key v.length 0 (by omega)

theorem seGood_ev (v : List (List Int)) (hv : v.length < 9223372036854775807) (hi : ∀ z ∈ v, z.length < 9223372036854775807) : Ev (fun k => spec_seGood.f k v) (secOk v) := by
  unfold spec_seGood.f secOk
  have key : ∀ (d i : Nat), i + d = v.length → Ev (fun k => spec_seGood.l0 k v v (v.length : Int) (i : Int)) (decide (1 ≤ v.length ∧ v.length ≤ 8) && (v.drop i).all (secCol (v.headD []).length)) := by
    intro d
    induction d with
    | zero =>
      intro i hi
      refine Ev.step (fun k => by rw [spec_seGood.l0]) ?_
      refine Ev.neg (by omega) ?_
      rw [dr0 _ _ (by omega), l1In_eq]
      refine Ev.sbind (Ev.cast ?_ (Ev.now _))
      rw [List.all_nil, Bool.and_true]
      exact decide_eq_decide.2 (by omega)
    | succ d ih =>
      intro i hd
      refine Ev.step (fun k => by rw [spec_seGood.l0]) ?_
      refine Ev.pos (by omega) (Ev.pos (nn _) (Ev.pos (by omega) (Ev.pos (by omega) ?_)))
      rw [rdL1_get v i (by omega), dr v i (by omega), List.all_cons, rdL1_zero, l1In_eq]
      refine Ev.cases (fun h5 => ?_) (fun h => Ev.cast (by unfold secCol; rw [decide_eq_false (show ¬ v[i].length = (v.headD []).length by omega)]; simp) (Ev.now _))
      refine Ev.sbind (Ev.cases (fun h6 => ?_) (fun h => Ev.cast (by
        unfold secCol
        rw [decide_eq_false (show ¬ (1 ≤ v[i].length ∧ v[i].length ≤ 6) by have := of_decide_eq_false (bf h); omega)]; simp) (Ev.now _)))
      have h6' := of_decide_eq_true h6
      refine Ev.bind (l1All_ev _ _ _ (hi _ (List.getElem_mem _))) (Ev.cases (fun h7 => ?_) (fun h => Ev.cast (by unfold secCol; rw [bf h]; simp) (Ev.now _)))
      rw [wr_nat i _ (by omega) hv]
      refine Ev.cast ?_ (ih (i + 1) (by omega))
      rw [secCol, decide_eq_true (show v[i].length = _ by omega), decide_eq_true (show 1 ≤ v[i].length ∧ v[i].length ≤ 6 by omega), h7]; rfl
  exact key v.length 0 (by omega)

def depOk (v : List (List Int)) (p : List Int) : Bool := decide (p.length = v.length) && p.all (inB 0 (v.headD []).length)

def adjOk : List Int → Bool
  | a :: b :: t => decide (b - a ≤ 1 ∧ a - b ≤ 1) && adjOk (b :: t)
  | _ => true

theorem abs_eq (n : Int) (h1 : -1000000000 ≤ n) (h2 : n ≤ 1000000000) : impl_abs.f n = some (if n ≤ 0 then -n else n) := by
  unfold impl_abs.f mx
  rw [wr _ (by omega) (by omega)]
  congr 1
  split <;> split <;> omega

theorem l1Most_eq (a b : Int) : spec_l1Most.f a b = some (if a ≤ b then b else a) := by
  unfold spec_l1Most.f
  by_cases h : a > b
  · rw [if_pos h, if_neg (by omega)]
  · rw [if_neg h, if_pos (by omega)]

theorem l1Abs_eq (n : Int) (h1 : -1000000000 ≤ n) (h2 : n ≤ 1000000000) : spec_l1Abs.f n = some (if n ≤ 0 then -n else n) := by
  unfold spec_l1Abs.f
  rw [wr _ (by omega) (by omega), l1Most_eq, Option.bind_some]
  congr 1
  split <;> split <;> omega

theorem l1Abs_any (n : Int) : ∃ r, spec_l1Abs.f n = some r := by
  unfold spec_l1Abs.f
  rw [l1Most_eq]
  exact ⟨_, rfl⟩

theorem areDepths_ev (v : List (List Int)) (p : List Int) (hv : v.length < 9223372036854775807) (hv0 : 0 < v.length) : Ev (fun k => impl_areDepths.f k v p) (depOk v p) := by
  unfold impl_areDepths.f depOk
  refine Ev.cases (fun h => ?_) (fun h => Ev.cast (by rw [decide_eq_false (by omega)]; rfl) (Ev.now _))
  rw [decide_eq_true (show p.length = v.length by omega), Bool.true_and]
  have key : ∀ (d i : Nat), i + d = p.length → Ev (fun k => impl_areDepths.l0 k v p (p.length : Int) (i : Int)) ((p.drop i).all (inB 0 (v.headD []).length)) := by
    intro d
    induction d with
    | zero =>
      intro i hi
      refine Ev.step (fun k => by rw [impl_areDepths.l0]) ?_
      refine Ev.neg (by omega) (Ev.cast ?_ (Ev.now _))
      rw [dr0 _ _ (by omega)]; rfl
    | succ d ih =>
      intro i hi
      refine Ev.step (fun k => by rw [impl_areDepths.l0]) ?_
      refine Ev.pos (by omega) (Ev.pos (nn _) (Ev.pos (by omega) ?_))
      rw [rd_get p i (by omega), dr p i (by omega), List.all_cons, rdL1_zero]
      unfold inB
      refine Ev.cases (fun h => Ev.cast (by rw [decide_eq_false (show ¬ (0 ≤ p[i] ∧ p[i] ≤ ((v.headD []).length : Int)) by omega)]; rfl) (Ev.now _)) (fun h1 => ?_)
      refine Ev.pos (by omega) ?_
      refine Ev.cases (fun h => Ev.cast (by rw [decide_eq_false (show ¬ (0 ≤ p[i] ∧ p[i] ≤ ((v.headD []).length : Int)) by omega)]; rfl) (Ev.now _)) (fun h2 => ?_)
      rw [wr_nat i _ (by omega) (by omega : p.length < _), decide_eq_true (show 0 ≤ p[i] ∧ p[i] ≤ ((v.headD []).length : Int) by omega), Bool.true_and]
      exact ih (i + 1) (by omega)
  exact key p.length 0 (by omega)

theorem dep_at {v : List (List Int)} {p : List Int} (h : depOk v p = true) (i : Nat) (hi : i < p.length) : 0 ≤ p[i] ∧ p[i] ≤ ((v.headD []).length : Int) := by
  unfold depOk at h
  rw [Bool.and_eq_true, List.all_eq_true] at h
  exact of_decide_eq_true (h.2 _ (List.getElem_mem hi))

theorem adj_cons {a b : Int} {t : List Int} : adjOk (a :: b :: t) = (decide (b - a ≤ 1 ∧ a - b ≤ 1) && adjOk (b :: t)) := by rw [adjOk]

theorem adj_short (p : List Int) (h : p.length ≤ 1) : adjOk p = true := by
  match p, h with
  | [], _ => rfl
  | [a], _ => rfl
  | a :: b :: t, h => simp at h

theorem isProfile_l (p : List Int) (m : Int) (hm : m ≤ 1000) (hp : ∀ i (h : i < p.length), 0 ≤ p[i] ∧ p[i] ≤ m) (hl : p.length < 1000) : ∀ (d i : Nat), 1 ≤ i → p.length ≤ i + d → Ev (fun k => impl_isProfile.l0 k p (i : Int)) (adjOk (p.drop (i - 1))) := by
  intro d
  induction d with
  | zero =>
    intro i h1 hi
    refine Ev.step (fun k => by rw [impl_isProfile.l0]) ?_
    exact Ev.neg (by omega) (Ev.cast (adj_short _ (by rw [List.length_drop]; omega)).symm (Ev.now _))
  | succ d ih =>
    intro i h1 hi
    refine Ev.step (fun k => by rw [impl_isProfile.l0]) ?_
    refine Ev.cases (fun h => ?_) (fun h => Ev.cast (by rw [adj_short _ (by rw [List.length_drop]; omega)]) (Ev.now _))
    have e : wrap64 ((i : Int) - 1) = ((i - 1 : Nat) : Int) := by rw [wr _ (by omega) (by omega)]; omega
    rw [e]
    refine Ev.pos (nn _) (Ev.pos (nn _) (Ev.pos (by omega) ?_))
    have a := hp i (by omega)
    have b := hp (i - 1) (by omega)
    rw [rd_get p i (by omega), rd_get p (i - 1) (by omega), wr _ (by omega) (by omega), abs_eq _ (by omega) (by omega), dr p (i - 1) (by omega), show i - 1 + 1 = i by omega, dr p i (by omega), adj_cons]
    refine Ev.sbind (Ev.cases (fun h2 => Ev.cast ?_ (Ev.now _)) (fun h2 => ?_))
    · rw [decide_eq_false (by split at h2 <;> omega)]; rfl
    · rw [decide_eq_true (by split at h2 <;> omega), Bool.true_and, wr_nat i p.length (by omega) (by omega), ← dr p i (by omega)]
      exact ih (i + 1) (by omega) (by omega)

theorem depLen {v : List (List Int)} {p : List Int} (h : depOk v p = true) : p.length = v.length := by
  unfold depOk at h
  rw [Bool.and_eq_true] at h
  exact of_decide_eq_true h.1

theorem secOk_parts {v : List (List Int)} (hs : secOk v = true) : 1 ≤ v.length ∧ v.length ≤ 8 ∧ (1 ≤ (v.headD []).length ∧ (v.headD []).length ≤ 6) ∧ ∀ i (h : i < v.length), v[i].length = (v.headD []).length ∧ v[i].all (inB (-1000000) 1000000) = true := by
  unfold secOk at hs
  rw [Bool.and_eq_true, List.all_eq_true] at hs
  have h1 := of_decide_eq_true hs.1
  have h2 : ∀ c ∈ v, c.length = (v.headD []).length ∧ (1 ≤ c.length ∧ c.length ≤ 6) ∧ c.all (inB (-1000000) 1000000) = true := by
    intro c hc
    have := hs.2 c hc
    unfold secCol at this
    simp only [Bool.and_eq_true, decide_eq_true_eq] at this
    exact ⟨this.1.1, this.1.2, this.2⟩
  have h3 : v.headD [] ∈ v := by
    match v, h1 with
    | c :: cs, _ => simp
  exact ⟨h1.1, h1.2, (h2 _ h3).2.1, fun i h => ⟨(h2 _ (List.getElem_mem h)).1, (h2 _ (List.getElem_mem h)).2.2⟩⟩

theorem isProfile_ev (v : List (List Int)) (p : List Int) (hs : secOk v = true) : Ev (fun k => impl_isProfile.f k v p) (depOk v p && adjOk p) := by
  obtain ⟨h0, h1, h2, h3⟩ := secOk_parts hs
  unfold impl_isProfile.f
  refine Ev.bind (areDepths_ev v p (by omega) (by omega)) (Ev.cases (fun h => ?_) (fun h => Ev.cast (by rw [bf h]; rfl) (Ev.now _)))
  rw [h, Bool.true_and]
  exact isProfile_l p ((v.headD []).length : Int) (by omega) (fun i hi => dep_at h i hi) (by rw [depLen h]; omega) p.length 1 (by omega) (by omega)

theorem seDepths_ev (v : List (List Int)) (p : List Int) (hv0 : 0 < v.length) (hp : p.length < 9223372036854775807) : Ev (fun k => spec_seDepths.f k v p) (depOk v p) := by
  unfold spec_seDepths.f depOk
  refine Ev.cases (fun h => ?_) (fun h => Ev.cast (by rw [decide_eq_false (by omega)]; rfl) (Ev.now _))
  refine Ev.pos (by omega) ?_
  rw [decide_eq_true (show p.length = v.length by omega), Bool.true_and, rdL1_zero]
  exact Ev.bind (l1All_ev _ _ _ hp) (Ev.now _)

theorem seProfile_no (v : List (List Int)) (p : List Int) (hv0 : 0 < v.length) (hp : p.length < 9223372036854775807) (hd : depOk v p = false) : ∀ (d i : Nat), 1 ≤ i → p.length ≤ i + d → Ev (fun k => spec_seProfile.l0 k v p (i : Int)) false := by
  have fin : Ev (fun k => (spec_seDepths.f k v p).bind fun t => some t) false := Ev.bind (seDepths_ev v p hv0 hp) (Ev.cast hd (Ev.now _))
  intro d
  induction d with
  | zero =>
    intro i h1 hi
    refine Ev.step (fun k => by rw [spec_seProfile.l0]) ?_
    exact Ev.neg (by omega) fin
  | succ d ih =>
    intro i h1 hi
    refine Ev.step (fun k => by rw [spec_seProfile.l0]) ?_
    refine Ev.cases (fun h => ?_) (fun h => fin)
    have e : wrap64 ((i : Int) - 1) = ((i - 1 : Nat) : Int) := by rw [wr _ (by omega) (by omega)]; omega
    rw [e]
    obtain ⟨r, hr⟩ := l1Abs_any (wrap64 (rd p (i : Int) - rd p ((i - 1 : Nat) : Int)))
    rw [hr]
    refine Ev.pos (nn _) (Ev.pos (nn _) (Ev.pos (by omega) (Ev.sbind (Ev.cases (fun _ => Ev.now _) (fun _ => ?_)))))
    rw [wr_nat i p.length (by omega) (by omega)]
    exact ih (i + 1) (by omega) (by omega)

theorem seProfile_yes (v : List (List Int)) (p : List Int) (m : Int) (hm : m ≤ 1000) (hp : ∀ i (h : i < p.length), 0 ≤ p[i] ∧ p[i] ≤ m) (hl : p.length < 1000) (hv0 : 0 < v.length) (hd : depOk v p = true) : ∀ (d i : Nat), 1 ≤ i → p.length ≤ i + d → Ev (fun k => spec_seProfile.l0 k v p (i : Int)) (adjOk (p.drop (i - 1))) := by
  have fin : Ev (fun k => (spec_seDepths.f k v p).bind fun t => some t) true := Ev.bind (seDepths_ev v p hv0 (by omega)) (Ev.cast hd (Ev.now _))
  intro d
  induction d with
  | zero =>
    intro i h1 hi
    refine Ev.step (fun k => by rw [spec_seProfile.l0]) ?_
    refine Ev.neg (by omega) (Ev.cast ?_ fin)
    rw [adj_short _ (by rw [List.length_drop]; omega)]
  | succ d ih =>
    intro i h1 hi
    refine Ev.step (fun k => by rw [spec_seProfile.l0]) ?_
    refine Ev.cases (fun h => ?_) (fun h => Ev.cast (by rw [adj_short _ (by rw [List.length_drop]; omega)]) fin)
    have e : wrap64 ((i : Int) - 1) = ((i - 1 : Nat) : Int) := by rw [wr _ (by omega) (by omega)]; omega
    rw [e]
    refine Ev.pos (nn _) (Ev.pos (nn _) (Ev.pos (by omega) ?_))
    have a := hp i (by omega)
    have b := hp (i - 1) (by omega)
    rw [rd_get p i (by omega), rd_get p (i - 1) (by omega), wr _ (by omega) (by omega), l1Abs_eq _ (by omega) (by omega), dr p (i - 1) (by omega), show i - 1 + 1 = i by omega, dr p i (by omega), adj_cons]
    refine Ev.sbind (Ev.cases (fun h2 => Ev.cast ?_ (Ev.now _)) (fun h2 => ?_))
    · rw [decide_eq_false (by split at h2 <;> omega)]; rfl
    · rw [decide_eq_true (by split at h2 <;> omega), Bool.true_and, wr_nat i p.length (by omega) (by omega), ← dr p i (by omega)]
      exact ih (i + 1) (by omega) (by omega)

theorem seProfile_ev (v : List (List Int)) (p : List Int) (hs : secOk v = true) (hp : p.length < 9223372036854775807) : Ev (fun k => spec_seProfile.f k v p) (depOk v p && adjOk p) := by
  obtain ⟨h0, h1, h2, h3⟩ := secOk_parts hs
  unfold spec_seProfile.f
  cases hd : depOk v p with
  | false => exact seProfile_no v p (by omega) hp hd p.length 1 (by omega) (by omega)
  | true =>
    rw [Bool.true_and]
    exact seProfile_yes v p ((v.headD []).length : Int) (by omega) (fun i hi => dep_at hd i hi) (by rw [depLen hd]; omega) (by omega) hd p.length 1 (by omega) (by omega)

theorem gD {α : Type} (xs : List α) (d : α) (i : Nat) (h : i < xs.length) : xs.getD i d = xs[i] := by
  rw [List.getD_eq_getElem?_getD, List.getElem?_eq_getElem h]; rfl

def marks (n : Nat) (l : List Int) : List Bool := (List.range n).map fun i : Nat => decide ((i : Int) ∈ l)

def marksSS : List (List Int) → Int → List (List Int)
  | [], _ => []
  | x :: xs, a => markedI x.length a :: marksSS xs (a + (x.length : Int))

theorem marksSS_len (xs : List (List Int)) (a : Int) : (marksSS xs a).length = xs.length := by
  induction xs generalizing a with
  | nil => rfl
  | cons x xs ih => rw [marksSS, List.length_cons, ih, List.length_cons]

theorem marksSS_snoc (xs : List (List Int)) (x : List Int) (a : Int) : marksSS (xs ++ [x]) a = marksSS xs a ++ [markedI x.length (a + (totL xs : Int))] := by
  induction xs generalizing a with
  | nil => simp [marksSS, totL]
  | cons y ys ih =>
    rw [List.cons_append, marksSS, ih, marksSS, List.cons_append]
    have : a + (y.length : Int) + (totL ys : Int) = a + (totL (y :: ys) : Int) := by simp [totL]; omega
    rw [this]

theorem totL_snoc (xs : List (List Int)) (x : List Int) : totL (xs ++ [x]) = totL xs + x.length := by simp [totL]

def pbI (p : List Int) (w z : Nat) : Nat → List Int
  | 0 => []
  | i + 1 => pbI p w z i ++ (if (z : Int) < p.getD i 0 then [((z * w + i : Nat) : Int)] else [])

def pbL (p : List Int) (w : Nat) : Nat → List Int
  | 0 => []
  | z + 1 => pbL p w z ++ pbI p w z p.length

def pbR (v : List (List Int)) (p : List Int) : List Int × Bool := if secOk v = true ∧ depOk v p = true ∧ adjOk p = true then (pbL p v.length (v.headD []).length, true) else ([], false)

theorem pbI_len (p : List Int) (w z i : Nat) : (pbI p w z i).length ≤ i := by
  induction i with
  | zero => simp [pbI]
  | succ i ih => rw [pbI, List.length_append]; split <;> simp <;> omega

theorem pbL_small (p : List Int) (w z : Nat) (hz : z ≤ 6) (hp : p.length ≤ 8) : (pbL p w z).length ≤ 100 := by
  have : ∀ z, (pbL p w z).length ≤ z * 8 := by
    intro z
    induction z with
    | zero => simp [pbL]
    | succ z ih => have := pbI_len p w z p.length; rw [pbL, List.length_append]; omega
  have := this z
  omega

theorem spec_ProfileBlocks_l1 (v : List (List Int)) (p : List Int) (D z : Nat) (hz : z ≤ 6) (hv : v.length ≤ 8) (hp : p.length ≤ 8) (acc : List Int) (ha : acc.length ≤ 100) (r : List Int × Bool)
    (h : Ev (fun k => spec_ProfileBlocks.l0 k v p (acc ++ pbI p v.length z p.length) (D : Int) (wrap64 ((z : Int) + 1))) r) : ∀ (d i : Nat), i + d = p.length →
    Ev (fun k => spec_ProfileBlocks.l1 k v p (acc ++ pbI p v.length z i) (z : Int) (D : Int) (z : Int) p (p.length : Int) (i : Int)) r := by
  intro d
  induction d with
  | zero =>
    intro i hi
    obtain rfl : i = p.length := by omega
    refine Ev.step (fun k => by rw [spec_ProfileBlocks.l1]) ?_
    refine Ev.neg (by omega) ?_
    exact h
  | succ d ih =>
    intro i hi
    have e := ih (i + 1) (by omega)
    have hl := pbI_len p v.length z i
    refine Ev.step (fun k => by rw [spec_ProfileBlocks.l1]) ?_
    refine Ev.pos (by omega) (Ev.pos (nn _) (Ev.pos (by omega) ?_))
    rw [rd_get p i (by omega), wr_nat i p.length (by omega) (by omega)]
    have hm : z * v.length ≤ 6 * 8 := Nat.mul_le_mul hz hv
    have hw : wrap64 (wrap64 ((z : Int) * (v.length : Int)) + (i : Int)) = ((z * v.length + i : Nat) : Int) := by
      rw [← Int.natCast_mul]
      generalize z * v.length = m at hm
      rw [wr (m : Int) (by omega) (by omega), wr _ (by omega) (by omega)]; omega
    rw [pbI, gD p 0 i (by omega)] at e
    refine Ev.cases (fun h => Ev.pos (by simp; omega) ?_) (fun h => ?_)
    · rw [if_pos h, ← List.append_assoc] at e
      rw [hw]; exact e
    · rw [if_neg h, List.append_nil] at e
      exact e

theorem spec_ProfileBlocks_ev (v : List (List Int)) (p : List Int) (hv : v.length < 9223372036854775807) (hi : ∀ z ∈ v, z.length < 9223372036854775807) (hp : p.length < 9223372036854775807) : Ev (fun k => spec_ProfileBlocks.f k v p) (pbR v p) := by
  unfold spec_ProfileBlocks.f pbR
  have J : ∀ r, r = (([] : List Int), false) → Ev (fun k => spec_ProfileBlocks.j0 k v p true) r := by
    rintro r rfl
    exact Ev.step (fun k => by rw [spec_ProfileBlocks.j0]) (Ev.pos rfl (Ev.now _))
  refine Ev.bind (seGood_ev v hv hi) (Ev.cases (fun hs => ?_) (fun h => J _ (by rw [if_neg (fun e => h e.1)])))
  refine Ev.bind (seProfile_ev v p hs hp) ?_
  by_cases hd : (depOk v p && adjOk p) = true
  · rw [hd]
    rw [Bool.and_eq_true] at hd
    rw [if_pos ⟨hs, hd⟩]
    obtain ⟨h0, h1, h2, h3⟩ := secOk_parts hs
    have hl := depLen hd.1
    refine Ev.step (fun k => by rw [spec_ProfileBlocks.j0]) ?_
    refine Ev.neg (by simp) (Ev.pos (by omega) ?_)
    rw [rdL1_zero]
    have key : ∀ (d z : Nat), z + d = (v.headD []).length → Ev (fun k => spec_ProfileBlocks.l0 k v p (pbL p v.length z) ((v.headD []).length : Int) (z : Int)) (pbL p v.length (v.headD []).length, true) := by
      intro d
      induction d with
      | zero =>
        intro z hz
        refine Ev.step (fun k => by rw [spec_ProfileBlocks.l0]) ?_
        exact Ev.neg (by omega) (Ev.cast (by rw [← hz]; rfl) (Ev.now _))
      | succ d ih =>
        intro z hz
        refine Ev.step (fun k => by rw [spec_ProfileBlocks.l0]) ?_
        refine Ev.pos (by omega) ?_
        have hb : (pbL p v.length z).length ≤ 100 := pbL_small p _ z (by omega) (by omega)
        have e := ih (z + 1) (by omega)
        rw [pbL, ← wr_nat z (v.headD []).length (by omega) (by omega)] at e
        simpa [pbI] using spec_ProfileBlocks_l1 v p _ z (by omega) h1 (by omega) (pbL p v.length z) hb _ e p.length 0 (Nat.zero_add _)
    exact key _ 0 (Nat.zero_add _)
  · rw [bf hd]
    exact J _ (by rw [if_neg (fun e => hd (by rw [e.2.1, e.2.2]; rfl))])

theorem impl_ProfileBlocks_l1 (v : List (List Int)) (p : List Int) (D z : Nat) (hz : z ≤ 6) (hv : v.length ≤ 8) (hp : p.length ≤ 8) (acc : List Int) (ha : acc.length ≤ 100) (r : List Int × Bool)
    (h : Ev (fun k => impl_ProfileBlocks.l0 k v p (acc ++ pbI p v.length z p.length) (D : Int) (wrap64 ((z : Int) + 1))) r) : ∀ (d i : Nat), i + d = p.length →
    Ev (fun k => impl_ProfileBlocks.l1 k v p (acc ++ pbI p v.length z i) (z : Int) (D : Int) (z : Int) p (p.length : Int) (i : Int)) r := by
  intro d
  induction d with
  | zero =>
    intro i hi
    obtain rfl : i = p.length := by omega
    refine Ev.step (fun k => by rw [impl_ProfileBlocks.l1]) ?_
    refine Ev.neg (by omega) ?_
    exact h
  | succ d ih =>
    intro i hi
    have e := ih (i + 1) (by omega)
    have hl := pbI_len p v.length z i
    refine Ev.step (fun k => by rw [impl_ProfileBlocks.l1]) ?_
    refine Ev.pos (by omega) (Ev.pos (nn _) (Ev.pos (by omega) ?_))
    rw [rd_get p i (by omega), wr_nat i p.length (by omega) (by omega)]
    have hm : z * v.length ≤ 6 * 8 := Nat.mul_le_mul hz hv
    have hw : wrap64 (wrap64 ((z : Int) * (v.length : Int)) + (i : Int)) = ((z * v.length + i : Nat) : Int) := by
      rw [← Int.natCast_mul]
      generalize z * v.length = m at hm
      rw [wr (m : Int) (by omega) (by omega), wr _ (by omega) (by omega)]; omega
    rw [pbI, gD p 0 i (by omega)] at e
    refine Ev.cases (fun h => Ev.pos (by simp; omega) ?_) (fun h => ?_)
    · rw [if_pos h, ← List.append_assoc] at e
      rw [hw]; exact e
    · rw [if_neg h, List.append_nil] at e
      exact e

theorem impl_ProfileBlocks_ev (v : List (List Int)) (p : List Int) : Ev (fun k => impl_ProfileBlocks.f k v p) (pbR v p) := by
  unfold impl_ProfileBlocks.f pbR
  have J : ∀ r, r = (([] : List Int), false) → Ev (fun k => impl_ProfileBlocks.j0 k v p true) r := by
    rintro r rfl
    exact Ev.step (fun k => by rw [impl_ProfileBlocks.j0]) (Ev.pos rfl (Ev.now _))
  refine Ev.bind (IsSection_ev v) (Ev.cases (fun hs => ?_) (fun h => J _ (by rw [if_neg (fun e => h e.1)])))
  refine Ev.bind (isProfile_ev v p hs) ?_
  by_cases hd : (depOk v p && adjOk p) = true
  · rw [hd]
    rw [Bool.and_eq_true] at hd
    rw [if_pos ⟨hs, hd⟩]
    obtain ⟨h0, h1, h2, h3⟩ := secOk_parts hs
    have hl := depLen hd.1
    refine Ev.step (fun k => by rw [impl_ProfileBlocks.j0]) ?_
    refine Ev.neg (by simp) (Ev.pos (by omega) ?_)
    rw [rdL1_zero]
    have key : ∀ (d z : Nat), z + d = (v.headD []).length → Ev (fun k => impl_ProfileBlocks.l0 k v p (pbL p v.length z) ((v.headD []).length : Int) (z : Int)) (pbL p v.length (v.headD []).length, true) := by
      intro d
      induction d with
      | zero =>
        intro z hz
        refine Ev.step (fun k => by rw [impl_ProfileBlocks.l0]) ?_
        exact Ev.neg (by omega) (Ev.cast (by rw [← hz]; rfl) (Ev.now _))
      | succ d ih =>
        intro z hz
        refine Ev.step (fun k => by rw [impl_ProfileBlocks.l0]) ?_
        refine Ev.pos (by omega) ?_
        have hb : (pbL p v.length z).length ≤ 100 := pbL_small p _ z (by omega) (by omega)
        have e := ih (z + 1) (by omega)
        rw [pbL, ← wr_nat z (v.headD []).length (by omega) (by omega)] at e
        simpa [pbI] using impl_ProfileBlocks_l1 v p _ z (by omega) h1 (by omega) (pbL p v.length z) hb _ e p.length 0 (Nat.zero_add _)
    exact key _ 0 (Nat.zero_add _)
  · rw [bf hd]
    exact J _ (by rw [if_neg (fun e => hd (by rw [e.2.1, e.2.2]; rfl))])

theorem FnExactProfileBlocks (v : List (List Int)) (p : List Int) (h1 : v.length ≤ 1048576) (h2 : ∀ z ∈ v, z.length ≤ 1048576) (h3 : p.length ≤ 1048576) :
    ∃ r1 r2, Ev (fun k => spec_ProfileBlocks.f k v p) (r1, r2) ∧ Ev (fun k => impl_ProfileBlocks.f k v p) (r1, r2) ∧ r1.length ≤ 1048576 := by
  refine ⟨(pbR v p).1, (pbR v p).2, spec_ProfileBlocks_ev v p (by omega) (fun z hz => by have := h2 z hz; omega) (by omega), impl_ProfileBlocks_ev v p, ?_⟩
  unfold pbR
  split
  · rename_i hs
    obtain ⟨g0, g1, g2, g3⟩ := secOk_parts hs.1
    have hl := depLen hs.2.1
    exact Nat.le_trans (pbL_small _ _ _ (by omega) (by omega)) (by omega)
  · simp

end Go.Proofs.Ytgflhbfnhmofoaa.Pure

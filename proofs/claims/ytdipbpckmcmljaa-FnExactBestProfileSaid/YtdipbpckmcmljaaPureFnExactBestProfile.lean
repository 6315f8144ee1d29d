/- FnExactBestProfile over numbers and lists alone: what the program's text computes and what the reference's text computes is the same, for all arguments that the row lets in; no further condition. -/
import Derived.Test.YtdipbpckmcmljaaPFnExactBestProfilex
import Derived.Test.YtdipbpckmcmljaaGen
import Derived.Test.YtdipbpckmcmljaaOpn
set_option linter.unusedVariables false
set_option linter.unusedSimpArgs false
namespace Go.Proofs.Ytdipbpckmcmljaa.Pure
open Go.RowKit Go.Proofs.Ytdipbpckmcmljaa.PFnExactBestProfile Go.Proofs.YtdipbpckmcmljaaW.PrintWords Go.Proofs.YtdipbpckmcmljaaW.PrintLast Go.Proofs.Ytdipbpckmcmljaa.Gen Go.Proofs.Ytdipbpckmcmljaa.Opn
theorem toIntS_l (x0 : List Int) (hx : x0.length < 9223372036854775807) : ∀ (suf pre : List Int), pre ++ suf = x0 →
    Ev (fun k => laws_toIntS.l0 k x0 (pre ++ List.replicate suf.length 0) (pre.length : Int)) x0 := by
  intro suf
  induction suf with
  | nil =>
    rintro pre rfl
    refine Ev.step (fun k => by rw [laws_toIntS.l0]) ?_
    refine Ev.neg (by simp) ?_
    refine Ev.cast (by simp) (Ev.now _)
  | cons x suf ih =>
    rintro pre rfl
    refine Ev.step (fun k => by rw [laws_toIntS.l0]) ?_
    refine Ev.pos (mid_lt _ _ _) (Ev.pos (nn _) (Ev.pos (by simp; omega) ?_))
    rw [wr_mid pre x suf _ rfl hx, rd_mid, List.length_cons, List.replicate_succ, set_mid]
    exact ih (pre ++ [x]) (by simp)

theorem toIntS_ev (x : List Int) (hx : x.length ≤ 35184372088832) : Ev (fun k => laws_toIntS.f k x) x := by
  unfold laws_toIntS.f
  refine Ev.pos (nn _) (Ev.pos (by simpa using hx) ?_)
  simpa using toIntS_l x (by omega) x [] rfl

theorem eqIntS_l (x0 x1 : List Int) (hx : x0.length < 9223372036854775807) (hl : x0.length = x1.length) : ∀ (d i : Nat), i + d = x0.length →
    Ev (fun k => laws_eqIntS.l0 k x0 x1 (i : Int)) (decide (x0.drop i = x1.drop i)) := by
  intro d
  induction d with
  | zero =>
    intro i hi
    refine Ev.step (fun k => by rw [laws_eqIntS.l0]) ?_
    refine Ev.neg (by omega) (Ev.cast ?_ (Ev.now _))
    rw [List.drop_eq_nil_of_le (by omega), List.drop_eq_nil_of_le (by omega)]; rfl
  | succ d ih =>
    intro i hi
    refine Ev.step (fun k => by rw [laws_eqIntS.l0]) ?_
    refine Ev.pos (by omega) (Ev.pos (nn _) (Ev.pos (by omega) ?_))
    rw [rd_get x0 i (by omega), rd_get x1 i (by omega), dr x0 i (by omega), dr x1 i (by omega)]
    refine Ev.cases (fun h => ?_) (fun h => ?_)
    · rw [wr_nat i _ (by omega) hx]
      refine Ev.cast ?_ (ih (i + 1) (by omega))
      simp only [List.cons.injEq, h, true_and]
    · refine Ev.cast ?_ (Ev.now _)
      simp only [List.cons.injEq, h, false_and, decide_false]

theorem eqIntS_ev (x y : List Int) (hx : x.length < 9223372036854775807) : Ev (fun k => laws_eqIntS.f k x y) (decide (x = y)) := by
  unfold laws_eqIntS.f
  refine Ev.cases (fun h => ?_) (fun h => ?_)
  · exact eqIntS_l x y hx (by omega) x.length 0 (by omega)
  · refine Ev.cast ?_ (Ev.now _)
    exact (decide_eq_false (fun e => h (by rw [e]))).symm

theorem l1In_eq (n a b : Int) : spec_l1In.f n a b = some (decide (a ≤ n ∧ n ≤ b)) := by
  unfold spec_l1In.f
  by_cases h : n ≥ a
  · rw [if_pos h]; simp [show a ≤ n from h]
  · rw [if_neg h]; simp [show ¬ a ≤ n from h]

def inB (a b : Int) (x : Int) : Bool := decide (a ≤ x ∧ x ≤ b)

theorem l1All_l (a b : Int) (xs : List Int) (hx : xs.length < 9223372036854775807) : ∀ (d i : Nat), i + d = xs.length →
    Ev (fun k => spec_l1All.l0 k a b xs (xs.length : Int) (i : Int)) ((xs.drop i).all (inB a b)) := by
  intro d
  induction d with
  | zero =>
    intro i hi
    refine Ev.step (fun k => by rw [spec_l1All.l0]) ?_
    refine Ev.neg (by omega) (Ev.cast ?_ (Ev.now _))
    rw [List.drop_eq_nil_of_le (by omega)]; rfl
  | succ d ih =>
    intro i hi
    refine Ev.step (fun k => by rw [spec_l1All.l0]) ?_
    refine Ev.pos (by omega) (Ev.pos (nn _) (Ev.pos (by omega) ?_))
    rw [rd_get xs i (by omega), dr xs i (by omega), l1In_eq]
    refine Ev.sbind (Ev.cases (fun h => ?_) (fun h => ?_))
    · rw [wr_nat i _ (by omega) hx]
      refine Ev.cast ?_ (ih (i + 1) (by omega))
      rw [List.all_cons, inB, h, Bool.true_and]
    · refine Ev.cast ?_ (Ev.now _)
      rw [List.all_cons, inB, bf h, Bool.false_and]

theorem l1All_ev (a b : Int) (xs : List Int) (hx : xs.length < 9223372036854775807) : Ev (fun k => spec_l1All.f k xs a b) (xs.all (inB a b)) := by
  unfold spec_l1All.f
  exact l1All_l a b xs hx xs.length 0 (by omega)

def markedI (n : Nat) (a : Int) : List Int := (List.range n).map fun i : Nat => a + (i : Int)

theorem markIntS_l (a : Int) (ha : 0 ≤ a) : ∀ (suf pre : List Int), pre = markedI pre.length a → a + (pre.length : Int) + (suf.length : Int) < 9223372036854775807 →
    Ev (fun k => laws_markIntS.l0 k (pre ++ suf) (a + (pre.length : Int)) (pre.length : Int)) (a + ((pre ++ suf).length : Int), markedI (pre ++ suf).length a) := by
  intro suf
  induction suf with
  | nil =>
    intro pre hp hb
    refine Ev.step (fun k => by rw [laws_markIntS.l0]) ?_
    refine Ev.neg (by simp) (Ev.cast ?_ (Ev.now _))
    rw [List.append_nil, ← hp]
  | cons x suf ih =>
    intro pre hp hb
    refine Ev.step (fun k => by rw [laws_markIntS.l0]) ?_
    refine Ev.pos (mid_lt _ _ _) (Ev.pos (nn _) ?_)
    rw [List.length_cons] at hb
    rw [wr_mid pre x suf _ rfl (by simp; omega), set_mid, wr _ (by omega) (by omega)]
    have := ih (pre ++ [a + (pre.length : Int)]) (by
      unfold markedI; rw [List.length_append, List.length_singleton, List.range_succ, List.map_append, List.map_singleton]; unfold markedI at hp; rw [← hp]) (by simp; omega)
    simp only [List.length_append, List.length_cons, List.length_nil] at this ⊢
    rw [show a + (pre.length : Int) + 1 = a + ((pre.length + (0 + 1) : Nat) : Int) by omega, show pre.length + (suf.length + 1) = pre.length + (0 + 1) + suf.length by omega]
    exact this

theorem markIntS_ev (x : List Int) (a : Int) (ha : 0 ≤ a) (hb : a + (x.length : Int) < 9223372036854775807) : Ev (fun k => laws_markIntS.f k x a) (a + (x.length : Int), markedI x.length a) := by
  unfold laws_markIntS.f
  simpa using markIntS_l a ha x [] rfl (by simpa using hb)

theorem heldIntS_l (a : Int) (ha : 0 ≤ a) (n : Nat) (hb : a + (n : Int) < 9223372036854775807) : ∀ (d i : Nat), i + d = n →
    Ev (fun k => laws_heldIntS.l0 k (markedI n a) (a + (i : Int)) (i : Int)) (a + (n : Int)) := by
  intro d
  have hl : (markedI n a).length = n := by simp [markedI]
  induction d with
  | zero =>
    intro i hi
    refine Ev.step (fun k => by rw [laws_heldIntS.l0]) ?_
    refine Ev.neg (by omega) (Ev.cast (by omega) (Ev.now _))
  | succ d ih =>
    intro i hi
    refine Ev.step (fun k => by rw [laws_heldIntS.l0]) ?_
    refine Ev.pos (by omega) (Ev.pos (nn _) ?_)
    rw [rd_get _ i (by omega)]
    refine Ev.pos (by simp [markedI]) ?_
    rw [wr_nat i n (by omega) (by omega), wr _ (by omega) (by omega), Int.add_assoc]
    exact ih (i + 1) (by omega)

theorem heldIntS_ev (n : Nat) (a : Int) (ha : 0 ≤ a) (hb : a + (n : Int) < 9223372036854775807) : Ev (fun k => laws_heldIntS.f k (markedI n a) a) (a + (n : Int)) := by
  unfold laws_heldIntS.f
  simpa using heldIntS_l a ha n hb n 0 (by omega)

theorem rdL1_get (xs : List (List Int)) (i : Nat) (h : i < xs.length) : rd_L1 xs (i : Int) = xs[i] := by
  unfold rd_L1; rw [Int.toNat_natCast]; simp [List.getD_eq_getElem?_getD, h]

theorem rdL1_mid (pre : List (List Int)) (x : List Int) (suf : List (List Int)) : rd_L1 (pre ++ x :: suf) (pre.length : Int) = x := by
  unfold rd_L1; rw [Int.toNat_natCast]; simp

theorem rdL1_zero (xs : List (List Int)) : rd_L1 xs 0 = xs.headD [] := by
  cases xs <;> rfl

theorem szIntS_eq (x : List Int) (left : Int) (h0 : 0 ≤ left) (h1 : left ≤ 1048576) (hx : x.length ≤ maxLen) : ∃ r, laws_szIntS.f x left = some r ∧ r ≤ 1048576 ∧ (0 ≤ r → r = left - x.length) := by
  unfold laws_szIntS.f
  unfold maxLen at hx
  rw [wr _ (by omega) (by omega)]
  by_cases h : left - (x.length : Int) < 0
  · rw [if_pos h]; exact ⟨-1, rfl, by omega, by omega⟩
  · rw [if_neg h]; exact ⟨_, rfl, by omega, fun _ => rfl⟩

def totL (xs : List (List Int)) : Nat := (xs.map List.length).sum

theorem szIntSS_l (x : List (List Int)) (hx : x.length < 9223372036854775807) (hi : ∀ z ∈ x, z.length ≤ maxLen) : ∀ (suf pre : List (List Int)) (left : Int), pre ++ suf = x → 0 ≤ left → left ≤ 1048576 →
    ∃ r, Ev (fun k => laws_szIntSS.l0 k x left (pre.length : Int)) r ∧ r ≤ 1048576 ∧ (0 ≤ r → r = left - totL suf) := by
  intro suf
  induction suf with
  | nil =>
    rintro pre left rfl h0 h1
    refine ⟨left, ?_, h1, fun _ => by simp [totL]⟩
    refine Ev.step (fun k => by rw [laws_szIntSS.l0]) ?_
    exact Ev.neg (by simp) (Ev.now _)
  | cons y suf ih =>
    rintro pre left rfl h0 h1
    obtain ⟨r, hr, hr1, hr2⟩ := szIntS_eq y left h0 h1 (hi y (by simp))
    by_cases h : r < 0
    · refine ⟨-1, ?_, by omega, by omega⟩
      refine Ev.step (fun k => by rw [laws_szIntSS.l0]) ?_
      refine Ev.pos (mid_lt _ _ _) (Ev.pos (nn _) ?_)
      rw [rdL1_mid, hr]
      exact Ev.sbind (Ev.pos h (Ev.now _))
    · obtain ⟨q, hq, hq1, hq2⟩ := ih (pre ++ [y]) r (by simp) (by omega) hr1
      refine ⟨q, ?_, hq1, fun hh => ?_⟩
      · refine Ev.step (fun k => by rw [laws_szIntSS.l0]) ?_
        refine Ev.pos (mid_lt _ _ _) (Ev.pos (nn _) ?_)
        rw [rdL1_mid, hr]
        refine Ev.sbind (Ev.neg h ?_)
        rw [wr_mid pre y suf _ rfl hx]
        exact hq
      · have a := hq2 hh
        have b := hr2 (by omega)
        simp only [totL, List.map_cons, List.sum_cons] at a ⊢
        omega

theorem szIntSS_ev (x : List (List Int)) (left : Int) (h0 : 0 ≤ left) (h1 : left ≤ 1048576) (hx : x.length ≤ maxLen) (hi : ∀ z ∈ x, z.length ≤ maxLen) :
    ∃ r, Ev (fun k => laws_szIntSS.f k x left) r ∧ r ≤ 1048576 ∧ (0 ≤ r → r = left - x.length - totL x) := by
  unfold laws_szIntSS.f
  have hx' := hx
  unfold maxLen at hx'
  rw [wr _ (by omega) (by omega)]
  by_cases h : left - (x.length : Int) < 0
  · exact ⟨-1, Ev.pos h (Ev.now _), by omega, by omega⟩
  · obtain ⟨r, hr, a, b⟩ := szIntSS_l x (by omega) hi x [] (left - x.length) rfl (by omega) (by omega)
    exact ⟨r, Ev.neg h hr, a, b⟩

theorem tot_mem {xs : List (List Int)} {z : List Int} (h : z ∈ xs) : z.length ≤ totL xs := by
  induction xs with
  | nil => cases h
  | cons y ys ih =>
    rcases List.mem_cons.1 h with rfl | h
    · simp [totL]
    · have := ih h
      simp only [totL, List.map_cons, List.sum_cons] at this ⊢
      omega

theorem toIntSS_l (x0 : List (List Int)) (hx : x0.length < 9223372036854775807) (hi : ∀ z ∈ x0, z.length ≤ 1048576) : ∀ (suf pre : List (List Int)), pre ++ suf = x0 →
    Ev (fun k => laws_toIntSS.l0 k x0 (pre ++ List.replicate suf.length []) (pre.length : Int)) x0 := by
  intro suf
  induction suf with
  | nil =>
    rintro pre rfl
    refine Ev.step (fun k => by rw [laws_toIntSS.l0]) ?_
    refine Ev.neg (by simp) ?_
    refine Ev.cast (by simp) (Ev.now _)
  | cons x suf ih =>
    rintro pre rfl
    refine Ev.step (fun k => by rw [laws_toIntSS.l0]) ?_
    refine Ev.pos (mid_lt _ _ _) (Ev.pos (nn _) ?_)
    rw [rdL1_mid]
    refine Ev.bind (toIntS_ev x (by have := hi x (by simp); omega)) (Ev.pos (by simp; omega) ?_)
    rw [wr_mid pre x suf _ rfl hx, List.length_cons, List.replicate_succ, set_mid]
    exact ih (pre ++ [x]) (by simp)

theorem toIntSS_ev (x : List (List Int)) (hx : x.length ≤ 1048576) (hi : ∀ z ∈ x, z.length ≤ 1048576) : Ev (fun k => laws_toIntSS.f k x) x := by
  unfold laws_toIntSS.f
  refine Ev.pos (nn _) (Ev.pos (by rw [Int.toNat_natCast]; omega) ?_)
  simpa using toIntSS_l x (by omega) hi x [] rfl

theorem eqIntSS_l (x0 : List (List Int)) (hx : x0.length < 9223372036854775807) (hi : ∀ z ∈ x0, z.length ≤ 1048576) : ∀ (d i : Nat), i + d = x0.length → Ev (fun k => laws_eqIntSS.l0 k x0 x0 (i : Int)) true := by
  intro d
  induction d with
  | zero =>
    intro i hi
    refine Ev.step (fun k => by rw [laws_eqIntSS.l0]) ?_
    exact Ev.neg (by omega) (Ev.now _)
  | succ d ih =>
    intro i hd
    refine Ev.step (fun k => by rw [laws_eqIntSS.l0]) ?_
    refine Ev.pos (by omega) (Ev.pos (nn _) (Ev.pos (by omega) ?_))
    rw [rdL1_get x0 i (by omega)]
    refine Ev.bind (eqIntS_ev _ _ (by have := hi x0[i] (List.getElem_mem _); omega)) (Ev.pos (by simp) ?_)
    rw [wr_nat i _ (by omega) hx]
    exact ih (i + 1) (by omega)

theorem eqIntSS_ev (x : List (List Int)) (hx : x.length ≤ 1048576) (hi : ∀ z ∈ x, z.length ≤ 1048576) : Ev (fun k => laws_eqIntSS.f k x x) true := by
  unfold laws_eqIntSS.f
  exact Ev.pos rfl (eqIntSS_l x (by omega) hi x.length 0 (by omega))

def secCol (n : Nat) (c : List Int) : Bool := decide (c.length = n) && decide (1 ≤ c.length ∧ c.length ≤ 6) && c.all (inB (-1000000) 1000000)

def secOk (v : List (List Int)) : Bool := decide (1 ≤ v.length ∧ v.length ≤ 8) && v.all (secCol (v.headD []).length)

theorem goodValues_ev (c : List Int) : Ev (fun k => impl_goodValues.f k c) (decide (1 ≤ c.length ∧ c.length ≤ 120) && c.all (inB (-1000000) 1000000)) := by
  unfold impl_goodValues.f
  have J : ∀ b : Bool, b = true → ∀ r, r = false → Ev (fun k => impl_goodValues.j0 k c b) r := by
    rintro b rfl r rfl
    exact Ev.step (fun k => by rw [impl_goodValues.j0]) (Ev.pos rfl (Ev.now _))
  refine Ev.cases (fun h => J _ rfl _ (by rw [decide_eq_false (by omega)]; rfl)) (fun h1 => ?_)
  by_cases h2 : (c.length : Int) > 120
  · exact J _ (decide_eq_true h2) _ (by rw [decide_eq_false (by omega)]; rfl)
  · rw [decide_eq_false h2]
    refine Ev.step (fun k => by rw [impl_goodValues.j0]) (Ev.neg (by simp) ?_)
    rw [decide_eq_true (by omega), Bool.true_and]
    have key : ∀ (d i : Nat), i + d = c.length → Ev (fun k => impl_goodValues.l0 k c (c.length : Int) (i : Int)) ((c.drop i).all (inB (-1000000) 1000000)) := by
      intro d
      induction d with
      | zero =>
        intro i hi
        refine Ev.step (fun k => by rw [impl_goodValues.l0]) ?_
        refine Ev.neg (by omega) (Ev.cast ?_ (Ev.now _))
        rw [dr0 _ _ (by omega)]; rfl
      | succ d ih =>
        intro i hi
        refine Ev.step (fun k => by rw [impl_goodValues.l0]) ?_
        refine Ev.pos (by omega) (Ev.pos (nn _) (Ev.pos (by omega) ?_))
        rw [rd_get c i (by omega), dr c i (by omega), List.all_cons]
        unfold inB
        refine Ev.cases (fun h => Ev.cast (by rw [decide_eq_false (by omega)]; rfl) (Ev.now _)) (fun h1 => ?_)
        refine Ev.cases (fun h => Ev.cast (by rw [decide_eq_false (by omega)]; rfl) (Ev.now _)) (fun h2 => ?_)
        rw [wr_nat i _ (by omega) (by omega : c.length < _), decide_eq_true (by omega), Bool.true_and]
        exact ih (i + 1) (by omega)
    exact key c.length 0 (by omega)

theorem IsSection_ev (v : List (List Int)) : Ev (fun k => impl_IsSection.f k v) (secOk v) := by
  unfold impl_IsSection.f secOk
  have J : ∀ b : Bool, b = true → ∀ r, r = false → Ev (fun k => impl_IsSection.j0 k v b) r := by
    rintro b rfl r rfl
    exact Ev.step (fun k => by rw [impl_IsSection.j0]) (Ev.pos rfl (Ev.now _))
  refine Ev.cases (fun h => J _ rfl _ (by rw [decide_eq_false (by omega)]; rfl)) (fun h1 => ?_)
  refine Ev.cases (fun h => J _ rfl _ (by rw [decide_eq_false (by omega)]; rfl)) (fun h2 => ?_)
  refine Ev.pos (by omega) ?_
  rw [rdL1_zero, decide_eq_true (show 1 ≤ v.length ∧ v.length ≤ 8 by omega), Bool.true_and]
  have hne : v ≠ [] := by intro e; subst e; exact h1 (by simp)
  have hh : ∀ r : Bool, (secCol (v.headD []).length (v.headD []) = false → r = false) → (¬ (1 ≤ (v.headD []).length ∧ (v.headD []).length ≤ 6) → r = false) := by
    intro r hr hn
    apply hr
    unfold secCol
    rw [decide_eq_false hn]; simp
  have hall : secCol (v.headD []).length (v.headD []) = false → v.all (secCol (v.headD []).length) = false := by
    intro h
    obtain ⟨c, cs, rfl⟩ := List.exists_cons_of_ne_nil hne
    rw [List.all_cons]
    simp only [List.headD_cons] at h ⊢
    rw [h]; rfl
  refine Ev.cases (fun h => J _ rfl _ (hh _ hall (by omega))) (fun h3 => ?_)
  by_cases h4 : ((v.headD []).length : Int) > 6
  · exact J _ (decide_eq_true h4) _ (hh _ hall (by omega))
  · rw [decide_eq_false h4]
    refine Ev.step (fun k => by rw [impl_IsSection.j0]) (Ev.neg (by simp) ?_)
    have key : ∀ (d i : Nat), i + d = v.length → Ev (fun k => impl_IsSection.l0 k v v (v.length : Int) (i : Int)) ((v.drop i).all (secCol (v.headD []).length)) := by
      intro d
      induction d with
      | zero =>
        intro i hi
        refine Ev.step (fun k => by rw [impl_IsSection.l0]) ?_
        refine Ev.neg (by omega) (Ev.cast ?_ (Ev.now _))
        rw [dr0 _ _ (by omega)]; rfl
      | succ d ih =>
        intro i hi
        refine Ev.step (fun k => by rw [impl_IsSection.l0]) ?_
        refine Ev.pos (by omega) (Ev.pos (nn _) (Ev.pos (by omega) (Ev.pos (by omega) ?_)))
        rw [rdL1_get v i (by omega), dr v i (by omega), List.all_cons, rdL1_zero]
        refine Ev.cases (fun h5 => ?_) (fun h => Ev.cast (by unfold secCol; rw [decide_eq_false (show ¬ v[i].length = (v.headD []).length by omega)]; rfl) (Ev.now _))
        refine Ev.bind (goodValues_ev _) (Ev.cases (fun h6 => ?_) (fun h => Ev.cast (by
          unfold secCol
          rw [decide_eq_true (show v[i].length = _ by omega), decide_eq_true (show 1 ≤ v[i].length ∧ v[i].length ≤ 6 by omega), Bool.true_and]
          rw [decide_eq_true (show 1 ≤ v[i].length ∧ v[i].length ≤ 120 by omega), Bool.true_and] at h
          rw [bf h]; rfl) (Ev.now _)))
        rw [wr_nat i _ (by omega) (by omega : v.length < _)]
        refine Ev.cast ?_ (ih (i + 1) (by omega))
        rw [Bool.and_eq_true] at h6
        rw [secCol, decide_eq_true (show v[i].length = _ by omega), decide_eq_true (show 1 ≤ v[i].length ∧ v[i].length ≤ 6 by omega), h6.2]; rfl
    exact key v.length 0 (by omega)

theorem seGood_ev (v : List (List Int)) (hv : v.length < 9223372036854775807) (hi : ∀ z ∈ v, z.length < 9223372036854775807) : Ev (fun k => spec_seGood.f k v) (secOk v) := by
  unfold spec_seGood.f secOk
  have key : ∀ (d i : Nat), i + d = v.length → Ev (fun k => spec_seGood.l0 k v v (v.length : Int) (i : Int)) (decide (1 ≤ v.length ∧ v.length ≤ 8) && (v.drop i).all (secCol (v.headD []).length)) := by
    intro d
    induction d with
    | zero =>
      intro i hi
      refine Ev.step (fun k => by rw [spec_seGood.l0]) ?_
      refine Ev.neg (by omega) ?_
      rw [dr0 _ _ (by omega), l1In_eq]
      refine Ev.sbind (Ev.cast ?_ (Ev.now _))
      rw [List.all_nil, Bool.and_true]
      exact decide_eq_decide.2 (by omega)
    | succ d ih =>
      intro i hd
      refine Ev.step (fun k => by rw [spec_seGood.l0]) ?_
      refine Ev.pos (by omega) (Ev.pos (nn _) (Ev.pos (by omega) (Ev.pos (by omega) ?_)))
      rw [rdL1_get v i (by omega), dr v i (by omega), List.all_cons, rdL1_zero, l1In_eq]
      refine Ev.cases (fun h5 => ?_) (fun h => Ev.cast (by unfold secCol; rw [decide_eq_false (show ¬ v[i].length = (v.headD []).length by omega)]; simp) (Ev.now _))
      refine Ev.sbind (Ev.cases (fun h6 => ?_) (fun h => Ev.cast (by
        unfold secCol
        rw [decide_eq_false (show ¬ (1 ≤ v[i].length ∧ v[i].length ≤ 6) by have := of_decide_eq_false (bf h); omega)]; simp) (Ev.now _)))
      have h6' := of_decide_eq_true h6
      refine Ev.bind (l1All_ev _ _ _ (hi _ (List.getElem_mem _))) (Ev.cases (fun h7 => ?_) (fun h => Ev.cast (by unfold secCol; rw [bf h]; simp) (Ev.now _)))
      rw [wr_nat i _ (by omega) hv]
      refine Ev.cast ?_ (ih (i + 1) (by omega))
      rw [secCol, decide_eq_true (show v[i].length = _ by omega), decide_eq_true (show 1 ≤ v[i].length ∧ v[i].length ≤ 6 by omega), h7]; rfl
  exact key v.length 0 (by omega)

def depOk (v : List (List Int)) (p : List Int) : Bool := decide (p.length = v.length) && p.all (inB 0 (v.headD []).length)

theorem l1Most_eq (a b : Int) : spec_l1Most.f a b = some (if a ≤ b then b else a) := by
  unfold spec_l1Most.f
  by_cases h : a > b
  · rw [if_pos h, if_neg (by omega)]
  · rw [if_neg h, if_pos (by omega)]

theorem dep_at {v : List (List Int)} {p : List Int} (h : depOk v p = true) (i : Nat) (hi : i < p.length) : 0 ≤ p[i] ∧ p[i] ≤ ((v.headD []).length : Int) := by
  unfold depOk at h
  rw [Bool.and_eq_true, List.all_eq_true] at h
  exact of_decide_eq_true (h.2 _ (List.getElem_mem hi))

theorem depLen {v : List (List Int)} {p : List Int} (h : depOk v p = true) : p.length = v.length := by
  unfold depOk at h
  rw [Bool.and_eq_true] at h
  exact of_decide_eq_true h.1

theorem secOk_parts {v : List (List Int)} (hs : secOk v = true) : 1 ≤ v.length ∧ v.length ≤ 8 ∧ (1 ≤ (v.headD []).length ∧ (v.headD []).length ≤ 6) ∧ ∀ i (h : i < v.length), v[i].length = (v.headD []).length ∧ v[i].all (inB (-1000000) 1000000) = true := by
  unfold secOk at hs
  rw [Bool.and_eq_true, List.all_eq_true] at hs
  have h1 := of_decide_eq_true hs.1
  have h2 : ∀ c ∈ v, c.length = (v.headD []).length ∧ (1 ≤ c.length ∧ c.length ≤ 6) ∧ c.all (inB (-1000000) 1000000) = true := by
    intro c hc
    have := hs.2 c hc
    unfold secCol at this
    simp only [Bool.and_eq_true, decide_eq_true_eq] at this
    exact ⟨this.1.1, this.1.2, this.2⟩
  have h3 : v.headD [] ∈ v := by
    match v, h1 with
    | c :: cs, _ => simp
  exact ⟨h1.1, h1.2, (h2 _ h3).2.1, fun i h => ⟨(h2 _ (List.getElem_mem h)).1, (h2 _ (List.getElem_mem h)).2.2⟩⟩

theorem gD {α : Type} (xs : List α) (d : α) (i : Nat) (h : i < xs.length) : xs.getD i d = xs[i] := by
  rw [List.getD_eq_getElem?_getD, List.getElem?_eq_getElem h]; rfl

def marks (n : Nat) (l : List Int) : List Bool := (List.range n).map fun i : Nat => decide ((i : Int) ∈ l)

def marksSS : List (List Int) → Int → List (List Int)
  | [], _ => []
  | x :: xs, a => markedI x.length a :: marksSS xs (a + (x.length : Int))

theorem marksSS_len (xs : List (List Int)) (a : Int) : (marksSS xs a).length = xs.length := by
  induction xs generalizing a with
  | nil => rfl
  | cons x xs ih => rw [marksSS, List.length_cons, ih, List.length_cons]

theorem marksSS_snoc (xs : List (List Int)) (x : List Int) (a : Int) : marksSS (xs ++ [x]) a = marksSS xs a ++ [markedI x.length (a + (totL xs : Int))] := by
  induction xs generalizing a with
  | nil => simp [marksSS, totL]
  | cons y ys ih =>
    rw [List.cons_append, marksSS, ih, marksSS, List.cons_append]
    have : a + (y.length : Int) + (totL ys : Int) = a + (totL (y :: ys) : Int) := by simp [totL]; omega
    rw [this]

theorem totL_snoc (xs : List (List Int)) (x : List Int) : totL (xs ++ [x]) = totL xs + x.length := by simp [totL]

def mxR (b : List Int) (lo : Nat) : Nat → Int
  | 0 => b.getD lo 0
  | n + 1 => max (mxR b lo n) (b.getD (lo + n + 1) 0)

def argR (b : List Int) (lo : Nat) : Nat → Nat
  | 0 => lo
  | n + 1 => if b.getD (lo + n + 1) 0 > b.getD (argR b lo n) 0 then lo + n + 1 else argR b lo n

theorem argR_in (b : List Int) (lo : Nat) : ∀ n, lo ≤ argR b lo n ∧ argR b lo n ≤ lo + n
  | 0 => by simp [argR]
  | n + 1 => by
    have ih := argR_in b lo n
    rw [argR]
    split <;> omega

theorem argR_mx (b : List Int) (lo : Nat) : ∀ n, b.getD (argR b lo n) 0 = mxR b lo n
  | 0 => rfl
  | n + 1 => by
    have ih := argR_mx b lo n
    rw [argR, mxR]
    split <;> omega

theorem mxR_le (b : List Int) (lo : Nat) : ∀ n j, lo ≤ j → j ≤ lo + n → b.getD j 0 ≤ mxR b lo n
  | 0, j, h1, h2 => by obtain rfl : j = lo := by omega
                       exact Int.le_refl _
  | n + 1, j, h1, h2 => by
    rw [mxR]
    by_cases c : j = lo + n + 1
    · subst c; exact Int.le_max_right _ _
    · exact Int.le_trans (mxR_le b lo n j h1 (by omega)) (Int.le_max_left _ _)

/-- Ahead of the first greatest one all are less. -/
theorem argR_first (b : List Int) (lo : Nat) : ∀ n j, lo ≤ j → j < argR b lo n → b.getD j 0 < mxR b lo n
  | 0, j, h1, h2 => by rw [argR] at h2; omega
  | n + 1, j, h1, h2 => by
    have hm := argR_mx b lo n
    rw [argR] at h2
    rw [mxR]
    split at h2
    · rename_i c
      have := mxR_le b lo n j h1 (by omega)
      omega
    · have := argR_first b lo n j h1 h2
      omega

theorem bestFrom_ev (b : List Int) (lo n : Nat) (h : lo + n < b.length) (hb : b.length ≤ 1000) : Ev (fun k => impl_bestFrom.f k b (lo : Int) ((lo + n : Nat) : Int)) ((argR b lo n : Nat) : Int) := by
  unfold impl_bestFrom.f
  have key : ∀ (d i : Nat), i + d = n + 1 → Ev (fun k => impl_bestFrom.l0 k b ((lo + n : Nat) : Int) ((argR b lo (i - 1) : Nat) : Int) ((lo + i : Nat) : Int)) ((argR b lo n : Nat) : Int) := by
    intro d
    induction d with
    | zero =>
      intro i hi
      refine Ev.step (fun k => by rw [impl_bestFrom.l0]) ?_
      exact Ev.neg (by omega) (Ev.cast (by rw [show i - 1 = n by omega]) (Ev.now _))
    | succ d ih =>
      intro i hi
      have e := ih (i + 1) (by omega)
      have hin := argR_in b lo (i - 1)
      refine Ev.step (fun k => by rw [impl_bestFrom.l0]) ?_
      rw [wr_nat (lo + i) 100000 (by omega) (by omega), rd_nat, rd_nat]
      refine Ev.pos (by omega) (Ev.pos (nn _) (Ev.pos (by omega) (Ev.pos (nn _) (Ev.pos (by omega) ?_))))
      rw [Nat.add_sub_cancel] at e
      by_cases c0 : i = 0
      · subst c0
        have e : Ev (fun k => impl_bestFrom.l0 k b ((lo + n : Nat) : Int) ((lo : Nat) : Int) ((lo + 0 + 1 : Nat) : Int)) ((argR b lo n : Nat) : Int) := e
        refine Ev.neg ?_ e
        show ¬ b.getD lo 0 > b.getD lo 0
        omega
      · obtain ⟨j, rfl⟩ : ∃ j, i = j + 1 := ⟨i - 1, by omega⟩
        rw [Nat.add_sub_cancel]
        rw [argR, show lo + j + 1 = lo + (j + 1) from rfl] at e
        refine Ev.cases (fun c => ?_) (fun c => ?_)
        · rw [if_pos c] at e; exact e
        · rw [if_neg c] at e; exact e
  exact key (n + 1) 0 (by omega)

theorem seMost_ev (b : List Int) (lo hi : Int) (h0 : max lo 0 < (b.length : Int)) (h1 : max lo 0 ≤ hi) (hb : b.length ≤ 1000) (hh : hi ≤ 1000) : Ev (fun k => spec_seMost.f k b lo hi) (mxR b (max lo 0).toNat ((min hi ((b.length : Int) - 1)).toNat - (max lo 0).toNat)) := by
  unfold spec_seMost.f
  rw [l1Most_eq, show (if lo ≤ 0 then (0 : Int) else lo) = (((max lo 0).toNat : Nat) : Int) by split <;> omega]
  obtain ⟨f, hf⟩ : ∃ f : Nat, f = (max lo 0).toNat := ⟨_, rfl⟩
  obtain ⟨t, ht⟩ : ∃ t : Nat, t = (min hi ((b.length : Int) - 1)).toNat := ⟨_, rfl⟩
  rw [← hf, ← ht]
  refine Ev.sbind (Ev.pos (nn _) (Ev.pos (by omega) (Ev.sbind ?_)))
  have key : ∀ (d i : Nat), i + d = t - f + 1 → Ev (fun k => spec_seMost.l0 k b hi (mxR b f (i - 1)) ((f + i : Nat) : Int)) (mxR b f (t - f)) := by
    intro d
    induction d with
    | zero =>
      intro i hi2
      refine Ev.step (fun k => by rw [spec_seMost.l0]) ?_
      refine Ev.cases (fun _ => Ev.neg (by omega) (Ev.cast (by rw [show i - 1 = t - f by omega]) (Ev.now _))) (fun _ => Ev.cast (by rw [show i - 1 = t - f by omega]) (Ev.now _))
    | succ d ih =>
      intro i hi2
      have e := ih (i + 1) (by omega)
      refine Ev.step (fun k => by rw [spec_seMost.l0]) ?_
      rw [wr_nat (f + i) 100000 (by omega) (by omega), rd_nat, l1Most_eq]
      refine Ev.pos (by omega) (Ev.pos (by omega) (Ev.pos (nn _) (Ev.sbind ?_)))
      rw [Nat.add_sub_cancel] at e
      by_cases c0 : i = 0
      · subst c0
        rw [show (if mxR b f (0 - 1) ≤ b.getD (f + 0) 0 then b.getD (f + 0) 0 else mxR b f (0 - 1)) = mxR b f 0 by show (if b.getD f 0 ≤ b.getD f 0 then b.getD f 0 else b.getD f 0) = b.getD f 0; split <;> rfl]
        exact e
      · obtain ⟨j, rfl⟩ : ∃ j, i = j + 1 := ⟨i - 1, by omega⟩
        rw [Nat.add_sub_cancel, show (if mxR b f j ≤ b.getD (f + (j + 1)) 0 then b.getD (f + (j + 1)) 0 else mxR b f j) = mxR b f (j + 1) by rw [mxR, ← Nat.add_assoc]; split <;> omega]
        exact e
  rw [rd_nat]
  exact key (t - f + 1) 0 (by omega)

def colS (c : List Int) (d : Nat) : Int := (c.take d).sum

def nxt (d : Nat) : Option (List Int) → Int
  | none => 0
  | some b => mxR b (d - 1) (min (d + 1) (b.length - 1) - (d - 1))

def rowD (c : List Int) (m : Int) (nx : Option (List Int)) : List Int := (List.range (m.toNat + 1)).map fun d => colS c d + nxt d nx

/-- The row of the column that has k columns behind it. -/
def dpR (v : List (List Int)) (ms : List Int) : Nat → List Int
  | 0 => rowD (v.getD (v.length - 1) []) (ms.getD (v.length - 1) 0) none
  | k + 1 => rowD (v.getD (v.length - 2 - k) []) (ms.getD (v.length - 2 - k) 0) (some (dpR v ms k))

theorem rowD_len (c : List Int) (m : Int) (nx : Option (List Int)) : (rowD c m nx).length = m.toNat + 1 := by simp [rowD]

theorem rowD_get (c : List Int) (m : Int) (nx : Option (List Int)) (d : Nat) (h : d ≤ m.toNat) : (rowD c m nx).getD d 0 = colS c d + nxt d nx := by
  unfold rowD
  rw [List.getD_eq_getElem?_getD, List.getElem?_map, List.getElem?_range (by omega)]; rfl

theorem colS_succ (c : List Int) (d : Nat) (h : d < c.length) : colS c (d + 1) = colS c d + c.getD d 0 := by
  unfold colS
  rw [List.take_succ_eq_append_getElem h, List.sum_append, gD c 0 d h]; simp

theorem seColumn_colS (c : List Int) (d : Nat) (h : d ≤ c.length) (hc : c.length ≤ 6) (hb : ∀ i (h : i < c.length), -1000000 ≤ c[i] ∧ c[i] ≤ 1000000) : Ev (fun k => spec_seColumn.f k c (d : Int)) (colS c d) := by
  unfold spec_seColumn.f
  refine Ev.pos (nn _) (Ev.pos (by omega) ?_)
  rw [Int.toNat_natCast]
  have hl : (c.take d).length = d := by rw [List.length_take]; omega
  have key : ∀ (e i : Nat), i + e = d → -1000000 * (i : Int) ≤ colS c i ∧ colS c i ≤ 1000000 * (i : Int) → Ev (fun k => spec_seColumn.l0 k (colS c i) (c.take d) ((c.take d).length : Int) (i : Int)) (colS c d) := by
    intro e
    induction e with
    | zero =>
      intro i hi _
      refine Ev.step (fun k => by rw [spec_seColumn.l0]) ?_
      exact Ev.neg (by omega) (Ev.cast (by rw [show i = d by omega]) (Ev.now _))
    | succ e ih =>
      intro i hi hr
      have b := hb i (by omega)
      have es := colS_succ c i (by omega)
      rw [gD c 0 i (by omega)] at es
      have g : rd (c.take d) (i : Int) = c[i] := by rw [rd_get _ i (by omega)]; exact List.getElem_take
      refine Ev.step (fun k => by rw [spec_seColumn.l0]) ?_
      rw [g, wr_nat i 1000 (by omega) (by omega), wr (colS c i + c[i]) (by omega) (by omega), ← es]
      exact Ev.pos (by omega) (Ev.pos (nn _) (Ev.pos (by omega) (ih (i + 1) (by omega) (by rw [es]; push_cast; omega))))
  have := key d 0 (by omega) (by simp [colS])
  simpa [colS] using this

theorem dpR_len (v : List (List Int)) (ms : List Int) (k : Nat) (h : k < v.length) : (dpR v ms k).length = (ms.getD (v.length - 1 - k) 0).toNat + 1 := by
  cases k with
  | zero => rw [dpR, rowD_len, Nat.sub_zero]
  | succ k => rw [dpR, rowD_len, show v.length - 2 - k = v.length - 1 - (k + 1) by omega]

/-- Depths cut from the right alone: that of the column with k behind it. -/
def mbR (p : List Int) : Nat → Int
  | 0 => p.getD (p.length - 1) 0
  | k + 1 => min (p.getD (p.length - 2 - k) 0) (mbR p k + 1)

def mbL (p : List Int) : List Int := (List.range p.length).map fun c => mbR p (p.length - 1 - c)

theorem mbL_get (p : List Int) (c : Nat) (h : c < p.length) : (mbL p).getD c 0 = mbR p (p.length - 1 - c) := by
  unfold mbL
  rw [List.getD_eq_getElem?_getD, List.getElem?_map, List.getElem?_range h]; rfl

theorem mxR_small (b : List Int) (lo : Nat) (B : Int) (hB : 0 ≤ B) (h : ∀ j, -B ≤ b.getD j 0 ∧ b.getD j 0 ≤ B) : ∀ n, -B ≤ mxR b lo n ∧ mxR b lo n ≤ B
  | 0 => h lo
  | n + 1 => by
    have a := mxR_small b lo B hB h n
    have c := h (lo + n + 1)
    rw [mxR]; omega

theorem rowD_small (c : List Int) (m : Int) (nx : Option (List Int)) (B : Int) (hc : ∀ d, -6000000 ≤ colS c d ∧ colS c d ≤ 6000000) (hn : ∀ d, -B ≤ nxt d nx ∧ nxt d nx ≤ B) (hB : 0 ≤ B) (j : Nat) : -(B + 6000000) ≤ (rowD c m nx).getD j 0 ∧ (rowD c m nx).getD j 0 ≤ B + 6000000 := by
  by_cases h : j ≤ m.toNat
  · rw [rowD_get c m nx j h]
    have a := hc j
    have b := hn j
    omega
  · rw [List.getD_eq_getElem?_getD, List.getElem?_eq_none (by rw [rowD_len]; omega)]
    show -(B + 6000000) ≤ (0 : Int) ∧ (0 : Int) ≤ B + 6000000
    omega

theorem dpR_small (v : List (List Int)) (ms : List Int) (hc : ∀ c d, -6000000 ≤ colS (v.getD c []) d ∧ colS (v.getD c []) d ≤ 6000000) : ∀ (k j : Nat), -(6000000 * ((k : Int) + 1)) ≤ (dpR v ms k).getD j 0 ∧ (dpR v ms k).getD j 0 ≤ 6000000 * ((k : Int) + 1)
  | 0, j => by
    have := rowD_small (v.getD (v.length - 1) []) (ms.getD (v.length - 1) 0) none 0 (hc _) (fun d => by simp [nxt]) (by omega) j
    rw [dpR]; omega
  | k + 1, j => by
    have ih := dpR_small v ms hc k
    have := rowD_small (v.getD (v.length - 2 - k) []) (ms.getD (v.length - 2 - k) 0) (some (dpR v ms k)) (6000000 * ((k : Int) + 1)) (hc _) (fun d => by
      show _ ≤ mxR (dpR v ms k) (d - 1) (min (d + 1) ((dpR v ms k).length - 1) - (d - 1)) ∧ mxR (dpR v ms k) (d - 1) (min (d + 1) ((dpR v ms k).length - 1) - (d - 1)) ≤ _
      exact mxR_small _ _ _ (by omega) ih _) (by omega) j
    rw [dpR]; push_cast; omega

/-- The rows that are done from column j on. -/
def RS (v : List (List Int)) (ms : List Int) (j : Nat) : List (List Int) := (List.range v.length).map fun c => if j ≤ c then dpR v ms (v.length - 1 - c) else []

theorem RS_len (v : List (List Int)) (ms : List Int) (j : Nat) : (RS v ms j).length = v.length := by simp [RS]

theorem RS_at (v : List (List Int)) (ms : List Int) (j c : Nat) (h : c < (RS v ms j).length) : (RS v ms j)[c] = if j ≤ c then dpR v ms (v.length - 1 - c) else [] := by
  simp [RS]

theorem RS_set (v : List (List Int)) (ms : List Int) (j : Nat) : (RS v ms (j + 1)).set j (dpR v ms (v.length - 1 - j)) = RS v ms j := by
  apply List.ext_getElem (by rw [List.length_set, RS_len, RS_len])
  intro i h1 h2
  rw [List.getElem_set, RS_at v ms j i h2]
  by_cases e : j = i
  · subst e; rw [if_pos rfl, if_pos (Nat.le_refl _)]
  · rw [if_neg e, RS_at]
    by_cases q : j + 1 ≤ i
    · rw [if_pos q, if_pos (by omega)]
    · rw [if_neg q, if_neg (by omega)]

theorem RS_self (v : List (List Int)) (ms : List Int) (j : Nat) : (RS v ms (j + 1)).set j [] = RS v ms (j + 1) := by
  apply List.ext_getElem (by rw [List.length_set])
  intro i h1 h2
  rw [List.getElem_set]
  by_cases e : j = i
  · subst e; rw [if_pos rfl, RS_at, if_neg (by omega)]
  · rw [if_neg e]

/-- What the section and the depths must be for the rounds of the reference. -/
structure SB (v : List (List Int)) (ms : List Int) : Prop where
  n : 1 ≤ v.length ∧ v.length ≤ 8
  ml : ms.length = v.length
  col : ∀ c, c < v.length → (v.getD c []).length ≤ 6 ∧ ms.getD c 0 ≤ ((v.getD c []).length : Int) ∧ ∀ i (h : i < (v.getD c []).length), -1000000 ≤ (v.getD c [])[i] ∧ (v.getD c [])[i] ≤ 1000000
  m0 : ∀ c, c < v.length → 0 ≤ ms.getD c 0
  up : ∀ c, c + 1 < v.length → ms.getD c 0 ≤ ms.getD (c + 1) 0 + 1
  cs : ∀ c d, -6000000 ≤ colS (v.getD c []) d ∧ colS (v.getD c []) d ≤ 6000000

theorem dpR_at (v : List (List Int)) (ms : List Int) (i : Nat) (h : i < v.length) (d : Nat) (hd : d ≤ (ms.getD i 0).toNat) : (dpR v ms (v.length - 1 - i)).getD d 0 = colS (v.getD i []) d + (if i + 1 < v.length then mxR (dpR v ms (v.length - 1 - (i + 1))) (d - 1) (min (d + 1) ((dpR v ms (v.length - 1 - (i + 1))).length - 1) - (d - 1)) else 0) := by
  by_cases q : i + 1 < v.length
  · rw [if_pos q, show v.length - 1 - i = (v.length - 1 - (i + 1)) + 1 by omega, dpR, show v.length - 2 - (v.length - 1 - (i + 1)) = i by omega, rowD_get _ _ _ d hd]; rfl
  · rw [if_neg q, show v.length - 1 - i = 0 by omega, dpR, show v.length - 1 = i by omega, rowD_get _ _ _ d hd]; rfl

theorem take_snoc (l : List Int) (d : Nat) (h : d < l.length) : l.take (d + 1) = l.take d ++ [l.getD d 0] := by
  rw [List.take_succ_eq_append_getElem h, gD l 0 d h]

theorem spec_seBest_l1 (v : List (List Int)) (ms : List Int) (S : SB v ms) (i : Nat) (hi : i < v.length) (r : List Int × Int) (h : Ev (fun k => spec_seBest.l0 k v ms (v.length : Int) (RS v ms i) ((i : Int) - 1)) r) : ∀ (e d : Nat), d + e = (ms.getD i 0).toNat + 1 →
    Ev (fun k => spec_seBest.l1 k v ms (v.length : Int) ((RS v ms (i + 1)).set i ((dpR v ms (v.length - 1 - i)).take d)) (i : Int) (d : Int)) r := by
  have hn := S.n
  have hml := S.ml
  have c0 := S.m0 i hi
  have cc := S.col i hi
  have hlen := dpR_len v ms (v.length - 1 - i) (by omega)
  rw [show v.length - 1 - (v.length - 1 - i) = i by omega] at hlen
  have em : rd ms (i : Int) = ms.getD i 0 := rd_nat ms i
  intro e
  induction e with
  | zero =>
    intro d hd
    refine Ev.step (fun k => by rw [spec_seBest.l1]) ?_
    rw [em, List.take_of_length_le (by omega), RS_set, wr ((i : Int) - 1) (by omega) (by omega)]
    exact Ev.pos (nn _) (Ev.pos (by omega) (Ev.neg (by omega) h))
  | succ e ih =>
    intro d hd
    have nx := ih (d + 1) (by omega)
    have sm := dpR_small v ms S.cs (v.length - 1 - i) d
    have va := dpR_at v ms i hi d (by omega)
    rw [take_snoc _ _ (by omega)] at nx
    have gi : rd_L1 ((RS v ms (i + 1)).set i ((dpR v ms (v.length - 1 - i)).take d)) (i : Int) = (dpR v ms (v.length - 1 - i)).take d := by
      rw [rdL1_get _ i (by rw [List.length_set, RS_len]; exact hi), List.getElem_set, if_pos rfl]
    have hl2 : ((RS v ms (i + 1)).set i ((dpR v ms (v.length - 1 - i)).take d)).length = v.length := by rw [List.length_set, RS_len]
    have htl : ((dpR v ms (v.length - 1 - i)).take d).length ≤ 100 := by rw [List.length_take]; omega
    refine Ev.step (fun k => by rw [spec_seBest.l1]) ?_
    rw [em, hl2, gi, Int.toNat_natCast, wr_nat d 1000 (by omega) (by omega)]
    simp only [List.set_set]
    refine Ev.pos (nn _) (Ev.pos (by omega) (Ev.pos (by omega) (Ev.pos (by omega) ?_)))
    rw [rdL1_get v i hi, ← gD v [] i hi]
    refine Ev.bind (seColumn_colS (v.getD i []) d (by omega) cc.1 cc.2.2) ?_
    rw [wr_nat i 1000 (by omega) (by omega)]
    refine Ev.cases (fun q => Ev.pos (nn _) (Ev.pos (by omega) ?_)) (fun q => Ev.pos (by omega) (Ev.pos (by omega) ?_))
    · have q' : i + 1 < v.length := by omega
      have u := S.up i q'
      have l2 := dpR_len v ms (v.length - 1 - (i + 1)) (by omega)
      rw [show v.length - 1 - (v.length - 1 - (i + 1)) = i + 1 by omega] at l2
      have c1 := S.col (i + 1) q'
      have g1 : rd_L1 ((RS v ms (i + 1)).set i ((dpR v ms (v.length - 1 - i)).take d)) ((i + 1 : Nat) : Int) = dpR v ms (v.length - 1 - (i + 1)) := by
        rw [rdL1_get _ (i + 1) (by rw [hl2]; exact q'), List.getElem_set, if_neg (by omega), RS_at, if_pos (Nat.le_refl _)]
      rw [g1, wr ((d : Int) - 1) (by omega) (by omega)]
      refine Ev.bind (seMost_ev _ ((d : Int) - 1) ((d + 1 : Nat) : Int) (by omega) (by omega) (by omega) (by omega)) (Ev.pos (by omega) (Ev.pos (by omega) ?_))
      rw [if_pos q'] at va
      have e3 : (max ((d : Int) - 1) 0).toNat = d - 1 := by omega
      have e4 : (min (((d + 1 : Nat)) : Int) (((dpR v ms (v.length - 1 - (i + 1))).length : Int) - 1)).toNat = min (d + 1) ((dpR v ms (v.length - 1 - (i + 1))).length - 1) := by omega
      rw [e3, e4, ← va, wr _ (by omega) (by omega)]
      exact nx
    · rw [if_neg (by omega), Int.add_zero] at va
      rw [← va]
      exact nx

theorem spec_seBest_l0 (v : List (List Int)) (ms : List Int) (S : SB v ms) (r : List Int × Int) (h : Ev (fun k => spec_seBest.l2 k ms (v.length : Int) (RS v ms 0) [] 0 (rd ms 0) 0) r) : ∀ j : Nat, j ≤ v.length → Ev (fun k => spec_seBest.l0 k v ms (v.length : Int) (RS v ms j) ((j : Int) - 1)) r := by
  have hn := S.n
  have hml := S.ml
  intro j
  induction j with
  | zero =>
    intro _
    refine Ev.step (fun k => by rw [spec_seBest.l0]) ?_
    exact Ev.neg (by omega) (Ev.pos (by omega) h)
  | succ j ih =>
    intro hj
    refine Ev.step (fun k => by rw [spec_seBest.l0]) ?_
    rw [show ((j + 1 : Nat) : Int) - 1 = (j : Int) by omega]
    refine Ev.pos (by omega) ?_
    have e := spec_seBest_l1 v ms S j (by omega) r (ih (by omega)) ((ms.getD j 0).toNat + 1) 0 (by omega)
    rw [List.take_zero, RS_self] at e
    exact e

/-- The range of a row that may be chosen from: from lo on, n more. -/
def chR (v : List (List Int)) (ms : List Int) : Nat → Nat
  | 0 => argR (dpR v ms (v.length - 1)) 0 ((dpR v ms (v.length - 1)).length - 1)
  | i + 1 => argR (dpR v ms (v.length - 2 - i)) (chR v ms i - 1) (min (chR v ms i + 1) ((dpR v ms (v.length - 2 - i)).length - 1) - (chR v ms i - 1))

theorem spec_seBest_l3 (v : List (List Int)) (ms : List Int) (S : SB v ms) (out : List Int) (ho : out.length ≤ 1000) (i : Nat) (hi : i < v.length) (lo hi_ : Int) (hlo : max lo 0 ≤ ms.getD i 0) (hhi : max lo 0 ≤ hi_) (hh : hi_ ≤ 1000) (r : List Int × Int) (c : Nat)
    (hc : c = argR (dpR v ms (v.length - 1 - i)) (max lo 0).toNat ((min hi_ (((dpR v ms (v.length - 1 - i)).length : Int) - 1)).toNat - (max lo 0).toNat))
    (h : Ev (fun k => spec_seBest.l2 k ms (v.length : Int) (RS v ms 0) (out ++ [(c : Int)]) ((c : Int) - 1) ((c : Int) + 1) (wrap64 ((i : Int) + 1))) r) : ∀ (e d : Nat), d + e = c → (max lo 0).toNat ≤ d →
    Ev (fun k => spec_seBest.l3 k ms (v.length : Int) (RS v ms 0) out lo hi_ (i : Int) (d : Int)) r := by
  have hn := S.n
  have c0 := S.m0 i hi
  have cc := S.col i hi
  have hlen := dpR_len v ms (v.length - 1 - i) (by omega)
  rw [show v.length - 1 - (v.length - 1 - i) = i by omega] at hlen
  have hin := argR_in (dpR v ms (v.length - 1 - i)) (max lo 0).toNat ((min hi_ (((dpR v ms (v.length - 1 - i)).length : Int) - 1)).toNat - (max lo 0).toNat)
  rw [← hc] at hin
  have gi : rd_L1 (RS v ms 0) (i : Int) = dpR v ms (v.length - 1 - i) := by
    rw [rdL1_get _ i (by rw [RS_len]; exact hi), RS_at, if_pos (Nat.zero_le _)]
  have M := seMost_ev (dpR v ms (v.length - 1 - i)) lo hi_ (by omega) hhi (by omega) hh
  intro e
  induction e with
  | zero =>
    intro d hd hld
    obtain rfl : d = c := by omega
    refine Ev.step (fun k => by rw [spec_seBest.l3]) ?_
    rw [gi, RS_len, rd_nat]
    refine Ev.pos (nn _) (Ev.pos (by omega) (Ev.pos (nn _) (Ev.pos (by omega) (Ev.bind M (Ev.pos ?_ (Ev.pos (by omega) ?_))))))
    · rw [hc]; exact argR_mx _ _ _
    · rw [wr ((d : Int) - 1) (by omega) (by omega), wr ((d : Int) + 1) (by omega) (by omega)]
      exact h
  | succ e ih =>
    intro d hd hld
    have lt := argR_first (dpR v ms (v.length - 1 - i)) (max lo 0).toNat ((min hi_ (((dpR v ms (v.length - 1 - i)).length : Int) - 1)).toNat - (max lo 0).toNat) d hld (by rw [← hc]; omega)
    refine Ev.step (fun k => by rw [spec_seBest.l3]) ?_
    rw [gi, RS_len, rd_nat, wr_nat d 1000 (by omega) (by omega)]
    exact Ev.pos (nn _) (Ev.pos (by omega) (Ev.pos (nn _) (Ev.pos (by omega) (Ev.bind M (Ev.neg (by omega) (ih (d + 1) (by omega) (by omega)))))))

theorem chR_in (v : List (List Int)) (ms : List Int) (S : SB v ms) : ∀ i, i < v.length → ((chR v ms i : Nat) : Int) ≤ ms.getD i 0
  | 0, hi => by
    have l := dpR_len v ms (v.length - 1) (by omega)
    rw [Nat.sub_self] at l
    have c0 := S.m0 0 hi
    have := argR_in (dpR v ms (v.length - 1)) 0 ((dpR v ms (v.length - 1)).length - 1)
    rw [chR]; omega
  | i + 1, hi => by
    have ih := chR_in v ms S i (by omega)
    have u := S.up i hi
    have l := dpR_len v ms (v.length - 2 - i) (by omega)
    rw [show v.length - 1 - (v.length - 2 - i) = i + 1 by omega] at l
    have c0 := S.m0 (i + 1) hi
    have := argR_in (dpR v ms (v.length - 2 - i)) (chR v ms i - 1) (min (chR v ms i + 1) ((dpR v ms (v.length - 2 - i)).length - 1) - (chR v ms i - 1))
    rw [chR]; omega

def chL (v : List (List Int)) (ms : List Int) (i : Nat) : List Int := (List.range i).map fun j => ((chR v ms j : Nat) : Int)

theorem chL_succ (v : List (List Int)) (ms : List Int) (i : Nat) : chL v ms (i + 1) = chL v ms i ++ [((chR v ms i : Nat) : Int)] := by simp [chL, List.range_succ]

theorem spec_seBest_l2 (v : List (List Int)) (ms : List Int) (S : SB v ms) : Ev (fun k => spec_seBest.l2 k ms (v.length : Int) (RS v ms 0) [] 0 (rd ms 0) 0) (chL v ms v.length, mxR (dpR v ms (v.length - 1)) 0 ((dpR v ms (v.length - 1)).length - 1)) := by
  have hn := S.n
  have hml := S.ml
  have c00 := S.m0 0 (by omega)
  have l0 := dpR_len v ms (v.length - 1) (by omega)
  rw [Nat.sub_self] at l0
  have cc0 := S.col 0 (by omega)
  have e0 : rd ms 0 = ms.getD 0 0 := rd_nat ms 0
  have g0 : rd_L1 (RS v ms 0) 0 = dpR v ms (v.length - 1) := by
    have := rdL1_get (RS v ms 0) 0 (by rw [RS_len]; omega)
    rw [RS_at, if_pos (Nat.le_refl _)] at this
    exact this
  have key : ∀ (d i : Nat), i + d = v.length → Ev (fun k => spec_seBest.l2 k ms (v.length : Int) (RS v ms 0) (chL v ms i) (if i = 0 then 0 else ((chR v ms (i - 1) : Nat) : Int) - 1) (if i = 0 then ms.getD 0 0 else ((chR v ms (i - 1) : Nat) : Int) + 1) (i : Int)) (chL v ms v.length, mxR (dpR v ms (v.length - 1)) 0 ((dpR v ms (v.length - 1)).length - 1)) := by
    intro d
    induction d with
    | zero =>
      intro i hi
      refine Ev.step (fun k => by rw [spec_seBest.l2]) ?_
      rw [g0, e0, RS_len]
      refine Ev.neg (by omega) (Ev.pos (by omega) (Ev.pos (by omega) (Ev.bind (seMost_ev (dpR v ms (v.length - 1)) 0 (ms.getD 0 0) (by omega) (by omega) (by omega) (by omega)) (Ev.cast ?_ (Ev.now _)))))
      rw [show i = v.length by omega, show (max (0 : Int) 0).toNat = 0 from rfl, show (min (ms.getD 0 0) (((dpR v ms (v.length - 1)).length : Int) - 1)).toNat - 0 = (dpR v ms (v.length - 1)).length - 1 by omega]
    | succ d ih =>
      intro i hi
      have e := ih (i + 1) (by omega)
      rw [if_neg (by omega), if_neg (by omega), Nat.add_sub_cancel, chL_succ, ← wr_nat i 1000 (by omega) (by omega)] at e
      have hlen := dpR_len v ms (v.length - 1 - i) (by omega)
      rw [show v.length - 1 - (v.length - 1 - i) = i by omega] at hlen
      have ci := S.m0 i (by omega)
      have hch := chR_in v ms S i (by omega)
      have cci := S.col i (by omega)
      refine Ev.step (fun k => by rw [spec_seBest.l2]) ?_
      rw [l1Most_eq]
      refine Ev.pos (by omega) (Ev.sbind ?_)
      by_cases z : i = 0
      · subst z
        rw [if_pos rfl, if_pos rfl]
        exact spec_seBest_l3 v ms S _ (by simp [chL]) 0 (by omega) 0 (ms.getD 0 0) (by omega) (by omega) (by omega) _ (chR v ms 0) (by
          rw [chR, Nat.sub_zero, show (max (0 : Int) 0).toNat = 0 from rfl]
          congr 1; omega) e (chR v ms 0) 0 (Nat.zero_add _) (by omega)
      · obtain ⟨j, rfl⟩ : ∃ j, i = j + 1 := ⟨i - 1, by omega⟩
        have hj := chR_in v ms S j (by omega)
        have u := S.up j (by omega)
        have ccj := S.col j (by omega)
        rw [if_neg z, if_neg z, Nat.add_sub_cancel]
        have cin := argR_in (dpR v ms (v.length - 2 - j)) (chR v ms j - 1) (min (chR v ms j + 1) ((dpR v ms (v.length - 2 - j)).length - 1) - (chR v ms j - 1))
        have e1 : (if ((chR v ms j : Nat) : Int) - 1 ≤ 0 then (0 : Int) else ((chR v ms j : Nat) : Int) - 1) = ((chR v ms j - 1 : Nat) : Int) := by split <;> omega
        rw [e1]
        refine spec_seBest_l3 v ms S _ (by simp [chL]; omega) (j + 1) (by omega) (((chR v ms j : Nat) : Int) - 1) (((chR v ms j : Nat) : Int) + 1) (by omega) (by omega) (by omega) _ (chR v ms (j + 1)) ?_ e (chR v ms (j + 1) - (chR v ms j - 1)) (chR v ms j - 1) ?_ (by omega)
        · rw [chR, show v.length - 1 - (j + 1) = v.length - 2 - j by omega]
          have a1 : (max (((chR v ms j : Nat) : Int) - 1) 0).toNat = chR v ms j - 1 := by omega
          rw [a1]
          congr 1
          omega
        · rw [chR]; omega
  have := key v.length 0 (by omega)
  rw [if_pos rfl, if_pos rfl] at this
  rw [e0]
  simpa [chL] using this

/-- The program's depths while it goes: cut from column j on. -/
def mS (p : List Int) (j : Nat) : List Int := (List.range p.length).map fun c => if j ≤ c then (mbL p).getD c 0 else p.getD c 0

theorem mS_len (p : List Int) (j : Nat) : (mS p j).length = p.length := by simp [mS]

theorem mS_at (p : List Int) (j c : Nat) (h : c < (mS p j).length) : (mS p j)[c] = if j ≤ c then (mbL p).getD c 0 else p.getD c 0 := by
  simp [mS]

theorem mS_set (p : List Int) (j : Nat) : (mS p (j + 1)).set j ((mbL p).getD j 0) = mS p j := by
  apply List.ext_getElem (by rw [List.length_set, mS_len, mS_len])
  intro i h1 h2
  rw [List.getElem_set, mS_at p j i h2]
  by_cases e : j = i
  · subst e; rw [if_pos rfl, if_pos (Nat.le_refl _)]
  · rw [if_neg e, mS_at]
    by_cases q : j + 1 ≤ i
    · rw [if_pos q, if_pos (by omega)]
    · rw [if_neg q, if_neg (by omega)]

theorem mb_rec (p : List Int) (c : Nat) (h : c < p.length) : (mbL p).getD c 0 = if c + 1 < p.length then min (p.getD c 0) ((mbL p).getD (c + 1) 0 + 1) else p.getD c 0 := by
  by_cases q : c + 1 < p.length
  · rw [if_pos q, mbL_get p c h, mbL_get p (c + 1) q, show p.length - 1 - c = (p.length - 1 - (c + 1)) + 1 by omega, mbR, show p.length - 2 - (p.length - 1 - (c + 1)) = c by omega]
  · rw [if_neg q, mbL_get p c h, show p.length - 1 - c = 0 by omega, mbR, show p.length - 1 = c by omega]

theorem impl_bestBelow_l2 (v : List (List Int)) (mb : List Int) (S : SB v mb) : ∀ (d i : Nat), i + d = v.length → 1 ≤ i → Ev (fun k => impl_bestBelow.l2 k (v.length : Int) (RS v mb 0) (chL v mb i) (i : Int)) (chL v mb v.length, mxR (dpR v mb (v.length - 1)) 0 ((dpR v mb (v.length - 1)).length - 1)) := by
  have hn := S.n
  have g0 : rd_L1 (RS v mb 0) 0 = dpR v mb (v.length - 1) := by
    have := rdL1_get (RS v mb 0) 0 (by rw [RS_len]; omega)
    rw [RS_at, if_pos (Nat.le_refl _)] at this
    exact this
  intro d
  induction d with
  | zero =>
    intro i hi h1
    have r0 : rd (chL v mb i) 0 = ((chR v mb 0 : Nat) : Int) := by
      have := rd_get (chL v mb i) 0 (by simp [chL]; omega)
      rw [show ((0 : Nat) : Int) = 0 from rfl] at this
      rw [this]; simp [chL]
    have c0 := chR_in v mb S 0 (by omega)
    have l := dpR_len v mb (v.length - 1) (by omega)
    rw [Nat.sub_self] at l
    have m0 := S.m0 0 (by omega)
    refine Ev.step (fun k => by rw [impl_bestBelow.l2]) ?_
    rw [g0, r0, RS_len, rd_nat]
    refine Ev.neg (by omega) (Ev.pos (by omega) (Ev.pos (by simp [chL]; omega) (Ev.pos (nn _) (Ev.pos (by omega) (Ev.cast ?_ (Ev.now _))))))
    rw [show i = v.length by omega, chR, argR_mx]
  | succ d ih =>
    intro i hi h1
    have e := ih (i + 1) (by omega) (by omega)
    rw [chL_succ] at e
    obtain ⟨j, rfl⟩ : ∃ j, i = j + 1 := ⟨i - 1, by omega⟩
    have gi : rd_L1 (RS v mb 0) ((j + 1 : Nat) : Int) = dpR v mb (v.length - 2 - j) := by
      rw [rdL1_get _ (j + 1) (by rw [RS_len]; omega), RS_at, if_pos (Nat.zero_le _), show v.length - 1 - (j + 1) = v.length - 2 - j by omega]
    have rj : rd (chL v mb (j + 1)) (j : Int) = ((chR v mb j : Nat) : Int) := by
      rw [rd_get _ j (by simp [chL])]; simp [chL]
    have cj := chR_in v mb S j (by omega)
    have u := S.up j (by omega)
    have l := dpR_len v mb (v.length - 2 - j) (by omega)
    rw [show v.length - 1 - (v.length - 2 - j) = j + 1 by omega] at l
    have m1 := S.m0 (j + 1) (by omega)
    have cc := S.col (j + 1) (by omega)
    have ccj := S.col j (by omega)
    refine Ev.step (fun k => by rw [impl_bestBelow.l2]) ?_
    rw [wr (((j + 1 : Nat) : Int) - 1) (by omega) (by omega), show ((j + 1 : Nat) : Int) - 1 = (j : Int) by omega, gi, rj, RS_len, wr_nat (j + 1) 1000 (by omega) (by omega)]
    rw [wr (((chR v mb j : Nat) : Int) - 1) (by omega) (by omega), wr (((chR v mb j : Nat) : Int) + 1) (by omega) (by omega), wr (((dpR v mb (v.length - 2 - j)).length : Int) - 1) (by omega) (by omega)]
    refine Ev.pos (by omega) (Ev.pos (nn _) (Ev.pos (by omega) (Ev.pos (nn _) (Ev.pos (by simp [chL]; omega) ?_))))
    have b := bestFrom_ev (dpR v mb (v.length - 2 - j)) (chR v mb j - 1) (min (chR v mb j + 1) ((dpR v mb (v.length - 2 - j)).length - 1) - (chR v mb j - 1)) (by omega) (by omega)
    rw [show mx 0 (((chR v mb j : Nat) : Int) - 1) = ((chR v mb j - 1 : Nat) : Int) by unfold mx; split <;> omega, show mn (((dpR v mb (v.length - 2 - j)).length : Int) - 1) (((chR v mb j : Nat) : Int) + 1) = ((chR v mb j - 1 + (min (chR v mb j + 1) ((dpR v mb (v.length - 2 - j)).length - 1) - (chR v mb j - 1)) : Nat) : Int) by unfold mn; split <;> omega]
    refine Ev.bind b (Ev.pos (by simp [chL]; omega) ?_)
    rw [chR] at e
    exact e

theorem impl_bestBelow_l1 (v : List (List Int)) (p : List Int) (S : SB v (mbL p)) (hpl : p.length = v.length) (hp : ∀ c, c < v.length → 0 ≤ p.getD c 0 ∧ p.getD c 0 ≤ ((v.getD c []).length : Int)) (i : Nat) (hi : i < v.length) (r : List Int × Int) (h : Ev (fun k => impl_bestBelow.l0 k v (mS p i) (v.length : Int) (RS v (mbL p) i) ((i : Int) - 1)) r) : ∀ (e d : Nat), d + e = ((mbL p).getD i 0).toNat + 1 →
    Ev (fun k => impl_bestBelow.l1 k v (mS p (i + 1)) (v.length : Int) ((RS v (mbL p) (i + 1)).set i ((dpR v (mbL p) (v.length - 1 - i)).take d)) (i : Int) (colS (v.getD i []) (d - 1)) (d : Int)) r := by
  have hn := S.n
  have hml := S.ml
  have c0 := S.m0 i hi
  have cc := S.col i hi
  have hpi := hp i hi
  have hlen := dpR_len v (mbL p) (v.length - 1 - i) (by omega)
  rw [show v.length - 1 - (v.length - 1 - i) = i by omega] at hlen
  have msl : (mS p (i + 1)).length = v.length := by rw [mS_len]; exact hpl
  have em : rd (mS p (i + 1)) (i : Int) = p.getD i 0 := by rw [rd_get _ i (by omega), mS_at, if_neg (by omega)]
  have hrec := mb_rec p i (by omega)
  rw [hpl] at hrec
  have back : ∀ (x7 : List (List Int)), x7 = RS v (mbL p) i → Ev (fun k => (some (([] : List Int) : List Int)).bind fun y => (if y.length + (mS p (i + 1)).length < 17592186044416 then ((some (y ++ mS p (i + 1) : List Int)).bind fun y1 => (if (i : Int) < (x7.length : Int) then (if (i : Int) < (y1.length : Int) then (impl_bestBelow.l0 k v (y1.set (i : Int).toNat (wrap64 (((rd_L1 x7 (i : Int)).length : Int) - 1))) (v.length : Int) x7 (wrap64 ((i : Int) - 1))) else (none)) else (none))) else (none))) r := by
    rintro x7 rfl
    have gi : rd_L1 (RS v (mbL p) i) (i : Int) = dpR v (mbL p) (v.length - 1 - i) := by rw [rdL1_get _ i (by rw [RS_len]; exact hi), RS_at, if_pos (Nat.le_refl _)]
    rw [gi, RS_len, wr (((dpR v (mbL p) (v.length - 1 - i)).length : Int) - 1) (by omega) (by omega), wr ((i : Int) - 1) (by omega) (by omega)]
    refine Ev.sbind (Ev.pos (by rw [List.length_nil]; omega) (Ev.sbind (Ev.pos (by omega) (Ev.pos (by rw [List.nil_append]; omega) ?_))))
    rw [List.nil_append, Int.toNat_natCast, show (((dpR v (mbL p) (v.length - 1 - i)).length : Int) - 1) = (mbL p).getD i 0 by omega, mS_set]
    exact h
  intro e
  induction e with
  | zero =>
    intro d hd
    have bk := back _ (show (RS v (mbL p) (i + 1)).set i ((dpR v (mbL p) (v.length - 1 - i)).take d) = RS v (mbL p) i by rw [List.take_of_length_le (by omega), RS_set])
    have hl2 : ((RS v (mbL p) (i + 1)).set i ((dpR v (mbL p) (v.length - 1 - i)).take d)).length = v.length := by rw [List.length_set, RS_len]
    refine Ev.step (fun k => by rw [impl_bestBelow.l1]) ?_
    rw [em, msl]
    refine Ev.pos (nn _) (Ev.pos (by omega) (Ev.cases (fun q => ?_) (fun q => ?_)))
    · by_cases z : i + 1 < v.length
      · rw [if_pos z] at hrec
        have m1 := S.m0 (i + 1) z
        have c1 := S.col (i + 1) z
        have g1 : rd (mS p (i + 1)) ((i + 1 : Nat) : Int) = (mbL p).getD (i + 1) 0 := by rw [rd_get _ (i + 1) (by omega), mS_at, if_pos (Nat.le_refl _)]
        have csd := colS_succ (v.getD i []) (d - 1) (by omega)
        rw [show d - 1 + 1 = d by omega] at csd
        refine Ev.pos (by omega) ?_
        rw [wr ((d : Int) - 1) (by omega) (by omega)]
        refine Ev.pos (by omega) (Ev.pos (by omega) (Ev.pos ?_ ?_))
        · rw [rdL1_get v i hi, ← gD v [] i hi]; omega
        · refine Ev.step (fun k => by rw [impl_bestBelow.j2]) ?_
          rw [wr_nat i 1000 (by omega) (by omega), wr_nat d 1000 (by omega) (by omega), wr ((d : Int) - 1) (by omega) (by omega), g1, msl]
          refine Ev.pos (by omega) (Ev.pos (nn _) (Ev.pos (by omega) (Ev.pos ?_ ?_)))
          · unfold mx mn; split <;> split <;> omega
          · have := back _ (show (RS v (mbL p) (i + 1)).set i ((dpR v (mbL p) (v.length - 1 - i)).take d) = RS v (mbL p) i by rw [List.take_of_length_le (by omega), RS_set])
            refine (Ev.cast rfl ?_)
            simpa only [msl, if_pos (nn i)] using this
      · rw [if_neg z] at hrec; omega
    · simpa only [msl] using bk
  | succ e ih =>
    intro d hd
    have nx := ih (d + 1) (by omega)
    have va := dpR_at v (mbL p) i hi d (by omega)
    have sm := dpR_small v (mbL p) S.cs (v.length - 1 - i) d
    rw [take_snoc _ _ (by omega), Nat.add_sub_cancel] at nx
    have hl2 : ((RS v (mbL p) (i + 1)).set i ((dpR v (mbL p) (v.length - 1 - i)).take d)).length = v.length := by rw [List.length_set, RS_len]
    have gi : rd_L1 ((RS v (mbL p) (i + 1)).set i ((dpR v (mbL p) (v.length - 1 - i)).take d)) (i : Int) = (dpR v (mbL p) (v.length - 1 - i)).take d := by
      rw [rdL1_get _ i (by rw [hl2]; exact hi), List.getElem_set, if_pos rfl]
    have htl : ((dpR v (mbL p) (v.length - 1 - i)).take d).length ≤ 100 := by rw [List.length_take]; omega
    have csB := S.cs i
    have dle : (d : Int) ≤ p.getD i 0 := by split at hrec <;> omega
    have j2 : Ev (fun k => impl_bestBelow.j2 k v (mS p (i + 1)) (v.length : Int) ((RS v (mbL p) (i + 1)).set i ((dpR v (mbL p) (v.length - 1 - i)).take d)) (i : Int) (colS (v.getD i []) d) (d : Int)) r := by
      refine Ev.step (fun k => by rw [impl_bestBelow.j2]) ?_
      rw [wr_nat i 1000 (by omega) (by omega), wr_nat d 1000 (by omega) (by omega), wr ((d : Int) - 1) (by omega) (by omega), gi, hl2, msl, Int.toNat_natCast]
      simp only [List.set_set]
      refine Ev.cases (fun q => ?_) (fun q => ?_)
      · have q' : i + 1 < v.length := by omega
        rw [if_pos q'] at hrec va
        have m1 := S.m0 (i + 1) q'
        have c1 := S.col (i + 1) q'
        have g1 : rd (mS p (i + 1)) ((i + 1 : Nat) : Int) = (mbL p).getD (i + 1) 0 := by rw [rd_get _ (i + 1) (by omega), mS_at, if_pos (Nat.le_refl _)]
        have l2 := dpR_len v (mbL p) (v.length - 1 - (i + 1)) (by omega)
        rw [show v.length - 1 - (v.length - 1 - (i + 1)) = i + 1 by omega] at l2
        have g2 : rd_L1 ((RS v (mbL p) (i + 1)).set i ((dpR v (mbL p) (v.length - 1 - i)).take d)) ((i + 1 : Nat) : Int) = dpR v (mbL p) (v.length - 1 - (i + 1)) := by
          rw [rdL1_get _ (i + 1) (by rw [hl2]; exact q'), List.getElem_set, if_neg (by omega), RS_at, if_pos (Nat.le_refl _)]
        rw [g1, g2]
        have b := bestFrom_ev (dpR v (mbL p) (v.length - 1 - (i + 1))) (d - 1) (min (d + 1) ((dpR v (mbL p) (v.length - 1 - (i + 1))).length - 1) - (d - 1)) (by omega) (by omega)
        have ai := argR_in (dpR v (mbL p) (v.length - 1 - (i + 1))) (d - 1) (min (d + 1) ((dpR v (mbL p) (v.length - 1 - (i + 1))).length - 1) - (d - 1))
        rw [show mx 0 ((d : Int) - 1) = ((d - 1 : Nat) : Int) by unfold mx; split <;> omega, show mn ((mbL p).getD (i + 1) 0) ((d + 1 : Nat) : Int) = ((d - 1 + (min (d + 1) ((dpR v (mbL p) (v.length - 1 - (i + 1))).length - 1) - (d - 1)) : Nat) : Int) by unfold mn; split <;> omega]
        refine Ev.pos (nn _) (Ev.pos (by omega) (Ev.neg (by omega) (Ev.pos (by omega) (Ev.bind b (Ev.pos (nn _) (Ev.pos (by omega) (Ev.pos (nn _) (Ev.pos (by omega) (Ev.pos (by omega) ?_)))))))))
        rw [rd_nat, argR_mx, wr (colS (v.getD i []) d + mxR _ _ _) (by omega) (by omega), ← va]
        exact nx
      · have q' : ¬ i + 1 < v.length := by omega
        rw [if_neg q', Int.add_zero] at va
        refine Ev.pos (nn _) (Ev.pos (by omega) (Ev.pos (by omega) ?_))
        rw [va] at nx
        exact nx
    refine Ev.step (fun k => by rw [impl_bestBelow.l1]) ?_
    rw [em, msl]
    refine Ev.pos (nn _) (Ev.pos (by omega) (Ev.pos dle (Ev.cases (fun q => ?_) (fun q => ?_))))
    · have csd := colS_succ (v.getD i []) (d - 1) (by omega)
      rw [show d - 1 + 1 = d by omega] at csd
      have cs1 := csB (d - 1)
      have cs2 := csB d
      rw [wr ((d : Int) - 1) (by omega) (by omega), show (d : Int) - 1 = ((d - 1 : Nat) : Int) by omega, rdL1_get v i hi, ← gD v [] i hi, rd_nat, wr (colS (v.getD i []) (d - 1) + (v.getD i []).getD (d - 1) 0) (by omega) (by omega), ← csd]
      exact Ev.pos (by omega) (Ev.pos (nn _) (Ev.pos (by omega) j2))
    · obtain rfl : d = 0 := by omega
      exact j2

theorem impl_bestBelow_l0 (v : List (List Int)) (p : List Int) (S : SB v (mbL p)) (hpl : p.length = v.length) (hp : ∀ c, c < v.length → 0 ≤ p.getD c 0 ∧ p.getD c 0 ≤ ((v.getD c []).length : Int)) : ∀ j : Nat, j ≤ v.length → Ev (fun k => impl_bestBelow.l0 k v (mS p j) (v.length : Int) (RS v (mbL p) j) ((j : Int) - 1)) (chL v (mbL p) v.length, mxR (dpR v (mbL p) (v.length - 1)) 0 ((dpR v (mbL p) (v.length - 1)).length - 1)) := by
  have hn := S.n
  intro j
  induction j with
  | zero =>
    intro _
    have g0 : rd_L1 (RS v (mbL p) 0) 0 = dpR v (mbL p) (v.length - 1) := by
      have := rdL1_get (RS v (mbL p) 0) 0 (by rw [RS_len]; omega)
      rw [RS_at, if_pos (Nat.le_refl _)] at this
      exact this
    have l := dpR_len v (mbL p) (v.length - 1) (by omega)
    rw [Nat.sub_self] at l
    have m0 := S.m0 0 (by omega)
    have cc := S.col 0 (by omega)
    have e := impl_bestBelow_l2 v (mbL p) S (v.length - 1) 1 (by omega) (by omega)
    have b := bestFrom_ev (dpR v (mbL p) (v.length - 1)) 0 ((dpR v (mbL p) (v.length - 1)).length - 1) (by omega) (by omega)
    refine Ev.step (fun k => by rw [impl_bestBelow.l0]) ?_
    rw [g0, RS_len, wr (((dpR v (mbL p) (v.length - 1)).length : Int) - 1) (by omega) (by omega), show ((dpR v (mbL p) (v.length - 1)).length : Int) - 1 = ((0 + ((dpR v (mbL p) (v.length - 1)).length - 1) : Nat) : Int) by omega]
    refine Ev.neg (by omega) (Ev.pos (by omega) (Ev.bind b ?_))
    rw [show chL v (mbL p) 1 = [((chR v (mbL p) 0 : Nat) : Int)] from rfl, chR] at e
    exact e
  | succ j ih =>
    intro hj
    have e := impl_bestBelow_l1 v p S hpl hp j (by omega) _ (ih (by omega)) (((mbL p).getD j 0).toNat + 1) 0 (by omega)
    rw [List.take_zero, RS_self] at e
    refine Ev.step (fun k => by rw [impl_bestBelow.l0]) ?_
    rw [show ((j + 1 : Nat) : Int) - 1 = (j : Int) by omega]
    refine Ev.pos (by omega) ?_
    simpa [colS] using e

theorem mS_full (p : List Int) : mS p p.length = p := by
  apply List.ext_getElem (by rw [mS_len])
  intro i h1 h2
  rw [mS_at, if_neg (by omega), gD p 0 i h2]

theorem RS_none (v : List (List Int)) (ms : List Int) : RS v ms v.length = List.replicate v.length [] := by
  apply List.ext_getElem (by simp [RS])
  intro i h1 h2
  rw [RS_at, if_neg (by rw [RS_len] at h1; omega), List.getElem_replicate]

theorem impl_bestBelow_ev (v : List (List Int)) (p : List Int) (S : SB v (mbL p)) (hpl : p.length = v.length) (hp : ∀ c, c < v.length → 0 ≤ p.getD c 0 ∧ p.getD c 0 ≤ ((v.getD c []).length : Int)) : Ev (fun k => impl_bestBelow.f k v p) (chL v (mbL p) v.length, mxR (dpR v (mbL p) (v.length - 1)) 0 ((dpR v (mbL p) (v.length - 1)).length - 1)) := by
  have hn := S.n
  unfold impl_bestBelow.f
  have e := impl_bestBelow_l0 v p S hpl hp v.length (Nat.le_refl _)
  rw [RS_none, ← hpl, mS_full, hpl] at e
  rw [Int.toNat_natCast, wr ((v.length : Int) - 1) (by omega) (by omega)]
  exact Ev.pos (nn _) (Ev.pos (by omega) e)

theorem spec_seBest_ev (v : List (List Int)) (ms : List Int) (S : SB v ms) : Ev (fun k => spec_seBest.f k v ms) (chL v ms v.length, mxR (dpR v ms (v.length - 1)) 0 ((dpR v ms (v.length - 1)).length - 1)) := by
  have hn := S.n
  unfold spec_seBest.f
  have e := spec_seBest_l0 v ms S _ (spec_seBest_l2 v ms S) v.length (Nat.le_refl _)
  rw [RS_none] at e
  rw [Int.toNat_natCast, wr ((v.length : Int) - 1) (by omega) (by omega)]
  exact Ev.pos (nn _) (Ev.pos (by omega) e)

theorem sum_small : ∀ (l : List Int), (∀ x ∈ l, -1000000 ≤ x ∧ x ≤ 1000000) → -(1000000 * (l.length : Int)) ≤ l.sum ∧ l.sum ≤ 1000000 * (l.length : Int)
  | [], _ => by simp
  | x :: l, h => by
    have a := sum_small l (fun y hy => h y (List.mem_cons_of_mem _ hy))
    have b := h x (List.mem_cons_self ..)
    rw [List.sum_cons, List.length_cons]; push_cast; omega

theorem colS_small (c : List Int) (hc : c.length ≤ 6) (h : ∀ i (h : i < c.length), -1000000 ≤ c[i] ∧ c[i] ≤ 1000000) (d : Nat) : -6000000 ≤ colS c d ∧ colS c d ≤ 6000000 := by
  have a := sum_small (c.take d) (fun x hx => by
    obtain ⟨i, hi, rfl⟩ := List.mem_iff_getElem.1 (List.mem_of_mem_take hx)
    exact h i hi)
  have l : (c.take d).length ≤ 6 := by rw [List.length_take]; omega
  unfold colS
  omega

theorem sB_of (v : List (List Int)) (p ms : List Int) (hs : secOk v = true) (hd : depOk v p = true) (hl : ms.length = v.length) (h0 : ∀ c, c < v.length → 0 ≤ ms.getD c 0 ∧ ms.getD c 0 ≤ p.getD c 0) (hu : ∀ c, c + 1 < v.length → ms.getD c 0 ≤ ms.getD (c + 1) 0 + 1) : SB v ms ∧ p.length = v.length ∧ ∀ c, c < v.length → 0 ≤ p.getD c 0 ∧ p.getD c 0 ≤ ((v.getD c []).length : Int) := by
  obtain ⟨a1, a2, a3, a4⟩ := secOk_parts hs
  have hp := depLen hd
  have el : ∀ c, c < v.length → (v.getD c []).length = (v.headD []).length ∧ ∀ i (h : i < (v.getD c []).length), -1000000 ≤ (v.getD c [])[i] ∧ (v.getD c [])[i] ≤ 1000000 := fun c hc => by
    rw [gD v [] c hc]
    refine ⟨(a4 c hc).1, fun i h => ?_⟩
    have := (List.all_eq_true.1 (a4 c hc).2) _ (List.getElem_mem h)
    exact of_decide_eq_true this
  have pp : ∀ c, c < v.length → 0 ≤ p.getD c 0 ∧ p.getD c 0 ≤ ((v.getD c []).length : Int) := fun c hc => by
    have := dep_at hd c (by omega)
    rw [gD p 0 c (by omega), (el c hc).1]; exact this
  refine ⟨⟨⟨a1, a2⟩, hl, fun c hc => ⟨by rw [(el c hc).1]; omega, Int.le_trans (h0 c hc).2 (pp c hc).2, (el c hc).2⟩, fun c hc => (h0 c hc).1, hu, fun c d => ?_⟩, hp, pp⟩
  by_cases hc : c < v.length
  · exact colS_small _ (by rw [(el c hc).1]; omega) (el c hc).2 d
  · rw [List.getD_eq_getElem?_getD, List.getElem?_eq_none (by omega)]
    simp [colS]

def fullL (v : List (List Int)) : List Int := List.replicate v.length ((v.headD []).length : Int)

theorem full_get (v : List (List Int)) (c : Nat) (h : c < v.length) : (fullL v).getD c 0 = ((v.headD []).length : Int) := by
  unfold fullL
  rw [List.getD_eq_getElem?_getD, List.getElem?_replicate, if_pos h]; rfl

theorem mbL_full (v : List (List Int)) : mbL (fullL v) = fullL v := by
  have hl : (fullL v).length = v.length := by simp [fullL]
  have key : ∀ k, k < v.length → mbR (fullL v) k = ((v.headD []).length : Int) := by
    intro k
    induction k with
    | zero => intro h; rw [mbR, hl, full_get v _ (by omega)]
    | succ k ih => intro h; rw [mbR, hl, full_get v _ (by omega), ih (by omega)]; omega
  apply List.ext_getElem (by simp [mbL])
  intro i h1 h2
  have a := mbL_get (fullL v) i h2
  rw [gD _ 0 i h1] at a
  rw [a, hl, key _ (by omega)]
  simp [fullL]

theorem spec_seFull_ev (v : List (List Int)) (hs : secOk v = true) : Ev (fun k => spec_seFull.f k v) (fullL v) := by
  obtain ⟨a1, a2, a3, a4⟩ := secOk_parts hs
  unfold spec_seFull.f
  have key : ∀ (d i : Nat), i + d = v.length → Ev (fun k => spec_seFull.l0 k (List.replicate i ((v.headD []).length : Int)) v (v.length : Int) (i : Int)) (fullL v) := by
    intro d
    induction d with
    | zero =>
      intro i hi
      refine Ev.step (fun k => by rw [spec_seFull.l0]) (Ev.neg (by omega) (Ev.cast ?_ (Ev.now _)))
      rw [show i = v.length by omega]; rfl
    | succ d ih =>
      intro i hi
      have e := ih (i + 1) (by omega)
      refine Ev.step (fun k => by rw [spec_seFull.l0]) ?_
      rw [rdL1_get v i (by omega), (a4 i (by omega)).1, wr_nat i 1000 (by omega) (by omega)]
      refine Ev.pos (by omega) (Ev.pos (nn _) (Ev.pos (by omega) (Ev.pos (by simp; omega) ?_)))
      rw [← List.replicate_succ']
      exact e
  have := key v.length 0 (by omega)
  simpa using this

theorem impl_BestProfile_l0 (v : List (List Int)) (hs : secOk v = true) (r : List Int × Int) (h : Ev (fun k => impl_bestBelow.f k v (fullL v)) r) : ∀ (d i : Nat), i + d = v.length → Ev (fun k => impl_BestProfile.l0 k v (List.replicate i ((v.headD []).length : Int) ++ List.replicate d 0) (v.length : Int) (i : Int)) (r.1, r.2, true) := by
  obtain ⟨a1, a2, a3, a4⟩ := secOk_parts hs
  intro d
  induction d with
  | zero =>
    intro i hi
    refine Ev.step (fun k => by rw [impl_BestProfile.l0]) (Ev.neg (by omega) ?_)
    rw [List.replicate_zero, List.append_nil, show i = v.length by omega]
    exact Ev.bind h (Ev.now _)
  | succ d ih =>
    intro i hi
    have e := ih (i + 1) (by omega)
    refine Ev.step (fun k => by rw [impl_BestProfile.l0]) ?_
    have r0 : rd_L1 v 0 = v.headD [] := by
      have := rdL1_get v 0 (by omega)
      rw [show ((0 : Nat) : Int) = 0 from rfl] at this
      rw [this]
      cases v with
      | nil => simp at a1
      | cons x l => rfl
    rw [r0, wr_nat i 1000 (by omega) (by omega)]
    refine Ev.pos (by omega) (Ev.pos (by omega) (Ev.pos (nn _) (Ev.pos (by simp; omega) ?_)))
    have es : (List.replicate i ((v.headD []).length : Int) ++ 0 :: List.replicate d 0).set (i : Int).toNat ((v.headD []).length : Int) = List.replicate (i + 1) ((v.headD []).length : Int) ++ List.replicate d 0 := by
      have s := set_mid (List.replicate i ((v.headD []).length : Int)) 0 ((v.headD []).length : Int) (List.replicate d 0)
      rw [List.length_replicate] at s
      rw [s, List.replicate_succ']
    rw [List.replicate_succ, es]
    exact e

theorem FnExactBestProfile (v : List (List Int)) (h1 : v.length ≤ 1048576) (h2 : ∀ z ∈ v, z.length ≤ 1048576) :
    ∃ r1 r2 r3, Ev (fun k => spec_BestProfile.f k v) (r1, r2, r3) ∧ Ev (fun k => impl_BestProfile.f k v) (r1, r2, r3) ∧ r1.length ≤ 1048576 := by
  have I := IsSection_ev v
  have G := seGood_ev v (by omega) (fun z hz => by have := h2 z hz; omega)
  by_cases hs : secOk v = true
  · obtain ⟨a1, a2, a3, a4⟩ := secOk_parts hs
    have hd : depOk v (fullL v) = true := by
      unfold depOk
      rw [Bool.and_eq_true]
      refine ⟨decide_eq_true (by simp [fullL]), ?_⟩
      rw [List.all_eq_true]
      intro x hx
      have : x = ((v.headD []).length : Int) := List.eq_of_mem_replicate hx
      subst this
      simp [inB]
    obtain ⟨S, hpl, pp⟩ := sB_of v (fullL v) (fullL v) hs hd (by simp [fullL]) (fun c hc => by rw [full_get v c hc]; omega) (fun c hc => by rw [full_get v c (by omega), full_get v (c + 1) hc]; omega)
    have e1 := spec_seBest_ev v (fullL v) S
    have e2 := impl_bestBelow_ev v (fullL v) (by rw [mbL_full]; exact S) hpl pp
    rw [mbL_full] at e2
    refine ⟨chL v (fullL v) v.length, mxR (dpR v (fullL v) (v.length - 1)) 0 ((dpR v (fullL v) (v.length - 1)).length - 1), true, ?_, ?_, ?_⟩
    rotate_left
    · unfold impl_BestProfile.f
      rw [hs] at I
      refine Ev.bind I (Ev.pos rfl (Ev.pos (nn _) (Ev.pos (by omega) (Ev.sbind ?_))))
      have l := impl_BestProfile_l0 v hs _ e2 v.length 0 (by omega)
      rw [Int.toNat_natCast, List.length_replicate]
      simpa using l
    · simp [chL]; omega
    · unfold spec_BestProfile.f
      rw [hs] at G
      exact Ev.bind G (Ev.pos rfl (Ev.bind (spec_seFull_ev v hs) (Ev.bind e1 (Ev.now _))))
  · refine ⟨[], 0, false, ?_, ?_, by simp⟩
    · unfold spec_BestProfile.f
      rw [bf hs] at G
      exact Ev.bind G (Ev.neg (by simp) (Ev.now _))
    · unfold impl_BestProfile.f
      rw [bf hs] at I
      exact Ev.bind I (Ev.neg (by simp) (Ev.now _))

end Go.Proofs.Ytdipbpckmcmljaa.Pure

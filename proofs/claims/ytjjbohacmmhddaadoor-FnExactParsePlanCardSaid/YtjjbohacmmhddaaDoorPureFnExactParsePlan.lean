/- FnExactParsePlan over numbers and lists alone: what the program's text computes and what the reference's text computes is the same, for all arguments that the row lets in; no further condition. -/
import Derived.Test.YtjjbohacmmhddaaDoorPFnExactParsePlanx
import Derived.Test.YtjjbohacmmhddaaDoorGen
import Derived.Test.YtjjbohacmmhddaaDoorOpn
set_option linter.unusedVariables false
set_option linter.unusedSimpArgs false
namespace Go.Proofs.YtjjbohacmmhddaaDoor.Pure
open Go.RowKit Go.Proofs.YtjjbohacmmhddaaDoor.PFnExactParsePlan Go.Proofs.YtjjbohacmmhddaaDoorW.PrintWords Go.Proofs.YtjjbohacmmhddaaDoorW.PrintLast Go.Proofs.YtjjbohacmmhddaaDoor.Gen Go.Proofs.YtjjbohacmmhddaaDoor.Opn
theorem toIntS_l (x0 : List Int) (hx : x0.length < 9223372036854775807) : ∀ (suf pre : List Int), pre ++ suf = x0 →
    Ev (fun k => laws_toIntS.l0 k x0 (pre ++ List.replicate suf.length 0) (pre.length : Int)) x0 := by
  intro suf
  induction suf with
  | nil =>
    rintro pre rfl
    refine Ev.step (fun k => by rw [laws_toIntS.l0]) ?_
    refine Ev.neg (by simp) ?_
    refine Ev.cast (by simp) (Ev.now _)
  | cons x suf ih =>
    rintro pre rfl
    refine Ev.step (fun k => by rw [laws_toIntS.l0]) ?_
    refine Ev.pos (mid_lt _ _ _) (Ev.pos (nn _) (Ev.pos (by simp; omega) ?_))
    rw [wr_mid pre x suf _ rfl hx, rd_mid, List.length_cons, List.replicate_succ, set_mid]
    exact ih (pre ++ [x]) (by simp)

theorem toIntS_ev (x : List Int) (hx : x.length ≤ 35184372088832) : Ev (fun k => laws_toIntS.f k x) x := by
  unfold laws_toIntS.f
  refine Ev.pos (nn _) (Ev.pos (by simpa using hx) ?_)
  simpa using toIntS_l x (by omega) x [] rfl

theorem eqIntS_l (x0 x1 : List Int) (hx : x0.length < 9223372036854775807) (hl : x0.length = x1.length) : ∀ (d i : Nat), i + d = x0.length →
    Ev (fun k => laws_eqIntS.l0 k x0 x1 (i : Int)) (decide (x0.drop i = x1.drop i)) := by
  intro d
  induction d with
  | zero =>
    intro i hi
    refine Ev.step (fun k => by rw [laws_eqIntS.l0]) ?_
    refine Ev.neg (by omega) (Ev.cast ?_ (Ev.now _))
    rw [List.drop_eq_nil_of_le (by omega), List.drop_eq_nil_of_le (by omega)]; rfl
  | succ d ih =>
    intro i hi
    refine Ev.step (fun k => by rw [laws_eqIntS.l0]) ?_
    refine Ev.pos (by omega) (Ev.pos (nn _) (Ev.pos (by omega) ?_))
    rw [rd_get x0 i (by omega), rd_get x1 i (by omega), dr x0 i (by omega), dr x1 i (by omega)]
    refine Ev.cases (fun h => ?_) (fun h => ?_)
    · rw [wr_nat i _ (by omega) hx]
      refine Ev.cast ?_ (ih (i + 1) (by omega))
      simp only [List.cons.injEq, h, true_and]
    · refine Ev.cast ?_ (Ev.now _)
      simp only [List.cons.injEq, h, false_and, decide_false]

theorem eqIntS_ev (x y : List Int) (hx : x.length < 9223372036854775807) : Ev (fun k => laws_eqIntS.f k x y) (decide (x = y)) := by
  unfold laws_eqIntS.f
  refine Ev.cases (fun h => ?_) (fun h => ?_)
  · exact eqIntS_l x y hx (by omega) x.length 0 (by omega)
  · refine Ev.cast ?_ (Ev.now _)
    exact (decide_eq_false (fun e => h (by rw [e]))).symm

theorem l1In_eq (n a b : Int) : spec_l1In.f n a b = some (decide (a ≤ n ∧ n ≤ b)) := by
  unfold spec_l1In.f
  by_cases h : n ≥ a
  · rw [if_pos h]; simp [show a ≤ n from h]
  · rw [if_neg h]; simp [show ¬ a ≤ n from h]

def inB (a b : Int) (x : Int) : Bool := decide (a ≤ x ∧ x ≤ b)

theorem l1All_l (a b : Int) (xs : List Int) (hx : xs.length < 9223372036854775807) : ∀ (d i : Nat), i + d = xs.length →
    Ev (fun k => spec_l1All.l0 k a b xs (xs.length : Int) (i : Int)) ((xs.drop i).all (inB a b)) := by
  intro d
  induction d with
  | zero =>
    intro i hi
    refine Ev.step (fun k => by rw [spec_l1All.l0]) ?_
    refine Ev.neg (by omega) (Ev.cast ?_ (Ev.now _))
    rw [List.drop_eq_nil_of_le (by omega)]; rfl
  | succ d ih =>
    intro i hi
    refine Ev.step (fun k => by rw [spec_l1All.l0]) ?_
    refine Ev.pos (by omega) (Ev.pos (nn _) (Ev.pos (by omega) ?_))
    rw [rd_get xs i (by omega), dr xs i (by omega), l1In_eq]
    refine Ev.sbind (Ev.cases (fun h => ?_) (fun h => ?_))
    · rw [wr_nat i _ (by omega) hx]
      refine Ev.cast ?_ (ih (i + 1) (by omega))
      rw [List.all_cons, inB, h, Bool.true_and]
    · refine Ev.cast ?_ (Ev.now _)
      rw [List.all_cons, inB, bf h, Bool.false_and]

theorem l1All_ev (a b : Int) (xs : List Int) (hx : xs.length < 9223372036854775807) : Ev (fun k => spec_l1All.f k xs a b) (xs.all (inB a b)) := by
  unfold spec_l1All.f
  exact l1All_l a b xs hx xs.length 0 (by omega)

def markedI (n : Nat) (a : Int) : List Int := (List.range n).map fun i : Nat => a + (i : Int)

theorem markIntS_l (a : Int) (ha : 0 ≤ a) : ∀ (suf pre : List Int), pre = markedI pre.length a → a + (pre.length : Int) + (suf.length : Int) < 9223372036854775807 →
    Ev (fun k => laws_markIntS.l0 k (pre ++ suf) (a + (pre.length : Int)) (pre.length : Int)) (a + ((pre ++ suf).length : Int), markedI (pre ++ suf).length a) := by
  intro suf
  induction suf with
  | nil =>
    intro pre hp hb
    refine Ev.step (fun k => by rw [laws_markIntS.l0]) ?_
    refine Ev.neg (by simp) (Ev.cast ?_ (Ev.now _))
    rw [List.append_nil, ← hp]
  | cons x suf ih =>
    intro pre hp hb
    refine Ev.step (fun k => by rw [laws_markIntS.l0]) ?_
    refine Ev.pos (mid_lt _ _ _) (Ev.pos (nn _) ?_)
    rw [List.length_cons] at hb
    rw [wr_mid pre x suf _ rfl (by simp; omega), set_mid, wr _ (by omega) (by omega)]
    have := ih (pre ++ [a + (pre.length : Int)]) (by
      unfold markedI; rw [List.length_append, List.length_singleton, List.range_succ, List.map_append, List.map_singleton]; unfold markedI at hp; rw [← hp]) (by simp; omega)
    simp only [List.length_append, List.length_cons, List.length_nil] at this ⊢
    rw [show a + (pre.length : Int) + 1 = a + ((pre.length + (0 + 1) : Nat) : Int) by omega, show pre.length + (suf.length + 1) = pre.length + (0 + 1) + suf.length by omega]
    exact this

theorem markIntS_ev (x : List Int) (a : Int) (ha : 0 ≤ a) (hb : a + (x.length : Int) < 9223372036854775807) : Ev (fun k => laws_markIntS.f k x a) (a + (x.length : Int), markedI x.length a) := by
  unfold laws_markIntS.f
  simpa using markIntS_l a ha x [] rfl (by simpa using hb)

theorem heldIntS_l (a : Int) (ha : 0 ≤ a) (n : Nat) (hb : a + (n : Int) < 9223372036854775807) : ∀ (d i : Nat), i + d = n →
    Ev (fun k => laws_heldIntS.l0 k (markedI n a) (a + (i : Int)) (i : Int)) (a + (n : Int)) := by
  intro d
  have hl : (markedI n a).length = n := by simp [markedI]
  induction d with
  | zero =>
    intro i hi
    refine Ev.step (fun k => by rw [laws_heldIntS.l0]) ?_
    refine Ev.neg (by omega) (Ev.cast (by omega) (Ev.now _))
  | succ d ih =>
    intro i hi
    refine Ev.step (fun k => by rw [laws_heldIntS.l0]) ?_
    refine Ev.pos (by omega) (Ev.pos (nn _) ?_)
    rw [rd_get _ i (by omega)]
    refine Ev.pos (by simp [markedI]) ?_
    rw [wr_nat i n (by omega) (by omega), wr _ (by omega) (by omega), Int.add_assoc]
    exact ih (i + 1) (by omega)

theorem heldIntS_ev (n : Nat) (a : Int) (ha : 0 ≤ a) (hb : a + (n : Int) < 9223372036854775807) : Ev (fun k => laws_heldIntS.f k (markedI n a) a) (a + (n : Int)) := by
  unfold laws_heldIntS.f
  simpa using heldIntS_l a ha n hb n 0 (by omega)

theorem rdL1_get (xs : List (List Int)) (i : Nat) (h : i < xs.length) : rd_L1 xs (i : Int) = xs[i] := by
  unfold rd_L1; rw [Int.toNat_natCast]; simp [List.getD_eq_getElem?_getD, h]

theorem rdL1_mid (pre : List (List Int)) (x : List Int) (suf : List (List Int)) : rd_L1 (pre ++ x :: suf) (pre.length : Int) = x := by
  unfold rd_L1; rw [Int.toNat_natCast]; simp

theorem szIntS_eq (x : List Int) (left : Int) (h0 : 0 ≤ left) (h1 : left ≤ 1048576) (hx : x.length ≤ maxLen) : ∃ r, laws_szIntS.f x left = some r ∧ r ≤ 1048576 ∧ (0 ≤ r → r = left - x.length) := by
  unfold laws_szIntS.f
  unfold maxLen at hx
  rw [wr _ (by omega) (by omega)]
  by_cases h : left - (x.length : Int) < 0
  · rw [if_pos h]; exact ⟨-1, rfl, by omega, by omega⟩
  · rw [if_neg h]; exact ⟨_, rfl, by omega, fun _ => rfl⟩

def totL (xs : List (List Int)) : Nat := (xs.map List.length).sum

theorem szIntSS_l (x : List (List Int)) (hx : x.length < 9223372036854775807) (hi : ∀ z ∈ x, z.length ≤ maxLen) : ∀ (suf pre : List (List Int)) (left : Int), pre ++ suf = x → 0 ≤ left → left ≤ 1048576 →
    ∃ r, Ev (fun k => laws_szIntSS.l0 k x left (pre.length : Int)) r ∧ r ≤ 1048576 ∧ (0 ≤ r → r = left - totL suf) := by
  intro suf
  induction suf with
  | nil =>
    rintro pre left rfl h0 h1
    refine ⟨left, ?_, h1, fun _ => by simp [totL]⟩
    refine Ev.step (fun k => by rw [laws_szIntSS.l0]) ?_
    exact Ev.neg (by simp) (Ev.now _)
  | cons y suf ih =>
    rintro pre left rfl h0 h1
    obtain ⟨r, hr, hr1, hr2⟩ := szIntS_eq y left h0 h1 (hi y (by simp))
    by_cases h : r < 0
    · refine ⟨-1, ?_, by omega, by omega⟩
      refine Ev.step (fun k => by rw [laws_szIntSS.l0]) ?_
      refine Ev.pos (mid_lt _ _ _) (Ev.pos (nn _) ?_)
      rw [rdL1_mid, hr]
      exact Ev.sbind (Ev.pos h (Ev.now _))
    · obtain ⟨q, hq, hq1, hq2⟩ := ih (pre ++ [y]) r (by simp) (by omega) hr1
      refine ⟨q, ?_, hq1, fun hh => ?_⟩
      · refine Ev.step (fun k => by rw [laws_szIntSS.l0]) ?_
        refine Ev.pos (mid_lt _ _ _) (Ev.pos (nn _) ?_)
        rw [rdL1_mid, hr]
        refine Ev.sbind (Ev.neg h ?_)
        rw [wr_mid pre y suf _ rfl hx]
        exact hq
      · have a := hq2 hh
        have b := hr2 (by omega)
        simp only [totL, List.map_cons, List.sum_cons] at a ⊢
        omega

theorem szIntSS_ev (x : List (List Int)) (left : Int) (h0 : 0 ≤ left) (h1 : left ≤ 1048576) (hx : x.length ≤ maxLen) (hi : ∀ z ∈ x, z.length ≤ maxLen) :
    ∃ r, Ev (fun k => laws_szIntSS.f k x left) r ∧ r ≤ 1048576 ∧ (0 ≤ r → r = left - x.length - totL x) := by
  unfold laws_szIntSS.f
  have hx' := hx
  unfold maxLen at hx'
  rw [wr _ (by omega) (by omega)]
  by_cases h : left - (x.length : Int) < 0
  · exact ⟨-1, Ev.pos h (Ev.now _), by omega, by omega⟩
  · obtain ⟨r, hr, a, b⟩ := szIntSS_l x (by omega) hi x [] (left - x.length) rfl (by omega) (by omega)
    exact ⟨r, Ev.neg h hr, a, b⟩

theorem tot_mem {xs : List (List Int)} {z : List Int} (h : z ∈ xs) : z.length ≤ totL xs := by
  induction xs with
  | nil => cases h
  | cons y ys ih =>
    rcases List.mem_cons.1 h with rfl | h
    · simp [totL]
    · have := ih h
      simp only [totL, List.map_cons, List.sum_cons] at this ⊢
      omega

theorem toIntSS_l (x0 : List (List Int)) (hx : x0.length < 9223372036854775807) (hi : ∀ z ∈ x0, z.length ≤ 1048576) : ∀ (suf pre : List (List Int)), pre ++ suf = x0 →
    Ev (fun k => laws_toIntSS.l0 k x0 (pre ++ List.replicate suf.length []) (pre.length : Int)) x0 := by
  intro suf
  induction suf with
  | nil =>
    rintro pre rfl
    refine Ev.step (fun k => by rw [laws_toIntSS.l0]) ?_
    refine Ev.neg (by simp) ?_
    refine Ev.cast (by simp) (Ev.now _)
  | cons x suf ih =>
    rintro pre rfl
    refine Ev.step (fun k => by rw [laws_toIntSS.l0]) ?_
    refine Ev.pos (mid_lt _ _ _) (Ev.pos (nn _) ?_)
    rw [rdL1_mid]
    refine Ev.bind (toIntS_ev x (by have := hi x (by simp); omega)) (Ev.pos (by simp; omega) ?_)
    rw [wr_mid pre x suf _ rfl hx, List.length_cons, List.replicate_succ, set_mid]
    exact ih (pre ++ [x]) (by simp)

theorem toIntSS_ev (x : List (List Int)) (hx : x.length ≤ 1048576) (hi : ∀ z ∈ x, z.length ≤ 1048576) : Ev (fun k => laws_toIntSS.f k x) x := by
  unfold laws_toIntSS.f
  refine Ev.pos (nn _) (Ev.pos (by rw [Int.toNat_natCast]; omega) ?_)
  simpa using toIntSS_l x (by omega) hi x [] rfl

theorem eqIntSS_l (x0 : List (List Int)) (hx : x0.length < 9223372036854775807) (hi : ∀ z ∈ x0, z.length ≤ 1048576) : ∀ (d i : Nat), i + d = x0.length → Ev (fun k => laws_eqIntSS.l0 k x0 x0 (i : Int)) true := by
  intro d
  induction d with
  | zero =>
    intro i hi
    refine Ev.step (fun k => by rw [laws_eqIntSS.l0]) ?_
    exact Ev.neg (by omega) (Ev.now _)
  | succ d ih =>
    intro i hd
    refine Ev.step (fun k => by rw [laws_eqIntSS.l0]) ?_
    refine Ev.pos (by omega) (Ev.pos (nn _) (Ev.pos (by omega) ?_))
    rw [rdL1_get x0 i (by omega)]
    refine Ev.bind (eqIntS_ev _ _ (by have := hi x0[i] (List.getElem_mem _); omega)) (Ev.pos (by simp) ?_)
    rw [wr_nat i _ (by omega) hx]
    exact ih (i + 1) (by omega)

theorem eqIntSS_ev (x : List (List Int)) (hx : x.length ≤ 1048576) (hi : ∀ z ∈ x, z.length ≤ 1048576) : Ev (fun k => laws_eqIntSS.f k x x) true := by
  unfold laws_eqIntSS.f
  exact Ev.pos rfl (eqIntSS_l x (by omega) hi x.length 0 (by omega))

theorem goodValues_ev (c : List Int) : Ev (fun k => impl_goodValues.f k c) (decide (1 ≤ c.length ∧ c.length ≤ 120) && c.all (inB (-1000000) 1000000)) := by
  unfold impl_goodValues.f
  have J : ∀ b : Bool, b = true → ∀ r, r = false → Ev (fun k => impl_goodValues.j0 k c b) r := by
    rintro b rfl r rfl
    exact Ev.step (fun k => by rw [impl_goodValues.j0]) (Ev.pos rfl (Ev.now _))
  refine Ev.cases (fun h => J _ rfl _ (by rw [decide_eq_false (by omega)]; rfl)) (fun h1 => ?_)
  by_cases h2 : (c.length : Int) > 120
  · exact J _ (decide_eq_true h2) _ (by rw [decide_eq_false (by omega)]; rfl)
  · rw [decide_eq_false h2]
    refine Ev.step (fun k => by rw [impl_goodValues.j0]) (Ev.neg (by simp) ?_)
    rw [decide_eq_true (by omega), Bool.true_and]
    have key : ∀ (d i : Nat), i + d = c.length → Ev (fun k => impl_goodValues.l0 k c (c.length : Int) (i : Int)) ((c.drop i).all (inB (-1000000) 1000000)) := by
      intro d
      induction d with
      | zero =>
        intro i hi
        refine Ev.step (fun k => by rw [impl_goodValues.l0]) ?_
        refine Ev.neg (by omega) (Ev.cast ?_ (Ev.now _))
        rw [dr0 _ _ (by omega)]; rfl
      | succ d ih =>
        intro i hi
        refine Ev.step (fun k => by rw [impl_goodValues.l0]) ?_
        refine Ev.pos (by omega) (Ev.pos (nn _) (Ev.pos (by omega) ?_))
        rw [rd_get c i (by omega), dr c i (by omega), List.all_cons]
        unfold inB
        refine Ev.cases (fun h => Ev.cast (by rw [decide_eq_false (by omega)]; rfl) (Ev.now _)) (fun h1 => ?_)
        refine Ev.cases (fun h => Ev.cast (by rw [decide_eq_false (by omega)]; rfl) (Ev.now _)) (fun h2 => ?_)
        rw [wr_nat i _ (by omega) (by omega : c.length < _), decide_eq_true (by omega), Bool.true_and]
        exact ih (i + 1) (by omega)
    exact key c.length 0 (by omega)

def incr : List Int → Bool
  | a :: b :: t => decide (a < b) && incr (b :: t)
  | _ => true

theorem incr_cons {a b : Int} {t : List Int} : incr (a :: b :: t) = (decide (a < b) && incr (b :: t)) := by rw [incr]

theorem incr_short (p : List Int) (h : p.length ≤ 1) : incr p = true := by
  match p, h with
  | [], _ => rfl
  | [a], _ => rfl
  | a :: b :: t, h => simp at h

def rise (lo hi : Int) (xs : List Int) : Bool := xs.all (inB lo hi) && incr xs

theorem l1Rising_ev (xs : List Int) (lo hi : Int) (hx : xs.length < 9223372036854775807) : Ev (fun k => spec_l1Rising.f k xs lo hi) (rise lo hi xs) := by
  unfold spec_l1Rising.f rise
  have key : ∀ (d i : Nat), i + d = xs.length → Ev (fun k => spec_l1Rising.l0 k xs lo hi xs (xs.length : Int) (i : Int)) ((xs.drop i).all (inB lo hi) && incr (xs.drop (i - 1))) := by
    intro d
    induction d with
    | zero =>
      intro i hi
      refine Ev.step (fun k => by rw [spec_l1Rising.l0]) ?_
      refine Ev.neg (by omega) (Ev.cast ?_ (Ev.now _))
      rw [dr0 _ _ (by omega), incr_short _ (by rw [List.length_drop]; omega)]; rfl
    | succ d ih =>
      intro i hd
      refine Ev.step (fun k => by rw [spec_l1Rising.l0]) ?_
      refine Ev.pos (by omega) (Ev.pos (nn _) (Ev.pos (by omega) ?_))
      rw [rd_get xs i (by omega), l1In_eq]
      refine Ev.sbind (Ev.cases (fun h => ?_) (fun h => Ev.cast (by rw [dr xs i (by omega), List.all_cons, inB, bf h]; rfl) (Ev.now _)))
      rw [dr xs i (by omega), List.all_cons, inB, h, Bool.true_and]
      refine Ev.cases (fun h1 => ?_) (fun h1 => ?_)
      · have e : wrap64 ((i : Int) - 1) = ((i - 1 : Nat) : Int) := by rw [wr _ (by omega) (by omega)]; omega
        rw [e]
        refine Ev.pos (nn _) (Ev.pos (by omega) ?_)
        rw [rd_get xs (i - 1) (by omega), dr xs (i - 1) (by omega), show i - 1 + 1 = i by omega, dr xs i (by omega), incr_cons]
        refine Ev.cases (fun h2 => Ev.cast (by rw [decide_eq_false (show ¬ xs[i - 1] < xs[i] by omega)]; simp) (Ev.now _)) (fun h2 => ?_)
        rw [decide_eq_true (show xs[i - 1] < xs[i] by omega), Bool.true_and, ← dr xs i (by omega), wr_nat i xs.length (by omega) hx]
        exact ih (i + 1) (by omega)
      · obtain rfl : i = 0 := by omega
        rw [wr_nat 0 xs.length (by omega) hx]
        exact ih 1 (by omega)
  exact key xs.length 0 (by omega)

theorem areBlocks_ev (xs : List Int) (n : Int) (hx : xs.length < 9223372036854775807) : Ev (fun k => impl_areBlocks.f k xs n) (rise 0 (n - 1) xs) := by
  unfold impl_areBlocks.f rise
  have key : ∀ (d i : Nat), i + d = xs.length → Ev (fun k => impl_areBlocks.l0 k xs n xs (xs.length : Int) (i : Int)) ((xs.drop i).all (inB 0 (n - 1)) && incr (xs.drop (i - 1))) := by
    intro d
    induction d with
    | zero =>
      intro i hi
      refine Ev.step (fun k => by rw [impl_areBlocks.l0]) ?_
      refine Ev.neg (by omega) (Ev.cast ?_ (Ev.now _))
      rw [dr0 _ _ (by omega), incr_short _ (by rw [List.length_drop]; omega)]; rfl
    | succ d ih =>
      intro i hd
      refine Ev.step (fun k => by rw [impl_areBlocks.l0]) ?_
      refine Ev.pos (by omega) (Ev.pos (nn _) (Ev.pos (by omega) ?_))
      rw [rd_get xs i (by omega), dr xs i (by omega), List.all_cons]
      refine Ev.cases (fun h => Ev.cast (by rw [inB, decide_eq_false (by omega)]; rfl) (Ev.now _)) (fun h1 => ?_)
      refine Ev.cases (fun h => Ev.cast (by rw [inB, decide_eq_false (by omega)]; rfl) (Ev.now _)) (fun h2 => ?_)
      rw [inB, decide_eq_true (show 0 ≤ xs[i] ∧ xs[i] ≤ n - 1 by omega), Bool.true_and]
      refine Ev.cases (fun h3 => ?_) (fun h3 => ?_)
      · have e : wrap64 ((i : Int) - 1) = ((i - 1 : Nat) : Int) := by rw [wr _ (by omega) (by omega)]; omega
        rw [e]
        refine Ev.pos (nn _) (Ev.pos (by omega) ?_)
        rw [rd_get xs (i - 1) (by omega), dr xs (i - 1) (by omega), show i - 1 + 1 = i by omega, dr xs i (by omega), incr_cons]
        refine Ev.cases (fun h2 => Ev.cast (by rw [decide_eq_false (show ¬ xs[i - 1] < xs[i] by omega)]; simp) (Ev.now _)) (fun h2 => ?_)
        rw [decide_eq_true (show xs[i - 1] < xs[i] by omega), Bool.true_and, ← dr xs i (by omega), wr_nat i xs.length (by omega) hx]
        exact ih (i + 1) (by omega)
      · obtain rfl : i = 0 := by omega
        rw [wr_nat 0 xs.length (by omega) hx]
        exact ih 1 (by omega)
  exact key xs.length 0 (by omega)

theorem rise_mem {lo hi : Int} {xs : List Int} (h : rise lo hi xs = true) {x : Int} (hx : x ∈ xs) : lo ≤ x ∧ x ≤ hi := by
  unfold rise at h
  rw [Bool.and_eq_true, List.all_eq_true] at h
  exact of_decide_eq_true (h.1 x hx)

def marks (n : Nat) (l : List Int) : List Bool := (List.range n).map fun i : Nat => decide ((i : Int) ∈ l)

def arcsFrom : Nat → List (List Int) → Bool
  | _, [] => true
  | i, l :: t => rise 0 ((i : Int) - 1) l && arcsFrom (i + 1) t

def arcsOk (a : List (List Int)) : Bool := decide (1 ≤ a.length ∧ a.length ≤ 120) && arcsFrom 0 a

theorem arcsFrom_at : ∀ (a : List (List Int)) (n : Nat), arcsFrom n a = true → ∀ i (h : i < a.length), rise 0 (((n + i : Nat) : Int) - 1) a[i] = true
  | [], _, _, i, h => by simp at h
  | l :: t, n, hh, i, h => by
    rw [arcsFrom, Bool.and_eq_true] at hh
    cases i with
    | zero => simpa using hh.1
    | succ i =>
      have := arcsFrom_at t (n + 1) hh.2 i (by simpa using h)
      rw [show n + 1 + i = n + (i + 1) by omega] at this
      simpa using this

theorem arcsOk_parts {a : List (List Int)} (h : arcsOk a = true) : 1 ≤ a.length ∧ a.length ≤ 120 ∧ ∀ i (h : i < a.length), rise 0 ((i : Int) - 1) a[i] = true := by
  unfold arcsOk at h
  rw [Bool.and_eq_true, decide_eq_true_eq] at h
  exact ⟨h.1.1, h.1.2, fun i hi => by simpa using arcsFrom_at a 0 h.2 i hi⟩

theorem arcsOk_mem {a : List (List Int)} (h : arcsOk a = true) (i : Nat) (hi : i < a.length) : ∀ k ∈ a[i], 0 ≤ k ∧ k < (i : Int) := by
  obtain ⟨_, _, h3⟩ := arcsOk_parts h
  intro k hk
  have := rise_mem (h3 i hi) hk
  omega

theorem AreArcs_ev (a : List (List Int)) (hi : ∀ z ∈ a, z.length < 9223372036854775807) : Ev (fun k => impl_AreArcs.f k a) (arcsOk a) := by
  unfold impl_AreArcs.f arcsOk
  have J : ∀ b : Bool, b = true → ∀ r, r = false → Ev (fun k => impl_AreArcs.j0 k a b) r := by
    rintro b rfl r rfl
    exact Ev.step (fun k => by rw [impl_AreArcs.j0]) (Ev.pos rfl (Ev.now _))
  refine Ev.cases (fun h => J _ rfl _ (by rw [decide_eq_false (show ¬ (1 ≤ a.length ∧ a.length ≤ 120) by omega)]; rfl)) (fun h1 => ?_)
  by_cases h2 : (a.length : Int) > 120
  · exact J _ (decide_eq_true h2) _ (by rw [decide_eq_false (show ¬ (1 ≤ a.length ∧ a.length ≤ 120) by omega)]; rfl)
  · rw [decide_eq_false h2, decide_eq_true (show 1 ≤ a.length ∧ a.length ≤ 120 by omega), Bool.true_and]
    refine Ev.step (fun k => by rw [impl_AreArcs.j0]) (Ev.neg (by simp) ?_)
    have key : ∀ (d i : Nat), i + d = a.length → Ev (fun k => impl_AreArcs.l0 k a (a.length : Int) (i : Int)) (arcsFrom i (a.drop i)) := by
      intro d
      induction d with
      | zero =>
        intro i hd
        refine Ev.step (fun k => by rw [impl_AreArcs.l0]) ?_
        refine Ev.neg (by omega) (Ev.cast ?_ (Ev.now _))
        rw [dr0 _ _ (by omega), arcsFrom]
      | succ d ih =>
        intro i hd
        refine Ev.step (fun k => by rw [impl_AreArcs.l0]) ?_
        refine Ev.pos (by omega) (Ev.pos (nn _) (Ev.pos (by omega) ?_))
        rw [rdL1_get a i (by omega), dr a i (by omega), arcsFrom]
        refine Ev.bind (areBlocks_ev a[i] (i : Int) (hi _ (List.getElem_mem _))) (Ev.cases (fun h => ?_) (fun h => Ev.cast (by rw [bf h]; rfl) (Ev.now _)))
        rw [h, Bool.true_and, wr_nat i a.length (by omega) (by omega)]
        exact ih (i + 1) (by omega)
    exact key a.length 0 (by omega)

theorem clArcs_ev (a : List (List Int)) (ha : a.length < 9223372036854775807) (hi : ∀ z ∈ a, z.length < 9223372036854775807) : Ev (fun k => spec_clArcs.f k a) (arcsOk a) := by
  unfold spec_clArcs.f arcsOk
  have key : ∀ (d i : Nat), i + d = a.length → Ev (fun k => spec_clArcs.l0 k a a (a.length : Int) (i : Int)) (decide (1 ≤ a.length ∧ a.length ≤ 120) && arcsFrom i (a.drop i)) := by
    intro d
    induction d with
    | zero =>
      intro i hd
      refine Ev.step (fun k => by rw [spec_clArcs.l0]) ?_
      refine Ev.neg (by omega) ?_
      rw [dr0 _ _ (by omega), arcsFrom, l1In_eq, Bool.and_true]
      exact Ev.sbind (Ev.cast (decide_eq_decide.2 (by omega)) (Ev.now _))
    | succ d ih =>
      intro i hd
      refine Ev.step (fun k => by rw [spec_clArcs.l0]) ?_
      refine Ev.pos (by omega) (Ev.pos (nn _) (Ev.pos (by omega) ?_))
      rw [rdL1_get a i (by omega), dr a i (by omega), arcsFrom, wr ((i : Int) - 1) (by omega) (by omega)]
      refine Ev.bind (l1Rising_ev a[i] 0 ((i : Int) - 1) (hi _ (List.getElem_mem _))) (Ev.cases (fun h => ?_) (fun h => Ev.cast (by rw [bf h]; simp) (Ev.now _)))
      rw [h, Bool.true_and, wr_nat i a.length (by omega) ha]
      exact ih (i + 1) (by omega)
  exact key a.length 0 (by omega)

def jobOk (a : List (List Int)) (t v : List Int) (mi ml pe nu de : Int) : Bool :=
  arcsOk a && (decide (t.length = a.length) && (decide (v.length = a.length) && (t.all (inB 0 10000) && (v.all (inB (-1000000) 1000000) && decide ((0 ≤ mi ∧ mi ≤ 1000000) ∧ (0 ≤ ml ∧ ml ≤ 1000000) ∧ (1 ≤ pe ∧ pe ≤ 6) ∧ (1 ≤ nu ∧ nu ≤ de) ∧ (1 ≤ de ∧ de ≤ 20))))))

theorem szJob_ev (a : List (List Int)) (t v : List Int) (mi ml pe nu de : Int) (left : Int) (h0 : 0 ≤ left) (h1 : left ≤ 1048576) (hx : a.length ≤ maxLen) (hi : ∀ z ∈ a, z.length ≤ maxLen) (ht : t.length ≤ maxLen) (hv : v.length ≤ maxLen) :
    ∃ r, Ev (fun k => laws_szJob.f k a t v mi ml pe nu de left) r ∧ r ≤ 1048576 ∧ (0 ≤ r → r = left - a.length - totL a - t.length - v.length) := by
  unfold laws_szJob.f
  obtain ⟨r, hr, a1, b1⟩ := szIntSS_ev a left h0 h1 hx hi
  by_cases c : r < 0
  · exact ⟨-1, Ev.bind hr (Ev.pos c (Ev.now _)), by omega, by omega⟩
  · obtain ⟨q, hq, a2, b2⟩ := szIntS_eq t r (by omega) a1 ht
    by_cases c2 : q < 0
    · exact ⟨-1, Ev.bind hr (Ev.neg c (by rw [hq]; exact Ev.sbind (Ev.pos c2 (Ev.now _)))), by omega, by omega⟩
    · obtain ⟨s, hs, a3, b3⟩ := szIntS_eq v q (by omega) a2 hv
      have b1 := b1 (by omega)
      have b2 := b2 (by omega)
      by_cases c3 : s < 0
      · exact ⟨-1, Ev.bind hr (Ev.neg c (by rw [hq]; exact Ev.sbind (Ev.neg c2 (by rw [hs]; exact Ev.sbind (Ev.pos c3 (Ev.now _)))))), by omega, by omega⟩
      · have b3 := b3 (by omega)
        exact ⟨s, Ev.bind hr (Ev.neg c (by rw [hq]; exact Ev.sbind (Ev.neg c2 (by rw [hs]; exact Ev.sbind (Ev.neg c3 (Ev.now _)))))), by omega, fun _ => by omega⟩

theorem toJob_ev (a : List (List Int)) (t v : List Int) (mi ml pe nu de : Int) (ha : a.length ≤ 1048576) (hi : ∀ z ∈ a, z.length ≤ 1048576) (ht : t.length ≤ 1048576) (hv : v.length ≤ 1048576) :
    Ev (fun k => laws_toJob.f k a t v mi ml pe nu de) (a, t, v, mi, ml, pe, nu, de) := by
  unfold laws_toJob.f laws_toLimits.f
  exact Ev.bind (toIntSS_ev a ha hi) (Ev.bind (toIntS_ev t (by omega)) (Ev.bind (toIntS_ev v (by omega)) (Ev.now _)))

theorem eqJob_ev (a : List (List Int)) (t v : List Int) (mi ml pe nu de : Int) (ha : a.length ≤ 1048576) (hi : ∀ z ∈ a, z.length ≤ 1048576) (ht : t.length ≤ 1048576) (hv : v.length ≤ 1048576) :
    Ev (fun k => laws_eqJob.f k a t v mi ml pe nu de a t v mi ml pe nu de) true := by
  unfold laws_eqJob.f laws_eqLimits.f
  refine Ev.bind (eqIntSS_ev a ha hi) (Ev.pos rfl (Ev.bind (eqIntS_ev t t (by omega)) (Ev.pos (by simp) (Ev.bind (eqIntS_ev v v (by omega)) (Ev.pos (by simp) ?_)))))
  rw [if_pos rfl, if_pos rfl]
  exact Ev.sbind (Ev.pos rfl (Ev.pos rfl (Ev.pos rfl (Ev.pos rfl (Ev.now _)))))

theorem areValued_ev (a : List (List Int)) (v : List Int) (hi : ∀ z ∈ a, z.length < 9223372036854775807) : Ev (fun k => impl_areValued.f k a v) (arcsOk a && (decide (v.length = a.length) && v.all (inB (-1000000) 1000000))) := by
  unfold impl_areValued.f
  refine Ev.bind (AreArcs_ev a hi) (Ev.cases (fun h => ?_) (fun h => Ev.cast (by rw [bf h]; rfl) (Ev.now _)))
  rw [h, Bool.true_and]
  obtain ⟨a0, a1, _⟩ := arcsOk_parts h
  refine Ev.bind (goodValues_ev v) (Ev.cases (fun h1 => ?_) (fun h1 => ?_))
  · rw [Bool.and_eq_true] at h1
    rw [h1.2, Bool.and_true]
    refine Ev.cast ?_ (Ev.now _)
    by_cases e : v.length = a.length
    · simp [e]
    · rw [decide_eq_false e]
      simp only [beq_eq_false_iff_ne, ne_eq]; omega
  · refine Ev.cast ?_ (Ev.now _)
    by_cases e : v.length = a.length
    · rw [decide_eq_true (show 1 ≤ v.length ∧ v.length ≤ 120 by omega), Bool.true_and] at h1
      rw [bf h1]; simp
    · rw [decide_eq_false e]; rfl

theorem impl_IsJob_ev (a : List (List Int)) (t v : List Int) (mi ml pe nu de : Int) (hi : ∀ z ∈ a, z.length < 9223372036854775807) (ht : t.length < 9223372036854775807) : Ev (fun k => impl_IsJob.f k a t v mi ml pe nu de) (jobOk a t v mi ml pe nu de) := by
  unfold impl_IsJob.f jobOk
  have J : ∀ b : Bool, b = true → ∀ r, r = false → Ev (fun k => impl_IsJob.j0 k b a t v mi ml pe nu de) r := by
    rintro b rfl r rfl
    exact Ev.step (fun k => by rw [impl_IsJob.j0]) (Ev.pos rfl (Ev.now _))
  refine Ev.bind (areValued_ev a v hi) (Ev.cases (fun h => ?_) (fun h => J _ rfl _ ?_))
  · simp only [Bool.and_eq_true] at h
    rw [h.1, h.2.1, h.2.2, Bool.true_and, Bool.true_and, Bool.true_and]
    by_cases e : t.length = a.length
    · rw [decide_eq_true e, Bool.true_and, show ((t.length : Int) != (a.length : Int)) = false by simp [e]]
      refine Ev.step (fun k => by rw [impl_IsJob.j0]) (Ev.neg (by simp) ?_)
      have key : ∀ (d i : Nat), i + d = t.length → Ev (fun k => impl_IsJob.l0 k t (t.length : Int) (i : Int) a t v mi ml pe nu de) ((t.drop i).all (inB 0 10000) && decide ((0 ≤ mi ∧ mi ≤ 1000000) ∧ (0 ≤ ml ∧ ml ≤ 1000000) ∧ (1 ≤ pe ∧ pe ≤ 6) ∧ (1 ≤ nu ∧ nu ≤ de) ∧ (1 ≤ de ∧ de ≤ 20))) := by
        intro d
        induction d with
        | zero =>
          intro i hd
          refine Ev.step (fun k => by rw [impl_IsJob.l0]) ?_
          refine Ev.neg (by omega) ?_
          rw [dr0 _ _ (by omega), List.all_nil, Bool.true_and]
          refine Ev.cases (fun h1 => ?_) (fun h1 => Ev.cast (decide_eq_false (by omega)).symm (Ev.now _))
          refine Ev.cases (fun h2 => ?_) (fun h2 => Ev.cast (decide_eq_false (by omega)).symm (Ev.now _))
          refine Ev.cases (fun h3 => ?_) (fun h3 => Ev.cast (decide_eq_false (by omega)).symm (Ev.now _))
          refine Ev.cases (fun h4 => ?_) (fun h4 => Ev.cast (decide_eq_false (by omega)).symm (Ev.now _))
          refine Ev.cases (fun h5 => ?_) (fun h5 => Ev.cast (decide_eq_false (by omega)).symm (Ev.now _))
          refine Ev.cases (fun h6 => ?_) (fun h6 => Ev.cast (decide_eq_false (by omega)).symm (Ev.now _))
          refine Ev.cases (fun h7 => ?_) (fun h7 => Ev.cast (decide_eq_false (by omega)).symm (Ev.now _))
          refine Ev.cases (fun h8 => ?_) (fun h8 => Ev.cast (decide_eq_false (by omega)).symm (Ev.now _))
          exact Ev.cast (decide_eq_decide.2 (by omega)) (Ev.now _)
        | succ d ih =>
          intro i hd
          refine Ev.step (fun k => by rw [impl_IsJob.l0]) ?_
          refine Ev.pos (by omega) (Ev.pos (nn _) (Ev.pos (by omega) ?_))
          rw [rd_get t i (by omega), dr t i (by omega), List.all_cons]
          refine Ev.cases (fun h => Ev.cast (by rw [inB, decide_eq_false (show ¬ (0 ≤ t[i] ∧ t[i] ≤ 10000) by omega)]; rfl) (Ev.now _)) (fun h1 => ?_)
          refine Ev.cases (fun h => Ev.cast (by rw [inB, decide_eq_false (show ¬ (0 ≤ t[i] ∧ t[i] ≤ 10000) by omega)]; rfl) (Ev.now _)) (fun h2 => ?_)
          rw [inB, decide_eq_true (show 0 ≤ t[i] ∧ t[i] ≤ 10000 by omega), Bool.true_and, wr_nat i t.length (by omega) ht]
          exact ih (i + 1) (by omega)
      exact key t.length 0 (by omega)
    · exact J _ (by simp; omega) _ (by rw [decide_eq_false e]; rfl)
  · by_cases c1 : arcsOk a = true
    · by_cases c2 : v.length = a.length
      · rw [c1, decide_eq_true c2, Bool.true_and, Bool.true_and] at h
        rw [bf h]; simp
      · rw [decide_eq_false c2]; simp
    · rw [bf c1]; rfl

theorem plJob_ev (a : List (List Int)) (t v : List Int) (mi ml pe nu de : Int) (ha : a.length < 9223372036854775807) (hi : ∀ z ∈ a, z.length < 9223372036854775807) (ht : t.length < 9223372036854775807) (hv : v.length < 9223372036854775807) : Ev (fun k => spec_plJob.f k a t v mi ml pe nu de) (jobOk a t v mi ml pe nu de) := by
  unfold spec_plJob.f jobOk
  have J : ∀ b : Bool, b = true → ∀ r, r = false → Ev (fun k => spec_plJob.j0 k b a t v mi ml pe nu de) r := by
    rintro b rfl r rfl
    exact Ev.step (fun k => by rw [spec_plJob.j0]) (Ev.pos rfl (Ev.now _))
  refine Ev.bind (clArcs_ev a ha hi) (Ev.cases (fun h => ?_) (fun h => J _ rfl _ (by rw [bf h]; rfl)))
  refine Ev.cases (fun h1 => ?_) (fun h1 => J _ rfl _ (by rw [decide_eq_false (show ¬ t.length = a.length by omega)]; simp))
  refine Ev.cases (fun h2 => ?_) (fun h2 => J _ rfl _ (by rw [decide_eq_false (show ¬ v.length = a.length by omega)]; simp))
  refine Ev.bind (l1All_ev 0 10000 t ht) (Ev.cases (fun h3 => ?_) (fun h3 => J _ rfl _ (by rw [bf h3]; simp)))
  refine Ev.bind (l1All_ev (-1000000) 1000000 v hv) ?_
  by_cases h4 : v.all (inB (-1000000) 1000000) = true
  · rw [h, h3, h4, decide_eq_true (show t.length = a.length by omega), decide_eq_true (show v.length = a.length by omega)]
    simp only [Bool.true_and, Bool.not_true]
    refine Ev.step (fun k => by rw [spec_plJob.j0]) (Ev.neg (by simp) ?_)
    rw [l1In_eq, l1In_eq, l1In_eq, l1In_eq, l1In_eq]
    refine Ev.sbind (Ev.cases (fun q1 => ?_) (fun q1 => Ev.cast (decide_eq_false (by have := of_decide_eq_false (bf q1); omega)).symm (Ev.now _)))
    refine Ev.sbind (Ev.cases (fun q2 => ?_) (fun q2 => Ev.cast (decide_eq_false (by have := of_decide_eq_false (bf q2); omega)).symm (Ev.now _)))
    refine Ev.sbind (Ev.cases (fun q3 => ?_) (fun q3 => Ev.cast (decide_eq_false (by have := of_decide_eq_false (bf q3); omega)).symm (Ev.now _)))
    refine Ev.sbind (Ev.cases (fun q4 => ?_) (fun q4 => Ev.cast (decide_eq_false (by have := of_decide_eq_false (bf q4); omega)).symm (Ev.now _)))
    have q1 := of_decide_eq_true q1
    have q2 := of_decide_eq_true q2
    have q3 := of_decide_eq_true q3
    have q4 := of_decide_eq_true q4
    exact Ev.sbind (Ev.cast (decide_eq_decide.2 (by omega)) (Ev.now _))
  · rw [bf h4]
    exact J _ rfl _ (by simp)

structure JobSmall (a : List (List Int)) (t v : List Int) : Prop where
  la : a.length ≤ 1048576
  li : ∀ z ∈ a, z.length ≤ 1048576
  lt : t.length ≤ 1048576
  lv : v.length ≤ 1048576
theorem JobSmall.of {a : List (List Int)} {t v : List Int} {r left : Int} (h : r = left - a.length - totL a - t.length - v.length) (h0 : 0 ≤ r) (h1 : left ≤ 1048576) : JobSmall a t v :=
  ⟨by omega, fun z hz => by have := tot_mem hz; omega, by omega, by omega⟩
theorem JobSmall.li' {a : List (List Int)} {t v : List Int} (h : JobSmall a t v) : ∀ z ∈ a, z.length < 9223372036854775807 := fun z hz => by have := h.li z hz; omega

def planOk (a : List (List Int)) (pe pp : Int) (w : List Int) : Bool := decide (pp = pe) && (decide (w.length = a.length) && w.all (inB (-1) (pe - 1)))

structure JobIn (a : List (List Int)) (t v : List Int) (mi ml pe nu de : Int) : Prop where
  arcs : arcsOk a = true
  n1 : 1 ≤ a.length
  n2 : a.length ≤ 120
  tl : t.length = a.length
  vl : v.length = a.length
  tr : ∀ i (h : i < t.length), 0 ≤ t[i] ∧ t[i] ≤ 10000
  vr : ∀ i (h : i < v.length), -1000000 ≤ v[i] ∧ v[i] ≤ 1000000
  pe : 1 ≤ pe ∧ pe ≤ 6
  nu : 1 ≤ nu ∧ nu ≤ de
  de : 1 ≤ de ∧ de ≤ 20
  mi : 0 ≤ mi ∧ mi ≤ 1000000
  ml : 0 ≤ ml ∧ ml ≤ 1000000
theorem JobIn.of {a : List (List Int)} {t v : List Int} {mi ml pe nu de : Int} (h : jobOk a t v mi ml pe nu de = true) : JobIn a t v mi ml pe nu de := by
  unfold jobOk at h
  simp only [Bool.and_eq_true, decide_eq_true_eq, List.all_eq_true] at h
  obtain ⟨h1, h2, h3, h4, h5, h6, h7, h8, h9, h10⟩ := h
  obtain ⟨a0, a1, _⟩ := arcsOk_parts h1
  exact ⟨h1, a0, a1, h2, h3, fun i h => of_decide_eq_true (h4 _ (List.getElem_mem h)), fun i h => of_decide_eq_true (h5 _ (List.getElem_mem h)), h8, h9, h10, h6, h7⟩
theorem JobIn.i {a : List (List Int)} {t v : List Int} {mi ml pe nu de : Int} (J : JobIn a t v mi ml pe nu de) (i : Nat) (h : i < a.length) : ∀ k ∈ a[i], 0 ≤ k ∧ k < (i : Int) := arcsOk_mem J.arcs i h

theorem eqPlan_ev (pp : Int) (w : List Int) (hw : w.length ≤ 1048576) : Ev (fun k => laws_eqPlan.f k pp w pp w) true := by
  unfold laws_eqPlan.f
  exact Ev.pos rfl (Ev.bind (eqIntS_ev w w (by omega)) (Ev.pos (by simp) (Ev.now _)))

theorem plGood_ev (a : List (List Int)) (t v : List Int) (mi ml pe nu de pp : Int) (w : List Int) (hpe : -1000 ≤ pe ∧ pe ≤ 1000) (hw : w.length < 9223372036854775807) : Ev (fun k => spec_plGood.f k a t v mi ml pe nu de pp w) (planOk a pe pp w) := by
  unfold spec_plGood.f planOk
  refine Ev.cases (fun h => ?_) (fun h => Ev.cast (by rw [decide_eq_false h]; rfl) (Ev.now _))
  refine Ev.cases (fun h2 => ?_) (fun h2 => Ev.cast (by rw [decide_eq_false (show ¬ w.length = a.length by omega)]; simp) (Ev.now _))
  rw [decide_eq_true h, decide_eq_true (show w.length = a.length by omega), Bool.true_and, Bool.true_and, wr _ (by omega) (by omega)]
  exact Ev.bind (l1All_ev (-1) (pe - 1) w hw) (Ev.now _)

def marksSS : List (List Int) → Int → List (List Int)
  | [], _ => []
  | x :: xs, a => markedI x.length a :: marksSS xs (a + (x.length : Int))

theorem marksSS_len (xs : List (List Int)) (a : Int) : (marksSS xs a).length = xs.length := by
  induction xs generalizing a with
  | nil => rfl
  | cons x xs ih => rw [marksSS, List.length_cons, ih, List.length_cons]

theorem marksSS_snoc (xs : List (List Int)) (x : List Int) (a : Int) : marksSS (xs ++ [x]) a = marksSS xs a ++ [markedI x.length (a + (totL xs : Int))] := by
  induction xs generalizing a with
  | nil => simp [marksSS, totL]
  | cons y ys ih =>
    rw [List.cons_append, marksSS, ih, marksSS, List.cons_append]
    have : a + (y.length : Int) + (totL ys : Int) = a + (totL (y :: ys) : Int) := by simp [totL]; omega
    rw [this]

theorem totL_snoc (xs : List (List Int)) (x : List Int) : totL (xs ++ [x]) = totL xs + x.length := by simp [totL]

theorem markPlan_ev (pp : Int) (w : List Int) (a : Int) (ha : 0 ≤ a) (hb : a + (w.length : Int) < 9223372036854775807) : Ev (fun k => laws_markPlan.f k pp w a) (a + (w.length : Int), markedI w.length a) := by
  unfold laws_markPlan.f
  exact Ev.bind (markIntS_ev w a ha hb) (Ev.now _)

theorem heldPlan_ev (pp : Int) (n : Nat) (a : Int) (ha : 0 ≤ a) (hb : a + (n : Int) < 9223372036854775807) : Ev (fun k => laws_heldPlan.f k pp (markedI n a) a) (a + (n : Int)) := by
  unfold laws_heldPlan.f
  exact Ev.bind (heldIntS_ev n a ha hb) (Ev.neg (by omega) (Ev.now _))

def num (n : Int) : ByteArray := ⟨(Lib.itoa n).toArray⟩

def plRow (t : Int) : List Int → Int → ByteArray → ByteArray
  | [], _, s => s
  | x :: xs, i, s => plRow t xs (i + 1) (if x = t then s ++ ((⟨#[32]⟩ : ByteArray) ++ num i) else s)

def plTx (w : List Int) : Nat → Int → ByteArray → ByteArray
  | 0, _, s => s
  | d + 1, t, s => plTx w d (t + 1) (plRow t w 0 (s ++ (num t ++ (⟨#[58]⟩ : ByteArray))) ++ (⟨#[10]⟩ : ByteArray))

theorem digits_len : ∀ (d u : Nat), u < 10 ^ (d + 1) → (Lib.decDigits u).length ≤ d + 1
  | 0, u, h => by rw [Lib.decDigits, dif_pos (by omega)]; simp
  | d + 1, u, h => by
    rw [Lib.decDigits]
    split
    · simp
    · rw [List.length_append]
      have := digits_len d (u / 10) (by rw [Nat.pow_succ] at h; omega)
      simp
      omega

theorem num_nn {n : Int} (h : 0 ≤ n) : num n = ⟨(Lib.decDigits n.toNat).toArray⟩ := by unfold num Lib.itoa; rw [if_neg (by omega)]

theorem num_size {n : Int} (h : 0 ≤ n) (h1 : n < 1000) : (num n).size ≤ 3 := by
  rw [num_nn h]
  have := digits_len 2 n.toNat (by omega)
  simpa [ByteArray.size] using this

theorem digit_str (u : Nat) (h : u < 10) : strOfNums [(wrap64 (48 + (u : Int))) % 256] = ⟨[UInt8.ofNat (48 + u)].toArray⟩ := by
  rw [show wrap64 (48 + (u : Int)) = 48 + (u : Int) by unfold wrap64; omega, show (48 + (u : Int)) % 256 = ((48 + u : Nat) : Int) by omega]
  rfl

theorem l1Num_ev : ∀ (d : Nat) (n : Nat), n < 10 ^ (d + 1) → d ≤ 5 → Ev (fun k => spec_l1Num.f k (n : Int)) (num (n : Int))
  | 0, n, h, _ => by
    refine Ev.step (fun k => by rw [spec_l1Num.f]) ?_
    refine Ev.pos (by omega) (Ev.cast ?_ (Ev.now _))
    rw [num_nn (nn _), Int.toNat_natCast, Lib.decDigits, dif_pos (by omega), digit_str n (by omega)]
  | d + 1, n, h, hd => by
    have hp : 10 ^ (d + 1 + 1) ≤ 10 ^ 6 := Nat.pow_le_pow_right (by omega) (by omega)
    by_cases c : n < 10
    · refine Ev.step (fun k => by rw [spec_l1Num.f]) (Ev.pos (by omega) (Ev.cast ?_ (Ev.now _)))
      rw [num_nn (nn _), Int.toNat_natCast, Lib.decDigits, dif_pos c, digit_str n c]
    · have hq : n / 10 < 10 ^ (d + 1) := by rw [Nat.pow_succ] at h; omega
      have ih := l1Num_ev d (n / 10) hq (by omega)
      have w1 : wrap64 (Int.tdiv (n : Int) 10) = ((n / 10 : Nat) : Int) := by
        rw [Int.tdiv_eq_ediv_of_nonneg (nn _)]
        unfold wrap64; omega
      have w2 : Int.tmod (n : Int) 10 = ((n % 10 : Nat) : Int) := by rw [Int.tmod_eq_emod_of_nonneg (nn _)]; omega
      have e : num (n : Int) = num ((n / 10 : Nat) : Int) ++ ⟨[UInt8.ofNat (48 + n % 10)].toArray⟩ := by
        rw [num_nn (nn _), num_nn (nn _), Int.toNat_natCast, Int.toNat_natCast, Lib.decDigits, dif_neg c]
        apply ByteArray.ext
        simp
      have hl := digits_len d (n / 10) hq
      have hs : (num ((n / 10 : Nat) : Int)).size ≤ d + 1 := by rw [num_nn (nn _), Int.toNat_natCast]; simpa [ByteArray.size] using hl
      refine Ev.step (fun k => by rw [spec_l1Num.f]) ?_
      refine Ev.neg (by omega) ?_
      rw [w1, w2]
      refine Ev.bind ih (Ev.sbind ?_)
      rw [digit_str _ (by omega)]
      refine Ev.pos ?_ (Ev.cast e.symm (Ev.now _))
      have : (⟨[UInt8.ofNat (48 + n % 10)].toArray⟩ : ByteArray).size = 1 := rfl
      omega

theorem l1Num_num {n : Int} (h : 0 ≤ n) (h1 : n < 1000) : Ev (fun k => spec_l1Num.f k n) (num n) := by
  have := l1Num_ev 2 n.toNat (by omega) (by omega)
  rwa [Int.toNat_of_nonneg h] at this

theorem itoa_num {n : Int} (h : 0 ≤ n) (h1 : n < 1000) : Ev (fun k => strconv_Itoa_44.f k n) (num n) := by
  unfold strconv_Itoa_44.f
  exact Ev.pos (by omega) (Ev.now _)

theorem plRow_size (t : Int) : ∀ (xs : List Int) (i : Int) (s : ByteArray), 0 ≤ i → i + (xs.length : Int) ≤ 1000 → (plRow t xs i s).size ≤ s.size + 4 * xs.length
  | [], _, s, _, _ => Nat.le_refl _
  | x :: xs, i, s, h0, h1 => by
    rw [List.length_cons] at h1
    unfold plRow
    have ih := fun s' => plRow_size t xs (i + 1) s' (by omega) (by omega)
    have hn := num_size (n := i) h0 (by omega)
    rw [List.length_cons]
    by_cases c : x = t
    · rw [if_pos c]
      have := ih (s ++ ((⟨#[32]⟩ : ByteArray) ++ num i))
      rw [ByteArray.size_append, ByteArray.size_append, show (⟨#[32]⟩ : ByteArray).size = 1 from rfl] at this
      omega
    · rw [if_neg c]
      have := ih s
      omega

theorem spec_row (w : List Int) (pp t : Int) (hw : w.length ≤ 120) (r : ByteArray) : ∀ (suf pre : List Int) (s : ByteArray), w = pre ++ suf → s.size + 4 * suf.length ≤ 100000 → Ev (fun k => spec_plText.l0 k (plRow t suf (pre.length : Int) s ++ (⟨#[10]⟩ : ByteArray)) (wrap64 (t + 1)) pp w) r → Ev (fun k => spec_plText.l1 k s t w (w.length : Int) (pre.length : Int) pp w) r := by
  intro suf
  induction suf with
  | nil =>
    intro pre s he hs h
    rw [List.append_nil] at he
    refine Ev.step (fun k => by rw [spec_plText.l1]) ?_
    refine Ev.neg (by rw [he]; omega) (Ev.pos (by simp at hs; omega) h)
  | cons x suf ih =>
    intro pre s he hs h
    have hlen : w.length = pre.length + suf.length + 1 := by rw [he]; simp; omega
    have hrd : rd w (pre.length : Int) = x := by rw [he]; exact rd_mid pre x suf
    have hn := num_size (n := (pre.length : Int)) (nn _) (by omega)
    rw [List.length_cons] at hs
    have hz : ((⟨#[32]⟩ : ByteArray) ++ num (pre.length : Int)).size = 1 + (num (pre.length : Int)).size := by rw [ByteArray.size_append]; rfl
    have step := fun s' => ih (pre ++ [x]) s' (by rw [he]; simp)
    refine Ev.step (fun k => by rw [spec_plText.l1]) ?_
    refine Ev.pos (by omega) (Ev.pos (nn _) (Ev.pos (by omega) ?_))
    rw [hrd, wr_nat pre.length 1000 (by omega) (by omega)]
    unfold plRow at h
    refine Ev.cases (fun c => ?_) (fun c => ?_)
    · rw [if_pos c] at h
      refine Ev.bind (l1Num_num (nn _) (by omega)) (Ev.pos (by omega) (Ev.pos (by rw [hz]; omega) ?_))
      have := step (s ++ ((⟨#[32]⟩ : ByteArray) ++ num (pre.length : Int))) (by rw [ByteArray.size_append, hz]; omega) (by simpa using h)
      simpa using this
    · rw [if_neg c] at h
      have := step s (by omega) (by simpa using h)
      simpa using this

theorem plTx_ev (w : List Int) (pp : Int) (hw : w.length ≤ 120) : ∀ (d : Nat) (t : Int) (s : ByteArray), 0 ≤ t → t + (d : Int) = pp → pp ≤ 100 → s.size + d * 600 ≤ 90000 → Ev (fun k => spec_plText.l0 k s t pp w) (plTx w d t s)
  | 0, t, s, h0, h1, h2, hs => by
    refine Ev.step (fun k => by rw [spec_plText.l0]) ?_
    refine Ev.neg (by omega) (Ev.now _)
  | d + 1, t, s, h0, h1, h2, hs => by
    have hn := num_size (n := t) h0 (by omega)
    have hz : (num t ++ (⟨#[58]⟩ : ByteArray)).size = (num t).size + 1 := by rw [ByteArray.size_append]; rfl
    have w1 : wrap64 (t + 1) = t + 1 := by unfold wrap64; omega
    refine Ev.step (fun k => by rw [spec_plText.l0]) ?_
    refine Ev.pos (by omega) (Ev.bind (l1Num_num h0 (by omega)) (Ev.pos (by omega) (Ev.pos (by rw [hz]; omega) ?_)))
    have hr := plRow_size t w 0 (s ++ (num t ++ (⟨#[58]⟩ : ByteArray))) (by omega) (by omega)
    rw [ByteArray.size_append, hz] at hr
    refine spec_row w pp t hw _ w [] _ rfl (by rw [ByteArray.size_append, hz]; omega) ?_
    rw [w1]
    exact plTx_ev w pp hw d (t + 1) _ (by omega) (by omega) h2 (by rw [ByteArray.size_append, show (⟨#[10]⟩ : ByteArray).size = 1 from rfl]; show (plRow t w 0 _).size + 1 + _ ≤ _; omega)

theorem impl_row (w : List Int) (pp t : Int) (hw : w.length ≤ 120) (r : ByteArray) : ∀ (suf pre : List Int) (s : ByteArray), w = pre ++ suf → s.size + 4 * suf.length ≤ 100000 → Ev (fun k => impl_planText.l0 k (plRow t suf (pre.length : Int) s ++ (⟨#[10]⟩ : ByteArray)) (wrap64 (t + 1)) pp w) r → Ev (fun k => impl_planText.l1 k s t w (w.length : Int) (pre.length : Int) pp w) r := by
  intro suf
  induction suf with
  | nil =>
    intro pre s he hs h
    rw [List.append_nil] at he
    refine Ev.step (fun k => by rw [impl_planText.l1]) ?_
    refine Ev.neg (by rw [he]; omega) (Ev.pos (by simp at hs; omega) h)
  | cons x suf ih =>
    intro pre s he hs h
    have hlen : w.length = pre.length + suf.length + 1 := by rw [he]; simp; omega
    have hrd : rd w (pre.length : Int) = x := by rw [he]; exact rd_mid pre x suf
    have hn := num_size (n := (pre.length : Int)) (nn _) (by omega)
    rw [List.length_cons] at hs
    have hz : ((⟨#[32]⟩ : ByteArray) ++ num (pre.length : Int)).size = 1 + (num (pre.length : Int)).size := by rw [ByteArray.size_append]; rfl
    have step := fun s' => ih (pre ++ [x]) s' (by rw [he]; simp)
    refine Ev.step (fun k => by rw [impl_planText.l1]) ?_
    refine Ev.pos (by omega) (Ev.pos (nn _) (Ev.pos (by omega) ?_))
    rw [hrd, wr_nat pre.length 1000 (by omega) (by omega)]
    unfold plRow at h
    refine Ev.cases (fun c => ?_) (fun c => ?_)
    · rw [if_pos c] at h
      refine Ev.bind (itoa_num (nn _) (by omega)) (Ev.pos (by omega) (Ev.pos (by rw [hz]; omega) ?_))
      have := step (s ++ ((⟨#[32]⟩ : ByteArray) ++ num (pre.length : Int))) (by rw [ByteArray.size_append, hz]; omega) (by simpa using h)
      simpa using this
    · rw [if_neg c] at h
      have := step s (by omega) (by simpa using h)
      simpa using this

theorem planTx_ev (w : List Int) (pp : Int) (hw : w.length ≤ 120) : ∀ (d : Nat) (t : Int) (s : ByteArray), 0 ≤ t → t + (d : Int) = pp → pp ≤ 100 → s.size + d * 600 ≤ 90000 → Ev (fun k => impl_planText.l0 k s t pp w) (plTx w d t s)
  | 0, t, s, h0, h1, h2, hs => by
    refine Ev.step (fun k => by rw [impl_planText.l0]) ?_
    refine Ev.neg (by omega) (Ev.now _)
  | d + 1, t, s, h0, h1, h2, hs => by
    have hn := num_size (n := t) h0 (by omega)
    have hz : (num t ++ (⟨#[58]⟩ : ByteArray)).size = (num t).size + 1 := by rw [ByteArray.size_append]; rfl
    have w1 : wrap64 (t + 1) = t + 1 := by unfold wrap64; omega
    refine Ev.step (fun k => by rw [impl_planText.l0]) ?_
    refine Ev.pos (by omega) (Ev.bind (itoa_num h0 (by omega)) (Ev.pos (by omega) (Ev.pos (by rw [hz]; omega) ?_)))
    have hr := plRow_size t w 0 (s ++ (num t ++ (⟨#[58]⟩ : ByteArray))) (by omega) (by omega)
    rw [ByteArray.size_append, hz] at hr
    refine impl_row w pp t hw _ w [] _ rfl (by rw [ByteArray.size_append, hz]; omega) ?_
    rw [w1]
    exact planTx_ev w pp hw d (t + 1) _ (by omega) (by omega) h2 (by rw [ByteArray.size_append, show (⟨#[10]⟩ : ByteArray).size = 1 from rfl]; show (plRow t w 0 _).size + 1 + _ ≤ _; omega)

def sl (c : UInt8) : List UInt8 → List (List UInt8)
  | [] => [[]]
  | b :: l => if b = c then [] :: sl c l else match sl c l with
    | [] => [[b]]
    | p :: ps => (b :: p) :: ps

theorem sl_ne (c : UInt8) : ∀ l, sl c l ≠ []
  | [] => by simp [sl]
  | b :: l => by
    unfold sl
    split
    · simp
    · split <;> simp

def glue (pre : List UInt8) : List (List UInt8) → List (List UInt8)
  | [] => [pre]
  | p :: ps => (pre ++ p) :: ps

theorem glue_nil (c : UInt8) (l : List UInt8) : glue [] (sl c l) = sl c l := by
  rcases h : sl c l with _ | ⟨p, ps⟩
  · exact absurd h (sl_ne c l)
  · rfl

theorem glue_step {c b : UInt8} (h : b ≠ c) (pre l : List UInt8) : glue pre (sl c (b :: l)) = glue (pre ++ [b]) (sl c l) := by
  rw [sl, if_neg h]
  rcases e : sl c l with _ | ⟨p, ps⟩
  · exact absurd e (sl_ne c l)
  · simp [glue]

theorem sl_snoc (c : UInt8) : ∀ l, sl c (l ++ [c]) = sl c l ++ [[]]
  | [] => by simp [sl]
  | b :: l => by
    rw [List.cons_append, sl, sl, sl_snoc c l]
    split
    · rfl
    · rcases e : sl c l with _ | ⟨p, ps⟩
      · exact absurd e (sl_ne c l)
      · rfl

theorem sl_cut {c : UInt8} : ∀ (pre post : List UInt8), c ∉ pre → sl c (pre ++ c :: post) = pre :: sl c post
  | [], post, _ => by rw [List.nil_append, sl, if_pos rfl]
  | b :: pre, post, h => by
    rw [List.cons_append, sl, if_neg (fun e => h (by rw [e]; exact List.mem_cons_self ..)), sl_cut pre post (fun e => h (List.mem_cons_of_mem _ e))]

theorem sl_whole {c : UInt8} : ∀ l : List UInt8, c ∉ l → sl c l = [l]
  | [], _ => rfl
  | b :: l, h => by rw [sl, if_neg (fun e => h (by rw [e]; exact List.mem_cons_self ..)), sl_whole l (fun e => h (List.mem_cons_of_mem _ e))]

theorem index_has {c : UInt8} : ∀ (pre post : List UInt8), c ∉ pre → Lib.indexByte (pre ++ c :: post) c = (pre.length : Int)
  | [], post, _ => by simp [Lib.indexByte]
  | b :: pre, post, h => by
    have hb : ¬ b = c := fun e => h (by rw [e]; exact List.mem_cons_self ..)
    have ih := index_has pre post (fun e => h (List.mem_cons_of_mem _ e))
    rw [List.cons_append, Lib.indexByte, if_neg (by simpa using hb), ih, if_neg (by simp <;> omega)]
    simp

theorem index_lacks {c : UInt8} : ∀ l : List UInt8, c ∉ l → Lib.indexByte l c = -1
  | [], _ => rfl
  | b :: l, h => by
    have hb : ¬ b = c := fun e => h (by rw [e]; exact List.mem_cons_self ..)
    rw [Lib.indexByte, if_neg (by simpa using hb), index_lacks l (fun e => h (List.mem_cons_of_mem _ e))]
    rfl

theorem first_cut {c : UInt8} : ∀ l : List UInt8, c ∈ l → ∃ pre post, l = pre ++ c :: post ∧ c ∉ pre
  | [], h => by cases h
  | b :: l, h => by
    by_cases e : b = c
    · subst e; exact ⟨[], l, rfl, by simp⟩
    · obtain ⟨pre, post, h1, h2⟩ := first_cut l (by rcases List.mem_cons.1 h with h | h; exact absurd h.symm e; exact h)
      exact ⟨b :: pre, post, by rw [h1]; rfl, by simp [h2]; exact fun q => e q.symm⟩

def toB (l : List UInt8) : ByteArray := ⟨l.toArray⟩

theorem splitB_sl (c : UInt8) : ∀ (n : Nat) (l : List UInt8), l.length ≤ n → Lib.splitB ⟨#[c]⟩ 0 (Lib.countB (toB l) ⟨#[c]⟩) (toB l) = (sl c l).map toB := by
  intro n
  induction n with
  | zero =>
    intro l hl
    have : l = [] := List.eq_nil_of_length_eq_zero (by omega)
    subst this
    have hi : Lib.indexB (toB []) ⟨#[c]⟩ = -1 := by show Lib.index [] [c] = -1; rfl
    rw [Lib.splitB_miss _ _ _ _ hi]; rfl
  | succ n ih =>
    intro l hl
    by_cases hc : c ∈ l
    · obtain ⟨pre, post, rfl, hp⟩ := first_cut l hc
      have hi : Lib.indexB (toB (pre ++ c :: post)) ⟨#[c]⟩ = (pre.length : Int) := by
        show Lib.index (pre ++ c :: post) [c] = _
        rw [Lib.index_one, index_has pre post hp]
      have e1 : (toB (pre ++ c :: post)).extract (pre.length + (⟨#[c]⟩ : ByteArray).size) (toB (pre ++ c :: post)).size = toB post := by
        apply ByteArray.ext
        rw [ByteArray.data_extract]
        show (Array.extract (pre ++ c :: post).toArray (pre.length + 1) (pre ++ c :: post).toArray.size) = post.toArray
        simp
        exact List.take_of_length_le (by omega)
      have e0 : (toB (pre ++ c :: post)).extract 0 (pre.length + 0) = toB pre := by
        apply ByteArray.ext
        rw [ByteArray.data_extract]
        show (Array.extract (pre ++ c :: post).toArray 0 (pre.length + 0)) = pre.toArray
        simp
      rw [Lib.countB_hit _ _ _ (Nat.le_refl _) hi, Nat.add_comm 1, Lib.splitB_hit _ _ _ _ _ hi, e1, e0, ih post (by simp at hl; omega), sl_cut pre post hp]
      rfl
    · have hi : Lib.indexB (toB l) ⟨#[c]⟩ = -1 := by
        show Lib.index l [c] = -1
        rw [Lib.index_one, index_lacks l hc]
      rw [Lib.splitB_miss _ _ _ _ hi, sl_whole l hc]
      rfl

theorem toB_cut (a b r : List UInt8) : (toB (a ++ b ++ r)).extract a.length (a.length + b.length) = toB b := by
  apply ByteArray.ext
  rw [ByteArray.data_extract]
  show (Array.extract (a ++ b ++ r).toArray a.length (a.length + b.length)) = b.toArray
  simp

theorem toB_size (l : List UInt8) : (toB l).size = l.length := rfl

theorem toB_self (s : ByteArray) : toB s.data.toList = s := by cases s; rfl

theorem bt_mid (a : List UInt8) (b : UInt8) (r : List UInt8) : bt (toB (a ++ b :: r)) (a.length : Int) = (b.toNat : Int) := by
  have h : (a.length : Int).toNat < (toB (a ++ b :: r)).size := by rw [Int.toNat_natCast, toB_size]; simp
  unfold bt
  rw [dif_pos h]
  congr 2
  show (a ++ b :: r).toArray[(a.length : Int).toNat]'_ = b
  simp

theorem l1Split_l0 (c : UInt8) (L : List UInt8) (hL : L.length ≤ 2097152) : ∀ (suf pre mid : List UInt8) (acc : List ByteArray), L = pre ++ mid ++ suf → acc.length ≤ pre.length → Ev (fun k => spec_l1Split.l0 k (toB L) (c.toNat : Int) acc (pre.length : Int) ((pre.length + mid.length : Nat) : Int)) (acc ++ (glue mid (sl c suf)).map toB) := by
  intro suf
  induction suf with
  | nil =>
    intro pre mid acc he ha
    rw [List.append_nil] at he
    have hl : L.length = pre.length + mid.length := by rw [he, List.length_append]
    refine Ev.step (fun k => by rw [spec_l1Split.l0]) ?_
    refine Ev.neg (by rw [toB_size]; omega) (Ev.pos (nn _) (Ev.pos (by rw [toB_size]; omega) (Ev.pos (by omega) (Ev.cast ?_ (Ev.now _)))))
    have e := toB_cut pre mid []
    rw [List.append_nil, ← he] at e
    rw [Int.toNat_natCast, toB_size, hl, e]
    simp [sl, glue]
  | cons b suf ih =>
    intro pre mid acc he ha
    have hl : L.length = pre.length + mid.length + suf.length + 1 := by rw [he]; simp; omega
    have hb : bt (toB L) ((pre.length + mid.length : Nat) : Int) = (b.toNat : Int) := by
      rw [he, ← List.length_append]
      exact bt_mid (pre ++ mid) b suf
    have w1 : wrap64 (((pre.length + mid.length : Nat) : Int) + 1) = ((pre.length + mid.length + 1 : Nat) : Int) := by unfold wrap64; omega
    refine Ev.step (fun k => by rw [spec_l1Split.l0]) ?_
    rw [hb, w1]
    refine Ev.pos (by rw [toB_size]; omega) (Ev.pos (nn _) (Ev.cases (fun hc => ?_) (fun hc => ?_)))
    · have hbc : b = c := UInt8.toNat_inj.1 (by omega)
      subst hbc
      refine Ev.pos (nn _) (Ev.pos (by omega) (Ev.pos (by rw [toB_size]; omega) (Ev.pos (by omega) ?_)))
      have e := toB_cut pre mid (b :: suf)
      rw [← he] at e
      rw [Int.toNat_natCast, Int.toNat_natCast, e]
      have r := ih (pre ++ mid ++ [b]) [] (acc ++ [toB mid]) (by rw [he]; simp) (by simp; omega)
      rw [glue_nil] at r
      refine Ev.cast ?_ (by simpa [Nat.add_assoc] using r)
      rw [sl, if_pos rfl]
      simp [glue]
    · have hbc : b ≠ c := fun e => hc (by rw [e])
      have r := ih pre (mid ++ [b]) acc (by rw [he]; simp) ha
      rw [glue_step hbc]
      simpa [Nat.add_assoc] using r

theorem l1Split_ev (c : UInt8) (L : List UInt8) (hL : L.length ≤ 2097152) : Ev (fun k => spec_l1Split.f k (toB L) (c.toNat : Int)) ((sl c L).map toB) := by
  have := l1Split_l0 c L hL L [] [] [] rfl (Nat.le_refl _)
  rw [glue_nil] at this
  exact this

theorem split_ev (c : UInt8) (L : List UInt8) (hL : L.length ≤ 2097152) : Ev (fun k => strings_Split.f k (toB L) ⟨#[c]⟩) ((sl c L).map toB) := by
  unfold strings_Split.f
  refine Ev.pos ⟨Nat.le_refl _, by rw [toB_size]; omega⟩ (Ev.cast ?_ (Ev.now _))
  exact splitB_sl c L.length L (Nat.le_refl _)

def dg : Int → List UInt8 → Option Int
  | acc, [] => some acc
  | acc, b :: l => if (b.toNat : Int) < 48 then none else if (b.toNat : Int) > 57 then none else dg (10 * acc + ((b.toNat : Int) - 48)) l

theorem dg_ge : ∀ (l : List UInt8) (acc n : Int), 0 ≤ acc → dg acc l = some n → acc * 10 ^ l.length ≤ n ∧ 0 ≤ n
  | [], acc, n, h0, h => by
    injection h with h
    subst h
    exact ⟨by simp, h0⟩
  | b :: l, acc, n, h0, h => by
    unfold dg at h
    split at h
    · cases h
    · split at h
      · cases h
      · have ih := dg_ge l _ n (by omega) h
        refine ⟨?_, ih.2⟩
        rw [List.length_cons, Int.pow_succ]
        have hp : (0 : Int) ≤ 10 ^ l.length := Int.le_of_lt (Int.pow_pos (by omega))
        have e : acc * (10 ^ l.length * 10) = (10 * acc) * 10 ^ l.length := by rw [Int.mul_comm (10 ^ l.length) 10, ← Int.mul_assoc, Int.mul_comm acc 10]
        rw [e]
        exact Int.le_trans (Int.mul_le_mul_of_nonneg_right (by omega) hp) ih.1

theorem pow15 {n : Nat} (h : n ≤ 15) : (10 : Int) ^ n ≤ 1000000000000000 := by
  have : (10 : Nat) ^ n ≤ 10 ^ 15 := Nat.pow_le_pow_right (by omega) h
  have e : ((10 ^ n : Nat) : Int) = (10 : Int) ^ n := by simp
  omega

theorem digit_step {acc : Int} {b : UInt8} {n : Nat} (h0 : 0 ≤ acc) (h1 : acc < 10 ^ n) (hn : n < 15) (hb : ¬ (b.toNat : Int) < 48) (hb2 : ¬ (b.toNat : Int) > 57) :
    wrap64 (wrap64 (10 * acc) + (((b.toNat : Int) - 48) % 256)) = 10 * acc + ((b.toNat : Int) - 48) ∧ 0 ≤ 10 * acc + ((b.toNat : Int) - 48) ∧ 10 * acc + ((b.toNat : Int) - 48) < 10 ^ (n + 1) := by
  have hp := pow15 (show n + 1 ≤ 15 by omega)
  rw [Int.pow_succ] at hp ⊢
  have e : ((b.toNat : Int) - 48) % 256 = (b.toNat : Int) - 48 := by omega
  rw [e]
  refine ⟨?_, by omega, by omega⟩
  unfold wrap64
  omega

theorem read_l0 (L : List UInt8) (hL : L.length ≤ 15) : ∀ (suf pre : List UInt8) (acc : Int), L = pre ++ suf → 0 ≤ acc → acc < 10 ^ pre.length → Ev (fun k => spec_l1Read.l0 k (toB L) acc (pre.length : Int)) ((dg acc suf).getD (-1))
  | [], pre, acc, he, h0, h1 => by
    rw [List.append_nil] at he
    refine Ev.step (fun k => by rw [spec_l1Read.l0]) ?_
    exact Ev.neg (by rw [toB_size, he]; omega) (Ev.now _)
  | b :: suf, pre, acc, he, h0, h1 => by
    have hl : L.length = pre.length + suf.length + 1 := by rw [he]; simp; omega
    have hb : bt (toB L) (pre.length : Int) = (b.toNat : Int) := by rw [he]; exact bt_mid pre b suf
    refine Ev.step (fun k => by rw [spec_l1Read.l0]) ?_
    rw [hb, wr_nat pre.length 1000 (by omega) (by omega)]
    refine Ev.pos (by rw [toB_size]; omega) (Ev.pos (nn _) (Ev.cases (fun c1 => Ev.cast (by rw [dg, if_pos c1]; rfl) (Ev.now _)) (fun c1 => Ev.cases (fun c2 => Ev.cast (by rw [dg, if_neg c1, if_pos c2]; rfl) (Ev.now _)) (fun c2 => ?_))))
    obtain ⟨d1, d2, d3⟩ := digit_step (n := pre.length) h0 h1 (by omega) c1 c2
    rw [d1, dg, if_neg c1, if_neg c2]
    have := read_l0 L hL suf (pre ++ [b]) (10 * acc + ((b.toNat : Int) - 48)) (by rw [he]; simp) d2 (by simpa using d3)
    simpa using this

theorem dec_l0 (L : List UInt8) (hL : L.length ≤ 15) : ∀ (suf pre : List UInt8) (acc : Int), L = pre ++ suf → 0 ≤ acc → acc < 10 ^ pre.length → Ev (fun k => impl_decimal.l0 k (toB L) acc (pre.length : Int)) ((dg acc suf).getD 0, (dg acc suf).isSome)
  | [], pre, acc, he, h0, h1 => by
    rw [List.append_nil] at he
    refine Ev.step (fun k => by rw [impl_decimal.l0]) ?_
    exact Ev.neg (by rw [toB_size, he]; omega) (Ev.now _)
  | b :: suf, pre, acc, he, h0, h1 => by
    have hl : L.length = pre.length + suf.length + 1 := by rw [he]; simp; omega
    have hb : bt (toB L) (pre.length : Int) = (b.toNat : Int) := by rw [he]; exact bt_mid pre b suf
    refine Ev.step (fun k => by rw [impl_decimal.l0]) ?_
    rw [hb, wr_nat pre.length 1000 (by omega) (by omega)]
    refine Ev.pos (by rw [toB_size]; omega) (Ev.pos (nn _) (Ev.cases (fun c1 => Ev.cast (by rw [dg, if_pos c1]; rfl) (Ev.now _)) (fun c1 => Ev.cases (fun c2 => Ev.cast (by rw [dg, if_neg c1, if_pos c2]; rfl) (Ev.now _)) (fun c2 => ?_))))
    obtain ⟨d1, d2, d3⟩ := digit_step (n := pre.length) h0 h1 (by omega) c1 c2
    rw [d1, dg, if_neg c1, if_neg c2]
    have := dec_l0 L hL suf (pre ++ [b]) (10 * acc + ((b.toNat : Int) - 48)) (by rw [he]; simp) d2 (by simpa using d3)
    simpa using this

def word (w : List UInt8) : Option Int := match w with
  | [] => none
  | b :: l => if 15 < (b :: l).length ∨ (b.toNat = 48 ∧ 1 < (b :: l).length) then none else dg 0 (b :: l)

theorem decimal_ev (w : List UInt8) (hw : w.length ≤ 2097152) : Ev (fun k => impl_decimal.f k (toB w)) ((word w).getD 0, (word w).isSome) := by
  have J : ∀ r, r = (0, false) → Ev (fun k => impl_decimal.j0 k (toB w) true) r := by
    intro r hr
    subst hr
    refine Ev.step (fun k => by rw [impl_decimal.j0]) ?_
    exact Ev.pos rfl (Ev.now _)
  unfold impl_decimal.f
  rcases w with _ | ⟨b, l⟩
  · exact Ev.pos (by rw [ByteArray.toList_eq]; rfl) (J _ rfl)
  · have hb := bt_mid [] b l
    have hne : ¬ (toB (b :: l)).toList = ([] : List UInt8) := fun e => by
      rw [ByteArray.toList_eq] at e
      cases e
    refine Ev.neg hne (Ev.cases (fun c1 => J _ ?_) (fun c1 => Ev.pos (by rw [toB_size, List.length_cons]; omega) ?_))
    · rw [toB_size] at c1
      rw [word, if_pos (Or.inl (by omega))]; rfl
    · rw [toB_size] at c1
      have hb' : bt (toB (b :: l)) 0 = (b.toNat : Int) := hb
      rw [hb', toB_size]
      have run : ¬ (15 < (b :: l).length ∨ (b.toNat = 48 ∧ 1 < (b :: l).length)) → Ev (fun k => impl_decimal.j0 k (toB (b :: l)) false) ((word (b :: l)).getD 0, (word (b :: l)).isSome) := fun hn => by
        rw [word, if_neg hn]
        refine Ev.step (fun k => by rw [impl_decimal.j0]) ?_
        refine Ev.neg (by simp) ?_
        exact dec_l0 (b :: l) (by omega) (b :: l) [] 0 rfl (Int.le_refl _) (by simp)
      refine Ev.cases (fun c2 => ?_) (fun c2 => run (fun e => ?_))
      · by_cases c3 : ((b :: l).length : Int) > 1
        · rw [decide_eq_true c3]
          exact J _ (by rw [word, if_pos (Or.inr ⟨by omega, by omega⟩)]; rfl)
        · rw [decide_eq_false c3]
          exact run (fun e => by rcases e with e | e <;> omega)
      · rcases e with e | e <;> omega

theorem read_ev (w : List UInt8) (hw : w.length ≤ 2097152) : Ev (fun k => spec_l1Read.f k (toB w)) (if w.length ≤ 6 then (word w).getD (-1) else -1) := by
  have J : ∀ r, r = (-1) → Ev (fun k => spec_l1Read.j0 k (toB w) true) r := by
    intro r hr
    subst hr
    refine Ev.step (fun k => by rw [spec_l1Read.j0]) ?_
    exact Ev.pos rfl (Ev.now _)
  unfold spec_l1Read.f
  rw [l1In_eq]
  refine Ev.sbind ?_
  rw [toB_size]
  by_cases hs : 1 ≤ (w.length : Int) ∧ (w.length : Int) ≤ 6
  · rw [decide_eq_true hs, if_pos (show w.length ≤ 6 by omega)]
    refine Ev.pos rfl (Ev.pos (by omega) ?_)
    rcases w with _ | ⟨b, l⟩
    · simp at hs
    · have hb' : bt (toB (b :: l)) 0 = (b.toNat : Int) := bt_mid [] b l
      rw [hb']
      have run : ¬ (15 < (b :: l).length ∨ (b.toNat = 48 ∧ 1 < (b :: l).length)) → Ev (fun k => spec_l1Read.j0 k (toB (b :: l)) false) ((word (b :: l)).getD (-1)) := fun hn => by
        rw [word, if_neg hn]
        refine Ev.step (fun k => by rw [spec_l1Read.j0]) ?_
        refine Ev.neg (by simp) ?_
        exact read_l0 (b :: l) (by omega) (b :: l) [] 0 rfl (Int.le_refl _) (by simp)
      refine Ev.cases (fun c2 => ?_) (fun c2 => run (fun e => ?_))
      · by_cases c3 : ((b :: l).length : Int) > 1
        · rw [decide_eq_true c3]
          exact J _ (by rw [word, if_pos (Or.inr ⟨by omega, by omega⟩)]; rfl)
        · rw [decide_eq_false c3]
          exact run (fun e => by rcases e with e | e <;> omega)
      · rcases e with e | e <;> omega
  · rw [decide_eq_false hs]
    refine Ev.neg (by simp) (J _ ?_)
    by_cases h6 : w.length ≤ 6
    · rw [if_pos h6]
      have : w = [] := List.eq_nil_of_length_eq_zero (by omega)
      subst this; rfl
    · rw [if_neg h6]

theorem word_big {w : List UInt8} {n : Int} (h : word w = some n) : 0 ≤ n ∧ (6 < w.length → 1000000 ≤ n) := by
  rcases w with _ | ⟨b, l⟩
  · cases h
  · rw [word] at h
    split at h
    · cases h
    · rename_i hn
      have g := dg_ge (b :: l) 0 n (Int.le_refl _) h
      refine ⟨g.2, fun h6 => ?_⟩
      rw [dg] at h
      split at h
      · cases h
      · split at h
        · cases h
        · rename_i c1 c2
          have hb : b.toNat ≠ 48 := fun e => hn (.inr ⟨e, by omega⟩)
          have g2 := dg_ge l _ n (by omega) h
          have hp : (1000000 : Int) ≤ 10 ^ l.length := by
            have : (10 : Nat) ^ 6 ≤ 10 ^ l.length := Nat.pow_le_pow_right (by omega) (by simp at h6; omega)
            have e : ((10 ^ l.length : Nat) : Int) = (10 : Int) ^ l.length := by simp
            omega
          have := Int.mul_le_mul_of_nonneg_right (show (1 : Int) ≤ 10 * 0 + ((b.toNat : Int) - 48) by omega) (show (0 : Int) ≤ 10 ^ l.length by omega)
          rw [Int.one_mul] at this
          omega

def idxW (N : Nat) (w : List UInt8) : Option Nat := match word w with
  | none => none
  | some n => if n < (N : Int) then some n.toNat else none

def setW (τ : Int) : List (List UInt8) → List Int → Option (List Int)
  | [], u => some u
  | w :: ws, u => match idxW u.length w with
    | none => none
    | some i => setW τ ws (u.set i τ)

def setL : List (List UInt8) → Int → List Int → Option (List Int)
  | [], _, u => some u
  | l :: ls, τ, u => match setW τ ((sl 32 l).drop 1) u with
    | none => none
    | some u' => setL ls (τ + 1) u'

theorem setW_len (τ : Int) : ∀ (ws : List (List UInt8)) (u u' : List Int), setW τ ws u = some u' → u'.length = u.length
  | [], u, u', h => by injection h with h; rw [h]
  | w :: ws, u, u', h => by
    unfold setW at h
    split at h
    · cases h
    · have := setW_len τ ws _ u' h
      rwa [List.length_set] at this

theorem idx_none {N : Nat} {w : List UInt8} (h : idxW N w = none) : word w = none ∨ ∃ n, word w = some n ∧ (N : Int) ≤ n := by
  unfold idxW at h
  split at h
  · left; assumption
  · rename_i n hn
    split at h
    · cases h
    · exact .inr ⟨n, hn, by omega⟩

theorem idx_some {N i : Nat} {w : List UInt8} (h : idxW N w = some i) : word w = some (i : Int) ∧ i < N := by
  unfold idxW at h
  split at h
  · cases h
  · rename_i n hn
    split at h
    · injection h with h
      have := (word_big hn).1
      subst h
      exact ⟨by rw [hn, Int.toNat_of_nonneg this], by omega⟩
    · cases h

theorem rdB {WS pre ws : List (List UInt8)} {w : List UInt8} (h : WS = pre ++ w :: ws) : rdOf ByteArray.empty (WS.map toB) (pre.length : Int) = toB w := by
  unfold rdOf
  rw [Int.toNat_natCast, h, List.getD_eq_getElem?_getD, List.getElem?_map, List.getElem?_append_right (Nat.le_refl _), Nat.sub_self]
  rfl

theorem spec_words (s : ByteArray) (LS : List ByteArray) (a : List (List Int)) (t v : List Int) (mi ml pe nu de pp τ n : Int) (WS : List (List UInt8)) (hl : WS.length ≤ 2097152) (hw : ∀ w ∈ WS, w.length ≤ 2097152) (r : Int × List Int × Bool) :
    ∀ (ws pre : List (List UInt8)) (u : List Int), WS = pre ++ ws → 1 ≤ u.length → u.length ≤ 120 → (setW τ ws u = none → r = (0, [], false)) → (∀ u', setW τ ws u = some u' → Ev (fun k => spec_ParsePlan.l1 k s LS n (wrap64 (τ + 1)) a t v mi ml pe nu de pp u') r) →
      Ev (fun k => spec_ParsePlan.l2 k s τ LS n τ (WS.map toB) (WS.length : Int) (pre.length : Int) a t v mi ml pe nu de pp u) r
  | [], pre, u, he, h1, h2, hn, hs => by
    rw [List.append_nil] at he
    refine Ev.step (fun k => by rw [spec_ParsePlan.l2]) ?_
    exact Ev.neg (by rw [he]; omega) (hs u rfl)
  | w :: ws, pre, u, he, h1, h2, hn, hs => by
    have hlen : WS.length = pre.length + ws.length + 1 := by rw [he]; simp; omega
    refine Ev.step (fun k => by rw [spec_ParsePlan.l2]) ?_
    rw [rdB he, wr_nat pre.length 4194304 (by omega) (by omega)]
    refine Ev.pos (by omega) (Ev.pos (nn _) (Ev.pos (by rw [List.length_map]; omega) (Ev.bind (read_ev w (hw w (by rw [he]; simp))) ?_)))
    rw [l1In_eq]
    refine Ev.sbind ?_
    have w1 : wrap64 ((u.length : Int) - 1) = (u.length : Int) - 1 := by unfold wrap64; omega
    rw [w1]
    unfold setW at hn hs
    rcases e : idxW u.length w with _ | i
    · rw [e] at hn
      have hbad : ¬ (0 ≤ (if w.length ≤ 6 then (word w).getD (-1) else -1) ∧ (if w.length ≤ 6 then (word w).getD (-1) else -1) ≤ (u.length : Int) - 1) := by
        intro q
        by_cases h6 : w.length ≤ 6
        · rw [if_pos h6] at q
          rcases idx_none e with e2 | ⟨m, e2, e3⟩
          · rw [e2] at q; simp at q
          · rw [e2] at q; simp at q; omega
        · rw [if_neg h6] at q; omega
      rw [decide_eq_false hbad]
      exact Ev.neg (by simp) (Ev.cast (hn rfl).symm (Ev.now _))
    · obtain ⟨e2, e3⟩ := idx_some e
      have h6 : w.length ≤ 6 := by
        by_cases h6 : w.length ≤ 6
        · exact h6
        · have := (word_big e2).2 (by omega); omega
      rw [if_pos h6, e2]
      show Ev (fun k => if decide (0 ≤ (i : Int) ∧ (i : Int) ≤ (u.length : Int) - 1) = true then (if 0 ≤ (i : Int) then (if (i : Int) < (u.length : Int) then (spec_ParsePlan.l2 k s τ LS n τ (WS.map toB) (WS.length : Int) ((pre.length + 1 : Nat) : Int) a t v mi ml pe nu de pp (u.set (i : Int).toNat τ)) else (none)) else (none)) else (some (0, ([] : List Int), false))) r
      rw [decide_eq_true (show 0 ≤ (i : Int) ∧ (i : Int) ≤ (u.length : Int) - 1 by omega), Int.toNat_natCast]
      rw [e] at hn hs
      have ih := spec_words s LS a t v mi ml pe nu de pp τ n WS hl hw r ws (pre ++ [w]) (u.set i τ) (by rw [he]; simp) (by rw [List.length_set]; omega) (by rw [List.length_set]; omega) hn hs
      refine Ev.pos rfl (Ev.pos (nn _) (Ev.pos (by omega) ?_))
      simpa using ih

theorem impl_words (s : ByteArray) (LS : List ByteArray) (pp τ n : Int) (WS : List (List UInt8)) (hl : WS.length ≤ 2097152) (hw : ∀ w ∈ WS, w.length ≤ 2097152) (r : Int × List Int × Bool) :
    ∀ (ws pre : List (List UInt8)) (u : List Int), WS = pre ++ ws → 1 ≤ u.length → u.length ≤ 120 → (setW τ ws u = none → r = (0, [], false)) → (∀ u', setW τ ws u = some u' → Ev (fun k => impl_ParsePlan.l1 k s LS n (wrap64 (τ + 1)) pp u') r) →
      Ev (fun k => impl_ParsePlan.l2 k s τ LS n τ (WS.map toB) (WS.length : Int) (pre.length : Int) pp u) r
  | [], pre, u, he, h1, h2, hn, hs => by
    rw [List.append_nil] at he
    refine Ev.step (fun k => by rw [impl_ParsePlan.l2]) ?_
    exact Ev.neg (by rw [he]; omega) (hs u rfl)
  | w :: ws, pre, u, he, h1, h2, hn, hs => by
    have hlen : WS.length = pre.length + ws.length + 1 := by rw [he]; simp; omega
    refine Ev.step (fun k => by rw [impl_ParsePlan.l2]) ?_
    rw [rdB he, wr_nat pre.length 4194304 (by omega) (by omega)]
    refine Ev.pos (by omega) (Ev.pos (nn _) (Ev.pos (by rw [List.length_map]; omega) (Ev.bind (decimal_ev w (hw w (by rw [he]; simp))) ?_)))
    unfold setW at hn hs
    rcases e : idxW u.length w with _ | i
    · rw [e] at hn
      rcases idx_none e with e2 | ⟨m, e2, e3⟩
      · rw [e2]
        exact Ev.neg (by simp) (Ev.cast (hn rfl).symm (Ev.now _))
      · rw [e2]
        exact Ev.pos rfl (Ev.pos (show m ≥ (u.length : Int) from e3) (Ev.cast (hn rfl).symm (Ev.now _)))
    · obtain ⟨e2, e3⟩ := idx_some e
      rw [e] at hn hs
      have ih := impl_words s LS pp τ n WS hl hw r ws (pre ++ [w]) (u.set i τ) (by rw [he]; simp) (by rw [List.length_set]; omega) (by rw [List.length_set]; omega) hn hs
      rw [e2]
      refine Ev.pos rfl (Ev.neg (show ¬ (i : Int) ≥ (u.length : Int) by omega) (Ev.pos (nn _) (Ev.pos (show (i : Int) < (u.length : Int) by omega) ?_)))
      simpa using ih

theorem sl_mem {c : UInt8} : ∀ (L : List UInt8), (∀ p ∈ sl c L, p.length ≤ L.length) ∧ (sl c L).length ≤ L.length + 1 ∧ 1 ≤ (sl c L).length
  | [] => by simp [sl]
  | b :: L => by
    obtain ⟨h1, h2, h3⟩ := sl_mem (c := c) L
    unfold sl
    split
    · refine ⟨fun p hp => ?_, by simp; omega, by simp⟩
      rcases List.mem_cons.1 hp with rfl | hp
      · simp
      · have := h1 p hp; simp; omega
    · split
      · simp
      · rename_i p ps e
        rw [e] at h1 h2 h3
        refine ⟨fun q hq => ?_, by simp at h2 ⊢; omega, by simp⟩
        rcases List.mem_cons.1 hq with rfl | hq
        · have := h1 p (List.mem_cons_self ..); simp; omega
        · have := h1 q (List.mem_cons_of_mem _ hq); simp; omega

theorem spec_lines (s : ByteArray) (a : List (List Int)) (t v : List Int) (mi ml pe nu de pp : Int) (LS : List (List UInt8)) (hl : LS.length ≤ 2097152) (hw : ∀ l ∈ LS, l.length ≤ 1048576) (r : Int × List Int × Bool) :
    ∀ (ls pre : List (List UInt8)) (u : List Int), LS = pre ++ ls → 1 ≤ u.length → u.length ≤ 120 → (setL ls (pre.length : Int) u = none → r = (0, [], false)) →
      (∀ u', setL ls (pre.length : Int) u = some u' → Ev (fun k => (spec_plGood.f k a t v mi ml pe nu de pp u').bind fun t213 => (if t213 = true then ((spec_plText.f k pp u').bind fun t214 => (if t214.toList = s.toList then (some (pp, u', true)) else (some (0, ([] : List Int), false)))) else (some (0, ([] : List Int), false)))) r) →
      Ev (fun k => spec_ParsePlan.l1 k s (LS.map toB) (LS.length : Int) (pre.length : Int) a t v mi ml pe nu de pp u) r
  | [], pre, u, he, h1, h2, hn, hs => by
    rw [List.append_nil] at he
    refine Ev.step (fun k => by rw [spec_ParsePlan.l1]) ?_
    exact Ev.neg (by rw [he]; omega) (hs u rfl)
  | l :: ls, pre, u, he, h1, h2, hn, hs => by
    have hlen : LS.length = pre.length + ls.length + 1 := by rw [he]; simp; omega
    have hll := hw l (by rw [he]; simp)
    obtain ⟨m1, m2, m3⟩ := sl_mem (c := 32) l
    refine Ev.step (fun k => by rw [spec_ParsePlan.l1]) ?_
    rw [rdB he]
    refine Ev.pos (by omega) (Ev.pos (nn _) (Ev.pos (by rw [List.length_map]; omega) (Ev.bind (show Ev (fun k => spec_l1Split.f k (toB l) 32) _ from l1Split_ev 32 l (by omega)) (Ev.pos (by rw [List.length_map]; omega) (Ev.sbind ?_)))))
    rw [← List.map_drop, List.length_map]
    unfold setL at hn hs
    refine spec_words s (LS.map toB) a t v mi ml pe nu de pp (pre.length : Int) (LS.length : Int) ((sl 32 l).drop 1) (by rw [List.length_drop]; omega) (fun w hw' => by have := m1 w (List.mem_of_mem_drop hw'); omega) r ((sl 32 l).drop 1) [] u rfl h1 h2 (fun e => ?_) (fun u' e => ?_)
    · rw [e] at hn; exact hn rfl
    · rw [e] at hn hs
      have hu := setW_len _ _ _ _ e
      have w1 : wrap64 ((pre.length : Int) + 1) = ((pre.length + 1 : Nat) : Int) := by unfold wrap64; omega
      rw [w1]
      have ih := spec_lines s a t v mi ml pe nu de pp LS hl hw r ls (pre ++ [l]) u' (by rw [he]; simp) (by omega) (by omega) (by simpa using hn) (by simpa using hs)
      simpa using ih

theorem impl_lines (s : ByteArray) (pp : Int) (LS : List (List UInt8)) (hl : LS.length ≤ 2097152) (hw : ∀ l ∈ LS, l.length ≤ 1048576) (r : Int × List Int × Bool) :
    ∀ (ls pre : List (List UInt8)) (u : List Int), LS = pre ++ ls → 1 ≤ u.length → u.length ≤ 120 → (setL ls (pre.length : Int) u = none → r = (0, [], false)) →
      (∀ u', setL ls (pre.length : Int) u = some u' → Ev (fun k => (impl_planText.f k pp u').bind fun t277 => (if t277.toList = s.toList then (some (pp, u', true)) else (some (0, ([] : List Int), false)))) r) →
      Ev (fun k => impl_ParsePlan.l1 k s (LS.map toB) (LS.length : Int) (pre.length : Int) pp u) r
  | [], pre, u, he, h1, h2, hn, hs => by
    rw [List.append_nil] at he
    refine Ev.step (fun k => by rw [impl_ParsePlan.l1]) ?_
    exact Ev.neg (by rw [he]; omega) (hs u rfl)
  | l :: ls, pre, u, he, h1, h2, hn, hs => by
    have hlen : LS.length = pre.length + ls.length + 1 := by rw [he]; simp; omega
    have hll := hw l (by rw [he]; simp)
    obtain ⟨m1, m2, m3⟩ := sl_mem (c := 32) l
    refine Ev.step (fun k => by rw [impl_ParsePlan.l1]) ?_
    rw [rdB he]
    refine Ev.pos (by omega) (Ev.pos (nn _) (Ev.pos (by rw [List.length_map]; omega) (Ev.bind (split_ev 32 l (by omega)) (Ev.pos (by rw [List.length_map]; omega) (Ev.sbind ?_)))))
    rw [← List.map_drop, List.length_map]
    unfold setL at hn hs
    refine impl_words s (LS.map toB) pp (pre.length : Int) (LS.length : Int) ((sl 32 l).drop 1) (by rw [List.length_drop]; omega) (fun w hw' => by have := m1 w (List.mem_of_mem_drop hw'); omega) r ((sl 32 l).drop 1) [] u rfl h1 h2 (fun e => ?_) (fun u' e => ?_)
    · rw [e] at hn; exact hn rfl
    · rw [e] at hn hs
      have hu := setW_len _ _ _ _ e
      have w1 : wrap64 ((pre.length : Int) + 1) = ((pre.length + 1 : Nat) : Int) := by unfold wrap64; omega
      rw [w1]
      have ih := impl_lines s pp LS hl hw r ls (pre ++ [l]) u' (by rw [he]; simp) (by omega) (by omega) (by simpa using hn) (by simpa using hs)
      simpa using ih

theorem setL_snoc : ∀ (ls : List (List UInt8)) (τ : Int) (u : List Int), setL (ls ++ [[]]) τ u = setL ls τ u
  | [], τ, u => rfl
  | l :: ls, τ, u => by
    rw [List.cons_append, setL, setL]
    split
    · rfl
    · exact setL_snoc ls _ _

theorem setW_range (τ : Int) : ∀ (ws : List (List UInt8)) (u u' : List Int), setW τ ws u = some u' → ∀ x ∈ u', x ∈ u ∨ x = τ
  | [], u, u', h, x, hx => by injection h with h; rw [h]; exact .inl hx
  | w :: ws, u, u', h, x, hx => by
    unfold setW at h
    split at h
    · cases h
    · rcases setW_range τ ws _ u' h x hx with q | q
      · exact (List.mem_or_eq_of_mem_set q).imp id id
      · exact .inr q

theorem setL_range : ∀ (ls : List (List UInt8)) (τ : Int) (u u' : List Int), setL ls τ u = some u' → u'.length = u.length ∧ ∀ x ∈ u', x ∈ u ∨ (τ ≤ x ∧ x < τ + (ls.length : Int))
  | [], τ, u, u', h => by injection h with h; rw [h]; exact ⟨rfl, fun x hx => .inl hx⟩
  | l :: ls, τ, u, u', h => by
    unfold setL at h
    split at h
    · cases h
    · rename_i u1 e
      have l1 := setW_len _ _ _ _ e
      have r1 := setW_range _ _ _ _ e
      obtain ⟨l2, r2⟩ := setL_range ls (τ + 1) u1 u' h
      refine ⟨by omega, fun x hx => ?_⟩
      rw [List.length_cons]
      rcases r2 x hx with q | q
      · rcases r1 x q with q | q
        · exact .inl q
        · exact .inr (by omega)
      · exact .inr (by omega)

theorem linesOf_nil : Ev (fun k => impl_linesOf.f k (toB [])) (([] : List ByteArray), true) := by
  unfold impl_linesOf.f
  exact Ev.pos (by rw [ByteArray.toList_eq]; rfl) (Ev.now _)

theorem linesOf_ev (L : List UInt8) (b : UInt8) (hL : L.length ≤ 1048576) : Ev (fun k => impl_linesOf.f k (toB (L ++ [b]))) (if b = 10 then ((sl 10 L).map toB, true) else (([] : List ByteArray), false)) := by
  have hne : ¬ (toB (L ++ [b])).toList = ([] : List UInt8) := fun e => by
    rw [ByteArray.toList_eq] at e
    have : L ++ [b] = [] := e
    simp at this
  have hsz : ((toB (L ++ [b])).size : Int) = (L.length : Int) + 1 := by rw [toB_size]; simp
  have h1 : ((⟨#[10]⟩ : ByteArray).size : Int) = 1 := rfl
  have w1 : wrap64 ((L.length : Int) + 1 - 1) = (L.length : Int) := by unfold wrap64; omega
  have e1 : (toB (L ++ [b])).extract L.length (toB (L ++ [b])).size = toB [b] := by
    have := toB_cut L [b] []
    rw [List.append_nil] at this
    rw [show (toB (L ++ [b])).size = L.length + [b].length by rw [toB_size, List.length_append]]
    exact this
  have e0 : (toB (L ++ [b])).extract 0 L.length = toB L := by
    have := toB_cut [] L [b]
    simpa using this
  have hs : strings_HasSuffix.f (toB (L ++ [b])) (⟨#[10]⟩ : ByteArray) = some (decide (b = 10)) := by
    unfold strings_HasSuffix.f stringslite_HasSuffix.f
    rw [hsz, h1, if_pos (by omega), w1, if_pos (nn _), if_pos (by omega), Int.toNat_natCast, e1, ByteArray.toList_eq, ByteArray.toList_eq]
    show some ([b] == [10]) = some (decide (b = 10))
    congr 1
    by_cases h : b = 10
    · subst h; rfl
    · rw [decide_eq_false h]
      simp [h]
  unfold impl_linesOf.f
  refine Ev.neg hne ?_
  rw [hs]
  refine Ev.sbind ?_
  by_cases h : b = 10
  · rw [if_pos h, decide_eq_true h, hsz, w1]
    refine Ev.pos rfl (Ev.pos (nn _) (Ev.pos (by omega) ?_))
    rw [Int.toNat_natCast, e0]
    exact Ev.bind (split_ev 10 L (by omega)) (Ev.now _)
  · rw [if_neg h, decide_eq_false h]
    exact Ev.neg (by simp) (Ev.now _)

theorem minus_set (n i : Nat) (h : i < n) : (List.replicate i (-1 : Int) ++ List.replicate (n - i) 0).set i (-1) = List.replicate (i + 1) (-1) ++ List.replicate (n - (i + 1)) 0 := by
  rw [List.set_append_right _ _ (by simp), List.length_replicate, Nat.sub_self, show n - i = (n - (i + 1)) + 1 by omega, List.replicate_succ, List.set_cons_zero, List.replicate_succ', List.append_assoc]
  rfl

theorem spec_start (s : ByteArray) (LS : List ByteArray) (a : List (List Int)) (t v : List Int) (mi ml pe nu de : Int) (ha : a.length ≤ 120) (r : Int × List Int × Bool) (h : Ev (fun k => spec_ParsePlan.l1 k s LS (LS.length : Int) 0 a t v mi ml pe nu de pe (List.replicate a.length (-1))) r) : Ev (fun k => spec_ParsePlan.j0 k s LS false a t v mi ml pe nu de) r := by
  refine Ev.step (fun k => by rw [spec_ParsePlan.j0]) ?_
  refine Ev.neg (by simp) ?_
  have key : ∀ (d i : Nat), i + d = a.length → Ev (fun k => spec_ParsePlan.l0 k s LS (a.length : Int) (i : Int) a t v mi ml pe nu de pe (List.replicate i (-1))) r := by
    intro d
    induction d with
    | zero =>
      intro i hd
      refine Ev.step (fun k => by rw [spec_ParsePlan.l0]) ?_
      refine Ev.neg (by omega) ?_
      rw [show i = a.length by omega]
      exact h
    | succ d ih =>
      intro i hd
      have e := ih (i + 1) (by omega)
      rw [List.replicate_succ'] at e
      refine Ev.step (fun k => by rw [spec_ParsePlan.l0]) ?_
      rw [wr_nat i 1000 (by omega) (by omega)]
      exact Ev.pos (by omega) (Ev.pos (by rw [List.length_replicate]; omega) e)
  exact key a.length 0 (by omega)

theorem impl_start (s : ByteArray) (LS : List ByteArray) (a : List (List Int)) (t v : List Int) (mi ml pe nu de : Int) (ha : a.length ≤ 120) (r : Int × List Int × Bool) (h : Ev (fun k => impl_ParsePlan.l1 k s LS (LS.length : Int) 0 pe (List.replicate a.length (-1))) r) : Ev (fun k => impl_ParsePlan.j0 k s LS false a t v mi ml pe nu de) r := by
  refine Ev.step (fun k => by rw [impl_ParsePlan.j0]) ?_
  refine Ev.neg (by simp) (Ev.pos (nn _) (Ev.pos (by omega) (Ev.sbind ?_)))
  rw [Int.toNat_natCast, List.length_replicate]
  have key : ∀ (d i : Nat), i + d = a.length → Ev (fun k => impl_ParsePlan.l0 k s LS (a.length : Int) (i : Int) pe (List.replicate i (-1) ++ List.replicate (a.length - i) 0)) r := by
    intro d
    induction d with
    | zero =>
      intro i hd
      refine Ev.step (fun k => by rw [impl_ParsePlan.l0]) ?_
      refine Ev.neg (by omega) ?_
      rw [show i = a.length by omega, Nat.sub_self, List.replicate_zero, List.append_nil]
      exact h
    | succ d ih =>
      intro i hd
      have e := ih (i + 1) (by omega)
      rw [← minus_set a.length i (by omega)] at e
      refine Ev.step (fun k => by rw [impl_ParsePlan.l0]) ?_
      rw [wr_nat i 1000 (by omega) (by omega), Int.toNat_natCast]
      exact Ev.pos (by omega) (Ev.pos (nn _) (Ev.pos (by rw [List.length_append, List.length_replicate, List.length_replicate]; omega) e))
  have := key a.length 0 (by omega)
  simpa using this

theorem spec_fail (s : ByteArray) (LS : List ByteArray) (a : List (List Int)) (t v : List Int) (mi ml pe nu de : Int) : Ev (fun k => spec_ParsePlan.j0 k s LS true a t v mi ml pe nu de) (0, [], false) := by
  refine Ev.step (fun k => by rw [spec_ParsePlan.j0]) ?_
  exact Ev.pos rfl (Ev.now _)

theorem impl_fail (s : ByteArray) (LS : List ByteArray) (a : List (List Int)) (t v : List Int) (mi ml pe nu de : Int) : Ev (fun k => impl_ParsePlan.j0 k s LS true a t v mi ml pe nu de) (0, [], false) := by
  refine Ev.step (fun k => by rw [impl_ParsePlan.j0]) ?_
  exact Ev.pos rfl (Ev.now _)

theorem plTx_last (w : List Int) : ∀ (d : Nat) (τ : Int) (s : ByteArray), 1 ≤ d → ∃ l, (plTx w d τ s).data.toList = l ++ [10]
  | 0, _, _, h => absurd h (by omega)
  | d + 1, τ, s, _ => by
    unfold plTx
    by_cases h : d = 0
    · subst h
      unfold plTx
      exact ⟨(plRow τ w 0 (s ++ (num τ ++ (⟨#[58]⟩ : ByteArray)))).data.toList, by rw [ByteArray.data_append]; simp⟩
    · exact plTx_last w d (τ + 1) _ (by omega)

theorem neB {n : Nat} {m : Int} (h : (n : Int) ≠ m) : (((n : Int) != m) : Bool) = true := by simpa using h

theorem FnExactParsePlan (a : List (List Int)) (t v : List Int) (mi ml pe nu de : Int) (s : ByteArray) (h1 : a.length ≤ 1048576) (h2 : ∀ z ∈ a, z.length ≤ 1048576) (h3 : t.length ≤ 1048576) (h4 : v.length ≤ 1048576) (h5 : s.size ≤ 1048576) :
    ∃ r1 r2 r3, Ev (fun k => spec_ParsePlan.f k a t v mi ml pe nu de s) (r1, r2, r3) ∧ Ev (fun k => impl_ParsePlan.f k a t v mi ml pe nu de s) (r1, r2, r3) ∧ r2.length ≤ 1048576 := by
  suffices hh : ∃ r : Int × List Int × Bool, Ev (fun k => spec_ParsePlan.f k a t v mi ml pe nu de s) r ∧ Ev (fun k => impl_ParsePlan.f k a t v mi ml pe nu de s) r ∧ r.2.1.length ≤ 1048576 by
    obtain ⟨⟨r1, r2, r3⟩, p, q, r⟩ := hh
    exact ⟨r1, r2, r3, p, q, r⟩
  obtain ⟨L, rfl⟩ : ∃ L, s = toB L := ⟨s.data.toList, (toB_self s).symm⟩
  rw [toB_size] at h5
  have S : JobSmall a t v := ⟨h1, h2, h3, h4⟩
  have SJ := plJob_ev a t v mi ml pe nu de (by omega) S.li' (by omega) (by omega)
  have IJ := impl_IsJob_ev a t v mi ml pe nu de S.li' (by omega)
  have SP : Ev (fun k => spec_l1Split.f k (toB L) 10) ((sl 10 L).map toB) := l1Split_ev 10 L (by omega)
  have F : ∀ r : Int × List Int × Bool, r = (0, [], false) → r.2.1.length ≤ 1048576 := fun r hr => by subst hr; simp
  unfold spec_ParsePlan.f impl_ParsePlan.f
  by_cases hj : jobOk a t v mi ml pe nu de = true
  · rw [hj] at SJ IJ
    have J := JobIn.of hj
    have jpe := J.pe
    have jn1 := J.n1
    have jn2 := J.n2
    have wpe : wrap64 (pe + 1) = pe + 1 := by unfold wrap64; omega
    rcases List.eq_nil_or_concat L with rfl | ⟨L', b, rfl⟩
    · refine ⟨(0, [], false), Ev.bind SP (Ev.bind SJ (Ev.pos rfl ?_)), Ev.bind linesOf_nil (Ev.bind IJ (Ev.pos rfl (Ev.pos rfl ?_))), by simp⟩
      · rw [wpe, neB (by simp [sl]; omega)]
        exact spec_fail ..
      · rw [neB (by simp; omega)]
        exact impl_fail ..
    · rw [List.concat_eq_append] at h5 SP ⊢
      have hl' : L'.length ≤ 1048576 := by rw [List.length_append] at h5; omega
      have LI := linesOf_ev L' b hl'
      by_cases hb : b = 10
      · subst hb
        rw [if_pos rfl] at LI
        rw [sl_snoc] at SP
        obtain ⟨m1, m2, m3⟩ := sl_mem (c := 10) L'
        by_cases hn : ((sl 10 L').length : Int) = pe
        · -- the lines are as many as periods
          have core : ∃ r : Int × List Int × Bool, r.2.1.length ≤ 1048576 ∧ (setL (sl 10 L') 0 (List.replicate a.length (-1)) = none → r = (0, [], false)) ∧ (∀ u', setL (sl 10 L') 0 (List.replicate a.length (-1)) = some u' → r = if (plTx u' pe.toNat 0 (⟨#[]⟩ : ByteArray)).toList = (toB (L' ++ [10])).toList then (pe, u', true) else (0, [], false)) := by
            rcases e : setL (sl 10 L') 0 (List.replicate a.length (-1)) with _ | u'
            · exact ⟨(0, [], false), by simp, fun _ => rfl, fun _ q => by cases q⟩
            · refine ⟨_, ?_, fun q => (by cases q), fun u q => (by injection q with q; rw [← q])⟩
              have := (setL_range _ _ _ _ e).1
              rw [List.length_replicate] at this
              split
              · show u'.length ≤ _; omega
              · simp
          obtain ⟨r, hr0, hr1, hr2⟩ := core
          refine ⟨r, Ev.bind SP (Ev.bind SJ (Ev.pos rfl ?_)), Ev.bind LI (Ev.bind IJ (Ev.pos rfl (Ev.pos rfl ?_))), hr0⟩
          · have hz : ((((sl 10 L' ++ [[]]).map toB).length : Int) != wrap64 (pe + 1)) = false := by rw [wpe, List.length_map, List.length_append]; simp; omega
            rw [hz]
            refine spec_start _ _ a t v mi ml pe nu de jn2 r ?_
            rw [List.length_map]
            refine spec_lines _ a t v mi ml pe nu de pe (sl 10 L' ++ [[]]) (by rw [List.length_append]; simp; omega) (fun l hl => ?_) r (sl 10 L' ++ [[]]) [] (List.replicate a.length (-1)) rfl (by rw [List.length_replicate]; omega) (by rw [List.length_replicate]; omega) (fun e => hr1 (by rw [← setL_snoc]; exact e)) (fun u' e => ?_)
            · rcases List.mem_append.1 hl with hl | hl
              · have := m1 l hl; omega
              · rw [List.mem_singleton.1 hl]; simp
            · have e' : setL (sl 10 L') 0 (List.replicate a.length (-1)) = some u' := by rw [← setL_snoc]; exact e
              obtain ⟨q1, q2⟩ := setL_range _ _ _ _ e'
              rw [List.length_replicate] at q1
              have hp : planOk a pe pe u' = true := by
                unfold planOk
                rw [decide_eq_true rfl, decide_eq_true (show u'.length = a.length by omega), Bool.true_and, Bool.true_and, List.all_eq_true]
                intro x hx
                refine decide_eq_true ?_
                rcases q2 x hx with q | q
                · have := List.eq_of_mem_replicate q; omega
                · omega
              have G := plGood_ev a t v mi ml pe nu de pe u' (by omega) (by omega)
              rw [hp] at G
              rw [hr2 u' e']
              unfold spec_plText.f
              refine Ev.bind G (Ev.pos rfl (Ev.bind (plTx_ev u' pe (by omega) pe.toNat 0 _ (Int.le_refl _) (by omega) (by omega) (by show 0 + _ ≤ _; omega)) ?_))
              exact Ev.cases (fun c => Ev.cast (by rw [if_pos c]) (Ev.now _)) (fun c => Ev.cast (by rw [if_neg c]) (Ev.now _))
          · have hz : ((((sl 10 L').map toB).length : Int) != pe) = false := by rw [List.length_map]; simpa using hn
            rw [hz]
            refine impl_start _ _ a t v mi ml pe nu de jn2 r ?_
            rw [List.length_map]
            refine impl_lines _ pe (sl 10 L') (by omega) (fun l hl => by have := m1 l hl; omega) r (sl 10 L') [] (List.replicate a.length (-1)) rfl (by rw [List.length_replicate]; omega) (by rw [List.length_replicate]; omega) (fun e => hr1 e) (fun u' e => ?_)
            obtain ⟨q1, q2⟩ := setL_range _ _ _ _ e
            rw [List.length_replicate] at q1
            rw [hr2 u' e]
            unfold impl_planText.f
            refine Ev.bind (planTx_ev u' pe (by omega) pe.toNat 0 _ (Int.le_refl _) (by omega) (by omega) (by show 0 + _ ≤ _; omega)) ?_
            exact Ev.cases (fun c => Ev.cast (by rw [if_pos c]) (Ev.now _)) (fun c => Ev.cast (by rw [if_neg c]) (Ev.now _))
        · refine ⟨(0, [], false), Ev.bind SP (Ev.bind SJ (Ev.pos rfl ?_)), Ev.bind LI (Ev.bind IJ (Ev.pos rfl (Ev.pos rfl ?_))), by simp⟩
          · rw [wpe, neB (by rw [List.length_map, List.length_append]; simp; omega)]
            exact spec_fail ..
          · rw [neB (by rw [List.length_map]; exact hn)]
            exact impl_fail ..
      · rw [if_neg hb] at LI
        refine ⟨(0, [], false), Ev.bind SP (Ev.bind SJ (Ev.pos rfl ?_)), Ev.bind LI (Ev.bind IJ (Ev.pos rfl (Ev.neg (by simp) (impl_fail ..)))), by simp⟩
        obtain ⟨m1, m2, m3⟩ := sl_mem (c := 10) (L' ++ [b])
        by_cases hn : ((sl 10 (L' ++ [b])).length : Int) = pe + 1
        · have hz : ((((sl 10 (L' ++ [b])).map toB).length : Int) != wrap64 (pe + 1)) = false := by rw [wpe, List.length_map]; simpa using hn
          rw [hz]
          refine spec_start _ _ a t v mi ml pe nu de jn2 _ ?_
          rw [List.length_map]
          refine spec_lines _ a t v mi ml pe nu de pe (sl 10 (L' ++ [b])) (by omega) (fun l hl => by have := m1 l hl; omega) _ (sl 10 (L' ++ [b])) [] (List.replicate a.length (-1)) rfl (by rw [List.length_replicate]; omega) (by rw [List.length_replicate]; omega) (fun e => rfl) (fun u' e => ?_)
          obtain ⟨q1, q2⟩ := setL_range _ _ _ _ e
          rw [List.length_replicate] at q1
          have G := plGood_ev a t v mi ml pe nu de pe u' (by omega) (by omega)
          refine Ev.bind G (Ev.cases (fun _ => ?_) (fun _ => Ev.now _))
          unfold spec_plText.f
          refine Ev.bind (plTx_ev u' pe (by omega) pe.toNat 0 _ (Int.le_refl _) (by omega) (by omega) (by show 0 + _ ≤ _; omega)) (Ev.neg (fun c => ?_) (Ev.now _))
          obtain ⟨l, hl⟩ := plTx_last u' pe.toNat 0 (⟨#[]⟩ : ByteArray) (by omega)
          rw [ByteArray.toList_eq, ByteArray.toList_eq, hl] at c
          have c' : l ++ [10] = L' ++ [b] := c
          have := congrArg List.getLast? c'
          simp at this
          exact hb this.symm
        · rw [wpe, neB (by rw [List.length_map]; exact hn)]
          exact spec_fail ..
  · rw [bf hj] at SJ IJ
    refine ⟨(0, [], false), Ev.bind SP (Ev.bind SJ (Ev.neg (by simp) (spec_fail ..))), ?_, by simp⟩
    rcases List.eq_nil_or_concat L with rfl | ⟨L', b, rfl⟩
    · exact Ev.bind linesOf_nil (Ev.bind IJ (Ev.neg (by simp) (impl_fail ..)))
    · rw [List.concat_eq_append] at h5 ⊢
      have hl' : L'.length ≤ 1048576 := by rw [List.length_append] at h5; omega
      exact Ev.bind (linesOf_ev L' b hl') (Ev.bind IJ (Ev.neg (by simp) (impl_fail ..)))

end Go.Proofs.YtjjbohacmmhddaaDoor.Pure

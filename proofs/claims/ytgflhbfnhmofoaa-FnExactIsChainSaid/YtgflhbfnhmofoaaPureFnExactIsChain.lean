/- FnExactIsChain over numbers and lists alone: what the program's text computes and what the reference's text computes is the same, for all arguments that the row lets in; no further condition. -/
import Derived.Test.YtgflhbfnhmofoaaPFnExactIsChainx4
import Derived.Test.YtgflhbfnhmofoaaGen
import Derived.Test.YtgflhbfnhmofoaaOpn
set_option linter.unusedVariables false
set_option linter.unusedSimpArgs false
namespace Go.Proofs.Ytgflhbfnhmofoaa.Pure
open Go.RowKit Go.Proofs.Ytgflhbfnhmofoaa.PFnExactIsChain Go.Proofs.YtgflhbfnhmofoaaW.PrintWords Go.Proofs.YtgflhbfnhmofoaaW.PrintLast Go.Proofs.Ytgflhbfnhmofoaa.Gen Go.Proofs.Ytgflhbfnhmofoaa.Opn
theorem toIntS_l (x0 : List Int) (hx : x0.length < 9223372036854775807) : ∀ (suf pre : List Int), pre ++ suf = x0 →
    Ev (fun k => laws_toIntS.l0 k x0 (pre ++ List.replicate suf.length 0) (pre.length : Int)) x0 := by
  intro suf
  induction suf with
  | nil =>
    rintro pre rfl
    refine Ev.step (fun k => by rw [laws_toIntS.l0]) ?_
    refine Ev.neg (by simp) ?_
    refine Ev.cast (by simp) (Ev.now _)
  | cons x suf ih =>
    rintro pre rfl
    refine Ev.step (fun k => by rw [laws_toIntS.l0]) ?_
    refine Ev.pos (mid_lt _ _ _) (Ev.pos (nn _) (Ev.pos (by simp; omega) ?_))
    rw [wr_mid pre x suf _ rfl hx, rd_mid, List.length_cons, List.replicate_succ, set_mid]
    exact ih (pre ++ [x]) (by simp)

theorem toIntS_ev (x : List Int) (hx : x.length ≤ 35184372088832) : Ev (fun k => laws_toIntS.f k x) x := by
  unfold laws_toIntS.f
  refine Ev.pos (nn _) (Ev.pos (by simpa using hx) ?_)
  simpa using toIntS_l x (by omega) x [] rfl

theorem eqIntS_l (x0 x1 : List Int) (hx : x0.length < 9223372036854775807) (hl : x0.length = x1.length) : ∀ (d i : Nat), i + d = x0.length →
    Ev (fun k => laws_eqIntS.l0 k x0 x1 (i : Int)) (decide (x0.drop i = x1.drop i)) := by
  intro d
  induction d with
  | zero =>
    intro i hi
    refine Ev.step (fun k => by rw [laws_eqIntS.l0]) ?_
    refine Ev.neg (by omega) (Ev.cast ?_ (Ev.now _))
    rw [List.drop_eq_nil_of_le (by omega), List.drop_eq_nil_of_le (by omega)]; rfl
  | succ d ih =>
    intro i hi
    refine Ev.step (fun k => by rw [laws_eqIntS.l0]) ?_
    refine Ev.pos (by omega) (Ev.pos (nn _) (Ev.pos (by omega) ?_))
    rw [rd_get x0 i (by omega), rd_get x1 i (by omega), dr x0 i (by omega), dr x1 i (by omega)]
    refine Ev.cases (fun h => ?_) (fun h => ?_)
    · rw [wr_nat i _ (by omega) hx]
      refine Ev.cast ?_ (ih (i + 1) (by omega))
      simp only [List.cons.injEq, h, true_and]
    · refine Ev.cast ?_ (Ev.now _)
      simp only [List.cons.injEq, h, false_and, decide_false]

theorem eqIntS_ev (x y : List Int) (hx : x.length < 9223372036854775807) : Ev (fun k => laws_eqIntS.f k x y) (decide (x = y)) := by
  unfold laws_eqIntS.f
  refine Ev.cases (fun h => ?_) (fun h => ?_)
  · exact eqIntS_l x y hx (by omega) x.length 0 (by omega)
  · refine Ev.cast ?_ (Ev.now _)
    exact (decide_eq_false (fun e => h (by rw [e]))).symm

theorem l1In_eq (n a b : Int) : spec_l1In.f n a b = some (decide (a ≤ n ∧ n ≤ b)) := by
  unfold spec_l1In.f
  by_cases h : n ≥ a
  · rw [if_pos h]; simp [show a ≤ n from h]
  · rw [if_neg h]; simp [show ¬ a ≤ n from h]

def inB (a b : Int) (x : Int) : Bool := decide (a ≤ x ∧ x ≤ b)

theorem rdL1_get (xs : List (List Int)) (i : Nat) (h : i < xs.length) : rd_L1 xs (i : Int) = xs[i] := by
  unfold rd_L1; rw [Int.toNat_natCast]; simp [List.getD_eq_getElem?_getD, h]

theorem rdL1_mid (pre : List (List Int)) (x : List Int) (suf : List (List Int)) : rd_L1 (pre ++ x :: suf) (pre.length : Int) = x := by
  unfold rd_L1; rw [Int.toNat_natCast]; simp

theorem szIntS_eq (x : List Int) (left : Int) (h0 : 0 ≤ left) (h1 : left ≤ 1048576) (hx : x.length ≤ maxLen) : ∃ r, laws_szIntS.f x left = some r ∧ r ≤ 1048576 ∧ (0 ≤ r → r = left - x.length) := by
  unfold laws_szIntS.f
  unfold maxLen at hx
  rw [wr _ (by omega) (by omega)]
  by_cases h : left - (x.length : Int) < 0
  · rw [if_pos h]; exact ⟨-1, rfl, by omega, by omega⟩
  · rw [if_neg h]; exact ⟨_, rfl, by omega, fun _ => rfl⟩

def totL (xs : List (List Int)) : Nat := (xs.map List.length).sum

theorem szIntSS_l (x : List (List Int)) (hx : x.length < 9223372036854775807) (hi : ∀ z ∈ x, z.length ≤ maxLen) : ∀ (suf pre : List (List Int)) (left : Int), pre ++ suf = x → 0 ≤ left → left ≤ 1048576 →
    ∃ r, Ev (fun k => laws_szIntSS.l0 k x left (pre.length : Int)) r ∧ r ≤ 1048576 ∧ (0 ≤ r → r = left - totL suf) := by
  intro suf
  induction suf with
  | nil =>
    rintro pre left rfl h0 h1
    refine ⟨left, ?_, h1, fun _ => by simp [totL]⟩
    refine Ev.step (fun k => by rw [laws_szIntSS.l0]) ?_
    exact Ev.neg (by simp) (Ev.now _)
  | cons y suf ih =>
    rintro pre left rfl h0 h1
    obtain ⟨r, hr, hr1, hr2⟩ := szIntS_eq y left h0 h1 (hi y (by simp))
    by_cases h : r < 0
    · refine ⟨-1, ?_, by omega, by omega⟩
      refine Ev.step (fun k => by rw [laws_szIntSS.l0]) ?_
      refine Ev.pos (mid_lt _ _ _) (Ev.pos (nn _) ?_)
      rw [rdL1_mid, hr]
      exact Ev.sbind (Ev.pos h (Ev.now _))
    · obtain ⟨q, hq, hq1, hq2⟩ := ih (pre ++ [y]) r (by simp) (by omega) hr1
      refine ⟨q, ?_, hq1, fun hh => ?_⟩
      · refine Ev.step (fun k => by rw [laws_szIntSS.l0]) ?_
        refine Ev.pos (mid_lt _ _ _) (Ev.pos (nn _) ?_)
        rw [rdL1_mid, hr]
        refine Ev.sbind (Ev.neg h ?_)
        rw [wr_mid pre y suf _ rfl hx]
        exact hq
      · have a := hq2 hh
        have b := hr2 (by omega)
        simp only [totL, List.map_cons, List.sum_cons] at a ⊢
        omega

theorem szIntSS_ev (x : List (List Int)) (left : Int) (h0 : 0 ≤ left) (h1 : left ≤ 1048576) (hx : x.length ≤ maxLen) (hi : ∀ z ∈ x, z.length ≤ maxLen) :
    ∃ r, Ev (fun k => laws_szIntSS.f k x left) r ∧ r ≤ 1048576 ∧ (0 ≤ r → r = left - x.length - totL x) := by
  unfold laws_szIntSS.f
  have hx' := hx
  unfold maxLen at hx'
  rw [wr _ (by omega) (by omega)]
  by_cases h : left - (x.length : Int) < 0
  · exact ⟨-1, Ev.pos h (Ev.now _), by omega, by omega⟩
  · obtain ⟨r, hr, a, b⟩ := szIntSS_l x (by omega) hi x [] (left - x.length) rfl (by omega) (by omega)
    exact ⟨r, Ev.neg h hr, a, b⟩

theorem tot_mem {xs : List (List Int)} {z : List Int} (h : z ∈ xs) : z.length ≤ totL xs := by
  induction xs with
  | nil => cases h
  | cons y ys ih =>
    rcases List.mem_cons.1 h with rfl | h
    · simp [totL]
    · have := ih h
      simp only [totL, List.map_cons, List.sum_cons] at this ⊢
      omega

theorem toIntSS_l (x0 : List (List Int)) (hx : x0.length < 9223372036854775807) (hi : ∀ z ∈ x0, z.length ≤ 1048576) : ∀ (suf pre : List (List Int)), pre ++ suf = x0 →
    Ev (fun k => laws_toIntSS.l0 k x0 (pre ++ List.replicate suf.length []) (pre.length : Int)) x0 := by
  intro suf
  induction suf with
  | nil =>
    rintro pre rfl
    refine Ev.step (fun k => by rw [laws_toIntSS.l0]) ?_
    refine Ev.neg (by simp) ?_
    refine Ev.cast (by simp) (Ev.now _)
  | cons x suf ih =>
    rintro pre rfl
    refine Ev.step (fun k => by rw [laws_toIntSS.l0]) ?_
    refine Ev.pos (mid_lt _ _ _) (Ev.pos (nn _) ?_)
    rw [rdL1_mid]
    refine Ev.bind (toIntS_ev x (by have := hi x (by simp); omega)) (Ev.pos (by simp; omega) ?_)
    rw [wr_mid pre x suf _ rfl hx, List.length_cons, List.replicate_succ, set_mid]
    exact ih (pre ++ [x]) (by simp)

theorem toIntSS_ev (x : List (List Int)) (hx : x.length ≤ 1048576) (hi : ∀ z ∈ x, z.length ≤ 1048576) : Ev (fun k => laws_toIntSS.f k x) x := by
  unfold laws_toIntSS.f
  refine Ev.pos (nn _) (Ev.pos (by rw [Int.toNat_natCast]; omega) ?_)
  simpa using toIntSS_l x (by omega) hi x [] rfl

theorem eqIntSS_l (x0 : List (List Int)) (hx : x0.length < 9223372036854775807) (hi : ∀ z ∈ x0, z.length ≤ 1048576) : ∀ (d i : Nat), i + d = x0.length → Ev (fun k => laws_eqIntSS.l0 k x0 x0 (i : Int)) true := by
  intro d
  induction d with
  | zero =>
    intro i hi
    refine Ev.step (fun k => by rw [laws_eqIntSS.l0]) ?_
    exact Ev.neg (by omega) (Ev.now _)
  | succ d ih =>
    intro i hd
    refine Ev.step (fun k => by rw [laws_eqIntSS.l0]) ?_
    refine Ev.pos (by omega) (Ev.pos (nn _) (Ev.pos (by omega) ?_))
    rw [rdL1_get x0 i (by omega)]
    refine Ev.bind (eqIntS_ev _ _ (by have := hi x0[i] (List.getElem_mem _); omega)) (Ev.pos (by simp) ?_)
    rw [wr_nat i _ (by omega) hx]
    exact ih (i + 1) (by omega)

theorem eqIntSS_ev (x : List (List Int)) (hx : x.length ≤ 1048576) (hi : ∀ z ∈ x, z.length ≤ 1048576) : Ev (fun k => laws_eqIntSS.f k x x) true := by
  unfold laws_eqIntSS.f
  exact Ev.pos rfl (eqIntSS_l x (by omega) hi x.length 0 (by omega))

theorem l1Most_eq (a b : Int) : spec_l1Most.f a b = some (if a ≤ b then b else a) := by
  unfold spec_l1Most.f
  by_cases h : a > b
  · rw [if_pos h, if_neg (by omega)]
  · rw [if_neg h, if_pos (by omega)]

def incr : List Int → Bool
  | a :: b :: t => decide (a < b) && incr (b :: t)
  | _ => true

theorem incr_cons {a b : Int} {t : List Int} : incr (a :: b :: t) = (decide (a < b) && incr (b :: t)) := by rw [incr]

theorem incr_short (p : List Int) (h : p.length ≤ 1) : incr p = true := by
  match p, h with
  | [], _ => rfl
  | [a], _ => rfl
  | a :: b :: t, h => simp at h

def rise (lo hi : Int) (xs : List Int) : Bool := xs.all (inB lo hi) && incr xs

theorem l1Rising_ev (xs : List Int) (lo hi : Int) (hx : xs.length < 9223372036854775807) : Ev (fun k => spec_l1Rising.f k xs lo hi) (rise lo hi xs) := by
  unfold spec_l1Rising.f rise
  have key : ∀ (d i : Nat), i + d = xs.length → Ev (fun k => spec_l1Rising.l0 k xs lo hi xs (xs.length : Int) (i : Int)) ((xs.drop i).all (inB lo hi) && incr (xs.drop (i - 1))) := by
    intro d
    induction d with
    | zero =>
      intro i hi
      refine Ev.step (fun k => by rw [spec_l1Rising.l0]) ?_
      refine Ev.neg (by omega) (Ev.cast ?_ (Ev.now _))
      rw [dr0 _ _ (by omega), incr_short _ (by rw [List.length_drop]; omega)]; rfl
    | succ d ih =>
      intro i hd
      refine Ev.step (fun k => by rw [spec_l1Rising.l0]) ?_
      refine Ev.pos (by omega) (Ev.pos (nn _) (Ev.pos (by omega) ?_))
      rw [rd_get xs i (by omega), l1In_eq]
      refine Ev.sbind (Ev.cases (fun h => ?_) (fun h => Ev.cast (by rw [dr xs i (by omega), List.all_cons, inB, bf h]; rfl) (Ev.now _)))
      rw [dr xs i (by omega), List.all_cons, inB, h, Bool.true_and]
      refine Ev.cases (fun h1 => ?_) (fun h1 => ?_)
      · have e : wrap64 ((i : Int) - 1) = ((i - 1 : Nat) : Int) := by rw [wr _ (by omega) (by omega)]; omega
        rw [e]
        refine Ev.pos (nn _) (Ev.pos (by omega) ?_)
        rw [rd_get xs (i - 1) (by omega), dr xs (i - 1) (by omega), show i - 1 + 1 = i by omega, dr xs i (by omega), incr_cons]
        refine Ev.cases (fun h2 => Ev.cast (by rw [decide_eq_false (show ¬ xs[i - 1] < xs[i] by omega)]; simp) (Ev.now _)) (fun h2 => ?_)
        rw [decide_eq_true (show xs[i - 1] < xs[i] by omega), Bool.true_and, ← dr xs i (by omega), wr_nat i xs.length (by omega) hx]
        exact ih (i + 1) (by omega)
      · obtain rfl : i = 0 := by omega
        rw [wr_nat 0 xs.length (by omega) hx]
        exact ih 1 (by omega)
  exact key xs.length 0 (by omega)

theorem areBlocks_ev (xs : List Int) (n : Int) (hx : xs.length < 9223372036854775807) : Ev (fun k => impl_areBlocks.f k xs n) (rise 0 (n - 1) xs) := by
  unfold impl_areBlocks.f rise
  have key : ∀ (d i : Nat), i + d = xs.length → Ev (fun k => impl_areBlocks.l0 k xs n xs (xs.length : Int) (i : Int)) ((xs.drop i).all (inB 0 (n - 1)) && incr (xs.drop (i - 1))) := by
    intro d
    induction d with
    | zero =>
      intro i hi
      refine Ev.step (fun k => by rw [impl_areBlocks.l0]) ?_
      refine Ev.neg (by omega) (Ev.cast ?_ (Ev.now _))
      rw [dr0 _ _ (by omega), incr_short _ (by rw [List.length_drop]; omega)]; rfl
    | succ d ih =>
      intro i hd
      refine Ev.step (fun k => by rw [impl_areBlocks.l0]) ?_
      refine Ev.pos (by omega) (Ev.pos (nn _) (Ev.pos (by omega) ?_))
      rw [rd_get xs i (by omega), dr xs i (by omega), List.all_cons]
      refine Ev.cases (fun h => Ev.cast (by rw [inB, decide_eq_false (by omega)]; rfl) (Ev.now _)) (fun h1 => ?_)
      refine Ev.cases (fun h => Ev.cast (by rw [inB, decide_eq_false (by omega)]; rfl) (Ev.now _)) (fun h2 => ?_)
      rw [inB, decide_eq_true (show 0 ≤ xs[i] ∧ xs[i] ≤ n - 1 by omega), Bool.true_and]
      refine Ev.cases (fun h3 => ?_) (fun h3 => ?_)
      · have e : wrap64 ((i : Int) - 1) = ((i - 1 : Nat) : Int) := by rw [wr _ (by omega) (by omega)]; omega
        rw [e]
        refine Ev.pos (nn _) (Ev.pos (by omega) ?_)
        rw [rd_get xs (i - 1) (by omega), dr xs (i - 1) (by omega), show i - 1 + 1 = i by omega, dr xs i (by omega), incr_cons]
        refine Ev.cases (fun h2 => Ev.cast (by rw [decide_eq_false (show ¬ xs[i - 1] < xs[i] by omega)]; simp) (Ev.now _)) (fun h2 => ?_)
        rw [decide_eq_true (show xs[i - 1] < xs[i] by omega), Bool.true_and, ← dr xs i (by omega), wr_nat i xs.length (by omega) hx]
        exact ih (i + 1) (by omega)
      · obtain rfl : i = 0 := by omega
        rw [wr_nat 0 xs.length (by omega) hx]
        exact ih 1 (by omega)
  exact key xs.length 0 (by omega)

theorem rise_mem {lo hi : Int} {xs : List Int} (h : rise lo hi xs = true) {x : Int} (hx : x ∈ xs) : lo ≤ x ∧ x ≤ hi := by
  unfold rise at h
  rw [Bool.and_eq_true, List.all_eq_true] at h
  exact of_decide_eq_true (h.1 x hx)

theorem l1Has_ev (l : List Int) (n : Int) (hl : l.length < 9223372036854775807) : Ev (fun k => spec_l1Has.f k l n) (decide (n ∈ l)) := by
  unfold spec_l1Has.f
  have key : ∀ (d i : Nat), i + d = l.length → Ev (fun k => spec_l1Has.l0 k n l (l.length : Int) (i : Int)) (decide (n ∈ l.drop i)) := by
    intro d
    induction d with
    | zero =>
      intro i hi
      refine Ev.step (fun k => by rw [spec_l1Has.l0]) ?_
      refine Ev.neg (by omega) (Ev.cast ?_ (Ev.now _))
      rw [dr0 _ _ (by omega)]; simp
    | succ d ih =>
      intro i hd
      refine Ev.step (fun k => by rw [spec_l1Has.l0]) ?_
      refine Ev.pos (by omega) (Ev.pos (nn _) (Ev.pos (by omega) ?_))
      rw [rd_get l i (by omega), dr l i (by omega)]
      refine Ev.cases (fun h => Ev.cast (decide_eq_true (by rw [← h]; exact List.mem_cons_self)).symm (Ev.now _)) (fun h => ?_)
      rw [wr_nat i l.length (by omega) hl]
      refine Ev.cast (decide_eq_decide.2 ?_) (ih (i + 1) (by omega))
      rw [List.mem_cons]
      exact ⟨Or.inr, fun e => e.resolve_left (fun q => h q.symm)⟩
  simpa using key l.length 0 (by omega)

def marks (n : Nat) (l : List Int) : List Bool := (List.range n).map fun i : Nat => decide ((i : Int) ∈ l)

theorem marks_len (n : Nat) (l : List Int) : (marks n l).length = n := by simp [marks]

theorem marks_get (n : Nat) (l : List Int) (i : Nat) (h : i < n) : (marks n l).getD i false = decide ((i : Int) ∈ l) := by
  unfold marks
  rw [List.getD_eq_getElem?_getD, List.getElem?_map, List.getElem?_range h]; rfl

theorem marks_set (n : Nat) (l : List Int) (x : Int) (h0 : 0 ≤ x) : (marks n l).set x.toNat true = marks n (l ++ [x]) := by
  apply List.ext_getElem (by simp [marks])
  intro i h1 h2
  rw [List.getElem_set]
  simp only [marks, List.getElem_map, List.getElem_range, List.mem_append, List.mem_singleton]
  split
  · rename_i e
    rw [eq_comm, decide_eq_true_eq]
    right; omega
  · rename_i e
    apply decide_eq_decide.2
    constructor
    · exact Or.inl
    · rintro (h | h)
      · exact h
      · omega

theorem markOf_l (n : Nat) (l : List Int) (hl : l.length < 9223372036854775807) (hb : ∀ x ∈ l, 0 ≤ x ∧ x < n) : ∀ (d i : Nat), i + d = l.length → Ev (fun k => impl_markOf.l0 k (marks n (l.take i)) l (l.length : Int) (i : Int)) (marks n l) := by
  intro d
  induction d with
  | zero =>
    intro i hi
    refine Ev.step (fun k => by rw [impl_markOf.l0]) ?_
    exact Ev.neg (by omega) (Ev.cast (by rw [List.take_of_length_le (by omega)]) (Ev.now _))
  | succ d ih =>
    intro i hi
    refine Ev.step (fun k => by rw [impl_markOf.l0]) ?_
    have b := hb l[i] (List.getElem_mem _)
    rw [rd_get l i (by omega), marks_len]
    refine Ev.pos (by omega) (Ev.pos (nn _) (Ev.pos (by omega) (Ev.pos b.1 (Ev.pos b.2 ?_))))
    rw [marks_set _ _ _ b.1, ← List.take_succ_eq_append_getElem (by omega), wr_nat i l.length (by omega) hl]
    exact ih (i + 1) (by omega)

theorem marks_nil (n : Nat) : marks n [] = List.replicate n false := by
  apply List.ext_getElem (by simp [marks])
  intro i h1 h2
  simp [marks]

theorem markOf_ev (n : Nat) (l : List Int) (hn : n ≤ 1000000) (hl : l.length < 9223372036854775807) (hb : ∀ x ∈ l, 0 ≤ x ∧ x < n) : Ev (fun k => impl_markOf.f k (n : Int) l) (marks n l) := by
  unfold impl_markOf.f
  refine Ev.pos (nn _) (Ev.pos (by omega) ?_)
  rw [Int.toNat_natCast, ← marks_nil]
  exact markOf_l n l hl hb l.length 0 (by omega)

theorem allIn_ev (m : List Bool) (l : List Int) (hl : l.length < 9223372036854775807) (hb : ∀ x ∈ l, 0 ≤ x ∧ x < m.length) : Ev (fun k => impl_allIn.f k m l) (l.all fun x => m.getD x.toNat false) := by
  unfold impl_allIn.f
  have key : ∀ (d i : Nat), i + d = l.length → Ev (fun k => impl_allIn.l0 k m l (l.length : Int) (i : Int)) ((l.drop i).all fun x => m.getD x.toNat false) := by
    intro d
    induction d with
    | zero =>
      intro i hi
      refine Ev.step (fun k => by rw [impl_allIn.l0]) ?_
      refine Ev.neg (by omega) (Ev.cast ?_ (Ev.now _))
      rw [dr0 _ _ (by omega)]; rfl
    | succ d ih =>
      intro i hi
      refine Ev.step (fun k => by rw [impl_allIn.l0]) ?_
      have b := hb l[i] (List.getElem_mem _)
      rw [rd_get l i (by omega), dr l i (by omega), List.all_cons]
      refine Ev.pos (by omega) (Ev.pos (nn _) (Ev.pos (by omega) (Ev.pos b.1 (Ev.pos b.2 ?_))))
      unfold rdOf
      refine Ev.cases (fun h => ?_) (fun h => Ev.cast (by rw [bf h]; rfl) (Ev.now _))
      rw [wr_nat i l.length (by omega) hl, h, Bool.true_and]
      exact ih (i + 1) (by omega)
  exact key l.length 0 (by omega)

theorem all_marks (n : Nat) (l x : List Int) (hb : ∀ i ∈ x, 0 ≤ i ∧ i < n) : (x.all fun i => (marks n l).getD i.toNat false) = x.all fun i => decide (i ∈ l) := by
  rw [Bool.eq_iff_iff, List.all_eq_true, List.all_eq_true]
  have e : ∀ i ∈ x, (marks n l).getD i.toNat false = decide (i ∈ l) := by
    intro i hi
    have b := hb i hi
    rw [marks_get n l _ (by omega), Int.toNat_of_nonneg b.1]
  exact ⟨fun h i hi => by rw [← e i hi]; exact h i hi, fun h i hi => by rw [e i hi]; exact h i hi⟩

def subL (x y : List Int) : Bool := x.all fun i => decide (i ∈ y)

def chainFrom : List (List Int) → Bool
  | a :: b :: t => subL a b && chainFrom (b :: t)
  | _ => true

theorem chain_cons {a b : List Int} {t : List (List Int)} : chainFrom (a :: b :: t) = (subL a b && chainFrom (b :: t)) := by rw [chainFrom]

theorem chain_short (p : List (List Int)) (h : p.length ≤ 1) : chainFrom p = true := by
  match p, h with
  | [], _ => rfl
  | [a], _ => rfl
  | a :: b :: t, h => simp at h

def chainR (l : List (List Int)) : Bool × Bool := if l.length ≤ 61 ∧ l.all (rise 0 119) = true then (chainFrom l, true) else (false, false)

theorem impl_IsChain_l1 (l : List (List Int)) (hl : l.length ≤ 61) (hi : ∀ z ∈ l, z.length ≤ 1048576) (hr : l.all (rise 0 119) = true) : ∀ (d i : Nat), 1 ≤ i → l.length ≤ i + d → Ev (fun k => impl_IsChain.l1 k l (i : Int)) (chainFrom (l.drop (i - 1)), true) := by
  rw [List.all_eq_true] at hr
  intro d
  induction d with
  | zero =>
    intro i h1 hd
    refine Ev.step (fun k => by rw [impl_IsChain.l1]) ?_
    exact Ev.neg (by omega) (Ev.cast (by rw [chain_short _ (by rw [List.length_drop]; omega)]) (Ev.now _))
  | succ d ih =>
    intro i h1 hd
    refine Ev.step (fun k => by rw [impl_IsChain.l1]) ?_
    refine Ev.cases (fun h => ?_) (fun h => Ev.cast (by rw [chain_short _ (by rw [List.length_drop]; omega)]) (Ev.now _))
    have e : wrap64 ((i : Int) - 1) = ((i - 1 : Nat) : Int) := by rw [wr _ (by omega) (by omega)]; omega
    have m1 : l[i] ∈ l := List.getElem_mem _
    have m0 : l[i - 1] ∈ l := List.getElem_mem _
    have b1 : ∀ x ∈ l[i], 0 ≤ x ∧ x < ((120 : Nat) : Int) := fun x hx => by have := rise_mem (hr _ m1) hx; omega
    have b0 : ∀ x ∈ l[i - 1], 0 ≤ x ∧ x < ((120 : Nat) : Int) := fun x hx => by have := rise_mem (hr _ m0) hx; omega
    have s1 := hi _ m1
    have s0 := hi _ m0
    rw [e, rdL1_get l i (by omega), rdL1_get l (i - 1) (by omega)]
    refine Ev.pos (nn _) (Ev.bind (markOf_ev 120 l[i] (by omega) (by omega) b1) (Ev.pos (nn _) (Ev.pos (by omega) ?_)))
    refine Ev.bind (allIn_ev (marks 120 l[i]) l[i - 1] (by omega) (by rw [marks_len]; exact b0)) ?_
    rw [all_marks 120 _ _ b0, dr l (i - 1) (by omega), show i - 1 + 1 = i by omega, dr l i (by omega), chain_cons]
    refine Ev.cases (fun h2 => ?_) (fun h2 => Ev.cast (by rw [subL, bf h2]; rfl) (Ev.now _))
    rw [subL, h2, Bool.true_and, ← dr l i (by omega), wr_nat i l.length (by omega) (by omega)]
    exact ih (i + 1) (by omega) (by omega)

theorem impl_IsChain_ev (l : List (List Int)) (hi : ∀ z ∈ l, z.length ≤ 1048576) : Ev (fun k => impl_IsChain.f k l) (chainR l) := by
  unfold impl_IsChain.f chainR
  refine Ev.cases (fun h => Ev.cast (by rw [if_neg (fun e => by omega)]) (Ev.now _)) (fun h => ?_)
  have key : ∀ (d i : Nat), i + d = l.length → (l.take i).all (rise 0 119) = true → Ev (fun k => impl_IsChain.l0 k l l (l.length : Int) (i : Int)) (if l.length ≤ 61 ∧ l.all (rise 0 119) = true then (chainFrom l, true) else (false, false)) := by
    intro d
    induction d with
    | zero =>
      intro i hd hr
      rw [List.take_of_length_le (by omega)] at hr
      refine Ev.step (fun k => by rw [impl_IsChain.l0]) ?_
      refine Ev.neg (by omega) ?_
      rw [if_pos ⟨by omega, hr⟩]
      exact impl_IsChain_l1 l (by omega) hi hr l.length 1 (by omega) (by omega)
    | succ d ih =>
      intro i hd hr
      refine Ev.step (fun k => by rw [impl_IsChain.l0]) ?_
      refine Ev.pos (by omega) (Ev.pos (nn _) (Ev.pos (by omega) ?_))
      rw [rdL1_get l i (by omega)]
      have s1 := hi _ (List.getElem_mem (show i < l.length by omega))
      refine Ev.bind (areBlocks_ev l[i] 120 (by omega)) (Ev.cases (fun h1 => ?_) (fun h1 => Ev.cast ?_ (Ev.now _)))
      · rw [wr_nat i l.length (by omega) (by omega)]
        refine ih (i + 1) (by omega) ?_
        rw [List.take_succ_eq_append_getElem (by omega), List.all_append, hr, List.all_cons, List.all_nil]
        simpa using h1
      · rw [if_neg]
        rintro ⟨_, hh⟩
        rw [List.all_eq_true] at hh
        exact h1 (hh _ (List.getElem_mem (show i < l.length by omega)))
  exact key l.length 0 (by omega) (by simp)

theorem spec_IsChain_l1 (l : List (List Int)) (x y : List Int) (hx : x.length ≤ 1048576) (hy : y.length ≤ 1048576) (i n : Int) (r : Bool × Bool) : ∀ (d j : Nat) (b : Bool), j + d = y.length →
    Ev (fun k => spec_IsChain.l0 k l (b && (y.drop j).all fun q => decide (q ∈ x)) l n (wrap64 (i + 1))) r → Ev (fun k => spec_IsChain.l1 k l b x l n i y (y.length : Int) (j : Int)) r := by
  intro d
  induction d with
  | zero =>
    intro j b hd hr
    refine Ev.step (fun k => by rw [spec_IsChain.l1]) ?_
    refine Ev.neg (by omega) ?_
    rw [dr0 _ _ (by omega), List.all_nil, Bool.and_true] at hr
    exact hr
  | succ d ih =>
    intro j b hd hr
    refine Ev.step (fun k => by rw [spec_IsChain.l1]) ?_
    refine Ev.pos (by omega) (Ev.pos (nn _) (Ev.pos (by omega) ?_))
    rw [dr y j (by omega), List.all_cons, ← Bool.and_assoc] at hr
    rw [wr_nat j y.length (by omega) (by omega), rd_get y j (by omega)]
    refine Ev.cases (fun h => ?_) (fun h => ?_)
    · refine Ev.bind (l1Has_ev x y[j] (by omega)) ?_
      rw [h, Bool.true_and] at hr
      exact ih (j + 1) _ (by omega) hr
    · rw [bf h, Bool.false_and] at hr
      exact ih (j + 1) false (by omega) hr

theorem sub_self (x : List Int) : (x.all fun q => decide (q ∈ x)) = true := by
  rw [List.all_eq_true]; exact fun q hq => decide_eq_true hq

theorem spec_IsChain_ev (l : List (List Int)) (hi : ∀ z ∈ l, z.length ≤ 1048576) : Ev (fun k => spec_IsChain.f k l) (chainR l) := by
  unfold spec_IsChain.f chainR
  refine Ev.cases (fun h => Ev.cast (by rw [if_neg (fun e => by omega)]) (Ev.now _)) (fun h => ?_)
  have key : ∀ (d i : Nat) (b : Bool), i + d = l.length → Ev (fun k => spec_IsChain.l0 k l b l (l.length : Int) (i : Int)) (if (l.drop i).all (rise 0 119) = true then (b && chainFrom (l.drop (i - 1)), true) else (false, false)) := by
    intro d
    induction d with
    | zero =>
      intro i b hd
      refine Ev.step (fun k => by rw [spec_IsChain.l0]) ?_
      refine Ev.neg (by omega) (Ev.cast ?_ (Ev.now _))
      rw [dr0 _ _ (by omega), if_pos (by rfl), chain_short _ (by rw [List.length_drop]; omega), Bool.and_true]
    | succ d ih =>
      intro i b hd
      refine Ev.step (fun k => by rw [spec_IsChain.l0]) ?_
      refine Ev.pos (by omega) (Ev.pos (nn _) (Ev.pos (by omega) ?_))
      rw [rdL1_get l i (by omega)]
      have s1 := hi _ (List.getElem_mem (show i < l.length by omega))
      refine Ev.bind (l1Rising_ev l[i] 0 119 (by omega)) (Ev.cases (fun h1 => ?_) (fun h1 => Ev.cast ?_ (Ev.now _)))
      · rw [wr _ (by omega) (by omega), l1Most_eq]
        refine Ev.sbind ?_
        have e : (if (i : Int) - 1 ≤ 0 then 0 else (i : Int) - 1) = ((i - 1 : Nat) : Int) := by split <;> omega
        rw [e, rdL1_get l (i - 1) (by omega)]
        have s0 := hi _ (List.getElem_mem (show i - 1 < l.length by omega))
        refine Ev.pos (nn _) (Ev.pos (by omega) ?_)
        refine spec_IsChain_l1 l l[i] l[i - 1] (by omega) (by omega) (i : Int) _ _ _ 0 b (Nat.zero_add _) ?_
        rw [wr_nat i l.length (by omega) (by omega)]
        refine Ev.cast ?_ (ih (i + 1) _ (by omega))
        rw [dr l i (by omega), List.all_cons, h1, Bool.true_and, List.drop_zero]
        rw [show i + 1 - 1 = i by omega]
        by_cases h0 : i = 0
        · subst h0
          simp only [Nat.zero_sub, sub_self, Bool.and_true, List.drop_zero]
        · rw [dr l (i - 1) (by omega), show i - 1 + 1 = i by omega, dr l i (by omega), chain_cons, ← dr l i (by omega), ← Bool.and_assoc]
          rfl
      · rw [dr l i (by omega), List.all_cons, bf h1, Bool.false_and, if_neg (by simp)]
  have := key l.length 0 true (by omega)
  refine Ev.cast ?_ this
  rw [List.drop_zero, Bool.true_and]
  by_cases h1 : l.all (rise 0 119) = true
  · rw [if_pos h1, if_pos ⟨by omega, h1⟩]
  · rw [if_neg h1, if_neg (fun e => h1 e.2)]

theorem FnExactIsChain (v : List (List Int)) (hm : v.length ≤ maxLen) (hi : ∀ z ∈ v, z.length ≤ maxLen) (_ : ∀ z ∈ v, okI .i64 z) : ∃ k, laws_FnExactIsChain.f k v = some true := by
  refine Ev.ex (g := fun k => laws_FnExactIsChain.f k v) ?_
  unfold laws_FnExactIsChain.f
  obtain ⟨r, hr, _, hb⟩ := szIntSS_ev v 1048576 (by omega) (by omega) hm hi
  refine Ev.bind hr (Ev.cases (fun _ => Ev.now _) (fun h => ?_))
  have hb := hb (by omega)
  have h1 : v.length ≤ 1048576 := by omega
  have h2 : ∀ z ∈ v, z.length ≤ 1048576 := fun z hz => by have := tot_mem hz; omega
  have T := toIntSS_ev v h1 h2
  refine Ev.bind T (Ev.bind (spec_IsChain_ev v h2) (Ev.bind T (Ev.bind (impl_IsChain_ev v h2) (Ev.neg (by simp) ?_))))
  refine Ev.step (fun k => by rw [laws_FnExactIsChain.j0]) (Ev.neg (by simp) ?_)
  exact Ev.bind T (Ev.bind (eqIntSS_ev v h1 h2) (Ev.pos rfl (Ev.now _)))

end Go.Proofs.Ytgflhbfnhmofoaa.Pure

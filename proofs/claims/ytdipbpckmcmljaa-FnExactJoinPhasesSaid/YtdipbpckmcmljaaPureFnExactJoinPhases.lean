/- FnExactJoinPhases over numbers and lists alone: what the program's text computes and what the reference's text computes is the same, for all arguments that the row lets in; no further condition. -/
import Derived.Test.YtdipbpckmcmljaaPFnExactJoinPhasesx
import Derived.Test.YtdipbpckmcmljaaGen
import Derived.Test.YtdipbpckmcmljaaOpn
set_option linter.unusedVariables false
set_option linter.unusedSimpArgs false
namespace Go.Proofs.Ytdipbpckmcmljaa.Pure
open Go.RowKit Go.Proofs.Ytdipbpckmcmljaa.PFnExactJoinPhases Go.Proofs.YtdipbpckmcmljaaW.PrintWords Go.Proofs.YtdipbpckmcmljaaW.PrintLast Go.Proofs.Ytdipbpckmcmljaa.Gen Go.Proofs.Ytdipbpckmcmljaa.Opn
theorem toIntS_l (x0 : List Int) (hx : x0.length < 9223372036854775807) : ∀ (suf pre : List Int), pre ++ suf = x0 →
    Ev (fun k => laws_toIntS.l0 k x0 (pre ++ List.replicate suf.length 0) (pre.length : Int)) x0 := by
  intro suf
  induction suf with
  | nil =>
    rintro pre rfl
    refine Ev.step (fun k => by rw [laws_toIntS.l0]) ?_
    refine Ev.neg (by simp) ?_
    refine Ev.cast (by simp) (Ev.now _)
  | cons x suf ih =>
    rintro pre rfl
    refine Ev.step (fun k => by rw [laws_toIntS.l0]) ?_
    refine Ev.pos (mid_lt _ _ _) (Ev.pos (nn _) (Ev.pos (by simp; omega) ?_))
    rw [wr_mid pre x suf _ rfl hx, rd_mid, List.length_cons, List.replicate_succ, set_mid]
    exact ih (pre ++ [x]) (by simp)

theorem toIntS_ev (x : List Int) (hx : x.length ≤ 35184372088832) : Ev (fun k => laws_toIntS.f k x) x := by
  unfold laws_toIntS.f
  refine Ev.pos (nn _) (Ev.pos (by simpa using hx) ?_)
  simpa using toIntS_l x (by omega) x [] rfl

theorem eqIntS_l (x0 x1 : List Int) (hx : x0.length < 9223372036854775807) (hl : x0.length = x1.length) : ∀ (d i : Nat), i + d = x0.length →
    Ev (fun k => laws_eqIntS.l0 k x0 x1 (i : Int)) (decide (x0.drop i = x1.drop i)) := by
  intro d
  induction d with
  | zero =>
    intro i hi
    refine Ev.step (fun k => by rw [laws_eqIntS.l0]) ?_
    refine Ev.neg (by omega) (Ev.cast ?_ (Ev.now _))
    rw [List.drop_eq_nil_of_le (by omega), List.drop_eq_nil_of_le (by omega)]; rfl
  | succ d ih =>
    intro i hi
    refine Ev.step (fun k => by rw [laws_eqIntS.l0]) ?_
    refine Ev.pos (by omega) (Ev.pos (nn _) (Ev.pos (by omega) ?_))
    rw [rd_get x0 i (by omega), rd_get x1 i (by omega), dr x0 i (by omega), dr x1 i (by omega)]
    refine Ev.cases (fun h => ?_) (fun h => ?_)
    · rw [wr_nat i _ (by omega) hx]
      refine Ev.cast ?_ (ih (i + 1) (by omega))
      simp only [List.cons.injEq, h, true_and]
    · refine Ev.cast ?_ (Ev.now _)
      simp only [List.cons.injEq, h, false_and, decide_false]

theorem eqIntS_ev (x y : List Int) (hx : x.length < 9223372036854775807) : Ev (fun k => laws_eqIntS.f k x y) (decide (x = y)) := by
  unfold laws_eqIntS.f
  refine Ev.cases (fun h => ?_) (fun h => ?_)
  · exact eqIntS_l x y hx (by omega) x.length 0 (by omega)
  · refine Ev.cast ?_ (Ev.now _)
    exact (decide_eq_false (fun e => h (by rw [e]))).symm

theorem l1In_eq (n a b : Int) : spec_l1In.f n a b = some (decide (a ≤ n ∧ n ≤ b)) := by
  unfold spec_l1In.f
  by_cases h : n ≥ a
  · rw [if_pos h]; simp [show a ≤ n from h]
  · rw [if_neg h]; simp [show ¬ a ≤ n from h]

def inB (a b : Int) (x : Int) : Bool := decide (a ≤ x ∧ x ≤ b)

theorem l1All_l (a b : Int) (xs : List Int) (hx : xs.length < 9223372036854775807) : ∀ (d i : Nat), i + d = xs.length →
    Ev (fun k => spec_l1All.l0 k a b xs (xs.length : Int) (i : Int)) ((xs.drop i).all (inB a b)) := by
  intro d
  induction d with
  | zero =>
    intro i hi
    refine Ev.step (fun k => by rw [spec_l1All.l0]) ?_
    refine Ev.neg (by omega) (Ev.cast ?_ (Ev.now _))
    rw [List.drop_eq_nil_of_le (by omega)]; rfl
  | succ d ih =>
    intro i hi
    refine Ev.step (fun k => by rw [spec_l1All.l0]) ?_
    refine Ev.pos (by omega) (Ev.pos (nn _) (Ev.pos (by omega) ?_))
    rw [rd_get xs i (by omega), dr xs i (by omega), l1In_eq]
    refine Ev.sbind (Ev.cases (fun h => ?_) (fun h => ?_))
    · rw [wr_nat i _ (by omega) hx]
      refine Ev.cast ?_ (ih (i + 1) (by omega))
      rw [List.all_cons, inB, h, Bool.true_and]
    · refine Ev.cast ?_ (Ev.now _)
      rw [List.all_cons, inB, bf h, Bool.false_and]

theorem l1All_ev (a b : Int) (xs : List Int) (hx : xs.length < 9223372036854775807) : Ev (fun k => spec_l1All.f k xs a b) (xs.all (inB a b)) := by
  unfold spec_l1All.f
  exact l1All_l a b xs hx xs.length 0 (by omega)

def markedI (n : Nat) (a : Int) : List Int := (List.range n).map fun i : Nat => a + (i : Int)

theorem markIntS_l (a : Int) (ha : 0 ≤ a) : ∀ (suf pre : List Int), pre = markedI pre.length a → a + (pre.length : Int) + (suf.length : Int) < 9223372036854775807 →
    Ev (fun k => laws_markIntS.l0 k (pre ++ suf) (a + (pre.length : Int)) (pre.length : Int)) (a + ((pre ++ suf).length : Int), markedI (pre ++ suf).length a) := by
  intro suf
  induction suf with
  | nil =>
    intro pre hp hb
    refine Ev.step (fun k => by rw [laws_markIntS.l0]) ?_
    refine Ev.neg (by simp) (Ev.cast ?_ (Ev.now _))
    rw [List.append_nil, ← hp]
  | cons x suf ih =>
    intro pre hp hb
    refine Ev.step (fun k => by rw [laws_markIntS.l0]) ?_
    refine Ev.pos (mid_lt _ _ _) (Ev.pos (nn _) ?_)
    rw [List.length_cons] at hb
    rw [wr_mid pre x suf _ rfl (by simp; omega), set_mid, wr _ (by omega) (by omega)]
    have := ih (pre ++ [a + (pre.length : Int)]) (by
      unfold markedI; rw [List.length_append, List.length_singleton, List.range_succ, List.map_append, List.map_singleton]; unfold markedI at hp; rw [← hp]) (by simp; omega)
    simp only [List.length_append, List.length_cons, List.length_nil] at this ⊢
    rw [show a + (pre.length : Int) + 1 = a + ((pre.length + (0 + 1) : Nat) : Int) by omega, show pre.length + (suf.length + 1) = pre.length + (0 + 1) + suf.length by omega]
    exact this

theorem markIntS_ev (x : List Int) (a : Int) (ha : 0 ≤ a) (hb : a + (x.length : Int) < 9223372036854775807) : Ev (fun k => laws_markIntS.f k x a) (a + (x.length : Int), markedI x.length a) := by
  unfold laws_markIntS.f
  simpa using markIntS_l a ha x [] rfl (by simpa using hb)

theorem heldIntS_l (a : Int) (ha : 0 ≤ a) (n : Nat) (hb : a + (n : Int) < 9223372036854775807) : ∀ (d i : Nat), i + d = n →
    Ev (fun k => laws_heldIntS.l0 k (markedI n a) (a + (i : Int)) (i : Int)) (a + (n : Int)) := by
  intro d
  have hl : (markedI n a).length = n := by simp [markedI]
  induction d with
  | zero =>
    intro i hi
    refine Ev.step (fun k => by rw [laws_heldIntS.l0]) ?_
    refine Ev.neg (by omega) (Ev.cast (by omega) (Ev.now _))
  | succ d ih =>
    intro i hi
    refine Ev.step (fun k => by rw [laws_heldIntS.l0]) ?_
    refine Ev.pos (by omega) (Ev.pos (nn _) ?_)
    rw [rd_get _ i (by omega)]
    refine Ev.pos (by simp [markedI]) ?_
    rw [wr_nat i n (by omega) (by omega), wr _ (by omega) (by omega), Int.add_assoc]
    exact ih (i + 1) (by omega)

theorem heldIntS_ev (n : Nat) (a : Int) (ha : 0 ≤ a) (hb : a + (n : Int) < 9223372036854775807) : Ev (fun k => laws_heldIntS.f k (markedI n a) a) (a + (n : Int)) := by
  unfold laws_heldIntS.f
  simpa using heldIntS_l a ha n hb n 0 (by omega)

theorem rdL1_get (xs : List (List Int)) (i : Nat) (h : i < xs.length) : rd_L1 xs (i : Int) = xs[i] := by
  unfold rd_L1; rw [Int.toNat_natCast]; simp [List.getD_eq_getElem?_getD, h]

theorem rdL1_mid (pre : List (List Int)) (x : List Int) (suf : List (List Int)) : rd_L1 (pre ++ x :: suf) (pre.length : Int) = x := by
  unfold rd_L1; rw [Int.toNat_natCast]; simp

theorem szIntS_eq (x : List Int) (left : Int) (h0 : 0 ≤ left) (h1 : left ≤ 1048576) (hx : x.length ≤ maxLen) : ∃ r, laws_szIntS.f x left = some r ∧ r ≤ 1048576 ∧ (0 ≤ r → r = left - x.length) := by
  unfold laws_szIntS.f
  unfold maxLen at hx
  rw [wr _ (by omega) (by omega)]
  by_cases h : left - (x.length : Int) < 0
  · rw [if_pos h]; exact ⟨-1, rfl, by omega, by omega⟩
  · rw [if_neg h]; exact ⟨_, rfl, by omega, fun _ => rfl⟩

def totL (xs : List (List Int)) : Nat := (xs.map List.length).sum

theorem szIntSS_l (x : List (List Int)) (hx : x.length < 9223372036854775807) (hi : ∀ z ∈ x, z.length ≤ maxLen) : ∀ (suf pre : List (List Int)) (left : Int), pre ++ suf = x → 0 ≤ left → left ≤ 1048576 →
    ∃ r, Ev (fun k => laws_szIntSS.l0 k x left (pre.length : Int)) r ∧ r ≤ 1048576 ∧ (0 ≤ r → r = left - totL suf) := by
  intro suf
  induction suf with
  | nil =>
    rintro pre left rfl h0 h1
    refine ⟨left, ?_, h1, fun _ => by simp [totL]⟩
    refine Ev.step (fun k => by rw [laws_szIntSS.l0]) ?_
    exact Ev.neg (by simp) (Ev.now _)
  | cons y suf ih =>
    rintro pre left rfl h0 h1
    obtain ⟨r, hr, hr1, hr2⟩ := szIntS_eq y left h0 h1 (hi y (by simp))
    by_cases h : r < 0
    · refine ⟨-1, ?_, by omega, by omega⟩
      refine Ev.step (fun k => by rw [laws_szIntSS.l0]) ?_
      refine Ev.pos (mid_lt _ _ _) (Ev.pos (nn _) ?_)
      rw [rdL1_mid, hr]
      exact Ev.sbind (Ev.pos h (Ev.now _))
    · obtain ⟨q, hq, hq1, hq2⟩ := ih (pre ++ [y]) r (by simp) (by omega) hr1
      refine ⟨q, ?_, hq1, fun hh => ?_⟩
      · refine Ev.step (fun k => by rw [laws_szIntSS.l0]) ?_
        refine Ev.pos (mid_lt _ _ _) (Ev.pos (nn _) ?_)
        rw [rdL1_mid, hr]
        refine Ev.sbind (Ev.neg h ?_)
        rw [wr_mid pre y suf _ rfl hx]
        exact hq
      · have a := hq2 hh
        have b := hr2 (by omega)
        simp only [totL, List.map_cons, List.sum_cons] at a ⊢
        omega

theorem szIntSS_ev (x : List (List Int)) (left : Int) (h0 : 0 ≤ left) (h1 : left ≤ 1048576) (hx : x.length ≤ maxLen) (hi : ∀ z ∈ x, z.length ≤ maxLen) :
    ∃ r, Ev (fun k => laws_szIntSS.f k x left) r ∧ r ≤ 1048576 ∧ (0 ≤ r → r = left - x.length - totL x) := by
  unfold laws_szIntSS.f
  have hx' := hx
  unfold maxLen at hx'
  rw [wr _ (by omega) (by omega)]
  by_cases h : left - (x.length : Int) < 0
  · exact ⟨-1, Ev.pos h (Ev.now _), by omega, by omega⟩
  · obtain ⟨r, hr, a, b⟩ := szIntSS_l x (by omega) hi x [] (left - x.length) rfl (by omega) (by omega)
    exact ⟨r, Ev.neg h hr, a, b⟩

theorem tot_mem {xs : List (List Int)} {z : List Int} (h : z ∈ xs) : z.length ≤ totL xs := by
  induction xs with
  | nil => cases h
  | cons y ys ih =>
    rcases List.mem_cons.1 h with rfl | h
    · simp [totL]
    · have := ih h
      simp only [totL, List.map_cons, List.sum_cons] at this ⊢
      omega

theorem toIntSS_l (x0 : List (List Int)) (hx : x0.length < 9223372036854775807) (hi : ∀ z ∈ x0, z.length ≤ 1048576) : ∀ (suf pre : List (List Int)), pre ++ suf = x0 →
    Ev (fun k => laws_toIntSS.l0 k x0 (pre ++ List.replicate suf.length []) (pre.length : Int)) x0 := by
  intro suf
  induction suf with
  | nil =>
    rintro pre rfl
    refine Ev.step (fun k => by rw [laws_toIntSS.l0]) ?_
    refine Ev.neg (by simp) ?_
    refine Ev.cast (by simp) (Ev.now _)
  | cons x suf ih =>
    rintro pre rfl
    refine Ev.step (fun k => by rw [laws_toIntSS.l0]) ?_
    refine Ev.pos (mid_lt _ _ _) (Ev.pos (nn _) ?_)
    rw [rdL1_mid]
    refine Ev.bind (toIntS_ev x (by have := hi x (by simp); omega)) (Ev.pos (by simp; omega) ?_)
    rw [wr_mid pre x suf _ rfl hx, List.length_cons, List.replicate_succ, set_mid]
    exact ih (pre ++ [x]) (by simp)

theorem toIntSS_ev (x : List (List Int)) (hx : x.length ≤ 1048576) (hi : ∀ z ∈ x, z.length ≤ 1048576) : Ev (fun k => laws_toIntSS.f k x) x := by
  unfold laws_toIntSS.f
  refine Ev.pos (nn _) (Ev.pos (by rw [Int.toNat_natCast]; omega) ?_)
  simpa using toIntSS_l x (by omega) hi x [] rfl

theorem eqIntSS_l (x0 : List (List Int)) (hx : x0.length < 9223372036854775807) (hi : ∀ z ∈ x0, z.length ≤ 1048576) : ∀ (d i : Nat), i + d = x0.length → Ev (fun k => laws_eqIntSS.l0 k x0 x0 (i : Int)) true := by
  intro d
  induction d with
  | zero =>
    intro i hi
    refine Ev.step (fun k => by rw [laws_eqIntSS.l0]) ?_
    exact Ev.neg (by omega) (Ev.now _)
  | succ d ih =>
    intro i hd
    refine Ev.step (fun k => by rw [laws_eqIntSS.l0]) ?_
    refine Ev.pos (by omega) (Ev.pos (nn _) (Ev.pos (by omega) ?_))
    rw [rdL1_get x0 i (by omega)]
    refine Ev.bind (eqIntS_ev _ _ (by have := hi x0[i] (List.getElem_mem _); omega)) (Ev.pos (by simp) ?_)
    rw [wr_nat i _ (by omega) hx]
    exact ih (i + 1) (by omega)

theorem eqIntSS_ev (x : List (List Int)) (hx : x.length ≤ 1048576) (hi : ∀ z ∈ x, z.length ≤ 1048576) : Ev (fun k => laws_eqIntSS.f k x x) true := by
  unfold laws_eqIntSS.f
  exact Ev.pos rfl (eqIntSS_l x (by omega) hi x.length 0 (by omega))

theorem gD {α : Type} (xs : List α) (d : α) (i : Nat) (h : i < xs.length) : xs.getD i d = xs[i] := by
  rw [List.getD_eq_getElem?_getD, List.getElem?_eq_getElem h]; rfl

def incr : List Int → Bool
  | a :: b :: t => decide (a < b) && incr (b :: t)
  | _ => true

theorem incr_cons {a b : Int} {t : List Int} : incr (a :: b :: t) = (decide (a < b) && incr (b :: t)) := by rw [incr]

theorem incr_short (p : List Int) (h : p.length ≤ 1) : incr p = true := by
  match p, h with
  | [], _ => rfl
  | [a], _ => rfl
  | a :: b :: t, h => simp at h

def rise (lo hi : Int) (xs : List Int) : Bool := xs.all (inB lo hi) && incr xs

theorem l1Rising_ev (xs : List Int) (lo hi : Int) (hx : xs.length < 9223372036854775807) : Ev (fun k => spec_l1Rising.f k xs lo hi) (rise lo hi xs) := by
  unfold spec_l1Rising.f rise
  have key : ∀ (d i : Nat), i + d = xs.length → Ev (fun k => spec_l1Rising.l0 k xs lo hi xs (xs.length : Int) (i : Int)) ((xs.drop i).all (inB lo hi) && incr (xs.drop (i - 1))) := by
    intro d
    induction d with
    | zero =>
      intro i hi
      refine Ev.step (fun k => by rw [spec_l1Rising.l0]) ?_
      refine Ev.neg (by omega) (Ev.cast ?_ (Ev.now _))
      rw [dr0 _ _ (by omega), incr_short _ (by rw [List.length_drop]; omega)]; rfl
    | succ d ih =>
      intro i hd
      refine Ev.step (fun k => by rw [spec_l1Rising.l0]) ?_
      refine Ev.pos (by omega) (Ev.pos (nn _) (Ev.pos (by omega) ?_))
      rw [rd_get xs i (by omega), l1In_eq]
      refine Ev.sbind (Ev.cases (fun h => ?_) (fun h => Ev.cast (by rw [dr xs i (by omega), List.all_cons, inB, bf h]; rfl) (Ev.now _)))
      rw [dr xs i (by omega), List.all_cons, inB, h, Bool.true_and]
      refine Ev.cases (fun h1 => ?_) (fun h1 => ?_)
      · have e : wrap64 ((i : Int) - 1) = ((i - 1 : Nat) : Int) := by rw [wr _ (by omega) (by omega)]; omega
        rw [e]
        refine Ev.pos (nn _) (Ev.pos (by omega) ?_)
        rw [rd_get xs (i - 1) (by omega), dr xs (i - 1) (by omega), show i - 1 + 1 = i by omega, dr xs i (by omega), incr_cons]
        refine Ev.cases (fun h2 => Ev.cast (by rw [decide_eq_false (show ¬ xs[i - 1] < xs[i] by omega)]; simp) (Ev.now _)) (fun h2 => ?_)
        rw [decide_eq_true (show xs[i - 1] < xs[i] by omega), Bool.true_and, ← dr xs i (by omega), wr_nat i xs.length (by omega) hx]
        exact ih (i + 1) (by omega)
      · obtain rfl : i = 0 := by omega
        rw [wr_nat 0 xs.length (by omega) hx]
        exact ih 1 (by omega)
  exact key xs.length 0 (by omega)

theorem areBlocks_ev (xs : List Int) (n : Int) (hx : xs.length < 9223372036854775807) : Ev (fun k => impl_areBlocks.f k xs n) (rise 0 (n - 1) xs) := by
  unfold impl_areBlocks.f rise
  have key : ∀ (d i : Nat), i + d = xs.length → Ev (fun k => impl_areBlocks.l0 k xs n xs (xs.length : Int) (i : Int)) ((xs.drop i).all (inB 0 (n - 1)) && incr (xs.drop (i - 1))) := by
    intro d
    induction d with
    | zero =>
      intro i hi
      refine Ev.step (fun k => by rw [impl_areBlocks.l0]) ?_
      refine Ev.neg (by omega) (Ev.cast ?_ (Ev.now _))
      rw [dr0 _ _ (by omega), incr_short _ (by rw [List.length_drop]; omega)]; rfl
    | succ d ih =>
      intro i hd
      refine Ev.step (fun k => by rw [impl_areBlocks.l0]) ?_
      refine Ev.pos (by omega) (Ev.pos (nn _) (Ev.pos (by omega) ?_))
      rw [rd_get xs i (by omega), dr xs i (by omega), List.all_cons]
      refine Ev.cases (fun h => Ev.cast (by rw [inB, decide_eq_false (by omega)]; rfl) (Ev.now _)) (fun h1 => ?_)
      refine Ev.cases (fun h => Ev.cast (by rw [inB, decide_eq_false (by omega)]; rfl) (Ev.now _)) (fun h2 => ?_)
      rw [inB, decide_eq_true (show 0 ≤ xs[i] ∧ xs[i] ≤ n - 1 by omega), Bool.true_and]
      refine Ev.cases (fun h3 => ?_) (fun h3 => ?_)
      · have e : wrap64 ((i : Int) - 1) = ((i - 1 : Nat) : Int) := by rw [wr _ (by omega) (by omega)]; omega
        rw [e]
        refine Ev.pos (nn _) (Ev.pos (by omega) ?_)
        rw [rd_get xs (i - 1) (by omega), dr xs (i - 1) (by omega), show i - 1 + 1 = i by omega, dr xs i (by omega), incr_cons]
        refine Ev.cases (fun h2 => Ev.cast (by rw [decide_eq_false (show ¬ xs[i - 1] < xs[i] by omega)]; simp) (Ev.now _)) (fun h2 => ?_)
        rw [decide_eq_true (show xs[i - 1] < xs[i] by omega), Bool.true_and, ← dr xs i (by omega), wr_nat i xs.length (by omega) hx]
        exact ih (i + 1) (by omega)
      · obtain rfl : i = 0 := by omega
        rw [wr_nat 0 xs.length (by omega) hx]
        exact ih 1 (by omega)
  exact key xs.length 0 (by omega)

theorem rise_mem {lo hi : Int} {xs : List Int} (h : rise lo hi xs = true) {x : Int} (hx : x ∈ xs) : lo ≤ x ∧ x ≤ hi := by
  unfold rise at h
  rw [Bool.and_eq_true, List.all_eq_true] at h
  exact of_decide_eq_true (h.1 x hx)

theorem l1Has_ev (l : List Int) (n : Int) (hl : l.length < 9223372036854775807) : Ev (fun k => spec_l1Has.f k l n) (decide (n ∈ l)) := by
  unfold spec_l1Has.f
  have key : ∀ (d i : Nat), i + d = l.length → Ev (fun k => spec_l1Has.l0 k n l (l.length : Int) (i : Int)) (decide (n ∈ l.drop i)) := by
    intro d
    induction d with
    | zero =>
      intro i hi
      refine Ev.step (fun k => by rw [spec_l1Has.l0]) ?_
      refine Ev.neg (by omega) (Ev.cast ?_ (Ev.now _))
      rw [dr0 _ _ (by omega)]; simp
    | succ d ih =>
      intro i hd
      refine Ev.step (fun k => by rw [spec_l1Has.l0]) ?_
      refine Ev.pos (by omega) (Ev.pos (nn _) (Ev.pos (by omega) ?_))
      rw [rd_get l i (by omega), dr l i (by omega)]
      refine Ev.cases (fun h => Ev.cast (decide_eq_true (by rw [← h]; exact List.mem_cons_self)).symm (Ev.now _)) (fun h => ?_)
      rw [wr_nat i l.length (by omega) hl]
      refine Ev.cast (decide_eq_decide.2 ?_) (ih (i + 1) (by omega))
      rw [List.mem_cons]
      exact ⟨Or.inr, fun e => e.resolve_left (fun q => h q.symm)⟩
  simpa using key l.length 0 (by omega)

def marks (n : Nat) (l : List Int) : List Bool := (List.range n).map fun i : Nat => decide ((i : Int) ∈ l)

theorem marks_len (n : Nat) (l : List Int) : (marks n l).length = n := by simp [marks]

theorem marks_get (n : Nat) (l : List Int) (i : Nat) (h : i < n) : (marks n l).getD i false = decide ((i : Int) ∈ l) := by
  unfold marks
  rw [List.getD_eq_getElem?_getD, List.getElem?_map, List.getElem?_range h]; rfl

theorem marks_set (n : Nat) (l : List Int) (x : Int) (h0 : 0 ≤ x) : (marks n l).set x.toNat true = marks n (l ++ [x]) := by
  apply List.ext_getElem (by simp [marks])
  intro i h1 h2
  rw [List.getElem_set]
  simp only [marks, List.getElem_map, List.getElem_range, List.mem_append, List.mem_singleton]
  split
  · rename_i e
    rw [eq_comm, decide_eq_true_eq]
    right; omega
  · rename_i e
    apply decide_eq_decide.2
    constructor
    · exact Or.inl
    · rintro (h | h)
      · exact h
      · omega

theorem markOf_l (n : Nat) (l : List Int) (hl : l.length < 9223372036854775807) (hb : ∀ x ∈ l, 0 ≤ x ∧ x < n) : ∀ (d i : Nat), i + d = l.length → Ev (fun k => impl_markOf.l0 k (marks n (l.take i)) l (l.length : Int) (i : Int)) (marks n l) := by
  intro d
  induction d with
  | zero =>
    intro i hi
    refine Ev.step (fun k => by rw [impl_markOf.l0]) ?_
    exact Ev.neg (by omega) (Ev.cast (by rw [List.take_of_length_le (by omega)]) (Ev.now _))
  | succ d ih =>
    intro i hi
    refine Ev.step (fun k => by rw [impl_markOf.l0]) ?_
    have b := hb l[i] (List.getElem_mem _)
    rw [rd_get l i (by omega), marks_len]
    refine Ev.pos (by omega) (Ev.pos (nn _) (Ev.pos (by omega) (Ev.pos b.1 (Ev.pos b.2 ?_))))
    rw [marks_set _ _ _ b.1, ← List.take_succ_eq_append_getElem (by omega), wr_nat i l.length (by omega) hl]
    exact ih (i + 1) (by omega)

theorem marks_nil (n : Nat) : marks n [] = List.replicate n false := by
  apply List.ext_getElem (by simp [marks])
  intro i h1 h2
  simp [marks]

theorem markOf_ev (n : Nat) (l : List Int) (hn : n ≤ 1000000) (hl : l.length < 9223372036854775807) (hb : ∀ x ∈ l, 0 ≤ x ∧ x < n) : Ev (fun k => impl_markOf.f k (n : Int) l) (marks n l) := by
  unfold impl_markOf.f
  refine Ev.pos (nn _) (Ev.pos (by omega) ?_)
  rw [Int.toNat_natCast, ← marks_nil]
  exact markOf_l n l hl hb l.length 0 (by omega)

theorem allIn_ev (m : List Bool) (l : List Int) (hl : l.length < 9223372036854775807) (hb : ∀ x ∈ l, 0 ≤ x ∧ x < m.length) : Ev (fun k => impl_allIn.f k m l) (l.all fun x => m.getD x.toNat false) := by
  unfold impl_allIn.f
  have key : ∀ (d i : Nat), i + d = l.length → Ev (fun k => impl_allIn.l0 k m l (l.length : Int) (i : Int)) ((l.drop i).all fun x => m.getD x.toNat false) := by
    intro d
    induction d with
    | zero =>
      intro i hi
      refine Ev.step (fun k => by rw [impl_allIn.l0]) ?_
      refine Ev.neg (by omega) (Ev.cast ?_ (Ev.now _))
      rw [dr0 _ _ (by omega)]; rfl
    | succ d ih =>
      intro i hi
      refine Ev.step (fun k => by rw [impl_allIn.l0]) ?_
      have b := hb l[i] (List.getElem_mem _)
      rw [rd_get l i (by omega), dr l i (by omega), List.all_cons]
      refine Ev.pos (by omega) (Ev.pos (nn _) (Ev.pos (by omega) (Ev.pos b.1 (Ev.pos b.2 ?_))))
      unfold rdOf
      refine Ev.cases (fun h => ?_) (fun h => Ev.cast (by rw [bf h]; rfl) (Ev.now _))
      rw [wr_nat i l.length (by omega) hl, h, Bool.true_and]
      exact ih (i + 1) (by omega)
  exact key l.length 0 (by omega)

theorem all_marks (n : Nat) (l x : List Int) (hb : ∀ i ∈ x, 0 ≤ i ∧ i < n) : (x.all fun i => (marks n l).getD i.toNat false) = x.all fun i => decide (i ∈ l) := by
  rw [Bool.eq_iff_iff, List.all_eq_true, List.all_eq_true]
  have e : ∀ i ∈ x, (marks n l).getD i.toNat false = decide (i ∈ l) := by
    intro i hi
    have b := hb i hi
    rw [marks_get n l _ (by omega), Int.toNat_of_nonneg b.1]
  exact ⟨fun h i hi => by rw [← e i hi]; exact h i hi, fun h i hi => by rw [e i hi]; exact h i hi⟩

def subL (x y : List Int) : Bool := x.all fun i => decide (i ∈ y)

def arcsFrom : Nat → List (List Int) → Bool
  | _, [] => true
  | i, l :: t => rise 0 ((i : Int) - 1) l && arcsFrom (i + 1) t

def arcsOk (a : List (List Int)) : Bool := decide (1 ≤ a.length ∧ a.length ≤ 120) && arcsFrom 0 a

theorem arcsFrom_at : ∀ (a : List (List Int)) (n : Nat), arcsFrom n a = true → ∀ i (h : i < a.length), rise 0 (((n + i : Nat) : Int) - 1) a[i] = true
  | [], _, _, i, h => by simp at h
  | l :: t, n, hh, i, h => by
    rw [arcsFrom, Bool.and_eq_true] at hh
    cases i with
    | zero => simpa using hh.1
    | succ i =>
      have := arcsFrom_at t (n + 1) hh.2 i (by simpa using h)
      rw [show n + 1 + i = n + (i + 1) by omega] at this
      simpa using this

theorem arcsOk_parts {a : List (List Int)} (h : arcsOk a = true) : 1 ≤ a.length ∧ a.length ≤ 120 ∧ ∀ i (h : i < a.length), rise 0 ((i : Int) - 1) a[i] = true := by
  unfold arcsOk at h
  rw [Bool.and_eq_true, decide_eq_true_eq] at h
  exact ⟨h.1.1, h.1.2, fun i hi => by simpa using arcsFrom_at a 0 h.2 i hi⟩

theorem arcsOk_mem {a : List (List Int)} (h : arcsOk a = true) (i : Nat) (hi : i < a.length) : ∀ k ∈ a[i], 0 ≤ k ∧ k < (i : Int) := by
  obtain ⟨_, _, h3⟩ := arcsOk_parts h
  intro k hk
  have := rise_mem (h3 i hi) hk
  omega

theorem incr_drop_len : ∀ (xs : List Int) (lo hi : Int), xs.all (inB lo hi) = true → incr xs = true → (xs.length : Int) ≤ max 0 (hi - lo + 1)
  | [], _, _, _, _ => by simp; omega
  | [a], lo, hi, h, _ => by
    simp only [List.all_cons, List.all_nil, Bool.and_true] at h
    have := of_decide_eq_true h
    simp; omega
  | a :: b :: t, lo, hi, h, hc => by
    rw [incr_cons, Bool.and_eq_true] at hc
    rw [List.all_cons, Bool.and_eq_true] at h
    have h1 := of_decide_eq_true hc.1
    have h2 := of_decide_eq_true h.1
    have hb : ∀ (ys : List Int) (c : Int), incr (c :: ys) = true → ∀ y ∈ ys, c < y := by
      intro ys
      induction ys with
      | nil => intro c _ y hy; cases hy
      | cons z zs ih =>
        intro c hc y hy
        rw [incr_cons, Bool.and_eq_true] at hc
        have hz := of_decide_eq_true hc.1
        rcases List.mem_cons.1 hy with rfl | hy
        · exact hz
        · have := ih z hc.2 y hy; omega
    have h3 : (b :: t).all (inB (lo + 1) hi) = true := by
      rw [List.all_eq_true] at h ⊢
      intro y hy
      have q := of_decide_eq_true (h.2 y hy)
      have : a < y := by
        rcases List.mem_cons.1 hy with rfl | hy
        · exact h1
        · have := hb t b hc.2 y hy; omega
      exact decide_eq_true (by omega)
    have := incr_drop_len (b :: t) (lo + 1) hi h3 hc.2
    rw [List.length_cons]
    have h4 := of_decide_eq_true ((List.all_eq_true.1 h3) b (by simp))
    omega

theorem rise_len {lo hi : Int} {xs : List Int} (h : rise lo hi xs = true) : (xs.length : Int) ≤ max 0 (hi - lo + 1) := by
  unfold rise at h
  rw [Bool.and_eq_true] at h
  exact incr_drop_len xs lo hi h.1 h.2

theorem AreArcs_ev (a : List (List Int)) (hi : ∀ z ∈ a, z.length < 9223372036854775807) : Ev (fun k => impl_AreArcs.f k a) (arcsOk a) := by
  unfold impl_AreArcs.f arcsOk
  have J : ∀ b : Bool, b = true → ∀ r, r = false → Ev (fun k => impl_AreArcs.j0 k a b) r := by
    rintro b rfl r rfl
    exact Ev.step (fun k => by rw [impl_AreArcs.j0]) (Ev.pos rfl (Ev.now _))
  refine Ev.cases (fun h => J _ rfl _ (by rw [decide_eq_false (show ¬ (1 ≤ a.length ∧ a.length ≤ 120) by omega)]; rfl)) (fun h1 => ?_)
  by_cases h2 : (a.length : Int) > 120
  · exact J _ (decide_eq_true h2) _ (by rw [decide_eq_false (show ¬ (1 ≤ a.length ∧ a.length ≤ 120) by omega)]; rfl)
  · rw [decide_eq_false h2, decide_eq_true (show 1 ≤ a.length ∧ a.length ≤ 120 by omega), Bool.true_and]
    refine Ev.step (fun k => by rw [impl_AreArcs.j0]) (Ev.neg (by simp) ?_)
    have key : ∀ (d i : Nat), i + d = a.length → Ev (fun k => impl_AreArcs.l0 k a (a.length : Int) (i : Int)) (arcsFrom i (a.drop i)) := by
      intro d
      induction d with
      | zero =>
        intro i hd
        refine Ev.step (fun k => by rw [impl_AreArcs.l0]) ?_
        refine Ev.neg (by omega) (Ev.cast ?_ (Ev.now _))
        rw [dr0 _ _ (by omega), arcsFrom]
      | succ d ih =>
        intro i hd
        refine Ev.step (fun k => by rw [impl_AreArcs.l0]) ?_
        refine Ev.pos (by omega) (Ev.pos (nn _) (Ev.pos (by omega) ?_))
        rw [rdL1_get a i (by omega), dr a i (by omega), arcsFrom]
        refine Ev.bind (areBlocks_ev a[i] (i : Int) (hi _ (List.getElem_mem _))) (Ev.cases (fun h => ?_) (fun h => Ev.cast (by rw [bf h]; rfl) (Ev.now _)))
        rw [h, Bool.true_and, wr_nat i a.length (by omega) (by omega)]
        exact ih (i + 1) (by omega)
    exact key a.length 0 (by omega)

theorem clArcs_ev (a : List (List Int)) (ha : a.length < 9223372036854775807) (hi : ∀ z ∈ a, z.length < 9223372036854775807) : Ev (fun k => spec_clArcs.f k a) (arcsOk a) := by
  unfold spec_clArcs.f arcsOk
  have key : ∀ (d i : Nat), i + d = a.length → Ev (fun k => spec_clArcs.l0 k a a (a.length : Int) (i : Int)) (decide (1 ≤ a.length ∧ a.length ≤ 120) && arcsFrom i (a.drop i)) := by
    intro d
    induction d with
    | zero =>
      intro i hd
      refine Ev.step (fun k => by rw [spec_clArcs.l0]) ?_
      refine Ev.neg (by omega) ?_
      rw [dr0 _ _ (by omega), arcsFrom, l1In_eq, Bool.and_true]
      exact Ev.sbind (Ev.cast (decide_eq_decide.2 (by omega)) (Ev.now _))
    | succ d ih =>
      intro i hd
      refine Ev.step (fun k => by rw [spec_clArcs.l0]) ?_
      refine Ev.pos (by omega) (Ev.pos (nn _) (Ev.pos (by omega) ?_))
      rw [rdL1_get a i (by omega), dr a i (by omega), arcsFrom, wr ((i : Int) - 1) (by omega) (by omega)]
      refine Ev.bind (l1Rising_ev a[i] 0 ((i : Int) - 1) (hi _ (List.getElem_mem _))) (Ev.cases (fun h => ?_) (fun h => Ev.cast (by rw [bf h]; simp) (Ev.now _)))
      rw [h, Bool.true_and, wr_nat i a.length (by omega) ha]
      exact ih (i + 1) (by omega)
  exact key a.length 0 (by omega)

theorem clMarks_l (n : Nat) (l : List Int) (hl : l.length < 9223372036854775807) (hb : ∀ x ∈ l, 0 ≤ x ∧ x < n) : ∀ (d i : Nat), i + d = l.length → Ev (fun k => spec_clMarks.l0 k (marks n (l.take i)) l (l.length : Int) (i : Int)) (marks n l) := by
  intro d
  induction d with
  | zero =>
    intro i hi
    refine Ev.step (fun k => by rw [spec_clMarks.l0]) ?_
    exact Ev.neg (by omega) (Ev.cast (by rw [List.take_of_length_le (by omega)]) (Ev.now _))
  | succ d ih =>
    intro i hi
    refine Ev.step (fun k => by rw [spec_clMarks.l0]) ?_
    have b := hb l[i] (List.getElem_mem _)
    rw [rd_get l i (by omega), marks_len]
    refine Ev.pos (by omega) (Ev.pos (nn _) (Ev.pos (by omega) (Ev.pos b.1 (Ev.pos b.2 ?_))))
    rw [marks_set _ _ _ b.1, ← List.take_succ_eq_append_getElem (by omega), wr_nat i l.length (by omega) hl]
    exact ih (i + 1) (by omega)

theorem clMarks_ev (n : Nat) (l : List Int) (hn : n ≤ 1000000) (hl : l.length < 9223372036854775807) (hb : ∀ x ∈ l, 0 ≤ x ∧ x < n) : Ev (fun k => spec_clMarks.f k (n : Int) l) (marks n l) := by
  unfold spec_clMarks.f
  refine Ev.pos (nn _) (Ev.pos (by omega) ?_)
  rw [Int.toNat_natCast, ← marks_nil]
  exact clMarks_l n l hl hb l.length 0 (by omega)

def isClo (a : List (List Int)) (l : List Int) : Bool := l.all fun i => (a.getD i.toNat []).all fun k => decide (k ∈ l)

def pitOk (a : List (List Int)) (l : List Int) : Bool := rise 0 ((a.length : Int) - 1) l && isClo a l

theorem rise_in {n : Nat} {l : List Int} (h : rise 0 ((n : Int) - 1) l = true) : ∀ x ∈ l, 0 ≤ x ∧ x < (n : Int) := by
  intro x hx
  have := rise_mem h hx
  omega

theorem rdL1_at {a : List (List Int)} {x : Int} (h0 : 0 ≤ x) : rd_L1 a x = a.getD x.toNat [] := rfl

theorem arc_at {a : List (List Int)} (h : arcsOk a = true) {x : Int} (h0 : 0 ≤ x) (h1 : x < (a.length : Int)) : (∀ k ∈ a.getD x.toNat [], 0 ≤ k ∧ k < x ∧ k < (a.length : Int)) ∧ (a.getD x.toNat []).length ≤ 120 := by
  have hlt : x.toNat < a.length := by omega
  rw [gD a [] _ hlt]
  refine ⟨fun k hk => ?_, ?_⟩
  · have := arcsOk_mem h x.toNat hlt k hk; omega
  · obtain ⟨_, h2, h3⟩ := arcsOk_parts h
    have := rise_len (h3 _ hlt)
    omega

theorem isClosure_ev (a : List (List Int)) (l : List Int) (ha : arcsOk a = true) (hl : rise 0 ((a.length : Int) - 1) l = true) : Ev (fun k => impl_isClosure.f k a l) (isClo a l) := by
  obtain ⟨a0, a1, _⟩ := arcsOk_parts ha
  have hb := rise_in hl
  have hlen := rise_len hl
  unfold impl_isClosure.f isClo
  refine Ev.bind (markOf_ev a.length l (by omega) (by omega) hb) ?_
  have key : ∀ (d i : Nat), i + d = l.length → Ev (fun k => impl_isClosure.l0 k a (marks a.length l) l (l.length : Int) (i : Int)) ((l.drop i).all fun i => (a.getD i.toNat []).all fun k => decide (k ∈ l)) := by
    intro d
    induction d with
    | zero =>
      intro i hd
      refine Ev.step (fun k => by rw [impl_isClosure.l0]) ?_
      refine Ev.neg (by omega) (Ev.cast ?_ (Ev.now _))
      rw [dr0 _ _ (by omega)]; rfl
    | succ d ih =>
      intro i hd
      refine Ev.step (fun k => by rw [impl_isClosure.l0]) ?_
      have b := hb l[i] (List.getElem_mem _)
      have c := arc_at ha b.1 b.2
      rw [rd_get l i (by omega), dr l i (by omega), List.all_cons, rdL1_at b.1]
      refine Ev.pos (by omega) (Ev.pos (nn _) (Ev.pos (by omega) (Ev.pos b.1 (Ev.pos b.2 ?_))))
      have cb : ∀ x ∈ a.getD l[i].toNat [], 0 ≤ x ∧ x < (a.length : Int) := fun x hx => ⟨(c.1 x hx).1, (c.1 x hx).2.2⟩
      refine Ev.bind (allIn_ev (marks a.length l) (a.getD l[i].toNat []) (by omega) (by rw [marks_len]; exact cb)) ?_
      rw [all_marks _ _ _ cb]
      refine Ev.cases (fun h => ?_) (fun h => Ev.cast (by rw [bf h]; rfl) (Ev.now _))
      rw [h, Bool.true_and, wr_nat i l.length (by omega) (by omega)]
      exact ih (i + 1) (by omega)
  exact key l.length 0 (by omega)

theorem clIs_l1 (a : List (List Int)) (l : List Int) (n : Int) (i : Int) (y : List Int) (hy : y.length ≤ 120) (hb : ∀ x ∈ y, 0 ≤ x ∧ x < (a.length : Int)) (r : Bool) : ∀ (d j : Nat), j + d = y.length →
    (((y.drop j).all fun k => decide (k ∈ l)) = true → Ev (fun k => spec_clIs.l0 k a (marks a.length l) l n (wrap64 (i + 1))) r) → (((y.drop j).all fun k => decide (k ∈ l)) = false → r = false) →
    Ev (fun k => spec_clIs.l1 k a (marks a.length l) l n i y (y.length : Int) (j : Int)) r := by
  intro d
  induction d with
  | zero =>
    intro j hd hk hr
    refine Ev.step (fun k => by rw [spec_clIs.l1]) ?_
    refine Ev.neg (by omega) (hk ?_)
    rw [dr0 _ _ (by omega)]; rfl
  | succ d ih =>
    intro j hd hk hr
    refine Ev.step (fun k => by rw [spec_clIs.l1]) ?_
    have b := hb y[j] (List.getElem_mem _)
    rw [rd_get y j (by omega), marks_len]
    refine Ev.pos (by omega) (Ev.pos (nn _) (Ev.pos (by omega) (Ev.pos b.1 (Ev.pos b.2 ?_))))
    rw [dr y j (by omega), List.all_cons] at hk hr
    have e : rdOf false (marks a.length l) y[j] = decide (y[j] ∈ l) := by
      unfold rdOf
      rw [marks_get _ _ _ (by omega), Int.toNat_of_nonneg b.1]
    rw [e]
    refine Ev.cases (fun h => ?_) (fun h => Ev.cast (hr (by rw [bf h]; rfl)).symm (Ev.now _))
    rw [h, Bool.true_and] at hk hr
    rw [wr_nat j y.length (by omega) (by omega)]
    exact ih (j + 1) (by omega) hk hr

theorem clIs_ev (a : List (List Int)) (l : List Int) (ha : arcsOk a = true) (hl : rise 0 ((a.length : Int) - 1) l = true) : Ev (fun k => spec_clIs.f k a l) (isClo a l) := by
  obtain ⟨a0, a1, _⟩ := arcsOk_parts ha
  have hb := rise_in hl
  have hlen := rise_len hl
  unfold spec_clIs.f isClo
  refine Ev.bind (clMarks_ev a.length l (by omega) (by omega) hb) ?_
  have key : ∀ (d i : Nat), i + d = l.length → Ev (fun k => spec_clIs.l0 k a (marks a.length l) l (l.length : Int) (i : Int)) ((l.drop i).all fun i => (a.getD i.toNat []).all fun k => decide (k ∈ l)) := by
    intro d
    induction d with
    | zero =>
      intro i hd
      refine Ev.step (fun k => by rw [spec_clIs.l0]) ?_
      refine Ev.neg (by omega) (Ev.cast ?_ (Ev.now _))
      rw [dr0 _ _ (by omega)]; rfl
    | succ d ih =>
      intro i hd
      refine Ev.step (fun k => by rw [spec_clIs.l0]) ?_
      have b := hb l[i] (List.getElem_mem _)
      have c := arc_at ha b.1 b.2
      rw [rd_get l i (by omega), dr l i (by omega), List.all_cons, rdL1_at b.1]
      refine Ev.pos (by omega) (Ev.pos (nn _) (Ev.pos (by omega) (Ev.pos b.1 (Ev.pos b.2 ?_))))
      refine clIs_l1 a l _ _ _ c.2 (fun x hx => ⟨(c.1 x hx).1, (c.1 x hx).2.2⟩) _ _ 0 (Nat.zero_add _) (fun h => ?_) (fun h => ?_)
      · rw [List.drop_zero] at h
        rw [h, Bool.true_and, wr_nat i l.length (by omega) (by omega)]
        exact ih (i + 1) (by omega)
      · rw [List.drop_zero] at h
        rw [h, Bool.false_and]
  exact key l.length 0 (by omega)

theorem clBlocks_ev (a : List (List Int)) (l : List Int) (ha : a.length < 9223372036854775807) (hi : ∀ z ∈ a, z.length < 9223372036854775807) (hl : l.length < 9223372036854775807) : Ev (fun k => spec_clBlocks.f k a l) (arcsOk a && rise 0 ((a.length : Int) - 1) l) := by
  unfold spec_clBlocks.f
  refine Ev.bind (clArcs_ev a ha hi) (Ev.cases (fun h => ?_) (fun h => Ev.cast (by rw [bf h]; rfl) (Ev.now _)))
  rw [wr _ (by omega) (by omega), h, Bool.true_and]
  exact Ev.bind (l1Rising_ev l 0 _ hl) (Ev.now _)

theorem clGood_ev (a : List (List Int)) (l : List Int) (ha : a.length < 9223372036854775807) (hi : ∀ z ∈ a, z.length < 9223372036854775807) (hl : l.length < 9223372036854775807) : Ev (fun k => spec_clGood.f k a l) (arcsOk a && pitOk a l) := by
  unfold spec_clGood.f pitOk
  refine Ev.bind (clBlocks_ev a l ha hi hl) (Ev.cases (fun h => ?_) (fun h => Ev.cast (by rw [← Bool.and_assoc, bf h]; rfl) (Ev.now _)))
  rw [← Bool.and_assoc, h, Bool.true_and]
  rw [Bool.and_eq_true] at h
  exact Ev.bind (clIs_ev a l h.1 h.2) (Ev.now _)

theorem arePits_l (a : List (List Int)) (ps : List (List Int)) (ha : arcsOk a = true) (hp : ps.length < 9223372036854775807) (hi : ∀ z ∈ ps, z.length < 9223372036854775807) : ∀ (d i : Nat), i + d = ps.length → Ev (fun k => impl_arePits.l0 k a ps (ps.length : Int) (i : Int)) ((ps.drop i).all (pitOk a)) := by
  intro d
  induction d with
  | zero =>
    intro i hd
    refine Ev.step (fun k => by rw [impl_arePits.l0]) ?_
    refine Ev.neg (by omega) (Ev.cast ?_ (Ev.now _))
    rw [dr0 _ _ (by omega)]; rfl
  | succ d ih =>
    intro i hd
    refine Ev.step (fun k => by rw [impl_arePits.l0]) ?_
    refine Ev.pos (by omega) (Ev.pos (nn _) (Ev.pos (by omega) ?_))
    rw [rdL1_get ps i (by omega), dr ps i (by omega), List.all_cons, pitOk]
    refine Ev.bind (areBlocks_ev ps[i] _ (hi _ (List.getElem_mem _))) (Ev.cases (fun h => ?_) (fun h => Ev.cast (by rw [bf h]; rfl) (Ev.now _)))
    refine Ev.bind (isClosure_ev a ps[i] ha h) (Ev.cases (fun h2 => ?_) (fun h2 => Ev.cast (by rw [bf h2]; simp) (Ev.now _)))
    rw [h, h2, Bool.true_and, Bool.true_and, wr_nat i ps.length (by omega) hp]
    exact ih (i + 1) (by omega)

theorem arePits_ev (a : List (List Int)) (ps : List (List Int)) (hia : ∀ z ∈ a, z.length < 9223372036854775807) (hp : ps.length < 9223372036854775807) (hi : ∀ z ∈ ps, z.length < 9223372036854775807) : Ev (fun k => impl_arePits.f k a ps) (arcsOk a && ps.all (pitOk a)) := by
  unfold impl_arePits.f
  refine Ev.bind (AreArcs_ev a hia) (Ev.cases (fun h => ?_) (fun h => Ev.cast (by rw [bf h]; rfl) (Ev.now _)))
  rw [h, Bool.true_and]
  exact arePits_l a ps h hp hi ps.length 0 (by omega)

def phFrom (a : List (List Int)) : List Int → List (List Int) → Bool
  | _, [] => true
  | b, p :: ps => pitOk a p && (decide (b.length < p.length) && (subL b p && phFrom a p ps))

def phOk (a : List (List Int)) (ps : List (List Int)) : Bool := decide (1 ≤ ps.length ∧ ps.length ≤ 8) && phFrom a [] ps

theorem phIn_ev (x y : List Int) (hx : x.length < 9223372036854775807) (hy : y.length < 9223372036854775807) : Ev (fun k => spec_phIn.f k x y) (subL x y) := by
  unfold spec_phIn.f subL
  have key : ∀ (d i : Nat), i + d = x.length → Ev (fun k => spec_phIn.l0 k y x (x.length : Int) (i : Int)) ((x.drop i).all fun i => decide (i ∈ y)) := by
    intro d
    induction d with
    | zero =>
      intro i hd
      refine Ev.step (fun k => by rw [spec_phIn.l0]) ?_
      refine Ev.neg (by omega) (Ev.cast ?_ (Ev.now _))
      rw [dr0 _ _ (by omega)]; rfl
    | succ d ih =>
      intro i hd
      refine Ev.step (fun k => by rw [spec_phIn.l0]) ?_
      refine Ev.pos (by omega) (Ev.pos (nn _) (Ev.pos (by omega) ?_))
      rw [rd_get x i (by omega), dr x i (by omega), List.all_cons]
      refine Ev.bind (l1Has_ev y x[i] hy) (Ev.cases (fun h => ?_) (fun h => Ev.cast (by rw [bf h]; rfl) (Ev.now _)))
      rw [h, Bool.true_and, wr_nat i x.length (by omega) hx]
      exact ih (i + 1) (by omega)
  exact key x.length 0 (by omega)

def prevL (ps : List (List Int)) (i : Nat) : List Int := if i = 0 then [] else ps.getD (i - 1) []

theorem prevL_succ (ps : List (List Int)) (i : Nat) (h : i < ps.length) : prevL ps (i + 1) = ps[i] := by
  unfold prevL
  rw [if_neg (by omega), Nat.add_sub_cancel, gD ps [] i h]

theorem phPits_ev (a : List (List Int)) (ps : List (List Int)) (ha : a.length < 9223372036854775807) (hia : ∀ z ∈ a, z.length < 9223372036854775807) (hok : arcsOk a = true) (hp : ps.length < 9223372036854775807) (hi : ∀ z ∈ ps, z.length < 9223372036854775807) : Ev (fun k => spec_phPits.f k a ps) (phOk a ps) := by
  unfold spec_phPits.f phOk
  have key : ∀ (d i : Nat), i + d = ps.length → Ev (fun k => spec_phPits.l0 k a ps ps (ps.length : Int) (i : Int)) (decide (1 ≤ ps.length ∧ ps.length ≤ 8) && phFrom a (prevL ps i) (ps.drop i)) := by
    intro d
    induction d with
    | zero =>
      intro i hd
      refine Ev.step (fun k => by rw [spec_phPits.l0]) ?_
      refine Ev.neg (by omega) ?_
      rw [dr0 _ _ (by omega), phFrom, l1In_eq, Bool.and_true]
      exact Ev.sbind (Ev.cast (decide_eq_decide.2 (by omega)) (Ev.now _))
    | succ d ih =>
      intro i hd
      refine Ev.step (fun k => by rw [spec_phPits.l0]) ?_
      refine Ev.pos (by omega) (Ev.pos (nn _) (Ev.pos (by omega) ?_))
      have hlen := hi _ (List.getElem_mem (show i < ps.length by omega))
      rw [rdL1_get ps i (by omega), dr ps i (by omega), phFrom]
      refine Ev.bind (clGood_ev a ps[i] ha hia hlen) ?_
      rw [hok, Bool.true_and]
      refine Ev.cases (fun h => ?_) (fun h => Ev.cast (by rw [bf h]; simp) (Ev.now _))
      rw [h, Bool.true_and]
      refine Ev.cases (fun h1 => Ev.cast (by rw [decide_eq_false (show ¬ (prevL ps i).length < ps[i].length by omega)]; simp) (Ev.now _)) (fun h1 => ?_)
      refine Ev.cases (fun h2 => ?_) (fun h2 => ?_)
      · have e : wrap64 ((i : Int) - 1) = ((i - 1 : Nat) : Int) := by rw [wr _ (by omega) (by omega)]; omega
        rw [e]
        refine Ev.pos (nn _) (Ev.pos (by omega) ?_)
        have ep : prevL ps i = ps[i - 1] := by unfold prevL; rw [if_neg (by omega), gD ps [] _ (by omega)]
        have hlen2 := hi _ (List.getElem_mem (show i - 1 < ps.length by omega))
        rw [rdL1_get ps (i - 1) (by omega), ep]
        refine Ev.cases (fun h3 => Ev.cast (by rw [decide_eq_false (show ¬ ps[i - 1].length < ps[i].length by omega)]; simp) (Ev.now _)) (fun h3 => ?_)
        rw [decide_eq_true (show ps[i - 1].length < ps[i].length by omega), Bool.true_and]
        refine Ev.bind (phIn_ev ps[i - 1] ps[i] hlen2 hlen) (Ev.cases (fun h4 => ?_) (fun h4 => Ev.cast (by rw [bf h4]; simp) (Ev.now _)))
        rw [h4, Bool.true_and, wr_nat i ps.length (by omega) hp]
        refine Ev.cast ?_ (ih (i + 1) (by omega))
        rw [prevL_succ ps i (by omega)]
      · obtain rfl : i = 0 := by omega
        rw [wr_nat 0 ps.length (by omega) hp]
        refine Ev.cast ?_ (ih 1 (by omega))
        rw [show prevL ps 1 = ps[0] from prevL_succ ps 0 (by omega), show prevL ps 0 = [] from rfl, decide_eq_true (show ([] : List Int).length < ps[0].length by simp; omega)]
        rfl
  exact key ps.length 0 (by omega)

theorem arePhases_ev (a : List (List Int)) (ps : List (List Int)) (hia : ∀ z ∈ a, z.length < 9223372036854775807) (hok : arcsOk a = true) (hi : ∀ z ∈ ps, z.length < 9223372036854775807) : Ev (fun k => impl_arePhases.f k a ps) (phOk a ps) := by
  obtain ⟨a0, a1, _⟩ := arcsOk_parts hok
  unfold impl_arePhases.f phOk
  have J : ∀ b : Bool, b = true → ∀ r, r = false → Ev (fun k => impl_arePhases.j0 k a ps b) r := by
    rintro b rfl r rfl
    exact Ev.step (fun k => by rw [impl_arePhases.j0]) (Ev.pos rfl (Ev.now _))
  refine Ev.cases (fun h => J _ rfl _ (by rw [decide_eq_false (show ¬ (1 ≤ ps.length ∧ ps.length ≤ 8) by omega)]; rfl)) (fun h1 => ?_)
  by_cases h2 : (ps.length : Int) > 8
  · exact J _ (decide_eq_true h2) _ (by rw [decide_eq_false (show ¬ (1 ≤ ps.length ∧ ps.length ≤ 8) by omega)]; rfl)
  · rw [decide_eq_false h2, decide_eq_true (show 1 ≤ ps.length ∧ ps.length ≤ 8 by omega), Bool.true_and]
    refine Ev.step (fun k => by rw [impl_arePhases.j0]) (Ev.neg (by simp) ?_)
    have key : ∀ (d i : Nat) (b : List Int), i + d = ps.length → (∀ x ∈ b, 0 ≤ x ∧ x < (a.length : Int)) → b.length < 9223372036854775807 → Ev (fun k => impl_arePhases.l0 k a b ps (ps.length : Int) (i : Int)) (phFrom a b (ps.drop i)) := by
      intro d
      induction d with
      | zero =>
        intro i b hd _ _
        refine Ev.step (fun k => by rw [impl_arePhases.l0]) ?_
        refine Ev.neg (by omega) (Ev.cast ?_ (Ev.now _))
        rw [dr0 _ _ (by omega), phFrom]
      | succ d ih =>
        intro i b hd hb hbl
        refine Ev.step (fun k => by rw [impl_arePhases.l0]) ?_
        refine Ev.pos (by omega) (Ev.pos (nn _) (Ev.pos (by omega) ?_))
        have hlen := hi _ (List.getElem_mem (show i < ps.length by omega))
        rw [rdL1_get ps i (by omega), dr ps i (by omega), phFrom]
        refine Ev.bind (arePits_ev a [ps[i]] hia (by simp) (by simpa using hlen)) ?_
        rw [hok, Bool.true_and, List.all_cons, List.all_nil, Bool.and_true]
        refine Ev.cases (fun h => ?_) (fun h => Ev.cast (by rw [bf h]; simp) (Ev.now _))
        rw [h, Bool.true_and]
        refine Ev.cases (fun h1 => Ev.cast (by rw [decide_eq_false (show ¬ b.length < ps[i].length by omega)]; simp) (Ev.now _)) (fun h1 => ?_)
        rw [decide_eq_true (show b.length < ps[i].length by omega), Bool.true_and]
        unfold pitOk at h
        rw [Bool.and_eq_true] at h
        have hin := rise_in h.1
        refine Ev.bind (markOf_ev a.length ps[i] (by omega) hlen hin) ?_
        refine Ev.bind (allIn_ev _ b hbl (by rw [marks_len]; exact hb)) ?_
        rw [all_marks _ _ _ hb]
        refine Ev.cases (fun h4 => ?_) (fun h4 => Ev.cast (by rw [subL, bf h4]; simp) (Ev.now _))
        rw [subL, h4, Bool.true_and, wr_nat i ps.length (by omega) (by omega)]
        exact ih (i + 1) ps[i] (by omega) hin hlen
    exact key ps.length 0 [] (by omega) (by simp) (by simp)

theorem phFrom_mem (a : List (List Int)) : ∀ (ps : List (List Int)) (b : List Int), phFrom a b ps = true → ∀ p ∈ ps, pitOk a p = true
  | [], _, _, p, hp => by cases hp
  | q :: qs, b, h, p, hp => by
    rw [phFrom] at h
    simp only [Bool.and_eq_true] at h
    rcases List.mem_cons.1 hp with rfl | hp
    · exact h.1
    · exact phFrom_mem a qs q h.2.2.2 p hp

theorem phOk_mem {a ps : List (List Int)} (h : phOk a ps = true) : ∀ p ∈ ps, pitOk a p = true := by
  unfold phOk at h
  rw [Bool.and_eq_true] at h
  exact phFrom_mem a ps [] h.2

theorem phBoth_ev (a ps : List (List Int)) (ha : a.length < 9223372036854775807) (hia : ∀ z ∈ a, z.length < 9223372036854775807) (hp : ps.length < 9223372036854775807) (hi : ∀ z ∈ ps, z.length < 9223372036854775807) : Ev (fun k => spec_phBoth.f k a ps) (arcsOk a && phOk a ps) := by
  unfold spec_phBoth.f
  refine Ev.bind (clArcs_ev a ha hia) (Ev.cases (fun h => ?_) (fun h => Ev.cast (by rw [bf h]; rfl) (Ev.now _)))
  rw [h, Bool.true_and]
  exact Ev.bind (phPits_ev a ps ha hia h hp hi) (Ev.now _)

theorem mulb (a b A B : Int) (h0 : 0 ≤ a) (h1 : a ≤ A) (h2 : 0 ≤ b) (h3 : b ≤ B) : 0 ≤ a * b ∧ a * b ≤ A * B :=
  ⟨Int.mul_nonneg h0 h2, Int.mul_le_mul h1 h3 h2 (by omega)⟩

def gridOk (x y z : Int) : Bool := decide ((1 ≤ x ∧ x ≤ 8) ∧ (1 ≤ y ∧ y ≤ 6) ∧ (1 ≤ z ∧ z ≤ 5) ∧ x * y * z ≤ 120)

theorem cells_wr (x y z : Int) (hx : 1 ≤ x ∧ x ≤ 8) (hy : 1 ≤ y ∧ y ≤ 6) (hz : 1 ≤ z ∧ z ≤ 5) : wrap64 (wrap64 (x * y) * z) = x * y * z ∧ 0 ≤ x * y ∧ x * y ≤ 48 ∧ 0 ≤ x * y * z ∧ x * y * z ≤ 240 := by
  have a := mulb x y 8 6 (by omega) hx.2 (by omega) hy.2
  have b := mulb (x * y) z 48 5 a.1 (by omega) (by omega) hz.2
  refine ⟨?_, a.1, by omega, b.1, by omega⟩
  rw [wr (x * y) (by omega) (by omega), wr _ (by omega) (by omega)]

theorem IsGrid_eq (x y z : Int) : impl_IsGrid.f x y z = some (gridOk x y z) := by
  unfold impl_IsGrid.f gridOk
  by_cases h : (1 ≤ x ∧ x ≤ 8) ∧ (1 ≤ y ∧ y ≤ 6) ∧ (1 ≤ z ∧ z ≤ 5)
  · have c := cells_wr x y z h.1 h.2.1 h.2.2
    rw [if_pos h.1.1, if_pos h.1.2, if_pos h.2.1.1, if_pos h.2.1.2, if_pos h.2.2.1, if_pos h.2.2.2, c.1]
    congr 1
    exact decide_eq_decide.2 ⟨fun q => ⟨h.1, h.2.1, h.2.2, q⟩, fun q => q.2.2.2⟩
  · have q : ¬ ((1 ≤ x ∧ x ≤ 8) ∧ (1 ≤ y ∧ y ≤ 6) ∧ (1 ≤ z ∧ z ≤ 5) ∧ x * y * z ≤ 120) := fun e => h ⟨e.1, e.2.1, e.2.2.1⟩
    rw [decide_eq_false q]
    by_cases h1 : x ≥ 1
    · rw [if_pos h1]
      by_cases h2 : x ≤ 8
      · rw [if_pos h2]
        by_cases h3 : y ≥ 1
        · rw [if_pos h3]
          by_cases h4 : y ≤ 6
          · rw [if_pos h4]
            by_cases h5 : z ≥ 1
            · rw [if_pos h5]
              by_cases h6 : z ≤ 5
              · exact absurd ⟨⟨h1, h2⟩, ⟨h3, h4⟩, ⟨h5, h6⟩⟩ h
              · rw [if_neg h6]
            · rw [if_neg h5]
          · rw [if_neg h4]
        · rw [if_neg h3]
      · rw [if_neg h2]
    · rw [if_neg h1]

theorem grGood_eq (x y z : Int) : spec_grGood.f x y z = some (gridOk x y z) := by
  unfold spec_grGood.f gridOk
  rw [l1In_eq, l1In_eq, l1In_eq]
  simp only [Option.bind_some, decide_eq_true_eq]
  by_cases h1 : 1 ≤ x ∧ x ≤ 8
  · by_cases h2 : 1 ≤ y ∧ y ≤ 6
    · by_cases h3 : 1 ≤ z ∧ z ≤ 5
      · have c := cells_wr x y z h1 h2 h3
        rw [if_pos h1, if_pos h2, if_pos h3, c.1]
        congr 1
        exact decide_eq_decide.2 ⟨fun q => ⟨h1, h2, h3, q⟩, fun q => q.2.2.2⟩
      · rw [if_pos h1, if_pos h2, if_neg h3, decide_eq_false (fun e => h3 e.2.2.1)]
    · rw [if_pos h1, if_neg h2, decide_eq_false (fun e => h2 e.2.1)]
  · rw [if_neg h1, decide_eq_false (fun e => h1 e.1)]

structure GridIn (X Y Z : Nat) : Prop where
  x : 1 ≤ X ∧ X ≤ 8
  y : 1 ≤ Y ∧ Y ≤ 6
  z : 1 ≤ Z ∧ Z ≤ 5
  n : X * Y * Z ≤ 120

theorem grid_nat {x y z : Int} (h : gridOk x y z = true) : ∃ X Y Z : Nat, x = (X : Int) ∧ y = (Y : Int) ∧ z = (Z : Int) ∧ GridIn X Y Z := by
  have h := of_decide_eq_true h
  obtain ⟨X, rfl⟩ := Int.eq_ofNat_of_zero_le (show 0 ≤ x by omega)
  obtain ⟨Y, rfl⟩ := Int.eq_ofNat_of_zero_le (show 0 ≤ y by omega)
  obtain ⟨Z, rfl⟩ := Int.eq_ofNat_of_zero_le (show 0 ≤ z by omega)
  refine ⟨X, Y, Z, rfl, rfl, rfl, ⟨by omega, by omega, by omega, ?_⟩⟩
  have := h.2.2.2
  rw [← Int.natCast_mul, ← Int.natCast_mul] at this
  omega

theorem grCount_eq {X Y Z : Nat} (g : GridIn X Y Z) : spec_grCount.f (X : Int) (Y : Int) (Z : Int) = some ((X * Y * Z : Nat) : Int) := by
  unfold spec_grCount.f
  have c := cells_wr X Y Z (by have := g.x; omega) (by have := g.y; omega) (by have := g.z; omega)
  rw [c.1]
  simp

theorem blocksOf_eq {X Y Z : Nat} (g : GridIn X Y Z) : impl_blocksOf.f (X : Int) (Y : Int) (Z : Int) = some ((X * Y * Z : Nat) : Int) := by
  unfold impl_blocksOf.f
  have c := cells_wr X Y Z (by have := g.x; omega) (by have := g.y; omega) (by have := g.z; omega)
  rw [c.1]
  simp

def marksSS : List (List Int) → Int → List (List Int)
  | [], _ => []
  | x :: xs, a => markedI x.length a :: marksSS xs (a + (x.length : Int))

theorem marksSS_len (xs : List (List Int)) (a : Int) : (marksSS xs a).length = xs.length := by
  induction xs generalizing a with
  | nil => rfl
  | cons x xs ih => rw [marksSS, List.length_cons, ih, List.length_cons]

theorem marksSS_snoc (xs : List (List Int)) (x : List Int) (a : Int) : marksSS (xs ++ [x]) a = marksSS xs a ++ [markedI x.length (a + (totL xs : Int))] := by
  induction xs generalizing a with
  | nil => simp [marksSS, totL]
  | cons y ys ih =>
    rw [List.cons_append, marksSS, ih, marksSS, List.cons_append]
    have : a + (y.length : Int) + (totL ys : Int) = a + (totL (y :: ys) : Int) := by simp [totL]; omega
    rw [this]

theorem totL_snoc (xs : List (List Int)) (x : List Int) : totL (xs ++ [x]) = totL xs + x.length := by simp [totL]

theorem heldIntSS_l (l : List (List Int)) (a : Int) (ha : 0 ≤ a) (hb : a + (totL l : Int) < 1000000000000) (hl : l.length < 9223372036854775807) : ∀ (suf pre : List (List Int)), pre ++ suf = l →
    Ev (fun k => laws_heldIntSS.l0 k (marksSS l a) (a + (totL pre : Int)) (pre.length : Int)) (a + (totL l : Int)) := by
  have hlen := marksSS_len l a
  intro suf
  induction suf with
  | nil =>
    intro pre h
    rw [List.append_nil] at h
    subst h
    refine Ev.step (fun k => by rw [laws_heldIntSS.l0]) ?_
    exact Ev.neg (by omega) (Ev.now _)
  | cons x suf ih =>
    intro pre h
    have e := ih (pre ++ [x]) (by rw [← h]; simp)
    have h1 : l.length = pre.length + suf.length + 1 := by rw [← h]; simp; omega
    have h2 : totL l = totL pre + x.length + totL suf := by rw [← h]; simp [totL]; omega
    have hx : rd_L1 (marksSS l a) (pre.length : Int) = markedI x.length (a + (totL pre : Int)) := by
      have e2 : ∀ (ys zs : List (List Int)) (b : Int), (marksSS (ys ++ zs) b) = marksSS ys b ++ marksSS zs (b + (totL ys : Int)) := by
        intro ys
        induction ys with
        | nil => intro zs b; simp [marksSS, totL]
        | cons y ys ih =>
          intro zs b
          rw [List.cons_append, marksSS, ih, marksSS, List.cons_append]
          have : b + (y.length : Int) + (totL ys : Int) = b + (totL (y :: ys) : Int) := by simp [totL]; omega
          rw [this]
      unfold rd_L1
      rw [Int.toNat_natCast, ← h, e2, marksSS, ← marksSS_len pre a]
      simp
    refine Ev.step (fun k => by rw [laws_heldIntSS.l0]) ?_
    refine Ev.pos (by omega) (Ev.pos (nn _) ?_)
    rw [hx]
    refine Ev.bind (heldIntS_ev x.length (a + (totL pre : Int)) (by omega) (by omega)) (Ev.neg (by omega) ?_)
    rw [totL_snoc, List.length_append, List.length_singleton] at e
    rw [wr _ (by omega) (by omega)]
    have c1 : a + ((totL pre + x.length : Nat) : Int) = a + (totL pre : Int) + (x.length : Int) := by omega
    have c2 : ((pre.length + 1 : Nat) : Int) = (pre.length : Int) + 1 := by omega
    rw [c1, c2] at e
    exact e

theorem heldIntSS_ev (l : List (List Int)) (a : Int) (ha : 0 ≤ a) (hb : a + (totL l : Int) < 1000000000000) (hl : l.length < 9223372036854775807) : Ev (fun k => laws_heldIntSS.f k (marksSS l a) a) (a + (totL l : Int)) := by
  unfold laws_heldIntSS.f
  simpa [totL] using heldIntSS_l l a ha hb hl l [] rfl

theorem totL_two (l : List (List Int)) (n : Nat) (h : ∀ z ∈ l, z.length ≤ n) : totL l ≤ l.length * n := by
  induction l with
  | nil => simp [totL]
  | cons x l ih =>
    have h1 := h x (by simp)
    have h2 := ih (fun z hz => h z (by simp [hz]))
    have : totL (x :: l) = x.length + totL l := by simp [totL]
    rw [this, List.length_cons, Nat.succ_mul]; omega

def lessL (l b : List Int) : List Int := l.filter fun i => !decide (i ∈ b)

theorem phLess_ev (l b : List Int) (hl : l.length ≤ 1048576) (hb : b.length ≤ 1048576) : Ev (fun k => spec_phLess.f k l b) (lessL l b) := by
  unfold spec_phLess.f
  have key : ∀ (d i : Nat) (acc : List Int), i + d = l.length → acc.length ≤ i → Ev (fun k => spec_phLess.l0 k b acc l (l.length : Int) (i : Int)) (acc ++ lessL (l.drop i) b) := by
    intro d
    induction d with
    | zero =>
      intro i acc hd ha
      refine Ev.step (fun k => by rw [spec_phLess.l0]) ?_
      exact Ev.neg (by omega) (Ev.cast (by rw [dr0 _ _ (by omega)]; simp [lessL]) (Ev.now _))
    | succ d ih =>
      intro i acc hd ha
      refine Ev.step (fun k => by rw [spec_phLess.l0]) ?_
      refine Ev.pos (by omega) (Ev.pos (nn _) (Ev.pos (by omega) ?_))
      rw [rd_get l i (by omega), wr_nat i l.length (by omega) (by omega), dr l i (by omega)]
      refine Ev.bind (l1Has_ev b l[i] (by omega)) (Ev.cases (fun h => ?_) (fun h => Ev.pos (by omega) ?_))
      · have e : lessL (l[i] :: l.drop (i + 1)) b = lessL (l.drop (i + 1)) b := by
          unfold lessL; rw [List.filter_cons_of_neg (by simpa using h)]
        rw [e]; exact ih (i + 1) acc (by omega) (by omega)
      · have e : acc ++ lessL (l[i] :: l.drop (i + 1)) b = (acc ++ [l[i]]) ++ lessL (l.drop (i + 1)) b := by
          unfold lessL; rw [List.filter_cons_of_pos (by simpa using h)]; simp
        rw [e]; exact ih (i + 1) _ (by omega) (by simp; omega)
  simpa using key l.length 0 [] (by omega) (by simp)

theorem incr_pw : ∀ (xs : List Int), incr xs = true → xs.Pairwise (· < ·)
  | [], _ => List.Pairwise.nil
  | [a], _ => by simp
  | a :: b :: t, h => by
    rw [incr_cons, Bool.and_eq_true] at h
    have ih := incr_pw (b :: t) h.2
    have hab := of_decide_eq_true h.1
    refine List.Pairwise.cons (fun x hx => ?_) ih
    rcases List.mem_cons.1 hx with rfl | hx
    · exact hab
    · exact Int.lt_trans hab ((List.pairwise_cons.1 ih).1 x hx)

theorem phOk_small {a ps : List (List Int)} (ha : arcsOk a = true) (h : phOk a ps = true) : ps.length ≤ 8 ∧ ∀ z ∈ ps, z.length ≤ 120 := by
  obtain ⟨_, a1, _⟩ := arcsOk_parts ha
  have hm := phOk_mem h
  unfold phOk at h
  rw [Bool.and_eq_true] at h
  refine ⟨(of_decide_eq_true h.1).2, fun z hz => ?_⟩
  have q := hm z hz
  unfold pitOk at q
  rw [Bool.and_eq_true] at q
  have := rise_len q.1
  omega

structure ModelIn (x y z : Int) (t g o : List Int) : Prop where
  grid : gridOk x y z = true
  tl : (t.length : Int) = x * y * z
  gl : (g.length : Int) = x * y * z
  ol : (o.length : Int) = x * y * z
  tr : ∀ i (h : i < t.length), 0 ≤ t[i] ∧ t[i] ≤ 10000
  gr : ∀ i (h : i < g.length), 0 ≤ g[i] ∧ g[i] ≤ 1000

def modOk (x y z : Int) (t g o : List Int) : Bool := gridOk x y z && (decide ((t.length : Int) = x * y * z ∧ (g.length : Int) = x * y * z ∧ (o.length : Int) = x * y * z) && (t.all (inB 0 10000) && (g.all (inB 0 1000) && o.all (inB 0 4))))

theorem ModelIn.of {x y z : Int} {t g o : List Int} (h : modOk x y z t g o = true) : ModelIn x y z t g o := by
  unfold modOk at h
  simp only [Bool.and_eq_true, decide_eq_true_eq, List.all_eq_true] at h
  obtain ⟨h1, h2, h3, h4, h5⟩ := h
  exact ⟨h1, h2.1, h2.2.1, h2.2.2, fun i h => of_decide_eq_true (h3 _ (List.getElem_mem h)), fun i h => of_decide_eq_true (h4 _ (List.getElem_mem h))⟩
theorem ModelIn.n {x y z : Int} {t g o : List Int} (h : ModelIn x y z t g o) : t.length ≤ 120 ∧ g.length = t.length ∧ o.length = t.length := by
  have a := h.tl
  have b := h.gl
  have c := h.ol
  have d := (of_decide_eq_true h.grid).2.2.2
  omega

theorem grid_pos {x y z : Int} (h : gridOk x y z = true) : spec_grCount.f x y z = some (x * y * z) ∧ impl_blocksOf.f x y z = some (x * y * z) ∧ 0 ≤ x * y * z ∧ x * y * z ≤ 120 := by
  obtain ⟨X, Y, Z, rfl, rfl, rfl, g⟩ := grid_nat h
  have gn := g.n
  have e : ((X * Y * Z : Nat) : Int) = (X : Int) * (Y : Int) * (Z : Int) := by push_cast; rfl
  rw [grCount_eq g, blocksOf_eq g, ← e]
  exact ⟨rfl, rfl, by omega, by omega⟩

theorem moGood_ev (x y z : Int) (t g o : List Int) (ht : t.length ≤ 1048576) (hg : g.length ≤ 1048576) (ho : o.length ≤ 1048576) : Ev (fun k => spec_moGood.f k x y z t g o) (modOk x y z t g o) := by
  unfold spec_moGood.f modOk
  rw [grGood_eq]
  refine Ev.sbind (Ev.cases (fun h => ?_) (fun h => Ev.cast (by rw [bf h]; rfl) (Ev.now _)))
  obtain ⟨e, _, _, _⟩ := grid_pos h
  rw [e, h, Bool.true_and]
  refine Ev.sbind (Ev.cases (fun h1 => Ev.cases (fun h2 => Ev.cases (fun h3 => ?_) (fun h3 => ?_)) (fun h2 => ?_)) (fun h1 => ?_))
  · rw [decide_eq_true ⟨h1, h2, h3⟩, Bool.true_and]
    refine Ev.bind (l1All_ev 0 10000 t (by omega)) (Ev.cases (fun h => ?_) (fun h => Ev.cast (by rw [bf h]; rfl) (Ev.now _)))
    rw [h, Bool.true_and]
    refine Ev.bind (l1All_ev 0 1000 g (by omega)) (Ev.cases (fun h => ?_) (fun h => Ev.cast (by rw [bf h]; rfl) (Ev.now _)))
    rw [h, Bool.true_and]
    exact Ev.bind (l1All_ev 0 4 o (by omega)) (Ev.now _)
  · exact Ev.cast (by rw [decide_eq_false (fun q => h3 q.2.2)]; rfl) (Ev.now _)
  · exact Ev.cast (by rw [decide_eq_false (fun q => h2 q.2.1)]; rfl) (Ev.now _)
  · exact Ev.cast (by rw [decide_eq_false (fun q => h1 q.1)]; rfl) (Ev.now _)

def modAt (t g o : List Int) (i : Nat) : Bool := inB 0 10000 (t.getD i 0) && (inB 0 1000 (g.getD i 0) && inB 0 4 (o.getD i 0))

theorem all_three (t g o : List Int) (n : Nat) (ht : t.length = n) (hg : g.length = n) (ho : o.length = n) : (t.all (inB 0 10000) && (g.all (inB 0 1000) && o.all (inB 0 4))) = (List.range n).all (modAt t g o) := by
  apply Bool.eq_iff_iff.mpr
  simp only [Bool.and_eq_true, List.all_eq_true, List.mem_range, modAt]
  constructor
  · rintro ⟨h1, h2, h3⟩ i hi
    rw [gD t 0 i (by omega), gD g 0 i (by omega), gD o 0 i (by omega)]
    exact ⟨h1 _ (List.getElem_mem _), h2 _ (List.getElem_mem _), h3 _ (List.getElem_mem _)⟩
  · intro h
    refine ⟨fun x hx => ?_, fun x hx => ?_, fun x hx => ?_⟩
    · obtain ⟨i, hi, rfl⟩ := List.getElem_of_mem hx
      have := (h i (by omega)).1; rw [gD t 0 i (by omega)] at this; exact this
    · obtain ⟨i, hi, rfl⟩ := List.getElem_of_mem hx
      have := (h i (by omega)).2.1; rw [gD g 0 i (by omega)] at this; exact this
    · obtain ⟨i, hi, rfl⟩ := List.getElem_of_mem hx
      have := (h i (by omega)).2.2; rw [gD o 0 i (by omega)] at this; exact this

theorem range_split (p : Nat → Bool) (n i : Nat) (h : i < n) : ((List.range n).drop i).all p = (p i && ((List.range n).drop (i + 1)).all p) := by
  rw [dr (List.range n) i (by simpa using h), List.all_cons, List.getElem_range]

theorem inB_two (a b x : Int) (h1 : ¬ x < a) (h2 : ¬ x > b) : inB a b x = true := decide_eq_true ⟨by omega, by omega⟩

theorem IsModel_ev (x y z : Int) (t g o : List Int) (ht : t.length ≤ 1048576) : Ev (fun k => impl_IsModel.f k x y z t g o) (modOk x y z t g o) := by
  unfold impl_IsModel.f modOk
  rw [IsGrid_eq]
  have J : ∀ n : Int, ∀ b : Bool, b = true → ∀ r, r = false → Ev (fun k => impl_IsModel.j0 k n b x y z t g o) r := by
    rintro n b rfl r rfl
    exact Ev.step (fun k => by rw [impl_IsModel.j0]) (Ev.pos rfl (Ev.now _))
  refine Ev.sbind (Ev.cases (fun h => ?_) (fun h => Ev.cast (by rw [bf h]; rfl) (Ev.now _)))
  obtain ⟨_, e, p0, p1⟩ := grid_pos h
  rw [e, h, Bool.true_and]
  refine Ev.sbind (Ev.cases (fun h1 => Ev.cases (fun h2 => ?_) (fun h2 => ?_)) (fun h1 => ?_))
  · by_cases h3 : (o.length : Int) = x * y * z
    · have hb : ((o.length : Int) != x * y * z) = false := by simpa using h3
      rw [hb, decide_eq_true ⟨h1, h2, h3⟩, Bool.true_and, all_three t g o t.length rfl (by omega) (by omega)]
      refine Ev.step (fun k => by rw [impl_IsModel.j0]) (Ev.neg (by simp) ?_)
      rw [← h1]
      have key : ∀ (d i : Nat), i + d = t.length → Ev (fun k => impl_IsModel.l0 k (t.length : Int) (i : Int) x y z t g o) (((List.range t.length).drop i).all (modAt t g o)) := by
        intro d
        induction d with
        | zero =>
          intro i hd
          refine Ev.step (fun k => by rw [impl_IsModel.l0]) ?_
          exact Ev.neg (by omega) (Ev.cast (by rw [dr0 _ _ (by simp; omega)]; rfl) (Ev.now _))
        | succ d ih =>
          intro i hd
          refine Ev.step (fun k => by rw [impl_IsModel.l0]) ?_
          rw [range_split _ _ _ (by omega), modAt, ← rd_nat t i, ← rd_nat g i, ← rd_nat o i, wr_nat i t.length (by omega) (by omega)]
          have F : ∀ (v lo hi : Int), v < lo → inB lo hi v = false := fun v lo hi q => decide_eq_false (by omega)
          have G : ∀ (v lo hi : Int), v > hi → inB lo hi v = false := fun v lo hi q => decide_eq_false (by omega)
          refine Ev.pos (by omega) (Ev.pos (nn _) (Ev.pos (by omega) (Ev.cases (fun c => Ev.cast (by rw [F _ _ _ c]; rfl) (Ev.now _)) (fun c => Ev.cases (fun c2 => Ev.cast (by rw [G _ _ _ c2]; rfl) (Ev.now _)) (fun c2 => ?_)))))
          rw [inB_two _ _ _ c c2, Bool.true_and]
          refine Ev.pos (by omega) (Ev.cases (fun c => Ev.cast (by rw [F _ _ _ c]; rfl) (Ev.now _)) (fun c => Ev.cases (fun c2 => Ev.cast (by rw [G _ _ _ c2]; rfl) (Ev.now _)) (fun c2 => ?_)))
          rw [inB_two _ _ _ c c2, Bool.true_and]
          refine Ev.pos (by omega) (Ev.cases (fun c => Ev.cast (by rw [F _ _ _ c]; rfl) (Ev.now _)) (fun c => Ev.cases (fun c2 => Ev.cast (by rw [G _ _ _ c2]; rfl) (Ev.now _)) (fun c2 => ?_)))
          rw [inB_two _ _ _ c c2, Bool.true_and]
          exact ih (i + 1) (by omega)
      have := key t.length 0 (by omega)
      rwa [List.drop_zero] at this
    · have hb : ((o.length : Int) != x * y * z) = true := by simpa using h3
      rw [hb]
      exact J _ _ rfl _ (by rw [decide_eq_false (fun q => h3 q.2.2)]; rfl)
  · exact J _ _ rfl _ (by rw [decide_eq_false (fun q => h2 q.2.1)]; rfl)
  · exact J _ _ rfl _ (by rw [decide_eq_false (fun q => h1 q.1)]; rfl)

def tonS (t : List Int) (l : List Int) : Int := (l.map fun i => rd t i).sum

def metS (t g : List Int) (l : List Int) : Int := (l.map fun i => rd t i * rd g i).sum

theorem tm_range {x y z : Int} {t g o : List Int} (M : ModelIn x y z t g o) (i : Int) (h0 : 0 ≤ i) (h1 : i < (t.length : Int)) : 0 ≤ rd t i ∧ rd t i ≤ 10000 ∧ 0 ≤ rd t i * rd g i ∧ rd t i * rd g i ≤ 10000000 := by
  have hn := M.n
  have et : rd t i = t[i.toNat]'(by omega) := by unfold rd; rw [gD t 0 _ (by omega)]
  have eg : rd g i = g[i.toNat]'(by omega) := by unfold rd; rw [gD g 0 _ (by omega)]
  have bt := M.tr i.toNat (by omega)
  have bg := M.gr i.toNat (by omega)
  rw [et, eg]
  have q := mulb (t[i.toNat]'(by omega)) (g[i.toNat]'(by omega)) 10000 1000 bt.1 bt.2 bg.1 bg.2
  exact ⟨bt.1, bt.2, q.1, by omega⟩

theorem sums_range {x y z : Int} {t g o : List Int} (M : ModelIn x y z t g o) : ∀ l : List Int, (∀ i ∈ l, 0 ≤ i ∧ i < (t.length : Int)) → 0 ≤ tonS t l ∧ tonS t l ≤ 10000 * (l.length : Int) ∧ 0 ≤ metS t g l ∧ metS t g l ≤ 10000000 * (l.length : Int)
  | [], _ => by simp [tonS, metS]
  | i :: l, h => by
    have ih := sums_range M l (fun j hj => h j (by simp [hj]))
    have q := tm_range M i (h i (by simp)).1 (h i (by simp)).2
    have e1 : tonS t (i :: l) = rd t i + tonS t l := by simp [tonS]
    have e2 : metS t g (i :: l) = rd t i * rd g i + metS t g l := by simp [metS]
    rw [e1, e2, List.length_cons]; omega

theorem moSums_ev {x y z : Int} {t g o : List Int} (M : ModelIn x y z t g o) (l : List Int) (hl : l.length ≤ 1048576) (hb : ∀ i ∈ l, 0 ≤ i ∧ i < (t.length : Int)) : Ev (fun k => spec_moSums.f k x y z t g o l) (tonS t l, metS t g l) := by
  unfold spec_moSums.f
  have hn := M.n
  have key : ∀ (d j : Nat) (u v : Int), j + d = l.length → 0 ≤ u → u ≤ 10000 * (j : Int) → 0 ≤ v → v ≤ 10000000 * (j : Int) → Ev (fun k => spec_moSums.l0 k u v l (l.length : Int) (j : Int) x y z t g o) (u + tonS t (l.drop j), v + metS t g (l.drop j)) := by
    intro d
    induction d with
    | zero =>
      intro j u v hd _ _ _ _
      refine Ev.step (fun k => by rw [spec_moSums.l0]) ?_
      exact Ev.neg (by omega) (Ev.cast (by rw [dr0 _ _ (by omega)]; simp [tonS, metS]) (Ev.now _))
    | succ d ih =>
      intro j u v hd hu hu2 hv hv2
      have q := hb l[j] (List.getElem_mem _)
      have r := tm_range M l[j] q.1 q.2
      refine Ev.step (fun k => by rw [spec_moSums.l0]) ?_
      rw [rd_get l j (by omega), wr_nat j l.length (by omega) (by omega), dr l j (by omega)]
      refine Ev.pos (by omega) (Ev.pos (nn _) (Ev.pos (by omega) (Ev.pos q.1 (Ev.pos q.2 ?_))))
      unfold spec_moMetal.f
      rw [if_pos q.1, if_pos q.2, if_pos (by omega), wr (rd t l[j] * rd g l[j]) (by omega) (by omega)]
      refine Ev.sbind ?_
      rw [wr (u + rd t l[j]) (by omega) (by omega), wr (v + rd t l[j] * rd g l[j]) (by omega) (by omega)]
      refine Ev.cast ?_ (ih (j + 1) _ _ (by omega) (by omega) (by push_cast; omega) (by omega) (by push_cast; omega))
      have e1 : tonS t (l[j] :: l.drop (j + 1)) = rd t l[j] + tonS t (l.drop (j + 1)) := rfl
      have e2 : metS t g (l[j] :: l.drop (j + 1)) = rd t l[j] * rd g l[j] + metS t g (l.drop (j + 1)) := rfl
      rw [e1, e2, Int.add_assoc, Int.add_assoc]
  simpa using key l.length 0 0 0 (by omega) (by omega) (by omega) (by omega) (by omega)

theorem sumsOf_ev {x y z : Int} {t g o : List Int} (M : ModelIn x y z t g o) (l : List Int) (hl : l.length ≤ 1048576) (hb : ∀ i ∈ l, 0 ≤ i ∧ i < (t.length : Int)) : Ev (fun k => impl_sumsOf.f k x y z t g o l) (tonS t l, metS t g l) := by
  unfold impl_sumsOf.f
  have hn := M.n
  have key : ∀ (d j : Nat) (u v : Int), j + d = l.length → 0 ≤ u → u ≤ 10000 * (j : Int) → 0 ≤ v → v ≤ 10000000 * (j : Int) → Ev (fun k => impl_sumsOf.l0 k u v l (l.length : Int) (j : Int) x y z t g o) (u + tonS t (l.drop j), v + metS t g (l.drop j)) := by
    intro d
    induction d with
    | zero =>
      intro j u v hd _ _ _ _
      refine Ev.step (fun k => by rw [impl_sumsOf.l0]) ?_
      exact Ev.neg (by omega) (Ev.cast (by rw [dr0 _ _ (by omega)]; simp [tonS, metS]) (Ev.now _))
    | succ d ih =>
      intro j u v hd hu hu2 hv hv2
      have q := hb l[j] (List.getElem_mem _)
      have r := tm_range M l[j] q.1 q.2
      refine Ev.step (fun k => by rw [impl_sumsOf.l0]) ?_
      rw [rd_get l j (by omega), wr_nat j l.length (by omega) (by omega), dr l j (by omega)]
      refine Ev.pos (by omega) (Ev.pos (nn _) (Ev.pos (by omega) (Ev.pos q.1 (Ev.pos q.2 (Ev.pos (by omega) ?_)))))
      rw [wr (rd t l[j] * rd g l[j]) (by omega) (by omega), wr (u + rd t l[j]) (by omega) (by omega), wr (v + rd t l[j] * rd g l[j]) (by omega) (by omega)]
      refine Ev.cast ?_ (ih (j + 1) _ _ (by omega) (by omega) (by push_cast; omega) (by omega) (by push_cast; omega))
      have e1 : tonS t (l[j] :: l.drop (j + 1)) = rd t l[j] + tonS t (l.drop (j + 1)) := rfl
      have e2 : metS t g (l[j] :: l.drop (j + 1)) = rd t l[j] * rd g l[j] + metS t g (l.drop (j + 1)) := rfl
      rw [e1, e2, Int.add_assoc, Int.add_assoc]
  simpa using key l.length 0 0 0 (by omega) (by omega) (by omega) (by omega) (by omega)

theorem szModel_eq (x y z : Int) (t g o : List Int) (left : Int) (h0 : 0 ≤ left) (h1 : left ≤ 1048576) (ht : t.length ≤ maxLen) (hg : g.length ≤ maxLen) (ho : o.length ≤ maxLen) :
    ∃ r, laws_szModel.f x y z t g o left = some r ∧ r ≤ 1048576 ∧ (0 ≤ r → r = left - t.length - g.length - o.length) := by
  unfold laws_szModel.f
  obtain ⟨r, hr, a1, b1⟩ := szIntS_eq t left h0 h1 ht
  rw [hr, Option.bind_some]
  by_cases c : r < 0
  · rw [if_pos c]; exact ⟨-1, rfl, by omega, by omega⟩
  · rw [if_neg c]
    obtain ⟨q, hq, a2, b2⟩ := szIntS_eq g r (by omega) a1 hg
    rw [hq, Option.bind_some]
    by_cases c2 : q < 0
    · rw [if_pos c2]; exact ⟨-1, rfl, by omega, by omega⟩
    · rw [if_neg c2]
      obtain ⟨s, hs, a3, b3⟩ := szIntS_eq o q (by omega) a2 ho
      rw [hs, Option.bind_some]
      have b1 := b1 (by omega)
      have b2 := b2 (by omega)
      by_cases c3 : s < 0
      · rw [if_pos c3]; exact ⟨-1, rfl, by omega, by omega⟩
      · rw [if_neg c3]; exact ⟨s, rfl, a3, fun _ => by have b3 := b3 (by omega); omega⟩

theorem toModel_ev (x y z : Int) (t g o : List Int) (ht : t.length ≤ 1048576) (hg : g.length ≤ 1048576) (ho : o.length ≤ 1048576) : Ev (fun k => laws_toModel.f k x y z t g o) (x, y, z, t, g, o) := by
  unfold laws_toModel.f laws_toGrid.f
  exact Ev.sbind (Ev.bind (toIntS_ev t (by omega)) (Ev.bind (toIntS_ev g (by omega)) (Ev.bind (toIntS_ev o (by omega)) (Ev.now _))))

theorem eqModel_ev (x y z : Int) (t g o : List Int) (ht : t.length ≤ 1048576) (hg : g.length ≤ 1048576) (ho : o.length ≤ 1048576) : Ev (fun k => laws_eqModel.f k x y z t g o x y z t g o) true := by
  unfold laws_eqModel.f laws_eqGrid.f
  rw [if_pos rfl, if_pos rfl, if_pos rfl]
  exact Ev.sbind (Ev.pos rfl (Ev.bind (eqIntS_ev t t (by omega)) (Ev.pos (by simp) (Ev.bind (eqIntS_ev g g (by omega)) (Ev.pos (by simp) (Ev.bind (eqIntS_ev o o (by omega)) (Ev.pos (by simp) (Ev.now _))))))))

theorem markModel_ev (x y z : Int) (t g o : List Int) (a : Int) (ha : 0 ≤ a) (hb : a + (t.length : Int) + (g.length : Int) + (o.length : Int) < 9223372036854775807) : Ev (fun k => laws_markModel.f k x y z t g o a) (a + (t.length : Int) + (g.length : Int) + (o.length : Int), markedI t.length a, markedI g.length (a + (t.length : Int)), markedI o.length (a + (t.length : Int) + (g.length : Int))) := by
  unfold laws_markModel.f
  exact Ev.bind (markIntS_ev t a ha (by omega)) (Ev.bind (markIntS_ev g _ (by omega) (by omega)) (Ev.bind (markIntS_ev o _ (by omega) (by omega)) (Ev.now _)))

def phMod (x y z : Int) (t g o : List Int) (a ps : List (List Int)) : Bool := modOk x y z t g o && (decide ((a.length : Int) = x * y * z) && (arcsOk a && phOk a ps))

theorem phModel_ev (x y z : Int) (t g o : List Int) (a ps : List (List Int)) (ht : t.length ≤ 1048576) (hg : g.length ≤ 1048576) (ho : o.length ≤ 1048576) (h1 : a.length ≤ 1048576) (h2 : ∀ z ∈ a, z.length ≤ 1048576) (h3 : ps.length ≤ 1048576) (h4 : ∀ z ∈ ps, z.length ≤ 1048576) : Ev (fun k => spec_phModel.f k x y z t g o a ps) (phMod x y z t g o a ps) := by
  have g2 : ∀ z ∈ a, z.length < 9223372036854775807 := fun z hz => by have := h2 z hz; omega
  have g4 : ∀ z ∈ ps, z.length < 9223372036854775807 := fun z hz => by have := h4 z hz; omega
  unfold spec_phModel.f phMod
  refine Ev.bind (moGood_ev x y z t g o ht hg ho) (Ev.cases (fun h => ?_) (fun h => Ev.cast (by rw [bf h]; rfl) (Ev.now _)))
  rw [h, Bool.true_and]
  obtain ⟨e, _, _, _⟩ := grid_pos (ModelIn.of h).grid
  rw [e]
  refine Ev.sbind (Ev.cases (fun h => ?_) (fun h => Ev.cast (by rw [decide_eq_false h]; rfl) (Ev.now _)))
  rw [decide_eq_true h, Bool.true_and]
  exact Ev.bind (phBoth_ev a ps (by omega) g2 (by omega) g4) (Ev.now _)

structure PhIn (x y z : Int) (t g o : List Int) (a ps : List (List Int)) : Prop where
  M : ModelIn x y z t g o
  al : a.length = t.length
  arcs : arcsOk a = true
  ph : phOk a ps = true

theorem PhIn.of {x y z : Int} {t g o : List Int} {a ps : List (List Int)} (h : phMod x y z t g o a ps = true) : PhIn x y z t g o a ps := by
  unfold phMod at h
  simp only [Bool.and_eq_true, decide_eq_true_eq] at h
  have M := ModelIn.of h.1
  exact ⟨M, by have := M.tl; omega, h.2.2.1, h.2.2.2⟩
theorem PhIn.small {x y z : Int} {t g o : List Int} {a ps : List (List Int)} (h : PhIn x y z t g o a ps) : ps.length ≤ 8 ∧ ∀ p ∈ ps, p.length ≤ 120 := phOk_small h.arcs h.ph
theorem PhIn.inn {x y z : Int} {t g o : List Int} {a ps : List (List Int)} (h : PhIn x y z t g o a ps) : ∀ p ∈ ps, ∀ i ∈ p, 0 ≤ i ∧ i < (t.length : Int) := fun p hp i hi => by
  have q := phOk_mem h.ph p hp
  unfold pitOk at q
  rw [Bool.and_eq_true] at q
  have := rise_in q.1 i hi
  have := h.al
  omega
theorem PhIn.from_ {x y z : Int} {t g o : List Int} {a ps : List (List Int)} (h : PhIn x y z t g o a ps) : phFrom a [] ps = true := by
  have := h.ph
  unfold phOk at this
  rw [Bool.and_eq_true] at this
  exact this.2

/-- What both programs ask first. -/
theorem impl_asks {β : Type} {x y z : Int} {t g o : List Int} {a ps : List (List Int)} (ht : t.length ≤ 1048576) (h2 : ∀ z ∈ a, z.length ≤ 1048576) (h4 : ∀ z ∈ ps, z.length ≤ 1048576) (Y : Nat → Bool → Option β) (N1 N2 N3 : Nat → Option β) (r1 r2 : β)
    (hy : PhIn x y z t g o a ps → Ev (fun k => Y k true) r1) (hn : Ev (fun k => Y k false) r2) (hn1 : Ev N1 r2) (hn2 : Ev N2 r2) (hn3 : Ev N3 r2) :
    Ev (fun k => (impl_IsModel.f k x y z t g o).bind fun t1 => if t1 = true then ((impl_AreArcs.f k a).bind fun t2 => if t2 = true then (if (a.length : Int) = (t.length : Int) then ((impl_arePhases.f k a ps).bind fun t3 => Y k t3) else N1 k) else N2 k) else N3 k) (if phMod x y z t g o a ps = true then r1 else r2) := by
  have g2 : ∀ z ∈ a, z.length < 9223372036854775807 := fun z hz => by have := h2 z hz; omega
  have g4 : ∀ z ∈ ps, z.length < 9223372036854775807 := fun z hz => by have := h4 z hz; omega
  by_cases m : modOk x y z t g o = true
  · have M := ModelIn.of m
    have tl := M.tl
    refine Ev.bind (IsModel_ev x y z t g o ht) (Ev.pos m (Ev.bind (AreArcs_ev a g2) ?_))
    by_cases ha : arcsOk a = true
    · refine Ev.pos ha ?_
      by_cases hl : (a.length : Int) = (t.length : Int)
      · refine Ev.pos hl (Ev.bind (arePhases_ev a ps g2 ha g4) ?_)
        by_cases hp : phOk a ps = true
        · have e : phMod x y z t g o a ps = true := by unfold phMod; rw [m, ha, hp, decide_eq_true (by omega)]; rfl
          rw [if_pos e, hp]
          exact hy (PhIn.of e)
        · have e : ¬ phMod x y z t g o a ps = true := by unfold phMod; rw [bf hp]; simp
          rw [if_neg e, bf hp]
          exact hn
      · have e : ¬ phMod x y z t g o a ps = true := by unfold phMod; rw [decide_eq_false (show ¬ (a.length : Int) = x * y * z by omega)]; simp
        rw [if_neg e]
        exact Ev.neg hl hn1
    · have e : ¬ phMod x y z t g o a ps = true := by unfold phMod; rw [bf ha]; simp
      rw [if_neg e]
      exact Ev.neg ha hn2
  · have e : ¬ phMod x y z t g o a ps = true := by unfold phMod; rw [bf m]; simp
    rw [if_neg e]
    exact Ev.bind (IsModel_ev x y z t g o ht) (Ev.neg m hn3)

theorem pw_ext : ∀ (l1 l2 : List Int), l1.Pairwise (· < ·) → l2.Pairwise (· < ·) → (∀ x, x ∈ l1 ↔ x ∈ l2) → l1 = l2
  | [], [], _, _, _ => rfl
  | [], b :: l, _, _, h => by have := (h b).2 (by simp); simp at this
  | a :: l, [], _, _, h => by have := (h a).1 (by simp); simp at this
  | a :: l1, b :: l2, h1, h2, h => by
    have p1 := List.pairwise_cons.1 h1
    have p2 := List.pairwise_cons.1 h2
    have e : a = b := by
      rcases List.mem_cons.1 ((h a).1 (by simp)) with q | q
      · exact q
      · rcases List.mem_cons.1 ((h b).2 (by simp)) with r | r
        · exact r.symm
        · have := p2.1 a q; have := p1.1 b r; omega
    subst e
    rw [pw_ext l1 l2 p1.2 p2.2 (fun x => ⟨fun hx => by
      rcases List.mem_cons.1 ((h x).1 (by simp [hx])) with q | q
      · have := p1.1 x hx; omega
      · exact q, fun hx => by
      rcases List.mem_cons.1 ((h x).2 (by simp [hx])) with q | q
      · have := p2.1 x hx; omega
      · exact q⟩)]

theorem tonS_split (t : List Int) (b : List Int) : ∀ p : List Int, tonS t p = tonS t (lessL p b) + tonS t (p.filter fun i => decide (i ∈ b))
  | [] => by simp [tonS, lessL]
  | i :: p => by
    have ih := tonS_split t b p
    by_cases c : i ∈ b
    · have e1 : lessL (i :: p) b = lessL p b := by unfold lessL; rw [List.filter_cons_of_neg (by simpa using c)]
      rw [e1, List.filter_cons_of_pos (by simpa using c)]
      simp only [tonS, List.map_cons, List.sum_cons] at ih ⊢
      omega
    · have e1 : lessL (i :: p) b = i :: lessL p b := by unfold lessL; rw [List.filter_cons_of_pos (by simpa using c)]
      rw [e1, List.filter_cons_of_neg (by simpa using c)]
      simp only [tonS, List.map_cons, List.sum_cons] at ih ⊢
      omega

theorem tonS_less (t : List Int) {b p : List Int} (hb : b.Pairwise (· < ·)) (hp : p.Pairwise (· < ·)) (h : ∀ x ∈ b, x ∈ p) : tonS t p - tonS t b = tonS t (lessL p b) := by
  have e : (p.filter fun i => decide (i ∈ b)) = b := pw_ext _ _ (hp.filter _) hb (fun x => by
    rw [List.mem_filter]
    exact ⟨fun q => of_decide_eq_true q.2, fun q => ⟨h x q, decide_eq_true q⟩⟩)
  have := tonS_split t b p
  rw [e] at this
  omega

def jpL (t : List Int) (least : Int) : List Int → List (List Int) → List (List Int)
  | _, [] => []
  | b, p :: ps => if ps ≠ [] ∧ tonS t (lessL p b) < least then jpL t least b ps else p :: jpL t least p ps

theorem jpL_small (t : List Int) (least : Int) (n : Nat) : ∀ (ps : List (List Int)) (b : List Int), (∀ z ∈ ps, z.length ≤ n) → (jpL t least b ps).length ≤ ps.length ∧ ∀ z ∈ jpL t least b ps, z.length ≤ n
  | [], _, _ => by simp [jpL]
  | p :: ps, b, h => by
    rw [jpL]
    split
    · obtain ⟨h1, h2⟩ := jpL_small t least n ps b (fun z hz => h z (by simp [hz]))
      exact ⟨by simp; omega, h2⟩
    · obtain ⟨h1, h2⟩ := jpL_small t least n ps p (fun z hz => h z (by simp [hz]))
      refine ⟨by simp; omega, fun z hz => ?_⟩
      rcases List.mem_cons.1 hz with rfl | hz
      · exact h _ (by simp)
      · exact h2 z hz

theorem l1Own_eq (l : List Int) (h : l.length ≤ 1048576) : spec_l1Own.f l = some l := by
  unfold spec_l1Own.f; rw [Option.bind_some, if_pos (by simp; omega), List.nil_append]

theorem drop_ne (ps : List (List Int)) (i : Nat) (h : i < ps.length) : ((i : Int) < (ps.length : Int) - 1) ↔ ps.drop (i + 1) ≠ [] := by
  rw [ne_eq, List.drop_eq_nil_iff]; omega

theorem spec_JoinPhases_l0 {x y z : Int} {t g o : List Int} {a ps : List (List Int)} (P : PhIn x y z t g o a ps) (least : Int) : Ev (fun k => spec_JoinPhases.l0 k ps least [] [] ps (ps.length : Int) 0 x y z t g o) (jpL t least [] ps, true) := by
  obtain ⟨s1, s2⟩ := P.small
  have key : ∀ (d i : Nat) (acc : List (List Int)) (b : List Int), i + d = ps.length → acc.length ≤ i → b.length ≤ 120 → Ev (fun k => spec_JoinPhases.l0 k ps least acc b ps (ps.length : Int) (i : Int) x y z t g o) (acc ++ jpL t least b (ps.drop i), true) := by
    intro d
    induction d with
    | zero =>
      intro i acc b hd ha hb
      refine Ev.step (fun k => by rw [spec_JoinPhases.l0]) ?_
      exact Ev.neg (by omega) (Ev.cast (by rw [dr0 _ _ (by omega), jpL, List.append_nil]) (Ev.now _))
    | succ d ih =>
      intro i acc b hd ha hb
      have hm := List.getElem_mem (show i < ps.length by omega)
      have hz := s2 _ hm
      refine Ev.step (fun k => by rw [spec_JoinPhases.l0]) ?_
      rw [rdL1_get ps i (by omega), wr_nat i ps.length (by omega) (by omega), dr ps i (by omega), jpL, wr ((ps.length : Int) - 1) (by omega) (by omega), l1Own_eq _ (by omega)]
      have hle : (lessL ps[i] b).length ≤ 120 := Nat.le_trans (List.length_filter_le _ _) hz
      refine Ev.pos (by omega) (Ev.pos (nn _) (Ev.pos (by omega) (Ev.bind (phLess_ev ps[i] b (by omega) (by omega)) (Ev.bind (moSums_ev P.M _ (by omega) (fun j hj => P.inn _ hm j ((List.mem_filter.1 hj).1))) ?_))))
      have keep : Ev (fun k => if acc.length < 5864062014805 then (spec_JoinPhases.l0 k ps least (acc ++ [ps[i]]) ps[i] ps (ps.length : Int) ((i + 1 : Nat) : Int) x y z t g o) else none) (acc ++ ps[i] :: jpL t least ps[i] (ps.drop (i + 1)), true) := by
        refine Ev.pos (by omega) (Ev.cast ?_ (ih (i + 1) _ _ (by omega) (by simp; omega) hz))
        simp
      refine Ev.cases (fun c => Ev.cases (fun c2 => ?_) (fun c2 => Ev.sbind ?_)) (fun c => Ev.sbind ?_)
      · rw [if_pos ⟨(drop_ne ps i (by omega)).1 c, c2⟩]
        exact ih (i + 1) acc b (by omega) (by omega) hb
      · rw [if_neg (fun q => c2 q.2)]
        exact keep
      · rw [if_neg (fun q => c ((drop_ne ps i (by omega)).2 q.1))]
        exact keep
  simpa using key ps.length 0 [] [] (by omega) (by simp) (by simp)

theorem impl_JoinPhases_l0 {x y z : Int} {t g o : List Int} {a ps : List (List Int)} (P : PhIn x y z t g o a ps) (least : Int) : Ev (fun k => impl_JoinPhases.l0 k ps least [] 0 ps (ps.length : Int) 0 x y z t g o) (jpL t least [] ps, true) := by
  obtain ⟨s1, s2⟩ := P.small
  have key : ∀ (d i : Nat) (acc : List (List Int)) (b pv : List Int), i + d = ps.length → acc.length ≤ i → phFrom a pv (ps.drop i) = true → (∀ x ∈ b, x ∈ pv) → b.Pairwise (· < ·) → (∀ x ∈ b, 0 ≤ x ∧ x < (t.length : Int)) → b.length ≤ 120 → Ev (fun k => impl_JoinPhases.l0 k ps least acc (tonS t b) ps (ps.length : Int) (i : Int) x y z t g o) (acc ++ jpL t least b (ps.drop i), true) := by
    intro d
    induction d with
    | zero =>
      intro i acc b pv hd ha _ _ _ _ _
      refine Ev.step (fun k => by rw [impl_JoinPhases.l0]) ?_
      exact Ev.neg (by omega) (Ev.cast (by rw [dr0 _ _ (by omega), jpL, List.append_nil]) (Ev.now _))
    | succ d ih =>
      intro i acc b pv hd ha hf hbp hb hbr hbl
      have hm := List.getElem_mem (show i < ps.length by omega)
      have hz := s2 _ hm
      have hin := P.inn _ hm
      rw [dr ps i (by omega), phFrom] at hf
      simp only [Bool.and_eq_true] at hf
      obtain ⟨f1, _, f2, f3⟩ := hf
      unfold pitOk rise at f1
      rw [Bool.and_eq_true, Bool.and_eq_true] at f1
      have hpw := incr_pw _ f1.1.2
      have hsub : ∀ x ∈ b, x ∈ ps[i] := fun x hx => of_decide_eq_true (List.all_eq_true.1 f2 x (hbp x hx))
      refine Ev.step (fun k => by rw [impl_JoinPhases.l0]) ?_
      rw [rdL1_get ps i (by omega), wr_nat i ps.length (by omega) (by omega), dr ps i (by omega), jpL, wr ((ps.length : Int) - 1) (by omega) (by omega)]
      refine Ev.pos (by omega) (Ev.pos (nn _) (Ev.pos (by omega) (Ev.bind (sumsOf_ev P.M _ (by omega) hin) ?_)))
      have r1 := sums_range P.M _ hin
      have r2 := sums_range P.M _ hbr
      have keep : Ev (fun k => if acc.length < 5864062014805 then (impl_JoinPhases.l0 k ps least (acc ++ [([] : List Int) ++ ps[i]]) (tonS t ps[i]) ps (ps.length : Int) ((i + 1 : Nat) : Int) x y z t g o) else none) (acc ++ ps[i] :: jpL t least ps[i] (ps.drop (i + 1)), true) := by
        rw [List.nil_append]
        refine Ev.pos (by omega) (Ev.cast ?_ (ih (i + 1) _ _ ps[i] (by omega) (by simp; omega) f3 (fun x hx => hx) hpw hin hz))
        simp
      rw [wr (tonS t ps[i] - tonS t b) (by omega) (by omega), tonS_less t hb hpw hsub]
      refine Ev.cases (fun c => Ev.cases (fun c2 => ?_) (fun c2 => Ev.sbind (Ev.pos (by simp; omega) ?_))) (fun c => Ev.sbind (Ev.pos (by simp; omega) ?_))
      · rw [if_pos ⟨(drop_ne ps i (by omega)).1 c, c2⟩]
        exact ih (i + 1) acc b ps[i] (by omega) (by omega) f3 hsub hb hbr hbl
      · rw [if_neg (fun q => c2 q.2)]
        exact keep
      · rw [if_neg (fun q => c ((drop_ne ps i (by omega)).2 q.1))]
        exact keep
  have := key ps.length 0 [] [] [] (by omega) (by simp) (by simpa using P.from_) (by simp) List.Pairwise.nil (by simp) (by simp)
  simpa [tonS] using this

theorem FnExactJoinPhases (x y z : Int) (t g o : List Int) (a ps : List (List Int)) (le : Int) (ht : t.length ≤ 1048576) (hg : g.length ≤ 1048576) (ho : o.length ≤ 1048576) (h1 : a.length ≤ 1048576) (h2 : ∀ z ∈ a, z.length ≤ 1048576) (h3 : ps.length ≤ 1048576) (h4 : ∀ z ∈ ps, z.length ≤ 1048576) :
    ∃ r1 r2, Ev (fun k => spec_JoinPhases.f k x y z t g o a ps le) (r1, r2) ∧ Ev (fun k => impl_JoinPhases.f k x y z t g o a ps le) (r1, r2) ∧ r1.length ≤ 1048576 ∧ ((∀ z ∈ r1, z.length ≤ 1048576) ∧ totL r1 ≤ 1048576) := by
  have N : ∀ k : Bool, k = true → Ev (fun n => impl_JoinPhases.j0 n ps le k x y z t g o) ([], false) := by
    rintro k rfl; exact Ev.step (fun k => by rw [impl_JoinPhases.j0]) (Ev.pos rfl (Ev.now _))
  have NS : ∀ k : Bool, k = true → Ev (fun n => spec_JoinPhases.j0 n ps le k x y z t g o) ([], false) := by
    rintro k rfl; exact Ev.step (fun k => by rw [spec_JoinPhases.j0]) (Ev.pos rfl (Ev.now _))
  have B := phModel_ev x y z t g o a ps ht hg ho h1 h2 h3 h4
  let R := if 0 ≤ le ∧ le ≤ 2000000 then (jpL t le [] ps, true) else ([], false)
  have I : Ev (fun k => impl_JoinPhases.f k x y z t g o a ps le) (if phMod x y z t g o a ps = true then (if 0 ≤ le ∧ le ≤ 2000000 then (jpL t le [] ps, true) else ([], false)) else ([], false)) := by
    unfold impl_JoinPhases.f
    refine impl_asks ht h2 h4 (fun k b => if b = true then (if le < 0 then (impl_JoinPhases.j0 k ps le true x y z t g o) else (impl_JoinPhases.j0 k ps le (decide (le > 2000000)) x y z t g o)) else (impl_JoinPhases.j0 k ps le true x y z t g o)) _ _ _ _ _ (fun P => ?_) (Ev.neg (by simp) (N _ rfl)) (N _ rfl) (N _ rfl) (N _ rfl)
    refine Ev.pos rfl (Ev.cases (fun c => Ev.cast (by rw [if_neg (by omega)]) (N _ rfl)) (fun c => ?_))
    by_cases c2 : le > 2000000
    · exact Ev.cast (by rw [if_neg (by omega)]) (N _ (decide_eq_true c2))
    · rw [if_pos ⟨by omega, by omega⟩, decide_eq_false c2]
      exact Ev.step (fun k => by rw [impl_JoinPhases.j0]) (Ev.neg (by simp) (impl_JoinPhases_l0 P le))
  unfold spec_JoinPhases.f
  rw [l1In_eq]
  by_cases hp : phMod x y z t g o a ps = true
  · rw [if_pos hp] at I
    rw [hp] at B
    have P := PhIn.of hp
    obtain ⟨s1, s2⟩ := P.small
    by_cases c : 0 ≤ le ∧ le ≤ 2000000
    · rw [if_pos c] at I
      obtain ⟨l1, l2⟩ := jpL_small t le 120 ps [] s2
      have := totL_two _ 120 l2
      refine ⟨_, _, Ev.bind B (Ev.pos rfl (Ev.sbind ?_)), I, by omega, fun z hz => by have := l2 z hz; omega, by omega⟩
      rw [decide_eq_true c]
      exact Ev.step (fun k => by rw [spec_JoinPhases.j0]) (Ev.neg (by simp) (spec_JoinPhases_l0 P le))
    · rw [if_neg c] at I
      refine ⟨_, _, Ev.bind B (Ev.pos rfl (Ev.sbind (NS _ (by rw [decide_eq_false c]; rfl)))), I, by simp [totL]⟩
  · rw [if_neg hp] at I
    rw [bf hp] at B
    exact ⟨_, _, Ev.bind B (Ev.neg (by simp) (NS _ rfl)), I, by simp [totL]⟩

end Go.Proofs.Ytdipbpckmcmljaa.Pure

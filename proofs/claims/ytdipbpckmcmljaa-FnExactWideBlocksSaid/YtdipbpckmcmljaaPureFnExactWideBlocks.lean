/- FnExactWideBlocks over numbers and lists alone: what the program's text computes and what the reference's text computes is the same, for all arguments that the row lets in; no further condition. -/
import Derived.Test.YtdipbpckmcmljaaPFnExactWideBlocksx7
import Derived.Test.YtdipbpckmcmljaaGen
import Derived.Test.YtdipbpckmcmljaaOpn
set_option linter.unusedVariables false
set_option linter.unusedSimpArgs false
namespace Go.Proofs.Ytdipbpckmcmljaa.Pure
open Go.RowKit Go.Proofs.Ytdipbpckmcmljaa.PFnExactWideBlocks Go.Proofs.YtdipbpckmcmljaaW.PrintWords Go.Proofs.YtdipbpckmcmljaaW.PrintLast Go.Proofs.Ytdipbpckmcmljaa.Gen Go.Proofs.Ytdipbpckmcmljaa.Opn
theorem toIntS_l (x0 : List Int) (hx : x0.length < 9223372036854775807) : ∀ (suf pre : List Int), pre ++ suf = x0 →
    Ev (fun k => laws_toIntS.l0 k x0 (pre ++ List.replicate suf.length 0) (pre.length : Int)) x0 := by
  intro suf
  induction suf with
  | nil =>
    rintro pre rfl
    refine Ev.step (fun k => by rw [laws_toIntS.l0]) ?_
    refine Ev.neg (by simp) ?_
    refine Ev.cast (by simp) (Ev.now _)
  | cons x suf ih =>
    rintro pre rfl
    refine Ev.step (fun k => by rw [laws_toIntS.l0]) ?_
    refine Ev.pos (mid_lt _ _ _) (Ev.pos (nn _) (Ev.pos (by simp; omega) ?_))
    rw [wr_mid pre x suf _ rfl hx, rd_mid, List.length_cons, List.replicate_succ, set_mid]
    exact ih (pre ++ [x]) (by simp)

theorem toIntS_ev (x : List Int) (hx : x.length ≤ 35184372088832) : Ev (fun k => laws_toIntS.f k x) x := by
  unfold laws_toIntS.f
  refine Ev.pos (nn _) (Ev.pos (by simpa using hx) ?_)
  simpa using toIntS_l x (by omega) x [] rfl

theorem eqIntS_l (x0 x1 : List Int) (hx : x0.length < 9223372036854775807) (hl : x0.length = x1.length) : ∀ (d i : Nat), i + d = x0.length →
    Ev (fun k => laws_eqIntS.l0 k x0 x1 (i : Int)) (decide (x0.drop i = x1.drop i)) := by
  intro d
  induction d with
  | zero =>
    intro i hi
    refine Ev.step (fun k => by rw [laws_eqIntS.l0]) ?_
    refine Ev.neg (by omega) (Ev.cast ?_ (Ev.now _))
    rw [List.drop_eq_nil_of_le (by omega), List.drop_eq_nil_of_le (by omega)]; rfl
  | succ d ih =>
    intro i hi
    refine Ev.step (fun k => by rw [laws_eqIntS.l0]) ?_
    refine Ev.pos (by omega) (Ev.pos (nn _) (Ev.pos (by omega) ?_))
    rw [rd_get x0 i (by omega), rd_get x1 i (by omega), dr x0 i (by omega), dr x1 i (by omega)]
    refine Ev.cases (fun h => ?_) (fun h => ?_)
    · rw [wr_nat i _ (by omega) hx]
      refine Ev.cast ?_ (ih (i + 1) (by omega))
      simp only [List.cons.injEq, h, true_and]
    · refine Ev.cast ?_ (Ev.now _)
      simp only [List.cons.injEq, h, false_and, decide_false]

theorem eqIntS_ev (x y : List Int) (hx : x.length < 9223372036854775807) : Ev (fun k => laws_eqIntS.f k x y) (decide (x = y)) := by
  unfold laws_eqIntS.f
  refine Ev.cases (fun h => ?_) (fun h => ?_)
  · exact eqIntS_l x y hx (by omega) x.length 0 (by omega)
  · refine Ev.cast ?_ (Ev.now _)
    exact (decide_eq_false (fun e => h (by rw [e]))).symm

theorem l1In_eq (n a b : Int) : spec_l1In.f n a b = some (decide (a ≤ n ∧ n ≤ b)) := by
  unfold spec_l1In.f
  by_cases h : n ≥ a
  · rw [if_pos h]; simp [show a ≤ n from h]
  · rw [if_neg h]; simp [show ¬ a ≤ n from h]

def inB (a b : Int) (x : Int) : Bool := decide (a ≤ x ∧ x ≤ b)

def markedI (n : Nat) (a : Int) : List Int := (List.range n).map fun i : Nat => a + (i : Int)

theorem markIntS_l (a : Int) (ha : 0 ≤ a) : ∀ (suf pre : List Int), pre = markedI pre.length a → a + (pre.length : Int) + (suf.length : Int) < 9223372036854775807 →
    Ev (fun k => laws_markIntS.l0 k (pre ++ suf) (a + (pre.length : Int)) (pre.length : Int)) (a + ((pre ++ suf).length : Int), markedI (pre ++ suf).length a) := by
  intro suf
  induction suf with
  | nil =>
    intro pre hp hb
    refine Ev.step (fun k => by rw [laws_markIntS.l0]) ?_
    refine Ev.neg (by simp) (Ev.cast ?_ (Ev.now _))
    rw [List.append_nil, ← hp]
  | cons x suf ih =>
    intro pre hp hb
    refine Ev.step (fun k => by rw [laws_markIntS.l0]) ?_
    refine Ev.pos (mid_lt _ _ _) (Ev.pos (nn _) ?_)
    rw [List.length_cons] at hb
    rw [wr_mid pre x suf _ rfl (by simp; omega), set_mid, wr _ (by omega) (by omega)]
    have := ih (pre ++ [a + (pre.length : Int)]) (by
      unfold markedI; rw [List.length_append, List.length_singleton, List.range_succ, List.map_append, List.map_singleton]; unfold markedI at hp; rw [← hp]) (by simp; omega)
    simp only [List.length_append, List.length_cons, List.length_nil] at this ⊢
    rw [show a + (pre.length : Int) + 1 = a + ((pre.length + (0 + 1) : Nat) : Int) by omega, show pre.length + (suf.length + 1) = pre.length + (0 + 1) + suf.length by omega]
    exact this

theorem markIntS_ev (x : List Int) (a : Int) (ha : 0 ≤ a) (hb : a + (x.length : Int) < 9223372036854775807) : Ev (fun k => laws_markIntS.f k x a) (a + (x.length : Int), markedI x.length a) := by
  unfold laws_markIntS.f
  simpa using markIntS_l a ha x [] rfl (by simpa using hb)

theorem heldIntS_l (a : Int) (ha : 0 ≤ a) (n : Nat) (hb : a + (n : Int) < 9223372036854775807) : ∀ (d i : Nat), i + d = n →
    Ev (fun k => laws_heldIntS.l0 k (markedI n a) (a + (i : Int)) (i : Int)) (a + (n : Int)) := by
  intro d
  have hl : (markedI n a).length = n := by simp [markedI]
  induction d with
  | zero =>
    intro i hi
    refine Ev.step (fun k => by rw [laws_heldIntS.l0]) ?_
    refine Ev.neg (by omega) (Ev.cast (by omega) (Ev.now _))
  | succ d ih =>
    intro i hi
    refine Ev.step (fun k => by rw [laws_heldIntS.l0]) ?_
    refine Ev.pos (by omega) (Ev.pos (nn _) ?_)
    rw [rd_get _ i (by omega)]
    refine Ev.pos (by simp [markedI]) ?_
    rw [wr_nat i n (by omega) (by omega), wr _ (by omega) (by omega), Int.add_assoc]
    exact ih (i + 1) (by omega)

theorem heldIntS_ev (n : Nat) (a : Int) (ha : 0 ≤ a) (hb : a + (n : Int) < 9223372036854775807) : Ev (fun k => laws_heldIntS.f k (markedI n a) a) (a + (n : Int)) := by
  unfold laws_heldIntS.f
  simpa using heldIntS_l a ha n hb n 0 (by omega)

def incr : List Int → Bool
  | a :: b :: t => decide (a < b) && incr (b :: t)
  | _ => true

theorem incr_cons {a b : Int} {t : List Int} : incr (a :: b :: t) = (decide (a < b) && incr (b :: t)) := by rw [incr]

theorem incr_short (p : List Int) (h : p.length ≤ 1) : incr p = true := by
  match p, h with
  | [], _ => rfl
  | [a], _ => rfl
  | a :: b :: t, h => simp at h

def rise (lo hi : Int) (xs : List Int) : Bool := xs.all (inB lo hi) && incr xs

theorem l1Rising_ev (xs : List Int) (lo hi : Int) (hx : xs.length < 9223372036854775807) : Ev (fun k => spec_l1Rising.f k xs lo hi) (rise lo hi xs) := by
  unfold spec_l1Rising.f rise
  have key : ∀ (d i : Nat), i + d = xs.length → Ev (fun k => spec_l1Rising.l0 k xs lo hi xs (xs.length : Int) (i : Int)) ((xs.drop i).all (inB lo hi) && incr (xs.drop (i - 1))) := by
    intro d
    induction d with
    | zero =>
      intro i hi
      refine Ev.step (fun k => by rw [spec_l1Rising.l0]) ?_
      refine Ev.neg (by omega) (Ev.cast ?_ (Ev.now _))
      rw [dr0 _ _ (by omega), incr_short _ (by rw [List.length_drop]; omega)]; rfl
    | succ d ih =>
      intro i hd
      refine Ev.step (fun k => by rw [spec_l1Rising.l0]) ?_
      refine Ev.pos (by omega) (Ev.pos (nn _) (Ev.pos (by omega) ?_))
      rw [rd_get xs i (by omega), l1In_eq]
      refine Ev.sbind (Ev.cases (fun h => ?_) (fun h => Ev.cast (by rw [dr xs i (by omega), List.all_cons, inB, bf h]; rfl) (Ev.now _)))
      rw [dr xs i (by omega), List.all_cons, inB, h, Bool.true_and]
      refine Ev.cases (fun h1 => ?_) (fun h1 => ?_)
      · have e : wrap64 ((i : Int) - 1) = ((i - 1 : Nat) : Int) := by rw [wr _ (by omega) (by omega)]; omega
        rw [e]
        refine Ev.pos (nn _) (Ev.pos (by omega) ?_)
        rw [rd_get xs (i - 1) (by omega), dr xs (i - 1) (by omega), show i - 1 + 1 = i by omega, dr xs i (by omega), incr_cons]
        refine Ev.cases (fun h2 => Ev.cast (by rw [decide_eq_false (show ¬ xs[i - 1] < xs[i] by omega)]; simp) (Ev.now _)) (fun h2 => ?_)
        rw [decide_eq_true (show xs[i - 1] < xs[i] by omega), Bool.true_and, ← dr xs i (by omega), wr_nat i xs.length (by omega) hx]
        exact ih (i + 1) (by omega)
      · obtain rfl : i = 0 := by omega
        rw [wr_nat 0 xs.length (by omega) hx]
        exact ih 1 (by omega)
  exact key xs.length 0 (by omega)

theorem areBlocks_ev (xs : List Int) (n : Int) (hx : xs.length < 9223372036854775807) : Ev (fun k => impl_areBlocks.f k xs n) (rise 0 (n - 1) xs) := by
  unfold impl_areBlocks.f rise
  have key : ∀ (d i : Nat), i + d = xs.length → Ev (fun k => impl_areBlocks.l0 k xs n xs (xs.length : Int) (i : Int)) ((xs.drop i).all (inB 0 (n - 1)) && incr (xs.drop (i - 1))) := by
    intro d
    induction d with
    | zero =>
      intro i hi
      refine Ev.step (fun k => by rw [impl_areBlocks.l0]) ?_
      refine Ev.neg (by omega) (Ev.cast ?_ (Ev.now _))
      rw [dr0 _ _ (by omega), incr_short _ (by rw [List.length_drop]; omega)]; rfl
    | succ d ih =>
      intro i hd
      refine Ev.step (fun k => by rw [impl_areBlocks.l0]) ?_
      refine Ev.pos (by omega) (Ev.pos (nn _) (Ev.pos (by omega) ?_))
      rw [rd_get xs i (by omega), dr xs i (by omega), List.all_cons]
      refine Ev.cases (fun h => Ev.cast (by rw [inB, decide_eq_false (by omega)]; rfl) (Ev.now _)) (fun h1 => ?_)
      refine Ev.cases (fun h => Ev.cast (by rw [inB, decide_eq_false (by omega)]; rfl) (Ev.now _)) (fun h2 => ?_)
      rw [inB, decide_eq_true (show 0 ≤ xs[i] ∧ xs[i] ≤ n - 1 by omega), Bool.true_and]
      refine Ev.cases (fun h3 => ?_) (fun h3 => ?_)
      · have e : wrap64 ((i : Int) - 1) = ((i - 1 : Nat) : Int) := by rw [wr _ (by omega) (by omega)]; omega
        rw [e]
        refine Ev.pos (nn _) (Ev.pos (by omega) ?_)
        rw [rd_get xs (i - 1) (by omega), dr xs (i - 1) (by omega), show i - 1 + 1 = i by omega, dr xs i (by omega), incr_cons]
        refine Ev.cases (fun h2 => Ev.cast (by rw [decide_eq_false (show ¬ xs[i - 1] < xs[i] by omega)]; simp) (Ev.now _)) (fun h2 => ?_)
        rw [decide_eq_true (show xs[i - 1] < xs[i] by omega), Bool.true_and, ← dr xs i (by omega), wr_nat i xs.length (by omega) hx]
        exact ih (i + 1) (by omega)
      · obtain rfl : i = 0 := by omega
        rw [wr_nat 0 xs.length (by omega) hx]
        exact ih 1 (by omega)
  exact key xs.length 0 (by omega)

theorem rise_mem {lo hi : Int} {xs : List Int} (h : rise lo hi xs = true) {x : Int} (hx : x ∈ xs) : lo ≤ x ∧ x ≤ hi := by
  unfold rise at h
  rw [Bool.and_eq_true, List.all_eq_true] at h
  exact of_decide_eq_true (h.1 x hx)

def marks (n : Nat) (l : List Int) : List Bool := (List.range n).map fun i : Nat => decide ((i : Int) ∈ l)

theorem marks_len (n : Nat) (l : List Int) : (marks n l).length = n := by simp [marks]

theorem marks_get (n : Nat) (l : List Int) (i : Nat) (h : i < n) : (marks n l).getD i false = decide ((i : Int) ∈ l) := by
  unfold marks
  rw [List.getD_eq_getElem?_getD, List.getElem?_map, List.getElem?_range h]; rfl

theorem marks_set (n : Nat) (l : List Int) (x : Int) (h0 : 0 ≤ x) : (marks n l).set x.toNat true = marks n (l ++ [x]) := by
  apply List.ext_getElem (by simp [marks])
  intro i h1 h2
  rw [List.getElem_set]
  simp only [marks, List.getElem_map, List.getElem_range, List.mem_append, List.mem_singleton]
  split
  · rename_i e
    rw [eq_comm, decide_eq_true_eq]
    right; omega
  · rename_i e
    apply decide_eq_decide.2
    constructor
    · exact Or.inl
    · rintro (h | h)
      · exact h
      · omega

theorem markOf_l (n : Nat) (l : List Int) (hl : l.length < 9223372036854775807) (hb : ∀ x ∈ l, 0 ≤ x ∧ x < n) : ∀ (d i : Nat), i + d = l.length → Ev (fun k => impl_markOf.l0 k (marks n (l.take i)) l (l.length : Int) (i : Int)) (marks n l) := by
  intro d
  induction d with
  | zero =>
    intro i hi
    refine Ev.step (fun k => by rw [impl_markOf.l0]) ?_
    exact Ev.neg (by omega) (Ev.cast (by rw [List.take_of_length_le (by omega)]) (Ev.now _))
  | succ d ih =>
    intro i hi
    refine Ev.step (fun k => by rw [impl_markOf.l0]) ?_
    have b := hb l[i] (List.getElem_mem _)
    rw [rd_get l i (by omega), marks_len]
    refine Ev.pos (by omega) (Ev.pos (nn _) (Ev.pos (by omega) (Ev.pos b.1 (Ev.pos b.2 ?_))))
    rw [marks_set _ _ _ b.1, ← List.take_succ_eq_append_getElem (by omega), wr_nat i l.length (by omega) hl]
    exact ih (i + 1) (by omega)

theorem marks_nil (n : Nat) : marks n [] = List.replicate n false := by
  apply List.ext_getElem (by simp [marks])
  intro i h1 h2
  simp [marks]

theorem markOf_ev (n : Nat) (l : List Int) (hn : n ≤ 1000000) (hl : l.length < 9223372036854775807) (hb : ∀ x ∈ l, 0 ≤ x ∧ x < n) : Ev (fun k => impl_markOf.f k (n : Int) l) (marks n l) := by
  unfold impl_markOf.f
  refine Ev.pos (nn _) (Ev.pos (by omega) ?_)
  rw [Int.toNat_natCast, ← marks_nil]
  exact markOf_l n l hl hb l.length 0 (by omega)

theorem allIn_ev (m : List Bool) (l : List Int) (hl : l.length < 9223372036854775807) (hb : ∀ x ∈ l, 0 ≤ x ∧ x < m.length) : Ev (fun k => impl_allIn.f k m l) (l.all fun x => m.getD x.toNat false) := by
  unfold impl_allIn.f
  have key : ∀ (d i : Nat), i + d = l.length → Ev (fun k => impl_allIn.l0 k m l (l.length : Int) (i : Int)) ((l.drop i).all fun x => m.getD x.toNat false) := by
    intro d
    induction d with
    | zero =>
      intro i hi
      refine Ev.step (fun k => by rw [impl_allIn.l0]) ?_
      refine Ev.neg (by omega) (Ev.cast ?_ (Ev.now _))
      rw [dr0 _ _ (by omega)]; rfl
    | succ d ih =>
      intro i hi
      refine Ev.step (fun k => by rw [impl_allIn.l0]) ?_
      have b := hb l[i] (List.getElem_mem _)
      rw [rd_get l i (by omega), dr l i (by omega), List.all_cons]
      refine Ev.pos (by omega) (Ev.pos (nn _) (Ev.pos (by omega) (Ev.pos b.1 (Ev.pos b.2 ?_))))
      unfold rdOf
      refine Ev.cases (fun h => ?_) (fun h => Ev.cast (by rw [bf h]; rfl) (Ev.now _))
      rw [wr_nat i l.length (by omega) hl, h, Bool.true_and]
      exact ih (i + 1) (by omega)
  exact key l.length 0 (by omega)

theorem clMarks_l (n : Nat) (l : List Int) (hl : l.length < 9223372036854775807) (hb : ∀ x ∈ l, 0 ≤ x ∧ x < n) : ∀ (d i : Nat), i + d = l.length → Ev (fun k => spec_clMarks.l0 k (marks n (l.take i)) l (l.length : Int) (i : Int)) (marks n l) := by
  intro d
  induction d with
  | zero =>
    intro i hi
    refine Ev.step (fun k => by rw [spec_clMarks.l0]) ?_
    exact Ev.neg (by omega) (Ev.cast (by rw [List.take_of_length_le (by omega)]) (Ev.now _))
  | succ d ih =>
    intro i hi
    refine Ev.step (fun k => by rw [spec_clMarks.l0]) ?_
    have b := hb l[i] (List.getElem_mem _)
    rw [rd_get l i (by omega), marks_len]
    refine Ev.pos (by omega) (Ev.pos (nn _) (Ev.pos (by omega) (Ev.pos b.1 (Ev.pos b.2 ?_))))
    rw [marks_set _ _ _ b.1, ← List.take_succ_eq_append_getElem (by omega), wr_nat i l.length (by omega) hl]
    exact ih (i + 1) (by omega)

theorem clMarks_ev (n : Nat) (l : List Int) (hn : n ≤ 1000000) (hl : l.length < 9223372036854775807) (hb : ∀ x ∈ l, 0 ≤ x ∧ x < n) : Ev (fun k => spec_clMarks.f k (n : Int) l) (marks n l) := by
  unfold spec_clMarks.f
  refine Ev.pos (nn _) (Ev.pos (by omega) ?_)
  rw [Int.toNat_natCast, ← marks_nil]
  exact clMarks_l n l hl hb l.length 0 (by omega)

theorem rise_in {n : Nat} {l : List Int} (h : rise 0 ((n : Int) - 1) l = true) : ∀ x ∈ l, 0 ≤ x ∧ x < (n : Int) := by
  intro x hx
  have := rise_mem h hx
  omega

theorem mulb (a b A B : Int) (h0 : 0 ≤ a) (h1 : a ≤ A) (h2 : 0 ≤ b) (h3 : b ≤ B) : 0 ≤ a * b ∧ a * b ≤ A * B :=
  ⟨Int.mul_nonneg h0 h2, Int.mul_le_mul h1 h3 h2 (by omega)⟩

def gridOk (x y z : Int) : Bool := decide ((1 ≤ x ∧ x ≤ 8) ∧ (1 ≤ y ∧ y ≤ 6) ∧ (1 ≤ z ∧ z ≤ 5) ∧ x * y * z ≤ 120)

theorem cells_wr (x y z : Int) (hx : 1 ≤ x ∧ x ≤ 8) (hy : 1 ≤ y ∧ y ≤ 6) (hz : 1 ≤ z ∧ z ≤ 5) : wrap64 (wrap64 (x * y) * z) = x * y * z ∧ 0 ≤ x * y ∧ x * y ≤ 48 ∧ 0 ≤ x * y * z ∧ x * y * z ≤ 240 := by
  have a := mulb x y 8 6 (by omega) hx.2 (by omega) hy.2
  have b := mulb (x * y) z 48 5 a.1 (by omega) (by omega) hz.2
  refine ⟨?_, a.1, by omega, b.1, by omega⟩
  rw [wr (x * y) (by omega) (by omega), wr _ (by omega) (by omega)]

theorem IsGrid_eq (x y z : Int) : impl_IsGrid.f x y z = some (gridOk x y z) := by
  unfold impl_IsGrid.f gridOk
  by_cases h : (1 ≤ x ∧ x ≤ 8) ∧ (1 ≤ y ∧ y ≤ 6) ∧ (1 ≤ z ∧ z ≤ 5)
  · have c := cells_wr x y z h.1 h.2.1 h.2.2
    rw [if_pos h.1.1, if_pos h.1.2, if_pos h.2.1.1, if_pos h.2.1.2, if_pos h.2.2.1, if_pos h.2.2.2, c.1]
    congr 1
    exact decide_eq_decide.2 ⟨fun q => ⟨h.1, h.2.1, h.2.2, q⟩, fun q => q.2.2.2⟩
  · have q : ¬ ((1 ≤ x ∧ x ≤ 8) ∧ (1 ≤ y ∧ y ≤ 6) ∧ (1 ≤ z ∧ z ≤ 5) ∧ x * y * z ≤ 120) := fun e => h ⟨e.1, e.2.1, e.2.2.1⟩
    rw [decide_eq_false q]
    by_cases h1 : x ≥ 1
    · rw [if_pos h1]
      by_cases h2 : x ≤ 8
      · rw [if_pos h2]
        by_cases h3 : y ≥ 1
        · rw [if_pos h3]
          by_cases h4 : y ≤ 6
          · rw [if_pos h4]
            by_cases h5 : z ≥ 1
            · rw [if_pos h5]
              by_cases h6 : z ≤ 5
              · exact absurd ⟨⟨h1, h2⟩, ⟨h3, h4⟩, ⟨h5, h6⟩⟩ h
              · rw [if_neg h6]
            · rw [if_neg h5]
          · rw [if_neg h4]
        · rw [if_neg h3]
      · rw [if_neg h2]
    · rw [if_neg h1]

theorem grGood_eq (x y z : Int) : spec_grGood.f x y z = some (gridOk x y z) := by
  unfold spec_grGood.f gridOk
  rw [l1In_eq, l1In_eq, l1In_eq]
  simp only [Option.bind_some, decide_eq_true_eq]
  by_cases h1 : 1 ≤ x ∧ x ≤ 8
  · by_cases h2 : 1 ≤ y ∧ y ≤ 6
    · by_cases h3 : 1 ≤ z ∧ z ≤ 5
      · have c := cells_wr x y z h1 h2 h3
        rw [if_pos h1, if_pos h2, if_pos h3, c.1]
        congr 1
        exact decide_eq_decide.2 ⟨fun q => ⟨h1, h2, h3, q⟩, fun q => q.2.2.2⟩
      · rw [if_pos h1, if_pos h2, if_neg h3, decide_eq_false (fun e => h3 e.2.2.1)]
    · rw [if_pos h1, if_neg h2, decide_eq_false (fun e => h2 e.2.1)]
  · rw [if_neg h1, decide_eq_false (fun e => h1 e.1)]

structure GridIn (X Y Z : Nat) : Prop where
  x : 1 ≤ X ∧ X ≤ 8
  y : 1 ≤ Y ∧ Y ≤ 6
  z : 1 ≤ Z ∧ Z ≤ 5
  n : X * Y * Z ≤ 120

theorem grid_nat {x y z : Int} (h : gridOk x y z = true) : ∃ X Y Z : Nat, x = (X : Int) ∧ y = (Y : Int) ∧ z = (Z : Int) ∧ GridIn X Y Z := by
  have h := of_decide_eq_true h
  obtain ⟨X, rfl⟩ := Int.eq_ofNat_of_zero_le (show 0 ≤ x by omega)
  obtain ⟨Y, rfl⟩ := Int.eq_ofNat_of_zero_le (show 0 ≤ y by omega)
  obtain ⟨Z, rfl⟩ := Int.eq_ofNat_of_zero_le (show 0 ≤ z by omega)
  refine ⟨X, Y, Z, rfl, rfl, rfl, ⟨by omega, by omega, by omega, ?_⟩⟩
  have := h.2.2.2
  rw [← Int.natCast_mul, ← Int.natCast_mul] at this
  omega

theorem grCount_eq {X Y Z : Nat} (g : GridIn X Y Z) : spec_grCount.f (X : Int) (Y : Int) (Z : Int) = some ((X * Y * Z : Nat) : Int) := by
  unfold spec_grCount.f
  have c := cells_wr X Y Z (by have := g.x; omega) (by have := g.y; omega) (by have := g.z; omega)
  rw [c.1]
  simp

theorem blocksOf_eq {X Y Z : Nat} (g : GridIn X Y Z) : impl_blocksOf.f (X : Int) (Y : Int) (Z : Int) = some ((X * Y * Z : Nat) : Int) := by
  unfold impl_blocksOf.f
  have c := cells_wr X Y Z (by have := g.x; omega) (by have := g.y; omega) (by have := g.z; omega)
  rw [c.1]
  simp

def blk (X Y : Nat) (x y z : Nat) : Nat := (z * Y + y) * X + x

theorem blk_lt {X Y Z x y z : Nat} (hx : x < X) (hy : y < Y) (hz : z < Z) : blk X Y x y z < X * Y * Z := by
  unfold blk
  have h1 : z * Y + y + 1 ≤ Z * Y := by
    have := Nat.mul_le_mul_right Y (show z + 1 ≤ Z by omega)
    rw [Nat.succ_mul] at this
    omega
  have h2 := Nat.mul_le_mul_right X h1
  rw [Nat.succ_mul] at h2
  rw [show X * Y * Z = Z * Y * X by rw [Nat.mul_comm X Y, Nat.mul_comm (Y * X) Z, Nat.mul_assoc]]
  omega

theorem blk_x {X Y x y z : Nat} (hx : x < X) : blk X Y x y z % X = x := by
  unfold blk
  rw [Nat.add_comm, Nat.add_mul_mod_self_right, Nat.mod_eq_of_lt hx]

theorem blk_d {X Y x y z : Nat} (hx : x < X) : blk X Y x y z / X = z * Y + y := by
  unfold blk
  rw [Nat.add_comm, Nat.add_mul_div_right _ _ (by omega), Nat.div_eq_of_lt hx, Nat.zero_add]

theorem blk_y {X Y x y z : Nat} (hx : x < X) (hy : y < Y) : blk X Y x y z / X % Y = y := by
  rw [blk_d hx, Nat.add_comm, Nat.add_mul_mod_self_right, Nat.mod_eq_of_lt hy]

theorem blk_z {X Y x y z : Nat} (hx : x < X) (hy : y < Y) : blk X Y x y z / X / Y = z := by
  rw [blk_d hx, Nat.add_comm, Nat.add_mul_div_right _ _ (by omega), Nat.div_eq_of_lt hy, Nat.zero_add]

theorem place_lt {X Y Z i : Nat} (g : GridIn X Y Z) (h : i < X * Y * Z) : i % X < X ∧ i / X % Y < Y ∧ i / X / Y < Z := by
  have := g.x
  have := g.y
  refine ⟨Nat.mod_lt _ (by omega), Nat.mod_lt _ (by omega), ?_⟩
  rw [Nat.div_div_eq_div_mul]
  exact Nat.div_lt_of_lt_mul h

def sqRow (X Y x y z w : Nat) : List Int := (List.range' x w).map fun x => ((blk X Y x y z : Nat) : Int)

def sqL (X Y x y z w : Nat) : List Int := ((List.range' y w).map fun y => sqRow X Y x y z w).flatten

theorem sq_mem {X Y x y z w : Nat} {b : Int} : b ∈ sqL X Y x y z w ↔ ∃ x' y', (x ≤ x' ∧ x' < x + w) ∧ (y ≤ y' ∧ y' < y + w) ∧ b = ((blk X Y x' y' z : Nat) : Int) := by
  unfold sqL sqRow
  simp only [List.mem_flatten, List.mem_map, List.mem_range'_1]
  constructor
  · rintro ⟨l, ⟨y', hy, rfl⟩, h⟩
    obtain ⟨x', hx, rfl⟩ := List.mem_map.1 h
    exact ⟨x', y', by simpa using hx, hy, rfl⟩
  · rintro ⟨x', y', hx, hy, rfl⟩
    exact ⟨_, ⟨y', hy, rfl⟩, List.mem_map.2 ⟨x', by simpa using hx, rfl⟩⟩

theorem sq_len (X Y x y z w : Nat) : (sqL X Y x y z w).length = w * w := by
  unfold sqL
  rw [List.length_flatten, List.map_map]
  have : (List.length ∘ fun y => sqRow X Y x y z w) = fun _ => w := by funext y; simp [sqRow]
  rw [this, List.map_const', List.sum_replicate_nat, List.length_range']

theorem sq_in {X Y Z x y z w : Nat} (hx : x + w ≤ X) (hy : y + w ≤ Y) (hz : z < Z) : ∀ b ∈ sqL X Y x y z w, 0 ≤ b ∧ b < ((X * Y * Z : Nat) : Int) := by
  intro b hb
  obtain ⟨x', y', h1, h2, rfl⟩ := sq_mem.1 hb
  have := blk_lt (show x' < X by omega) (show y' < Y by omega) hz
  omega

theorem blk_wr {X Y Z : Nat} (g : GridIn X Y Z) {x y z : Nat} (hx : x ≤ 20) (hy : y ≤ 20) (hz : z ≤ 20) : wrap64 (wrap64 (wrap64 (wrap64 ((z : Int) * (Y : Int)) + (y : Int)) * (X : Int)) + (x : Int)) = ((blk X Y x y z : Nat) : Int) := by
  have gx := g.x
  have gy := g.y
  have a := mulb z Y 20 6 (by omega) (by omega) (by omega) (by omega)
  rw [wr ((z : Int) * (Y : Int)) (by omega) (by omega), wr ((z : Int) * (Y : Int) + (y : Int)) (by omega) (by omega)]
  have b := mulb ((z : Int) * (Y : Int) + (y : Int)) X 140 8 (by omega) (by omega) (by omega) (by omega)
  rw [wr (((z : Int) * (Y : Int) + (y : Int)) * (X : Int)) (by omega) (by omega), wr _ (by omega) (by omega)]
  unfold blk
  push_cast
  rfl

theorem squareAt_l1 {X Y Z : Nat} (g : GridIn X Y Z) (x y z w yy : Nat) (hx : x + w ≤ 20) (hy : yy ≤ 20) (hz : z ≤ 20) (acc : List Int) (ha : acc.length ≤ 1000) (r : List Int)
    (hk : Ev (fun k => impl_squareAt.l0 k (x : Int) (y : Int) (z : Int) (w : Int) (acc ++ sqRow X Y x yy z w) (wrap64 ((yy : Int) + 1)) (X : Int) (Y : Int) (Z : Int)) r) : ∀ (d i : Nat), i + d = w →
    Ev (fun k => impl_squareAt.l1 k (x : Int) (y : Int) (z : Int) (w : Int) (acc ++ (List.range' x i).map fun x => ((blk X Y x yy z : Nat) : Int)) (yy : Int) ((x + i : Nat) : Int) (X : Int) (Y : Int) (Z : Int)) r := by
  have e0 : wrap64 ((x : Int) + (w : Int)) = ((x + w : Nat) : Int) := by rw [wr _ (by omega) (by omega)]; omega
  intro d
  induction d with
  | zero =>
    intro i hi
    refine Ev.step (fun k => by rw [impl_squareAt.l1]) ?_
    rw [e0]
    refine Ev.neg (by omega) ?_
    rw [show i = w by omega]
    exact hk
  | succ d ih =>
    intro i hi
    refine Ev.step (fun k => by rw [impl_squareAt.l1]) ?_
    rw [e0]
    refine Ev.pos (by omega) ?_
    unfold impl_blockAt.f
    rw [blk_wr g (x := x + i) (y := yy) (z := z) (by omega) (by omega) (by omega)]
    refine Ev.sbind (Ev.pos (by simp; omega) ?_)
    have e := ih (i + 1) (by omega)
    rw [List.range'_1_concat, List.map_append, List.map_singleton, ← List.append_assoc] at e
    rw [wr_nat (x + i) 100 (by omega) (by omega)]
    exact e

theorem squareAt_ev {X Y Z : Nat} (g : GridIn X Y Z) (x y z w : Nat) (hx : x + w ≤ 20) (hy : y + w ≤ 20) (hz : z ≤ 20) : Ev (fun k => impl_squareAt.f k (X : Int) (Y : Int) (Z : Int) (x : Int) (y : Int) (z : Int) (w : Int)) (sqL X Y x y z w) := by
  unfold impl_squareAt.f
  have e0 : wrap64 ((y : Int) + (w : Int)) = ((y + w : Nat) : Int) := by rw [wr _ (by omega) (by omega)]; omega
  have key : ∀ (d i : Nat), i + d = w → Ev (fun k => impl_squareAt.l0 k (x : Int) (y : Int) (z : Int) (w : Int) (((List.range' y i).map fun y => sqRow X Y x y z w).flatten) ((y + i : Nat) : Int) (X : Int) (Y : Int) (Z : Int)) (sqL X Y x y z w) := by
    intro d
    induction d with
    | zero =>
      intro i hi
      refine Ev.step (fun k => by rw [impl_squareAt.l0]) ?_
      rw [e0]
      exact Ev.neg (by omega) (Ev.cast (by rw [show i = w by omega]; rfl) (Ev.now _))
    | succ d ih =>
      intro i hi
      refine Ev.step (fun k => by rw [impl_squareAt.l0]) ?_
      rw [e0]
      refine Ev.pos (by omega) ?_
      have e := ih (i + 1) (by omega)
      rw [List.range'_1_concat, List.map_append, List.flatten_append, List.map_singleton, List.flatten_singleton, show y + (i + 1) = y + i + 1 by omega, ← wr_nat (y + i) 100 (by omega) (by omega)] at e
      have hl : (((List.range' y i).map fun y => sqRow X Y x y z w).flatten).length ≤ 1000 := by
        have : (((List.range' y i).map fun y => sqRow X Y x y z w).flatten).length = i * w := by
          rw [List.length_flatten, List.map_map]
          have : (List.length ∘ fun y => sqRow X Y x y z w) = fun _ => w := by funext y; simp [sqRow]
          rw [this, List.map_const', List.sum_replicate_nat, List.length_range']
        rw [this]
        exact Nat.le_trans (Nat.mul_le_mul (show i ≤ 20 by omega) (show w ≤ 20 by omega)) (by omega)
      simpa using squareAt_l1 g x y z w (y + i) hx (by omega) hz _ hl _ e w 0 (Nat.zero_add _)
  simpa using key w 0 (Nat.zero_add _)

theorem grAt_eq {X Y Z : Nat} (g : GridIn X Y Z) {x y z : Nat} (hx : x < X) (hy : y < Y) (hz : z < Z) : spec_grAt.f (X : Int) (Y : Int) (Z : Int) (x : Int) (y : Int) (z : Int) = some ((blk X Y x y z : Nat) : Int) := by
  unfold spec_grAt.f
  have gx := g.x
  have gy := g.y
  have gz := g.z
  rw [wr ((X : Int) - 1) (by omega) (by omega), wr ((Y : Int) - 1) (by omega) (by omega), wr ((Z : Int) - 1) (by omega) (by omega), l1In_eq, l1In_eq, l1In_eq]
  simp only [Option.bind_some, decide_eq_true_eq]
  rw [if_pos (by omega), if_pos (by omega), if_pos (by omega), blk_wr g (by omega) (by omega) (by omega)]

theorem phSquare_l1 {X Y Z : Nat} (g : GridIn X Y Z) (x y z w yy : Nat) (hx : x + w ≤ X) (hy : y + yy < Y) (hz : z < Z) (acc : List Int) (ha : acc.length ≤ 1000) (r : List Int)
    (hk : Ev (fun k => spec_phSquare.l0 k (w : Int) (x : Int) (y : Int) (z : Int) (acc ++ sqRow X Y x (y + yy) z w) (wrap64 ((yy : Int) + 1)) (X : Int) (Y : Int) (Z : Int)) r) : ∀ (d i : Nat), i + d = w →
    Ev (fun k => spec_phSquare.l1 k (w : Int) (x : Int) (y : Int) (z : Int) (acc ++ (List.range' x i).map fun x => ((blk X Y x (y + yy) z : Nat) : Int)) (yy : Int) (i : Int) (X : Int) (Y : Int) (Z : Int)) r := by
  have gx := g.x
  have gy := g.y
  intro d
  induction d with
  | zero =>
    intro i hi
    refine Ev.step (fun k => by rw [spec_phSquare.l1]) ?_
    refine Ev.neg (by omega) ?_
    rw [show i = w by omega]
    exact hk
  | succ d ih =>
    intro i hi
    refine Ev.step (fun k => by rw [spec_phSquare.l1]) ?_
    refine Ev.pos (by omega) ?_
    rw [show wrap64 ((x : Int) + (i : Int)) = ((x + i : Nat) : Int) by rw [wr _ (by omega) (by omega)]; omega, show wrap64 ((y : Int) + (yy : Int)) = ((y + yy : Nat) : Int) by rw [wr _ (by omega) (by omega)]; omega, grAt_eq g (by omega) hy hz]
    refine Ev.sbind (Ev.pos (by simp; omega) ?_)
    have e := ih (i + 1) (by omega)
    rw [List.range'_1_concat, List.map_append, List.map_singleton, ← List.append_assoc] at e
    rw [wr_nat i 100 (by omega) (by omega)]
    exact e

theorem phSquare_l0 {X Y Z : Nat} (g : GridIn X Y Z) (x y z w : Nat) (hx : x + w ≤ X) (hy : y + w ≤ Y) (hz : z < Z) : Ev (fun k => spec_phSquare.l0 k (w : Int) (x : Int) (y : Int) (z : Int) [] 0 (X : Int) (Y : Int) (Z : Int)) (sqL X Y x y z w) := by
  have gx := g.x
  have gy := g.y
  have key : ∀ (d i : Nat), i + d = w → Ev (fun k => spec_phSquare.l0 k (w : Int) (x : Int) (y : Int) (z : Int) (((List.range' y i).map fun y => sqRow X Y x y z w).flatten) (i : Int) (X : Int) (Y : Int) (Z : Int)) (sqL X Y x y z w) := by
    intro d
    induction d with
    | zero =>
      intro i hi
      refine Ev.step (fun k => by rw [spec_phSquare.l0]) ?_
      exact Ev.neg (by omega) (Ev.cast (by rw [show i = w by omega]; rfl) (Ev.now _))
    | succ d ih =>
      intro i hi
      refine Ev.step (fun k => by rw [spec_phSquare.l0]) ?_
      refine Ev.pos (by omega) ?_
      have e := ih (i + 1) (by omega)
      rw [List.range'_1_concat, List.map_append, List.flatten_append, List.map_singleton, List.flatten_singleton, ← wr_nat i 100 (by omega) (by omega)] at e
      have hl : (((List.range' y i).map fun y => sqRow X Y x y z w).flatten).length ≤ 1000 := by
        have : (((List.range' y i).map fun y => sqRow X Y x y z w).flatten).length = i * w := by
          rw [List.length_flatten, List.map_map]
          have : (List.length ∘ fun y => sqRow X Y x y z w) = fun _ => w := by funext y; simp [sqRow]
          rw [this, List.map_const', List.sum_replicate_nat, List.length_range']
        rw [this]
        exact Nat.le_trans (Nat.mul_le_mul (show i ≤ 20 by omega) (show w ≤ 20 by omega)) (by omega)
      simpa using phSquare_l1 g x y z w i hx (by omega) hz _ hl _ e w 0 (Nat.zero_add _)
  simpa using key w 0 (Nat.zero_add _)

theorem wr_cast (n : Nat) (h : n ≤ 1000000) : wrap64 (n : Int) = (n : Int) := wr _ (by omega) (by omega)

def sqAt (X Y : Nat) (w i : Nat) : List Int := if i % X + w ≤ X ∧ i / X % Y + w ≤ Y then sqL X Y (i % X) (i / X % Y) (i / X / Y) w else []

theorem phSquare_ev {X Y Z : Nat} (g : GridIn X Y Z) (w i : Nat) (hw : w ≤ 3) (hi : i < X * Y * Z) : Ev (fun k => spec_phSquare.f k (X : Int) (Y : Int) (Z : Int) (i : Int) (w : Int)) (sqAt X Y w i) := by
  have gx := g.x
  have gy := g.y
  have gn := g.n
  obtain ⟨px, py, pz⟩ := place_lt g hi
  have ed : Int.tdiv (i : Int) (X : Int) = ((i / X : Nat) : Int) := by rw [Int.tdiv_eq_ediv_of_nonneg (by omega)]; rfl
  have hle : i / X ≤ 120 := Nat.le_trans (Nat.div_le_self _ _) (by omega)
  have hle2 : i / X / Y ≤ 120 := Nat.le_trans (Nat.div_le_self _ _) hle
  have e1 : spec_grX.f (X : Int) (Y : Int) (Z : Int) (i : Int) = some ((i % X : Nat) : Int) := by
    unfold spec_grX.f
    rw [if_neg (by omega), Int.tmod_eq_emod_of_nonneg (by omega)]; rfl
  have e2 : spec_grY.f (X : Int) (Y : Int) (Z : Int) (i : Int) = some ((i / X % Y : Nat) : Int) := by
    unfold spec_grY.f
    rw [if_neg (by omega), if_neg (by omega), ed, wr_cast _ (by omega), Int.tmod_eq_emod_of_nonneg (Int.natCast_nonneg _)]; rfl
  have e3 : spec_grZ.f (X : Int) (Y : Int) (Z : Int) (i : Int) = some ((i / X / Y : Nat) : Int) := by
    unfold spec_grZ.f
    rw [if_neg (by omega), if_neg (by omega), ed, wr_cast _ (by omega), Int.tdiv_eq_ediv_of_nonneg (Int.natCast_nonneg _), show ((i / X : Nat) : Int) / (Y : Int) = ((i / X / Y : Nat) : Int) from rfl, wr_cast _ (by omega)]
  unfold spec_phSquare.f sqAt
  rw [e1, e2, e3]
  have J : ∀ b : Bool, b = true → ∀ r, r = [] → Ev (fun k => spec_phSquare.j0 k (w : Int) ((i % X : Nat) : Int) ((i / X % Y : Nat) : Int) ((i / X / Y : Nat) : Int) [] b (X : Int) (Y : Int) (Z : Int)) r := by
    rintro b rfl r rfl
    exact Ev.step (fun k => by rw [spec_phSquare.j0]) (Ev.pos rfl (Ev.now _))
  refine Ev.sbind (Ev.sbind (Ev.sbind ?_))
  rw [wr (((i % X : Nat) : Int) + (w : Int)) (by omega) (by omega), wr (((i / X % Y : Nat) : Int) + (w : Int)) (by omega) (by omega)]
  refine Ev.cases (fun h => J _ rfl _ (by rw [if_neg (fun e => by omega)])) (fun h => ?_)
  by_cases h2 : ((i / X % Y : Nat) : Int) + (w : Int) > (Y : Int)
  · exact J _ (decide_eq_true h2) _ (by rw [if_neg (fun e => by omega)])
  · rw [decide_eq_false h2, if_pos ⟨by omega, by omega⟩]
    refine Ev.step (fun k => by rw [spec_phSquare.j0]) (Ev.neg (by simp) ?_)
    exact phSquare_l0 g _ _ _ w (by omega) (by omega) pz

def trueIdx (m : List Bool) : List Int := ((List.range m.length).filter fun i => m.getD i false).map fun i : Nat => (i : Int)

def trueTo (m : List Bool) (n : Nat) : List Int := ((List.range n).filter fun i => m.getD i false).map fun i : Nat => (i : Int)

theorem trueTo_succ (m : List Bool) (n : Nat) : trueTo m (n + 1) = trueTo m n ++ (if m.getD n false = true then [(n : Int)] else []) := by
  unfold trueTo
  rw [List.range_succ, List.filter_append, List.map_append]
  congr 1
  by_cases h : m.getD n false = true
  · rw [if_pos h]; simp only [List.filter_cons, List.filter_nil, h, if_true, List.map_cons, List.map_nil]
  · rw [if_neg h]; simp only [List.filter_cons, List.filter_nil, h, if_false, List.map_nil]; rfl

theorem trueTo_len (m : List Bool) (n : Nat) : (trueTo m n).length ≤ n := by
  unfold trueTo
  rw [List.length_map]
  exact Nat.le_trans (List.length_filter_le _ _) (by simp)

theorem listOf_ev (m : List Bool) (hm : m.length ≤ 1000000) : Ev (fun k => impl_listOf.f k m) (trueIdx m) := by
  unfold impl_listOf.f
  have key : ∀ (d i : Nat), i + d = m.length → Ev (fun k => impl_listOf.l0 k (trueTo m i) m (m.length : Int) (i : Int)) (trueIdx m) := by
    intro d
    induction d with
    | zero =>
      intro i hd
      refine Ev.step (fun k => by rw [impl_listOf.l0]) ?_
      exact Ev.neg (by omega) (Ev.cast (by rw [trueIdx, trueTo, show i = m.length by omega]) (Ev.now _))
    | succ d ih =>
      intro i hd
      have e := ih (i + 1) (by omega)
      rw [trueTo_succ] at e
      have l := trueTo_len m i
      refine Ev.step (fun k => by rw [impl_listOf.l0]) ?_
      refine Ev.pos (by omega) (Ev.pos (nn _) (Ev.pos (by omega) ?_))
      rw [rdOf_nat, wr_nat i m.length (by omega) (by omega)]
      refine Ev.cases (fun h => Ev.pos (by omega) ?_) (fun h => ?_)
      · rw [if_pos h] at e; exact e
      · rw [if_neg h, List.append_nil] at e; exact e
  exact key m.length 0 (by omega)

theorem clList_ev (m : List Bool) (hm : m.length ≤ 1000000) : Ev (fun k => spec_clList.f k m) (trueIdx m) := by
  unfold spec_clList.f
  have key : ∀ (d i : Nat), i + d = m.length → Ev (fun k => spec_clList.l0 k (trueTo m i) m (m.length : Int) (i : Int)) (trueIdx m) := by
    intro d
    induction d with
    | zero =>
      intro i hd
      refine Ev.step (fun k => by rw [spec_clList.l0]) ?_
      exact Ev.neg (by omega) (Ev.cast (by rw [trueIdx, trueTo, show i = m.length by omega]) (Ev.now _))
    | succ d ih =>
      intro i hd
      have e := ih (i + 1) (by omega)
      rw [trueTo_succ] at e
      have l := trueTo_len m i
      refine Ev.step (fun k => by rw [spec_clList.l0]) ?_
      refine Ev.pos (by omega) (Ev.pos (nn _) (Ev.pos (by omega) ?_))
      rw [rdOf_nat, wr_nat i m.length (by omega) (by omega)]
      refine Ev.cases (fun h => Ev.pos (by omega) ?_) (fun h => ?_)
      · rw [if_pos h] at e; exact e
      · rw [if_neg h, List.append_nil] at e; exact e
  exact key m.length 0 (by omega)

def okS (m : List Bool) (s : List Int) : Bool := s.all fun k => m.getD k.toNat false

def addS (m : List Bool) (acc s : List Int) : List Int := if okS m s = true then acc ++ s else acc

theorem mem_foldl {α : Type} (f : List Int → α → List Int) (P : α → Int → Prop) (h : ∀ a x b, b ∈ f a x ↔ b ∈ a ∨ P x b) : ∀ (l : List α) (a : List Int) (b : Int), b ∈ l.foldl f a ↔ b ∈ a ∨ ∃ x ∈ l, P x b
  | [], a, b => by simp
  | x :: l, a, b => by
    rw [List.foldl_cons, mem_foldl f P h l, h]
    simp only [List.mem_cons, exists_eq_or_imp, or_assoc]

theorem mem_addS (m : List Bool) (a s : List Int) (b : Int) : b ∈ addS m a s ↔ b ∈ a ∨ (okS m s = true ∧ b ∈ s) := by
  unfold addS
  split
  · rename_i h; simp [h]
  · rename_i h; simp [h]

def wideRow (m : List Bool) (X Y w y z : Nat) (acc : List Int) : List Int := (List.range' 0 (X + 1 - w)).foldl (fun a x => addS m a (sqL X Y x y z w)) acc

def wideLev (m : List Bool) (X Y w z : Nat) (acc : List Int) : List Int := (List.range' 0 (Y + 1 - w)).foldl (fun a y => wideRow m X Y w y z a) acc

def wideI (m : List Bool) (X Y Z w : Nat) : List Int := (List.range' 0 Z).foldl (fun a z => wideLev m X Y w z a) []

def wideS (m : List Bool) (X Y Z w : Nat) : List Int := (List.range' 0 (X * Y * Z)).foldl (fun a i => addS m a (sqAt X Y w i)) []

theorem mem_wide (m : List Bool) {X Y Z : Nat} (w : Nat) (b : Int) (hw : 1 ≤ w) : b ∈ wideI m X Y Z w ↔ b ∈ wideS m X Y Z w := by
  unfold wideI wideS
  rw [mem_foldl _ (fun i b => okS m (sqAt X Y w i) = true ∧ b ∈ sqAt X Y w i) (fun a i b => mem_addS m a _ b)]
  rw [mem_foldl _ (fun z b => ∃ y ∈ List.range' 0 (Y + 1 - w), ∃ x ∈ List.range' 0 (X + 1 - w), okS m (sqL X Y x y z w) = true ∧ b ∈ sqL X Y x y z w) (fun a z b => by
    unfold wideLev
    rw [mem_foldl _ (fun y b => ∃ x ∈ List.range' 0 (X + 1 - w), okS m (sqL X Y x y z w) = true ∧ b ∈ sqL X Y x y z w) (fun a y b => by
      unfold wideRow
      rw [mem_foldl _ (fun x b => okS m (sqL X Y x y z w) = true ∧ b ∈ sqL X Y x y z w) (fun a x b => mem_addS m a _ b)])])]
  simp only [List.not_mem_nil, false_or, List.mem_range'_1, Nat.zero_le, true_and, Nat.zero_add]
  constructor
  · rintro ⟨z, hz, y, hy, x, hx, h1, h2⟩
    have e : sqAt X Y w (blk X Y x y z) = sqL X Y x y z w := by
      unfold sqAt
      rw [blk_x (by omega), blk_y (by omega) (by omega), blk_z (by omega) (by omega), if_pos (by omega)]
    exact ⟨blk X Y x y z, blk_lt (by omega) (by omega) hz, by rw [e]; exact h1, by rw [e]; exact h2⟩
  · rintro ⟨i, hi, h1, h2⟩
    unfold sqAt at h1 h2
    by_cases c : i % X + w ≤ X ∧ i / X % Y + w ≤ Y
    · rw [if_pos c] at h1 h2
      have hz : i / X / Y < Z := by
        rw [Nat.div_div_eq_div_mul]
        exact Nat.div_lt_of_lt_mul hi
      exact ⟨i / X / Y, hz, i / X % Y, by omega, i % X, by omega, h1, h2⟩
    · rw [if_neg c] at h2; cases h2

theorem marks_congr (n : Nat) (l l' : List Int) (h : ∀ b : Int, b ∈ l ↔ b ∈ l') : marks n l = marks n l' := by
  unfold marks
  exact List.map_congr_left (fun i _ => decide_eq_decide.2 (h i))

theorem marks_put (n : Nat) (l : List Int) (x : Int) (h0 : 0 ≤ x) (b : Bool) (hb : b = true → x ∈ l) (hn : b = false → x ∉ l) : (marks n l).set x.toNat b = marks n l := by
  apply List.ext_getElem (by simp)
  intro i h1 h2
  rw [List.getElem_set]
  split
  · rename_i e
    subst e
    simp only [marks, List.getElem_map, List.getElem_range]
    rw [Int.toNat_of_nonneg h0]
    cases b with
    | true => rw [decide_eq_true (hb rfl)]
    | false => rw [decide_eq_false (hn rfl)]
  · rfl

theorem wideOf_l3 (m : List Bool) (n : Nat) (hn : n ≤ 120) (w y z : Int) (x : Int) (X Y Z : Int) (s : List Int) (hs : ∀ b ∈ s, 0 ≤ b ∧ b < (n : Int)) (hl : s.length ≤ 1000) (r : List Bool) : ∀ (d i : Nat) (acc : List Int), i + d = s.length →
    Ev (fun k => impl_wideOf.l2 k m w (marks n (acc ++ s.drop i)) z y (wrap64 (x + 1)) X Y Z) r →
    Ev (fun k => impl_wideOf.l3 k m w (marks n acc) z y x s (s.length : Int) (i : Int) X Y Z) r := by
  intro d
  induction d with
  | zero =>
    intro i acc hd h
    refine Ev.step (fun k => by rw [impl_wideOf.l3]) ?_
    refine Ev.neg (by omega) ?_
    rw [dr0 _ _ (by omega), List.append_nil] at h
    exact h
  | succ d ih =>
    intro i acc hd h
    refine Ev.step (fun k => by rw [impl_wideOf.l3]) ?_
    have b := hs s[i] (List.getElem_mem _)
    rw [rd_get s i (by omega), marks_len]
    refine Ev.pos (by omega) (Ev.pos (nn _) (Ev.pos (by omega) (Ev.pos b.1 (Ev.pos b.2 ?_))))
    rw [marks_set _ _ _ b.1, wr_nat i s.length (by omega) (by omega)]
    refine ih (i + 1) (acc ++ [s[i]]) (by omega) ?_
    rw [List.append_assoc, List.singleton_append, ← dr s i (by omega)]
    exact h

theorem wideOf_l2 {X Y Z : Nat} (g : GridIn X Y Z) (m : List Bool) (hm : m.length = X * Y * Z) (w y z : Nat) (hw : w ≤ 3) (hy : y + w ≤ Y) (hz : z < Z) (r : List Bool) : ∀ (d x : Nat) (acc : List Int), x + d = X + 1 - w →
    Ev (fun k => impl_wideOf.l1 k m (w : Int) (marks (X * Y * Z) ((List.range' x d).foldl (fun a x => addS m a (sqL X Y x y z w)) acc)) (z : Int) (wrap64 ((y : Int) + 1)) (X : Int) (Y : Int) (Z : Int)) r →
    Ev (fun k => impl_wideOf.l2 k m (w : Int) (marks (X * Y * Z) acc) (z : Int) (y : Int) (x : Int) (X : Int) (Y : Int) (Z : Int)) r := by
  have gx := g.x
  have gy := g.y
  have gz := g.z
  have gn := g.n
  intro d
  induction d with
  | zero =>
    intro x acc hd h
    refine Ev.step (fun k => by rw [impl_wideOf.l2]) ?_
    rw [wr ((x : Int) + (w : Int)) (by omega) (by omega)]
    exact Ev.neg (by omega) h
  | succ d ih =>
    intro x acc hd h
    refine Ev.step (fun k => by rw [impl_wideOf.l2]) ?_
    rw [wr ((x : Int) + (w : Int)) (by omega) (by omega)]
    have hin := sq_in (X := X) (Y := Y) (Z := Z) (x := x) (y := y) (z := z) (w := w) (by omega) hy hz
    have hlen := sq_len X Y x y z w
    have hww : w * w ≤ 9 := Nat.mul_le_mul hw hw
    refine Ev.pos (by omega) (Ev.bind (squareAt_ev g x y z w (by omega) (by omega) (by omega)) ?_)
    refine Ev.bind (allIn_ev m (sqL X Y x y z w) (by omega) (by rw [hm]; exact hin)) ?_
    rw [List.range'_succ, List.foldl_cons] at h
    have e1 : wrap64 ((x : Int) + 1) = ((x + 1 : Nat) : Int) := wr_nat x 100 (by omega) (by omega)
    refine Ev.cases (fun c => ?_) (fun c => ?_)
    · refine wideOf_l3 m (X * Y * Z) (by omega) (w : Int) (y : Int) (z : Int) (x : Int) _ _ _ (sqL X Y x y z w) hin (by omega) r _ 0 acc (Nat.zero_add _) ?_
      rw [List.drop_zero, e1]
      refine ih (x + 1) _ (by omega) ?_
      rw [addS, if_pos (show okS m (sqL X Y x y z w) = true from c)] at h
      exact h
    · rw [e1]
      refine ih (x + 1) acc (by omega) ?_
      rw [addS, if_neg (show ¬ okS m (sqL X Y x y z w) = true from c)] at h
      exact h

theorem wideOf_l1 {X Y Z : Nat} (g : GridIn X Y Z) (m : List Bool) (hm : m.length = X * Y * Z) (w z : Nat) (hw : w ≤ 3) (hz : z < Z) (r : List Bool) : ∀ (d y : Nat) (acc : List Int), y + d = Y + 1 - w →
    Ev (fun k => impl_wideOf.l0 k m (w : Int) (marks (X * Y * Z) ((List.range' y d).foldl (fun a y => wideRow m X Y w y z a) acc)) (wrap64 ((z : Int) + 1)) (X : Int) (Y : Int) (Z : Int)) r →
    Ev (fun k => impl_wideOf.l1 k m (w : Int) (marks (X * Y * Z) acc) (z : Int) (y : Int) (X : Int) (Y : Int) (Z : Int)) r := by
  have gx := g.x
  have gy := g.y
  have gz := g.z
  intro d
  induction d with
  | zero =>
    intro y acc hd h
    refine Ev.step (fun k => by rw [impl_wideOf.l1]) ?_
    rw [wr ((y : Int) + (w : Int)) (by omega) (by omega)]
    exact Ev.neg (by omega) h
  | succ d ih =>
    intro y acc hd h
    refine Ev.step (fun k => by rw [impl_wideOf.l1]) ?_
    rw [wr ((y : Int) + (w : Int)) (by omega) (by omega)]
    refine Ev.pos (by omega) ?_
    refine wideOf_l2 g m hm w y z hw (by omega) hz r _ 0 acc (Nat.zero_add _) ?_
    rw [wr_nat y 100 (by omega) (by omega)]
    refine ih (y + 1) _ (by omega) ?_
    rw [List.range'_succ, List.foldl_cons] at h
    exact h

theorem wideOf_ev {X Y Z : Nat} (g : GridIn X Y Z) (m : List Bool) (hm : m.length = X * Y * Z) (w : Nat) (hw : w ≤ 3) : Ev (fun k => impl_wideOf.f k (X : Int) (Y : Int) (Z : Int) m (w : Int)) (marks (X * Y * Z) (wideI m X Y Z w)) := by
  have gz := g.z
  have gn := g.n
  unfold impl_wideOf.f
  refine Ev.pos (nn _) (Ev.pos (by omega) ?_)
  have key : ∀ (d z : Nat) (acc : List Int), z + d = Z → ∀ r, r = marks (X * Y * Z) ((List.range' z d).foldl (fun a z => wideLev m X Y w z a) acc) → Ev (fun k => impl_wideOf.l0 k m (w : Int) (marks (X * Y * Z) acc) (z : Int) (X : Int) (Y : Int) (Z : Int)) r := by
    intro d
    induction d with
    | zero =>
      intro z acc hd r hr
      refine Ev.step (fun k => by rw [impl_wideOf.l0]) ?_
      exact Ev.neg (by omega) (Ev.cast hr.symm (Ev.now _))
    | succ d ih =>
      intro z acc hd r hr
      refine Ev.step (fun k => by rw [impl_wideOf.l0]) ?_
      refine Ev.pos (by omega) ?_
      refine wideOf_l1 g m hm w z hw (by omega) r _ 0 acc (Nat.zero_add _) ?_
      rw [wr_nat z 100 (by omega) (by omega)]
      refine ih (z + 1) _ (by omega) r ?_
      rw [hr, List.range'_succ, List.foldl_cons]; rfl
  have e := key Z 0 [] (Nat.zero_add _) _ rfl
  rw [marks_nil] at e
  rw [Int.toNat_natCast, hm]
  exact e

theorem phWide_l2 (m : List Bool) (n : Nat) (hn : n ≤ 120) (w i N : Int) (X Y Z : Int) (b : Bool) (s : List Int) (hs : ∀ q ∈ s, 0 ≤ q ∧ q < (n : Int)) (hl : s.length ≤ 1000) (r : List Int) : ∀ (d j : Nat) (acc : List Int), j + d = s.length →
    Ev (fun k => spec_phWide.l0 k w m (marks n (if b = true then acc ++ s.drop j else acc)) N (wrap64 (i + 1)) X Y Z) r →
    Ev (fun k => spec_phWide.l2 k w m (marks n acc) b N i s (s.length : Int) (j : Int) X Y Z) r := by
  intro d
  induction d with
  | zero =>
    intro j acc hd h
    refine Ev.step (fun k => by rw [spec_phWide.l2]) ?_
    refine Ev.neg (by omega) ?_
    rw [dr0 _ _ (by omega), List.append_nil, ite_self] at h
    exact h
  | succ d ih =>
    intro j acc hd h
    refine Ev.step (fun k => by rw [spec_phWide.l2]) ?_
    have q := hs s[j] (List.getElem_mem _)
    have e : rdOf false (marks n acc) s[j] = decide (s[j] ∈ acc) := by
      unfold rdOf
      rw [marks_get _ _ _ (by omega), Int.toNat_of_nonneg q.1]
    rw [rd_get s j (by omega), marks_len, e, wr_nat j s.length (by omega) (by omega)]
    refine Ev.pos (by omega) (Ev.pos (nn _) (Ev.pos (by omega) (Ev.pos q.1 (Ev.pos q.2 ?_))))
    cases b with
    | true =>
      rw [if_pos rfl, dr s j (by omega)] at h
      rw [marks_set _ _ _ q.1]
      have h' := ih (j + 1) (acc ++ [s[j]]) (by omega) (by rw [if_pos rfl, List.append_assoc, List.singleton_append]; exact h)
      exact Ev.cases (fun _ => h') (fun _ => h')
    | false =>
      have h' := ih (j + 1) acc (by omega) h
      refine Ev.cases (fun c => ?_) (fun c => ?_)
      · rw [marks_put n acc s[j] q.1 true (fun _ => of_decide_eq_true c) (fun e => by cases e)]
        exact h'
      · rw [marks_put n acc s[j] q.1 false (fun e => by cases e) (fun _ => of_decide_eq_false (bf c))]
        exact h'

theorem phWide_l1 (m : List Bool) (n : Nat) (hn : n ≤ 120) (hm : m.length = n) (w i N : Int) (X Y Z : Int) (acc s : List Int) (hs : ∀ q ∈ s, 0 ≤ q ∧ q < (n : Int)) (hl : s.length ≤ 1000) (r : List Int) : ∀ (d j : Nat) (b : Bool), j + d = s.length →
    Ev (fun k => spec_phWide.l0 k w m (marks n (if (b && (s.drop j).all fun k => m.getD k.toNat false) = true then acc ++ s else acc)) N (wrap64 (i + 1)) X Y Z) r →
    Ev (fun k => spec_phWide.l1 k w m (marks n acc) s b N i s (s.length : Int) (j : Int) X Y Z) r := by
  intro d
  induction d with
  | zero =>
    intro j b hd h
    refine Ev.step (fun k => by rw [spec_phWide.l1]) ?_
    refine Ev.neg (by omega) ?_
    rw [dr0 _ _ (by omega), List.all_nil, Bool.and_true] at h
    refine phWide_l2 m n hn w i N X Y Z b s hs hl r _ 0 acc (Nat.zero_add _) ?_
    rw [List.drop_zero]
    exact h
  | succ d ih =>
    intro j b hd h
    refine Ev.step (fun k => by rw [spec_phWide.l1]) ?_
    have q := hs s[j] (List.getElem_mem _)
    rw [dr s j (by omega), List.all_cons, ← Bool.and_assoc] at h
    rw [rd_get s j (by omega), wr_nat j s.length (by omega) (by omega)]
    refine Ev.pos (by omega) (Ev.pos (nn _) (Ev.pos (by omega) (Ev.cases (fun c => ?_) (fun c => ?_))))
    · refine Ev.pos q.1 (Ev.pos (by omega) ?_)
      rw [c, Bool.true_and] at h
      exact ih (j + 1) _ (by omega) h
    · rw [bf c, Bool.false_and] at h
      exact ih (j + 1) false (by omega) h

theorem addS_gt (n : Nat) (m : List Bool) (acc s : List Int) : marks n (if (decide ((s.length : Int) > 0) && s.all fun k => m.getD k.toNat false) = true then acc ++ s else acc) = marks n (addS m acc s) := by
  congr 1
  unfold addS okS
  cases s with
  | nil => simp
  | cons x s =>
    rw [decide_eq_true (show ((x :: s).length : Int) > 0 by rw [List.length_cons]; omega), Bool.true_and]

theorem phWide_ev {X Y Z : Nat} (g : GridIn X Y Z) (l : List Int) (w : Nat) (hw : w ≤ 3) (hb : ∀ x ∈ l, 0 ≤ x ∧ x < ((X * Y * Z : Nat) : Int)) (hl : l.length < 9223372036854775807) : Ev (fun k => spec_phWide.f k (X : Int) (Y : Int) (Z : Int) l (w : Int)) (trueIdx (marks (X * Y * Z) (wideS (marks (X * Y * Z) l) X Y Z w))) := by
  have gn := g.n
  unfold spec_phWide.f
  rw [grCount_eq g]
  refine Ev.sbind (Ev.bind (clMarks_ev (X * Y * Z) l (by omega) hl hb) (Ev.sbind (Ev.pos (nn _) (Ev.pos (by omega) ?_))))
  rw [marks_len]
  have key : ∀ (d i : Nat) (acc : List Int), i + d = X * Y * Z → ∀ r, r = trueIdx (marks (X * Y * Z) ((List.range' i d).foldl (fun a i => addS (marks (X * Y * Z) l) a (sqAt X Y w i)) acc)) →
      Ev (fun k => spec_phWide.l0 k (w : Int) (marks (X * Y * Z) l) (marks (X * Y * Z) acc) ((X * Y * Z : Nat) : Int) (i : Int) (X : Int) (Y : Int) (Z : Int)) r := by
    intro d
    induction d with
    | zero =>
      intro i acc hd r hr
      refine Ev.step (fun k => by rw [spec_phWide.l0]) ?_
      refine Ev.neg (by omega) (Ev.bind (clList_ev _ (by rw [marks_len]; omega)) (Ev.cast hr.symm (Ev.now _)))
    | succ d ih =>
      intro i acc hd r hr
      refine Ev.step (fun k => by rw [spec_phWide.l0]) ?_
      have hin : ∀ q ∈ sqAt X Y w i, 0 ≤ q ∧ q < ((X * Y * Z : Nat) : Int) := by
        unfold sqAt
        split
        · rename_i c
          exact sq_in c.1 c.2 (place_lt g (show i < X * Y * Z by omega)).2.2
        · intro q hq; cases hq
      have hlen : (sqAt X Y w i).length ≤ 1000 := by
        unfold sqAt
        split
        · rw [sq_len]; exact Nat.le_trans (Nat.mul_le_mul hw hw) (by omega)
        · simp
      refine Ev.pos (by omega) (Ev.bind (phSquare_ev g w i hw (by omega)) ?_)
      refine phWide_l1 (marks (X * Y * Z) l) (X * Y * Z) gn (marks_len _ _) (w : Int) (i : Int) _ _ _ _ acc (sqAt X Y w i) hin hlen r _ 0 _ (Nat.zero_add _) ?_
      rw [List.drop_zero, addS_gt, wr_nat i (X * Y * Z) (by omega) (by omega)]
      refine ih (i + 1) _ (by omega) r ?_
      rw [hr, List.range'_succ, List.foldl_cons]
  have e := key (X * Y * Z) 0 [] (Nat.zero_add _) _ rfl
  rw [marks_nil] at e
  rw [Int.toNat_natCast]
  exact e

def wideR (x y z : Int) (l : List Int) (w : Int) : List Int × Bool :=
  if gridOk x y z = true ∧ rise 0 (x * y * z - 1) l = true ∧ (1 ≤ w ∧ w ≤ 3) then (trueIdx (marks (x.toNat * y.toNat * z.toNat) (wideI (marks (x.toNat * y.toNat * z.toNat) l) x.toNat y.toNat z.toNat w.toNat)), true) else ([], false)

theorem isWidth_eq (w : Int) : impl_isWidth.f w = some (decide (1 ≤ w ∧ w ≤ 3)) := by
  unfold impl_isWidth.f
  by_cases h : w ≥ 1
  · rw [if_pos h]; simp [show 1 ≤ w from h]
  · rw [if_neg h]; simp [show ¬ 1 ≤ w from h]

theorem phAsked_ev (x y z : Int) (l : List Int) (w : Int) (hl : l.length < 9223372036854775807) : Ev (fun k => spec_phAsked.f k x y z l w) (gridOk x y z && (rise 0 (x * y * z - 1) l && decide (1 ≤ w ∧ w ≤ 3))) := by
  unfold spec_phAsked.f
  rw [grGood_eq]
  refine Ev.sbind (Ev.cases (fun h => ?_) (fun h => Ev.cast (by rw [bf h]; rfl) (Ev.now _)))
  obtain ⟨X, Y, Z, rfl, rfl, rfl, g⟩ := grid_nat h
  have gn := g.n
  rw [grCount_eq g]
  refine Ev.sbind ?_
  rw [wr _ (by omega) (by omega), h, Bool.true_and, l1In_eq]
  refine Ev.bind (l1Rising_ev l 0 _ hl) ?_
  rw [show ((X * Y * Z : Nat) : Int) = (X : Int) * (Y : Int) * (Z : Int) by push_cast; rfl]
  refine Ev.cases (fun h2 => ?_) (fun h2 => Ev.cast (by rw [bf h2]; rfl) (Ev.now _))
  rw [h2, Bool.true_and]
  exact Ev.sbind (Ev.now _)

theorem wide_same {X Y Z : Nat} (l : List Int) (w : Nat) (hw : 1 ≤ w) : marks (X * Y * Z) (wideS (marks (X * Y * Z) l) X Y Z w) = marks (X * Y * Z) (wideI (marks (X * Y * Z) l) X Y Z w) :=
  marks_congr _ _ _ (fun b => (mem_wide _ w b hw).symm)

theorem trueIdx_len (m : List Bool) : (trueIdx m).length ≤ m.length := trueTo_len m m.length

theorem impl_wide_tail {X Y Z : Nat} (g : GridIn X Y Z) (l : List Int) (w : Nat) (hw : w ≤ 3) (hb : ∀ x ∈ l, 0 ≤ x ∧ x < ((X * Y * Z : Nat) : Int)) (hl : l.length < 9223372036854775807) {β : Type} (f : Nat → List Int → Option β) (r : β)
    (h : Ev (fun k => f k (trueIdx (marks (X * Y * Z) (wideI (marks (X * Y * Z) l) X Y Z w)))) r) :
    Ev (fun k => (impl_blocksOf.f (X : Int) (Y : Int) (Z : Int)).bind fun t => (impl_markOf.f k t l).bind fun m => (impl_wideOf.f k (X : Int) (Y : Int) (Z : Int) m (w : Int)).bind fun q => (impl_listOf.f k q).bind fun s => f k s) r := by
  have gn := g.n
  rw [blocksOf_eq g]
  refine Ev.sbind (Ev.bind (markOf_ev (X * Y * Z) l (by omega) hl hb) (Ev.bind (wideOf_ev g _ (marks_len _ _) w hw) (Ev.bind (listOf_ev _ (by rw [marks_len]; omega)) h)))

theorem impl_WideBlocks_ev (x y z : Int) (l : List Int) (w : Int) (hl : l.length < 9223372036854775807) : Ev (fun k => impl_WideBlocks.f k x y z l w) (wideR x y z l w) := by
  unfold impl_WideBlocks.f wideR
  have J : ∀ b : Bool, b = true → ∀ r, r = ([], false) → Ev (fun k => impl_WideBlocks.j0 k l w b x y z) r := by
    rintro b rfl r rfl
    exact Ev.step (fun k => by rw [impl_WideBlocks.j0]) (Ev.pos rfl (Ev.now _))
  rw [IsGrid_eq]
  refine Ev.sbind (Ev.cases (fun h => ?_) (fun h => J _ rfl _ (by rw [if_neg (fun e => h e.1)])))
  obtain ⟨X, Y, Z, rfl, rfl, rfl, g⟩ := grid_nat h
  have gn := g.n
  have en : ((X * Y * Z : Nat) : Int) = (X : Int) * (Y : Int) * (Z : Int) := by push_cast; rfl
  rw [blocksOf_eq g]
  refine Ev.sbind (Ev.bind (areBlocks_ev l _ hl) (Ev.cases (fun h2 => ?_) (fun h2 => J _ rfl _ (by rw [if_neg (fun e => h2 (by rw [en]; exact e.2.1))]))))
  rw [isWidth_eq]
  refine Ev.sbind ?_
  by_cases h3 : 1 ≤ w ∧ w ≤ 3
  · rw [decide_eq_true h3, if_pos ⟨h, by rw [← en]; exact h2, h3⟩]
    obtain ⟨W, rfl⟩ := Int.eq_ofNat_of_zero_le (show 0 ≤ w by omega)
    refine Ev.step (fun k => by rw [impl_WideBlocks.j0]) (Ev.neg (by simp) ?_)
    simp only [Int.toNat_natCast]
    exact impl_wide_tail g l W (by omega) (rise_in h2) hl _ _ (Ev.now _)
  · rw [decide_eq_false h3, if_neg (fun e => h3 e.2.2)]
    exact J _ rfl _ rfl

theorem spec_WideBlocks_ev (x y z : Int) (l : List Int) (w : Int) (hl : l.length < 9223372036854775807) : Ev (fun k => spec_WideBlocks.f k x y z l w) (wideR x y z l w) := by
  unfold spec_WideBlocks.f wideR
  refine Ev.bind (phAsked_ev x y z l w hl) (Ev.cases (fun h => ?_) (fun h => Ev.cast (by rw [if_neg (fun e => h (by rw [e.1, e.2.1, decide_eq_true e.2.2]; rfl))]) (Ev.now _)))
  simp only [Bool.and_eq_true, decide_eq_true_eq] at h
  rw [if_pos h]
  obtain ⟨X, Y, Z, rfl, rfl, rfl, g⟩ := grid_nat h.1
  obtain ⟨W, rfl⟩ := Int.eq_ofNat_of_zero_le (show 0 ≤ w by omega)
  have h2 := h.2.1
  rw [show (X : Int) * (Y : Int) * (Z : Int) = ((X * Y * Z : Nat) : Int) by push_cast; rfl] at h2
  simp only [Int.toNat_natCast]
  rw [← wide_same l W (by omega)]
  exact Ev.bind (phWide_ev g l W (by omega) (rise_in h2) hl) (Ev.now _)

theorem wideR_len (x y z : Int) (l : List Int) (w : Int) : (wideR x y z l w).1.length ≤ 1000000 := by
  unfold wideR
  split
  · rename_i h
    obtain ⟨X, Y, Z, rfl, rfl, rfl, g⟩ := grid_nat h.1
    have gn := g.n
    simp only [Int.toNat_natCast]
    have := trueIdx_len (marks (X * Y * Z) (wideI (marks (X * Y * Z) l) X Y Z w.toNat))
    rw [marks_len] at this
    omega
  · simp

theorem FnExactWideBlocks (x y z : Int) (l : List Int) (w : Int) (_ : (Lit.int .i64 x).wf = true) (_ : (Lit.int .i64 y).wf = true) (_ : (Lit.int .i64 z).wf = true) (_ : l.length * 8 ≤ 140737488351232) (_ : okI .i64 l) (_ : (Lit.int .i64 w).wf = true) : ∃ k, laws_FnExactWideBlocks.f k x y z l w = some true := by
  refine Ev.ex (g := fun k => laws_FnExactWideBlocks.f k x y z l w) ?_
  unfold laws_FnExactWideBlocks.f laws_toGrid.f
  refine Ev.cases (fun _ => Ev.now _) (fun h => ?_)
  have T := toIntS_ev l (by omega)
  have hr := wideR_len x y z l w
  have I := impl_WideBlocks_ev x y z l w (by omega)
  have E := eqIntS_ev (wideR x y z l w).1 (wideR x y z l w).1 (by omega)
  have HE := heldIntS_ev (wideR x y z l w).1.length 1 (by omega) (by omega)
  refine Ev.sbind (Ev.bind T (Ev.bind (spec_WideBlocks_ev x y z l w (by omega)) (Ev.bind T (Ev.sbind (Ev.bind I (Ev.bind E (Ev.pos (by simp) ?_)))))))
  refine Ev.step (fun k => by rw [laws_FnExactWideBlocks.j0]) (Ev.neg (by simp) ?_)
  refine Ev.bind T (Ev.bind (eqIntS_ev l l (by omega)) (Ev.pos (by simp) (Ev.bind (markIntS_ev l 1 (by omega) (by omega)) (Ev.neg (by omega) (Ev.bind E (Ev.pos (by simp) ?_))))))
  refine Ev.step (fun k => by rw [laws_FnExactWideBlocks.j1]) (Ev.neg (by simp) ?_)
  refine Ev.bind (markIntS_ev _ 1 (by omega) (by omega)) (Ev.bind HE (Ev.neg (by omega) (Ev.pos rfl ?_)))
  unfold laws_toGrid.f
  refine Ev.sbind (Ev.bind T (Ev.bind I (Ev.bind E (Ev.pos (by simp) ?_))))
  refine Ev.step (fun k => by rw [laws_FnExactWideBlocks.j2]) (Ev.neg (by simp) ?_)
  exact Ev.bind HE (Ev.neg (by omega) (Ev.pos rfl (Ev.now _)))

end Go.Proofs.Ytdipbpckmcmljaa.Pure

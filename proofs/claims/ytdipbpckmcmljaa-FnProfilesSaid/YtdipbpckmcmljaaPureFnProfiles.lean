/- FnProfiles over numbers and lists alone: what the program's text computes and what the reference's text computes is the same, for all arguments that the row lets in; no further condition. -/
import Derived.Test.YtdipbpckmcmljaaPFnProfilesx
import Derived.Test.YtdipbpckmcmljaaGen
import Derived.Test.YtdipbpckmcmljaaOpn
set_option linter.unusedVariables false
set_option linter.unusedSimpArgs false
namespace Go.Proofs.Ytdipbpckmcmljaa.Pure
open Go.RowKit Go.Proofs.Ytdipbpckmcmljaa.PFnProfiles Go.Proofs.YtdipbpckmcmljaaW.PrintWords Go.Proofs.YtdipbpckmcmljaaW.PrintLast Go.Proofs.Ytdipbpckmcmljaa.Gen Go.Proofs.Ytdipbpckmcmljaa.Opn
theorem l1In_eq (n a b : Int) : spec_l1In.f n a b = some (decide (a ≤ n ∧ n ≤ b)) := by
  unfold spec_l1In.f
  by_cases h : n ≥ a
  · rw [if_pos h]; simp [show a ≤ n from h]
  · rw [if_neg h]; simp [show ¬ a ≤ n from h]

def inB (a b : Int) (x : Int) : Bool := decide (a ≤ x ∧ x ≤ b)

theorem l1All_l (a b : Int) (xs : List Int) (hx : xs.length < 9223372036854775807) : ∀ (d i : Nat), i + d = xs.length →
    Ev (fun k => spec_l1All.l0 k a b xs (xs.length : Int) (i : Int)) ((xs.drop i).all (inB a b)) := by
  intro d
  induction d with
  | zero =>
    intro i hi
    refine Ev.step (fun k => by rw [spec_l1All.l0]) ?_
    refine Ev.neg (by omega) (Ev.cast ?_ (Ev.now _))
    rw [List.drop_eq_nil_of_le (by omega)]; rfl
  | succ d ih =>
    intro i hi
    refine Ev.step (fun k => by rw [spec_l1All.l0]) ?_
    refine Ev.pos (by omega) (Ev.pos (nn _) (Ev.pos (by omega) ?_))
    rw [rd_get xs i (by omega), dr xs i (by omega), l1In_eq]
    refine Ev.sbind (Ev.cases (fun h => ?_) (fun h => ?_))
    · rw [wr_nat i _ (by omega) hx]
      refine Ev.cast ?_ (ih (i + 1) (by omega))
      rw [List.all_cons, inB, h, Bool.true_and]
    · refine Ev.cast ?_ (Ev.now _)
      rw [List.all_cons, inB, bf h, Bool.false_and]

theorem l1All_ev (a b : Int) (xs : List Int) (hx : xs.length < 9223372036854775807) : Ev (fun k => spec_l1All.f k xs a b) (xs.all (inB a b)) := by
  unfold spec_l1All.f
  exact l1All_l a b xs hx xs.length 0 (by omega)

theorem rdL1_get (xs : List (List Int)) (i : Nat) (h : i < xs.length) : rd_L1 xs (i : Int) = xs[i] := by
  unfold rd_L1; rw [Int.toNat_natCast]; simp [List.getD_eq_getElem?_getD, h]

theorem rdL1_zero (xs : List (List Int)) : rd_L1 xs 0 = xs.headD [] := by
  cases xs <;> rfl

def secCol (n : Nat) (c : List Int) : Bool := decide (c.length = n) && decide (1 ≤ c.length ∧ c.length ≤ 6) && c.all (inB (-1000000) 1000000)

def secOk (v : List (List Int)) : Bool := decide (1 ≤ v.length ∧ v.length ≤ 8) && v.all (secCol (v.headD []).length)

theorem goodValues_ev (c : List Int) : Ev (fun k => impl_goodValues.f k c) (decide (1 ≤ c.length ∧ c.length ≤ 120) && c.all (inB (-1000000) 1000000)) := by
  unfold impl_goodValues.f
  have J : ∀ b : Bool, b = true → ∀ r, r = false → Ev (fun k => impl_goodValues.j0 k c b) r := by
    rintro b rfl r rfl
    exact Ev.step (fun k => by rw [impl_goodValues.j0]) (Ev.pos rfl (Ev.now _))
  refine Ev.cases (fun h => J _ rfl _ (by rw [decide_eq_false (by omega)]; rfl)) (fun h1 => ?_)
  by_cases h2 : (c.length : Int) > 120
  · exact J _ (decide_eq_true h2) _ (by rw [decide_eq_false (by omega)]; rfl)
  · rw [decide_eq_false h2]
    refine Ev.step (fun k => by rw [impl_goodValues.j0]) (Ev.neg (by simp) ?_)
    rw [decide_eq_true (by omega), Bool.true_and]
    have key : ∀ (d i : Nat), i + d = c.length → Ev (fun k => impl_goodValues.l0 k c (c.length : Int) (i : Int)) ((c.drop i).all (inB (-1000000) 1000000)) := by
      intro d
      induction d with
      | zero =>
        intro i hi
        refine Ev.step (fun k => by rw [impl_goodValues.l0]) ?_
        refine Ev.neg (by omega) (Ev.cast ?_ (Ev.now _))
        rw [dr0 _ _ (by omega)]; rfl
      | succ d ih =>
        intro i hi
        refine Ev.step (fun k => by rw [impl_goodValues.l0]) ?_
        refine Ev.pos (by omega) (Ev.pos (nn _) (Ev.pos (by omega) ?_))
        rw [rd_get c i (by omega), dr c i (by omega), List.all_cons]
        unfold inB
        refine Ev.cases (fun h => Ev.cast (by rw [decide_eq_false (by omega)]; rfl) (Ev.now _)) (fun h1 => ?_)
        refine Ev.cases (fun h => Ev.cast (by rw [decide_eq_false (by omega)]; rfl) (Ev.now _)) (fun h2 => ?_)
        rw [wr_nat i _ (by omega) (by omega : c.length < _), decide_eq_true (by omega), Bool.true_and]
        exact ih (i + 1) (by omega)
    exact key c.length 0 (by omega)

theorem IsSection_ev (v : List (List Int)) : Ev (fun k => impl_IsSection.f k v) (secOk v) := by
  unfold impl_IsSection.f secOk
  have J : ∀ b : Bool, b = true → ∀ r, r = false → Ev (fun k => impl_IsSection.j0 k v b) r := by
    rintro b rfl r rfl
    exact Ev.step (fun k => by rw [impl_IsSection.j0]) (Ev.pos rfl (Ev.now _))
  refine Ev.cases (fun h => J _ rfl _ (by rw [decide_eq_false (by omega)]; rfl)) (fun h1 => ?_)
  refine Ev.cases (fun h => J _ rfl _ (by rw [decide_eq_false (by omega)]; rfl)) (fun h2 => ?_)
  refine Ev.pos (by omega) ?_
  rw [rdL1_zero, decide_eq_true (show 1 ≤ v.length ∧ v.length ≤ 8 by omega), Bool.true_and]
  have hne : v ≠ [] := by intro e; subst e; exact h1 (by simp)
  have hh : ∀ r : Bool, (secCol (v.headD []).length (v.headD []) = false → r = false) → (¬ (1 ≤ (v.headD []).length ∧ (v.headD []).length ≤ 6) → r = false) := by
    intro r hr hn
    apply hr
    unfold secCol
    rw [decide_eq_false hn]; simp
  have hall : secCol (v.headD []).length (v.headD []) = false → v.all (secCol (v.headD []).length) = false := by
    intro h
    obtain ⟨c, cs, rfl⟩ := List.exists_cons_of_ne_nil hne
    rw [List.all_cons]
    simp only [List.headD_cons] at h ⊢
    rw [h]; rfl
  refine Ev.cases (fun h => J _ rfl _ (hh _ hall (by omega))) (fun h3 => ?_)
  by_cases h4 : ((v.headD []).length : Int) > 6
  · exact J _ (decide_eq_true h4) _ (hh _ hall (by omega))
  · rw [decide_eq_false h4]
    refine Ev.step (fun k => by rw [impl_IsSection.j0]) (Ev.neg (by simp) ?_)
    have key : ∀ (d i : Nat), i + d = v.length → Ev (fun k => impl_IsSection.l0 k v v (v.length : Int) (i : Int)) ((v.drop i).all (secCol (v.headD []).length)) := by
      intro d
      induction d with
      | zero =>
        intro i hi
        refine Ev.step (fun k => by rw [impl_IsSection.l0]) ?_
        refine Ev.neg (by omega) (Ev.cast ?_ (Ev.now _))
        rw [dr0 _ _ (by omega)]; rfl
      | succ d ih =>
        intro i hi
        refine Ev.step (fun k => by rw [impl_IsSection.l0]) ?_
        refine Ev.pos (by omega) (Ev.pos (nn _) (Ev.pos (by omega) (Ev.pos (by omega) ?_)))
        rw [rdL1_get v i (by omega), dr v i (by omega), List.all_cons, rdL1_zero]
        refine Ev.cases (fun h5 => ?_) (fun h => Ev.cast (by unfold secCol; rw [decide_eq_false (show ¬ v[i].length = (v.headD []).length by omega)]; rfl) (Ev.now _))
        refine Ev.bind (goodValues_ev _) (Ev.cases (fun h6 => ?_) (fun h => Ev.cast (by
          unfold secCol
          rw [decide_eq_true (show v[i].length = _ by omega), decide_eq_true (show 1 ≤ v[i].length ∧ v[i].length ≤ 6 by omega), Bool.true_and]
          rw [decide_eq_true (show 1 ≤ v[i].length ∧ v[i].length ≤ 120 by omega), Bool.true_and] at h
          rw [bf h]; rfl) (Ev.now _)))
        rw [wr_nat i _ (by omega) (by omega : v.length < _)]
        refine Ev.cast ?_ (ih (i + 1) (by omega))
        rw [Bool.and_eq_true] at h6
        rw [secCol, decide_eq_true (show v[i].length = _ by omega), decide_eq_true (show 1 ≤ v[i].length ∧ v[i].length ≤ 6 by omega), h6.2]; rfl
    exact key v.length 0 (by omega)

theorem seGood_ev (v : List (List Int)) (hv : v.length < 9223372036854775807) (hi : ∀ z ∈ v, z.length < 9223372036854775807) : Ev (fun k => spec_seGood.f k v) (secOk v) := by
  unfold spec_seGood.f secOk
  have key : ∀ (d i : Nat), i + d = v.length → Ev (fun k => spec_seGood.l0 k v v (v.length : Int) (i : Int)) (decide (1 ≤ v.length ∧ v.length ≤ 8) && (v.drop i).all (secCol (v.headD []).length)) := by
    intro d
    induction d with
    | zero =>
      intro i hi
      refine Ev.step (fun k => by rw [spec_seGood.l0]) ?_
      refine Ev.neg (by omega) ?_
      rw [dr0 _ _ (by omega), l1In_eq]
      refine Ev.sbind (Ev.cast ?_ (Ev.now _))
      rw [List.all_nil, Bool.and_true]
      exact decide_eq_decide.2 (by omega)
    | succ d ih =>
      intro i hd
      refine Ev.step (fun k => by rw [spec_seGood.l0]) ?_
      refine Ev.pos (by omega) (Ev.pos (nn _) (Ev.pos (by omega) (Ev.pos (by omega) ?_)))
      rw [rdL1_get v i (by omega), dr v i (by omega), List.all_cons, rdL1_zero, l1In_eq]
      refine Ev.cases (fun h5 => ?_) (fun h => Ev.cast (by unfold secCol; rw [decide_eq_false (show ¬ v[i].length = (v.headD []).length by omega)]; simp) (Ev.now _))
      refine Ev.sbind (Ev.cases (fun h6 => ?_) (fun h => Ev.cast (by
        unfold secCol
        rw [decide_eq_false (show ¬ (1 ≤ v[i].length ∧ v[i].length ≤ 6) by have := of_decide_eq_false (bf h); omega)]; simp) (Ev.now _)))
      have h6' := of_decide_eq_true h6
      refine Ev.bind (l1All_ev _ _ _ (hi _ (List.getElem_mem _))) (Ev.cases (fun h7 => ?_) (fun h => Ev.cast (by unfold secCol; rw [bf h]; simp) (Ev.now _)))
      rw [wr_nat i _ (by omega) hv]
      refine Ev.cast ?_ (ih (i + 1) (by omega))
      rw [secCol, decide_eq_true (show v[i].length = _ by omega), decide_eq_true (show 1 ≤ v[i].length ∧ v[i].length ≤ 6 by omega), h7]; rfl
  exact key v.length 0 (by omega)

def depOk (v : List (List Int)) (p : List Int) : Bool := decide (p.length = v.length) && p.all (inB 0 (v.headD []).length)

def adjOk : List Int → Bool
  | a :: b :: t => decide (b - a ≤ 1 ∧ a - b ≤ 1) && adjOk (b :: t)
  | _ => true

theorem abs_eq (n : Int) (h1 : -1000000000 ≤ n) (h2 : n ≤ 1000000000) : impl_abs.f n = some (if n ≤ 0 then -n else n) := by
  unfold impl_abs.f mx
  rw [wr _ (by omega) (by omega)]
  congr 1
  split <;> split <;> omega

theorem l1Most_eq (a b : Int) : spec_l1Most.f a b = some (if a ≤ b then b else a) := by
  unfold spec_l1Most.f
  by_cases h : a > b
  · rw [if_pos h, if_neg (by omega)]
  · rw [if_neg h, if_pos (by omega)]

theorem l1Least_eq (a b : Int) : spec_l1Least.f a b = some (if a ≤ b then a else b) := by
  unfold spec_l1Least.f
  by_cases h : a < b
  · rw [if_pos h, if_pos (by omega)]
  · rw [if_neg h]; split <;> congr 1; omega

theorem l1Abs_eq (n : Int) (h1 : -1000000000 ≤ n) (h2 : n ≤ 1000000000) : spec_l1Abs.f n = some (if n ≤ 0 then -n else n) := by
  unfold spec_l1Abs.f
  rw [wr _ (by omega) (by omega), l1Most_eq, Option.bind_some]
  congr 1
  split <;> split <;> omega

theorem l1Abs_any (n : Int) : ∃ r, spec_l1Abs.f n = some r := by
  unfold spec_l1Abs.f
  rw [l1Most_eq]
  exact ⟨_, rfl⟩

theorem areDepths_ev (v : List (List Int)) (p : List Int) (hv : v.length < 9223372036854775807) (hv0 : 0 < v.length) : Ev (fun k => impl_areDepths.f k v p) (depOk v p) := by
  unfold impl_areDepths.f depOk
  refine Ev.cases (fun h => ?_) (fun h => Ev.cast (by rw [decide_eq_false (by omega)]; rfl) (Ev.now _))
  rw [decide_eq_true (show p.length = v.length by omega), Bool.true_and]
  have key : ∀ (d i : Nat), i + d = p.length → Ev (fun k => impl_areDepths.l0 k v p (p.length : Int) (i : Int)) ((p.drop i).all (inB 0 (v.headD []).length)) := by
    intro d
    induction d with
    | zero =>
      intro i hi
      refine Ev.step (fun k => by rw [impl_areDepths.l0]) ?_
      refine Ev.neg (by omega) (Ev.cast ?_ (Ev.now _))
      rw [dr0 _ _ (by omega)]; rfl
    | succ d ih =>
      intro i hi
      refine Ev.step (fun k => by rw [impl_areDepths.l0]) ?_
      refine Ev.pos (by omega) (Ev.pos (nn _) (Ev.pos (by omega) ?_))
      rw [rd_get p i (by omega), dr p i (by omega), List.all_cons, rdL1_zero]
      unfold inB
      refine Ev.cases (fun h => Ev.cast (by rw [decide_eq_false (show ¬ (0 ≤ p[i] ∧ p[i] ≤ ((v.headD []).length : Int)) by omega)]; rfl) (Ev.now _)) (fun h1 => ?_)
      refine Ev.pos (by omega) ?_
      refine Ev.cases (fun h => Ev.cast (by rw [decide_eq_false (show ¬ (0 ≤ p[i] ∧ p[i] ≤ ((v.headD []).length : Int)) by omega)]; rfl) (Ev.now _)) (fun h2 => ?_)
      rw [wr_nat i _ (by omega) (by omega : p.length < _), decide_eq_true (show 0 ≤ p[i] ∧ p[i] ≤ ((v.headD []).length : Int) by omega), Bool.true_and]
      exact ih (i + 1) (by omega)
  exact key p.length 0 (by omega)

theorem dep_at {v : List (List Int)} {p : List Int} (h : depOk v p = true) (i : Nat) (hi : i < p.length) : 0 ≤ p[i] ∧ p[i] ≤ ((v.headD []).length : Int) := by
  unfold depOk at h
  rw [Bool.and_eq_true, List.all_eq_true] at h
  exact of_decide_eq_true (h.2 _ (List.getElem_mem hi))

theorem adj_cons {a b : Int} {t : List Int} : adjOk (a :: b :: t) = (decide (b - a ≤ 1 ∧ a - b ≤ 1) && adjOk (b :: t)) := by rw [adjOk]

theorem adj_short (p : List Int) (h : p.length ≤ 1) : adjOk p = true := by
  match p, h with
  | [], _ => rfl
  | [a], _ => rfl
  | a :: b :: t, h => simp at h

theorem isProfile_l (p : List Int) (m : Int) (hm : m ≤ 1000) (hp : ∀ i (h : i < p.length), 0 ≤ p[i] ∧ p[i] ≤ m) (hl : p.length < 1000) : ∀ (d i : Nat), 1 ≤ i → p.length ≤ i + d → Ev (fun k => impl_isProfile.l0 k p (i : Int)) (adjOk (p.drop (i - 1))) := by
  intro d
  induction d with
  | zero =>
    intro i h1 hi
    refine Ev.step (fun k => by rw [impl_isProfile.l0]) ?_
    exact Ev.neg (by omega) (Ev.cast (adj_short _ (by rw [List.length_drop]; omega)).symm (Ev.now _))
  | succ d ih =>
    intro i h1 hi
    refine Ev.step (fun k => by rw [impl_isProfile.l0]) ?_
    refine Ev.cases (fun h => ?_) (fun h => Ev.cast (by rw [adj_short _ (by rw [List.length_drop]; omega)]) (Ev.now _))
    have e : wrap64 ((i : Int) - 1) = ((i - 1 : Nat) : Int) := by rw [wr _ (by omega) (by omega)]; omega
    rw [e]
    refine Ev.pos (nn _) (Ev.pos (nn _) (Ev.pos (by omega) ?_))
    have a := hp i (by omega)
    have b := hp (i - 1) (by omega)
    rw [rd_get p i (by omega), rd_get p (i - 1) (by omega), wr _ (by omega) (by omega), abs_eq _ (by omega) (by omega), dr p (i - 1) (by omega), show i - 1 + 1 = i by omega, dr p i (by omega), adj_cons]
    refine Ev.sbind (Ev.cases (fun h2 => Ev.cast ?_ (Ev.now _)) (fun h2 => ?_))
    · rw [decide_eq_false (by split at h2 <;> omega)]; rfl
    · rw [decide_eq_true (by split at h2 <;> omega), Bool.true_and, wr_nat i p.length (by omega) (by omega), ← dr p i (by omega)]
      exact ih (i + 1) (by omega) (by omega)

theorem depLen {v : List (List Int)} {p : List Int} (h : depOk v p = true) : p.length = v.length := by
  unfold depOk at h
  rw [Bool.and_eq_true] at h
  exact of_decide_eq_true h.1

theorem secOk_parts {v : List (List Int)} (hs : secOk v = true) : 1 ≤ v.length ∧ v.length ≤ 8 ∧ (1 ≤ (v.headD []).length ∧ (v.headD []).length ≤ 6) ∧ ∀ i (h : i < v.length), v[i].length = (v.headD []).length ∧ v[i].all (inB (-1000000) 1000000) = true := by
  unfold secOk at hs
  rw [Bool.and_eq_true, List.all_eq_true] at hs
  have h1 := of_decide_eq_true hs.1
  have h2 : ∀ c ∈ v, c.length = (v.headD []).length ∧ (1 ≤ c.length ∧ c.length ≤ 6) ∧ c.all (inB (-1000000) 1000000) = true := by
    intro c hc
    have := hs.2 c hc
    unfold secCol at this
    simp only [Bool.and_eq_true, decide_eq_true_eq] at this
    exact ⟨this.1.1, this.1.2, this.2⟩
  have h3 : v.headD [] ∈ v := by
    match v, h1 with
    | c :: cs, _ => simp
  exact ⟨h1.1, h1.2, (h2 _ h3).2.1, fun i h => ⟨(h2 _ (List.getElem_mem h)).1, (h2 _ (List.getElem_mem h)).2.2⟩⟩

theorem isProfile_ev (v : List (List Int)) (p : List Int) (hs : secOk v = true) : Ev (fun k => impl_isProfile.f k v p) (depOk v p && adjOk p) := by
  obtain ⟨h0, h1, h2, h3⟩ := secOk_parts hs
  unfold impl_isProfile.f
  refine Ev.bind (areDepths_ev v p (by omega) (by omega)) (Ev.cases (fun h => ?_) (fun h => Ev.cast (by rw [bf h]; rfl) (Ev.now _)))
  rw [h, Bool.true_and]
  exact isProfile_l p ((v.headD []).length : Int) (by omega) (fun i hi => dep_at h i hi) (by rw [depLen h]; omega) p.length 1 (by omega) (by omega)

theorem seDepths_ev (v : List (List Int)) (p : List Int) (hv0 : 0 < v.length) (hp : p.length < 9223372036854775807) : Ev (fun k => spec_seDepths.f k v p) (depOk v p) := by
  unfold spec_seDepths.f depOk
  refine Ev.cases (fun h => ?_) (fun h => Ev.cast (by rw [decide_eq_false (by omega)]; rfl) (Ev.now _))
  refine Ev.pos (by omega) ?_
  rw [decide_eq_true (show p.length = v.length by omega), Bool.true_and, rdL1_zero]
  exact Ev.bind (l1All_ev _ _ _ hp) (Ev.now _)

theorem seProfile_no (v : List (List Int)) (p : List Int) (hv0 : 0 < v.length) (hp : p.length < 9223372036854775807) (hd : depOk v p = false) : ∀ (d i : Nat), 1 ≤ i → p.length ≤ i + d → Ev (fun k => spec_seProfile.l0 k v p (i : Int)) false := by
  have fin : Ev (fun k => (spec_seDepths.f k v p).bind fun t => some t) false := Ev.bind (seDepths_ev v p hv0 hp) (Ev.cast hd (Ev.now _))
  intro d
  induction d with
  | zero =>
    intro i h1 hi
    refine Ev.step (fun k => by rw [spec_seProfile.l0]) ?_
    exact Ev.neg (by omega) fin
  | succ d ih =>
    intro i h1 hi
    refine Ev.step (fun k => by rw [spec_seProfile.l0]) ?_
    refine Ev.cases (fun h => ?_) (fun h => fin)
    have e : wrap64 ((i : Int) - 1) = ((i - 1 : Nat) : Int) := by rw [wr _ (by omega) (by omega)]; omega
    rw [e]
    obtain ⟨r, hr⟩ := l1Abs_any (wrap64 (rd p (i : Int) - rd p ((i - 1 : Nat) : Int)))
    rw [hr]
    refine Ev.pos (nn _) (Ev.pos (nn _) (Ev.pos (by omega) (Ev.sbind (Ev.cases (fun _ => Ev.now _) (fun _ => ?_)))))
    rw [wr_nat i p.length (by omega) (by omega)]
    exact ih (i + 1) (by omega) (by omega)

theorem seProfile_yes (v : List (List Int)) (p : List Int) (m : Int) (hm : m ≤ 1000) (hp : ∀ i (h : i < p.length), 0 ≤ p[i] ∧ p[i] ≤ m) (hl : p.length < 1000) (hv0 : 0 < v.length) (hd : depOk v p = true) : ∀ (d i : Nat), 1 ≤ i → p.length ≤ i + d → Ev (fun k => spec_seProfile.l0 k v p (i : Int)) (adjOk (p.drop (i - 1))) := by
  have fin : Ev (fun k => (spec_seDepths.f k v p).bind fun t => some t) true := Ev.bind (seDepths_ev v p hv0 (by omega)) (Ev.cast hd (Ev.now _))
  intro d
  induction d with
  | zero =>
    intro i h1 hi
    refine Ev.step (fun k => by rw [spec_seProfile.l0]) ?_
    refine Ev.neg (by omega) (Ev.cast ?_ fin)
    rw [adj_short _ (by rw [List.length_drop]; omega)]
  | succ d ih =>
    intro i h1 hi
    refine Ev.step (fun k => by rw [spec_seProfile.l0]) ?_
    refine Ev.cases (fun h => ?_) (fun h => Ev.cast (by rw [adj_short _ (by rw [List.length_drop]; omega)]) fin)
    have e : wrap64 ((i : Int) - 1) = ((i - 1 : Nat) : Int) := by rw [wr _ (by omega) (by omega)]; omega
    rw [e]
    refine Ev.pos (nn _) (Ev.pos (nn _) (Ev.pos (by omega) ?_))
    have a := hp i (by omega)
    have b := hp (i - 1) (by omega)
    rw [rd_get p i (by omega), rd_get p (i - 1) (by omega), wr _ (by omega) (by omega), l1Abs_eq _ (by omega) (by omega), dr p (i - 1) (by omega), show i - 1 + 1 = i by omega, dr p i (by omega), adj_cons]
    refine Ev.sbind (Ev.cases (fun h2 => Ev.cast ?_ (Ev.now _)) (fun h2 => ?_))
    · rw [decide_eq_false (by split at h2 <;> omega)]; rfl
    · rw [decide_eq_true (by split at h2 <;> omega), Bool.true_and, wr_nat i p.length (by omega) (by omega), ← dr p i (by omega)]
      exact ih (i + 1) (by omega) (by omega)

theorem seProfile_ev (v : List (List Int)) (p : List Int) (hs : secOk v = true) (hp : p.length < 9223372036854775807) : Ev (fun k => spec_seProfile.f k v p) (depOk v p && adjOk p) := by
  obtain ⟨h0, h1, h2, h3⟩ := secOk_parts hs
  unfold spec_seProfile.f
  cases hd : depOk v p with
  | false => exact seProfile_no v p (by omega) hp hd p.length 1 (by omega) (by omega)
  | true =>
    rw [Bool.true_and]
    exact seProfile_yes v p ((v.headD []).length : Int) (by omega) (fun i hi => dep_at hd i hi) (by rw [depLen hd]; omega) (by omega) hd p.length 1 (by omega) (by omega)

def profR (v : List (List Int)) (p : List Int) : Bool × Bool := if secOk v = true then (depOk v p && adjOk p, true) else (false, false)

theorem impl_IsProfile_ev (v : List (List Int)) (p : List Int) : Ev (fun k => impl_IsProfile.f k v p) (profR v p) := by
  unfold impl_IsProfile.f profR
  refine Ev.bind (IsSection_ev v) (Ev.cases (fun h => ?_) (fun h => Ev.cast (by rw [if_neg h]) (Ev.now _)))
  rw [if_pos h]
  exact Ev.bind (isProfile_ev v p h) (Ev.now _)

theorem spec_IsProfile_ev (v : List (List Int)) (p : List Int) (hv : v.length < 9223372036854775807) (hi : ∀ z ∈ v, z.length < 9223372036854775807) (hp : p.length < 9223372036854775807) : Ev (fun k => spec_IsProfile.f k v p) (profR v p) := by
  unfold spec_IsProfile.f profR
  refine Ev.bind (seGood_ev v hv hi) (Ev.cases (fun h => ?_) (fun h => Ev.cast (by rw [if_neg h]) (Ev.now _)))
  rw [if_pos h]
  exact Ev.bind (seProfile_ev v p h hp) (Ev.now _)

def colV (c : List Int) (d : Int) : Int := (c.take d.toNat).sum

def profV (v : List (List Int)) (p : List Int) : Int := ((List.range p.length).map fun i => colV (v.getD i []) (p.getD i 0)).sum

theorem sum_le {xs : List Int} (h : xs.all (inB (-1000000) 1000000) = true) : -1000000 * (xs.length : Int) ≤ xs.sum ∧ xs.sum ≤ 1000000 * (xs.length : Int) := by
  induction xs with
  | nil => simp
  | cons x xs ih =>
    rw [List.all_cons, Bool.and_eq_true] at h
    have a := of_decide_eq_true h.1
    have b := ih h.2
    simp only [List.sum_cons, List.length_cons]
    omega

theorem all_take {xs : List Int} {q : Int → Bool} (h : xs.all q = true) (n : Nat) : (xs.take n).all q = true := by
  rw [List.all_eq_true] at h ⊢
  exact fun x hx => h x (List.mem_of_mem_take hx)

theorem sum_take_succ (xs : List Int) (i : Nat) (h : i < xs.length) : (xs.take (i + 1)).sum = (xs.take i).sum + xs[i] := by
  rw [List.take_succ_eq_append_getElem h, List.sum_append, List.sum_cons, List.sum_nil, Int.add_zero]

theorem seColumn_l (c : List Int) (hl : c.length ≤ 6) (h : c.all (inB (-1000000) 1000000) = true) : ∀ (d i : Nat), i + d = c.length → Ev (fun k => spec_seColumn.l0 k (c.take i).sum c (c.length : Int) (i : Int)) c.sum := by
  intro d
  induction d with
  | zero =>
    intro i hi
    refine Ev.step (fun k => by rw [spec_seColumn.l0]) ?_
    exact Ev.neg (by omega) (Ev.cast (by rw [List.take_of_length_le (by omega)]) (Ev.now _))
  | succ d ih =>
    intro i hi
    refine Ev.step (fun k => by rw [spec_seColumn.l0]) ?_
    refine Ev.pos (by omega) (Ev.pos (nn _) (Ev.pos (by omega) ?_))
    have a := sum_le (all_take h (i + 1))
    have a' : (List.take (i + 1) c).length ≤ 6 := by rw [List.length_take]; omega
    rw [rd_get c i (by omega), ← sum_take_succ c i (by omega), wr _ (by omega) (by omega), wr_nat i c.length (by omega) (by omega)]
    exact ih (i + 1) (by omega)

theorem seColumn_ev (c : List Int) (hl : c.length ≤ 6) (h : c.all (inB (-1000000) 1000000) = true) (d : Int) (h0 : 0 ≤ d) (h1 : d ≤ c.length) : Ev (fun k => spec_seColumn.f k c d) (colV c d) := by
  unfold spec_seColumn.f colV
  refine Ev.pos h0 (Ev.pos h1 ?_)
  simpa using seColumn_l (c.take d.toNat) (by rw [List.length_take]; omega) (all_take h _) _ 0 (Nat.zero_add _)

theorem colV_le {c : List Int} (hl : c.length ≤ 6) (h : c.all (inB (-1000000) 1000000) = true) (d : Int) : -6000000 ≤ colV c d ∧ colV c d ≤ 6000000 := by
  unfold colV
  have a := sum_le (all_take h d.toNat)
  have b : (c.take d.toNat).length ≤ 6 := by rw [List.length_take]; omega
  omega

def profVn (v : List (List Int)) (p : List Int) (n : Nat) : Int := ((List.range n).map fun i => colV (v.getD i []) (p.getD i 0)).sum

theorem profVn_succ (v : List (List Int)) (p : List Int) (n : Nat) : profVn v p (n + 1) = profVn v p n + colV (v.getD n []) (p.getD n 0) := by
  unfold profVn
  rw [List.range_succ, List.map_append, List.sum_append, List.map_singleton, List.sum_cons, List.sum_nil, Int.add_zero]

theorem gD {α : Type} (xs : List α) (d : α) (i : Nat) (h : i < xs.length) : xs.getD i d = xs[i] := by
  rw [List.getD_eq_getElem?_getD, List.getElem?_eq_getElem h]; rfl

theorem profVn_le (v : List (List Int)) (p : List Int) (hs : secOk v = true) (hp : p.length = v.length) : ∀ n, n ≤ p.length → -6000000 * (n : Int) ≤ profVn v p n ∧ profVn v p n ≤ 6000000 * (n : Int) := by
  obtain ⟨h0, h1, h2, h3⟩ := secOk_parts hs
  intro n
  induction n with
  | zero => intro _; simp [profVn]
  | succ n ih =>
    intro hn
    have a := ih (by omega)
    have b := colV_le (c := v[n]) (by rw [(h3 n (by omega)).1]; omega) (h3 n (by omega)).2 (p.getD n 0)
    rw [profVn_succ, gD v _ n (by omega)]
    omega

theorem seValue_ev (v : List (List Int)) (p : List Int) (hs : secOk v = true) (hd : depOk v p = true) : Ev (fun k => spec_seValue.f k v p) (profV v p) := by
  obtain ⟨h0, h1, h2, h3⟩ := secOk_parts hs
  have hl := depLen hd
  unfold spec_seValue.f
  have key : ∀ (d i : Nat), i + d = p.length → Ev (fun k => spec_seValue.l0 k v (profVn v p i) p (p.length : Int) (i : Int)) (profV v p) := by
    intro d
    induction d with
    | zero =>
      intro i hi
      refine Ev.step (fun k => by rw [spec_seValue.l0]) ?_
      refine Ev.neg (by omega) (Ev.cast ?_ (Ev.now _))
      rw [profV, profVn, ← hi]; rfl
    | succ d ih =>
      intro i hi
      refine Ev.step (fun k => by rw [spec_seValue.l0]) ?_
      refine Ev.pos (by omega) (Ev.pos (nn _) (Ev.pos (by omega) (Ev.pos (by omega) ?_)))
      have q := dep_at hd i (by omega)
      have c3 := h3 i (by omega)
      rw [rd_get p i (by omega), rdL1_get v i (by omega)]
      refine Ev.bind (seColumn_ev v[i] (by omega) c3.2 p[i] q.1 (by omega)) ?_
      have s := profVn_succ v p i
      rw [gD v _ i (by omega), gD p _ i (by omega)] at s
      have b := profVn_le v p hs hl (i + 1) (by omega)
      rw [← s, wr _ (by omega) (by omega), wr_nat i p.length (by omega) (by omega)]
      exact ih (i + 1) (by omega)
  exact key p.length 0 (by omega)

theorem impl_ProfileValue_l1 (v : List (List Int)) (p : List Int) (s0 : Int) (i : Nat) (n : Int) (c : List Int) (hl : c.length ≤ 6) (h : c.all (inB (-1000000) 1000000) = true) (hs0 : -100000000 ≤ s0 ∧ s0 ≤ 100000000) (r : Int × Bool)
    (hk : Ev (fun k => impl_ProfileValue.l0 k v (s0 + c.sum) p n (wrap64 ((i : Int) + 1))) r) : ∀ (d j : Nat), j + d = c.length →
    Ev (fun k => impl_ProfileValue.l1 k v (s0 + (c.take j).sum) p n (i : Int) c (c.length : Int) (j : Int)) r := by
  intro d
  induction d with
  | zero =>
    intro j hj
    refine Ev.step (fun k => by rw [impl_ProfileValue.l1]) ?_
    refine Ev.neg (by omega) ?_
    rw [List.take_of_length_le (by omega)]
    exact hk
  | succ d ih =>
    intro j hj
    refine Ev.step (fun k => by rw [impl_ProfileValue.l1]) ?_
    refine Ev.pos (by omega) (Ev.pos (nn _) (Ev.pos (by omega) ?_))
    have a := sum_le (all_take h (j + 1))
    have a' : (List.take (j + 1) c).length ≤ 6 := by rw [List.length_take]; omega
    rw [rd_get c j (by omega), Int.add_assoc, ← sum_take_succ c j (by omega), wr _ (by omega) (by omega), wr_nat j c.length (by omega) (by omega)]
    exact ih (j + 1) (by omega)

def pvR (v : List (List Int)) (p : List Int) : Int × Bool := if secOk v = true ∧ depOk v p = true ∧ adjOk p = true then (profV v p, true) else (0, false)

theorem impl_ProfileValue_ev (v : List (List Int)) (p : List Int) : Ev (fun k => impl_ProfileValue.f k v p) (pvR v p) := by
  unfold impl_ProfileValue.f pvR
  have J : ∀ r, r = (0, false) → Ev (fun k => impl_ProfileValue.j0 k v p true) r := by
    rintro r rfl
    exact Ev.step (fun k => by rw [impl_ProfileValue.j0]) (Ev.pos rfl (Ev.now _))
  refine Ev.bind (IsSection_ev v) (Ev.cases (fun hs => ?_) (fun h => J _ (by rw [if_neg (fun e => h e.1)])))
  refine Ev.bind (isProfile_ev v p hs) ?_
  by_cases hd : (depOk v p && adjOk p) = true
  · rw [hd]
    rw [Bool.and_eq_true] at hd
    rw [if_pos ⟨hs, hd⟩]
    refine Ev.step (fun k => by rw [impl_ProfileValue.j0]) (Ev.neg (by simp) ?_)
    obtain ⟨h0, h1, h2, h3⟩ := secOk_parts hs
    have hl := depLen hd.1
    have key : ∀ (d i : Nat), i + d = p.length → Ev (fun k => impl_ProfileValue.l0 k v (profVn v p i) p (p.length : Int) (i : Int)) (profV v p, true) := by
      intro d
      induction d with
      | zero =>
        intro i hi
        refine Ev.step (fun k => by rw [impl_ProfileValue.l0]) ?_
        refine Ev.neg (by omega) (Ev.cast ?_ (Ev.now _))
        rw [profV, profVn, ← hi]; rfl
      | succ d ih =>
        intro i hi
        refine Ev.step (fun k => by rw [impl_ProfileValue.l0]) ?_
        have q := dep_at hd.1 i (by omega)
        have c3 := h3 i (by omega)
        rw [rd_get p i (by omega), rdL1_get v i (by omega)]
        refine Ev.pos (by omega) (Ev.pos (nn _) (Ev.pos (by omega) (Ev.pos (by omega) (Ev.pos q.1 (Ev.pos (by omega) ?_)))))
        have s := profVn_succ v p i
        rw [gD v _ i (by omega), gD p _ i (by omega)] at s
        have b := profVn_le v p hs hl i (by omega)
        have := impl_ProfileValue_l1 v p (profVn v p i) i (p.length : Int) (v[i].take p[i].toNat) (by rw [List.length_take]; omega) (all_take c3.2 _) (by omega) (profV v p, true) (by
          rw [wr_nat i p.length (by omega) (by omega)]
          have e := ih (i + 1) (by omega)
          rw [s] at e
          exact e) _ 0 (Nat.zero_add _)
        simpa using this
    exact key p.length 0 (by omega)
  · rw [bf hd]
    exact J _ (by rw [if_neg (fun e => hd (by rw [e.2.1, e.2.2]; rfl))])

theorem spec_ProfileValue_ev (v : List (List Int)) (p : List Int) (hv : v.length < 9223372036854775807) (hi : ∀ z ∈ v, z.length < 9223372036854775807) (hp : p.length < 9223372036854775807) : Ev (fun k => spec_ProfileValue.f k v p) (pvR v p) := by
  unfold spec_ProfileValue.f pvR
  refine Ev.bind (seGood_ev v hv hi) (Ev.cases (fun hs => ?_) (fun h => Ev.cast (by rw [if_neg (fun e => h e.1)]) (Ev.now _)))
  refine Ev.bind (seProfile_ev v p hs hp) (Ev.cases (fun hd => ?_) (fun h => Ev.cast (by rw [if_neg (fun e => h (by rw [e.2.1, e.2.2]; rfl))]) (Ev.now _)))
  rw [Bool.and_eq_true] at hd
  rw [if_pos ⟨hs, hd⟩]
  exact Ev.bind (seValue_ev v p hs hd.1) (Ev.now _)

def ptRow (z : Nat) (p : List Int) : List Int := (p.map fun d => if (z : Int) < d then 35 else 46) ++ [10]

def ptN (p : List Int) (n : Nat) : List Int := ((List.range n).map fun z => ptRow z p).flatten

theorem ptN_succ (p : List Int) (n : Nat) : ptN p (n + 1) = ptN p n ++ ptRow n p := by
  unfold ptN
  rw [List.range_succ, List.map_append, List.flatten_append]; simp

theorem ptRow_len (z : Nat) (p : List Int) : (ptRow z p).length = p.length + 1 := by simp [ptRow]

theorem ptN_len (p : List Int) (n : Nat) : (ptN p n).length = n * (p.length + 1) := by
  induction n with
  | zero => simp [ptN]
  | succ n ih => rw [ptN_succ, List.length_append, ih, ptRow_len, Nat.succ_mul]

theorem impl_ProfileText_l1 (p : List Int) (hp : p.length ≤ 8) (acc : List Int) (ha : acc.length ≤ 100) (z : Nat) (n : Int) (r : ByteArray × Bool)
    (hk : Ev (fun k => impl_ProfileText.l0 k p (acc ++ ptRow z p) n (wrap64 ((z : Int) + 1))) r) : ∀ (d i : Nat), i + d = p.length →
    Ev (fun k => impl_ProfileText.l1 k p (acc ++ (p.take i).map fun d => if (z : Int) < d then 35 else 46) (z : Int) n (z : Int) p (p.length : Int) (i : Int)) r := by
  intro d
  induction d with
  | zero =>
    intro i hi
    refine Ev.step (fun k => by rw [impl_ProfileText.l1]) ?_
    refine Ev.neg (by omega) (Ev.pos (by simp; omega) ?_)
    rw [List.take_of_length_le (by omega), List.append_assoc]
    exact hk
  | succ d ih =>
    intro i hi
    refine Ev.step (fun k => by rw [impl_ProfileText.l1]) ?_
    refine Ev.pos (by omega) (Ev.pos (nn _) (Ev.pos (by omega) ?_))
    have hb : (acc ++ (p.take i).map fun d => if (z : Int) < d then (35 : Int) else 46).length < 140737488355328 := by simp; omega
    have e := ih (i + 1) (by omega)
    rw [List.take_succ_eq_append_getElem (by omega : i < p.length), List.map_append, List.map_singleton, ← List.append_assoc] at e
    rw [rd_get p i (by omega), wr_nat i p.length (by omega) (by omega)]
    refine Ev.cases (fun h => Ev.pos hb ?_) (fun h => Ev.pos hb ?_)
    · rw [if_pos h] at e; exact e
    · rw [if_neg h] at e; exact e

def ptR (v : List (List Int)) (p : List Int) : ByteArray × Bool := if secOk v = true ∧ depOk v p = true ∧ adjOk p = true then (strOfNums (ptN p (v.headD []).length), true) else (⟨#[]⟩, false)

theorem impl_ProfileText_ev (v : List (List Int)) (p : List Int) : Ev (fun k => impl_ProfileText.f k v p) (ptR v p) := by
  unfold impl_ProfileText.f ptR
  have J : ∀ r, r = ((⟨#[]⟩ : ByteArray), false) → Ev (fun k => impl_ProfileText.j0 k v p true) r := by
    rintro r rfl
    exact Ev.step (fun k => by rw [impl_ProfileText.j0]) (Ev.pos rfl (Ev.now _))
  refine Ev.bind (IsSection_ev v) (Ev.cases (fun hs => ?_) (fun h => J _ (by rw [if_neg (fun e => h e.1)])))
  refine Ev.bind (isProfile_ev v p hs) ?_
  by_cases hd : (depOk v p && adjOk p) = true
  · rw [hd]
    rw [Bool.and_eq_true] at hd
    rw [if_pos ⟨hs, hd⟩]
    obtain ⟨h0, h1, h2, h3⟩ := secOk_parts hs
    have hl := depLen hd.1
    refine Ev.step (fun k => by rw [impl_ProfileText.j0]) (Ev.neg (by simp) (Ev.pos (by omega) ?_))
    rw [rdL1_zero]
    have key : ∀ (d z : Nat), z + d = (v.headD []).length → Ev (fun k => impl_ProfileText.l0 k p (ptN p z) ((v.headD []).length : Int) (z : Int)) (strOfNums (ptN p (v.headD []).length), true) := by
      intro d
      induction d with
      | zero =>
        intro z hz
        refine Ev.step (fun k => by rw [impl_ProfileText.l0]) ?_
        exact Ev.neg (by omega) (Ev.cast (by rw [← hz]; rfl) (Ev.now _))
      | succ d ih =>
        intro z hz
        refine Ev.step (fun k => by rw [impl_ProfileText.l0]) ?_
        refine Ev.pos (by omega) ?_
        have hb : (ptN p z).length ≤ 100 := by
          rw [ptN_len]
          exact Nat.le_trans (Nat.mul_le_mul (show z ≤ 6 by omega) (show p.length + 1 ≤ 9 by omega)) (by omega)
        have e := ih (z + 1) (by omega)
        rw [ptN_succ, ← wr_nat z (v.headD []).length (by omega) (by omega)] at e
        simpa using impl_ProfileText_l1 p (by omega) (ptN p z) hb z _ _ e p.length 0 (Nat.zero_add _)
    exact key _ 0 (Nat.zero_add _)
  · rw [bf hd]
    exact J _ (by rw [if_neg (fun e => hd (by rw [e.2.1, e.2.2]; rfl))])

theorem ba_app (xs ys : List Int) : strOfNums xs ++ strOfNums ys = strOfNums (xs ++ ys) := by
  apply ByteArray.ext
  rw [ByteArray.data_append]
  simp [strOfNums]

theorem ba_size (xs : List Int) : (strOfNums xs).size = xs.length := by
  simp [strOfNums, ByteArray.size]

theorem spec_ProfileText_l1 (p : List Int) (hp : p.length ≤ 8) (acc : List Int) (ha : acc.length ≤ 100) (z : Nat) (n : Int) (r : ByteArray × Bool)
    (hk : Ev (fun k => spec_ProfileText.l0 k p (strOfNums (acc ++ ptRow z p)) n (wrap64 ((z : Int) + 1))) r) : ∀ (d i : Nat), i + d = p.length →
    Ev (fun k => spec_ProfileText.l1 k p (strOfNums (acc ++ (p.take i).map fun d => if (z : Int) < d then 35 else 46)) (z : Int) n (z : Int) p (p.length : Int) (i : Int)) r := by
  have e35 : (⟨#[35]⟩ : ByteArray) = strOfNums [35] := by decide
  have e46 : (⟨#[46]⟩ : ByteArray) = strOfNums [46] := by decide
  have e10 : (⟨#[10]⟩ : ByteArray) = strOfNums [10] := by decide
  intro d
  induction d with
  | zero =>
    intro i hi
    refine Ev.step (fun k => by rw [spec_ProfileText.l1]) ?_
    refine Ev.neg (by omega) (Ev.pos (by rw [ba_size]; simp; omega) ?_)
    rw [List.take_of_length_le (by omega), e10, ba_app, List.append_assoc]
    exact hk
  | succ d ih =>
    intro i hi
    refine Ev.step (fun k => by rw [spec_ProfileText.l1]) ?_
    refine Ev.pos (by omega) (Ev.pos (nn _) (Ev.pos (by omega) ?_))
    have hb : (strOfNums (acc ++ (p.take i).map fun d => if (z : Int) < d then (35 : Int) else 46)).size + 1 ≤ 9223372036854775807 := by rw [ba_size]; simp; omega
    have e := ih (i + 1) (by omega)
    rw [List.take_succ_eq_append_getElem (by omega : i < p.length), List.map_append, List.map_singleton, ← List.append_assoc, ← ba_app] at e
    rw [rd_get p i (by omega), wr_nat i p.length (by omega) (by omega)]
    refine Ev.cases (fun h => Ev.pos hb ?_) (fun h => Ev.pos hb ?_)
    · rw [if_pos h] at e; rw [e35]; exact e
    · rw [if_neg h] at e; rw [e46]; exact e

theorem spec_ProfileText_ev (v : List (List Int)) (p : List Int) (hv : v.length < 9223372036854775807) (hi : ∀ z ∈ v, z.length < 9223372036854775807) (hp : p.length < 9223372036854775807) : Ev (fun k => spec_ProfileText.f k v p) (ptR v p) := by
  unfold spec_ProfileText.f ptR
  have J : ∀ r, r = ((⟨#[]⟩ : ByteArray), false) → Ev (fun k => spec_ProfileText.j0 k v p true) r := by
    rintro r rfl
    exact Ev.step (fun k => by rw [spec_ProfileText.j0]) (Ev.pos rfl (Ev.now _))
  refine Ev.bind (seGood_ev v hv hi) (Ev.cases (fun hs => ?_) (fun h => J _ (by rw [if_neg (fun e => h e.1)])))
  refine Ev.bind (seProfile_ev v p hs hp) ?_
  by_cases hd : (depOk v p && adjOk p) = true
  · rw [hd]
    rw [Bool.and_eq_true] at hd
    rw [if_pos ⟨hs, hd⟩]
    obtain ⟨h0, h1, h2, h3⟩ := secOk_parts hs
    have hl := depLen hd.1
    refine Ev.step (fun k => by rw [spec_ProfileText.j0]) (Ev.neg (by simp) (Ev.pos (by omega) ?_))
    rw [rdL1_zero, show (⟨#[]⟩ : ByteArray) = strOfNums (ptN p 0) by simp [ptN, strOfNums]]
    have key : ∀ (d z : Nat), z + d = (v.headD []).length → Ev (fun k => spec_ProfileText.l0 k p (strOfNums (ptN p z)) ((v.headD []).length : Int) (z : Int)) (strOfNums (ptN p (v.headD []).length), true) := by
      intro d
      induction d with
      | zero =>
        intro z hz
        refine Ev.step (fun k => by rw [spec_ProfileText.l0]) ?_
        exact Ev.neg (by omega) (Ev.cast (by rw [← hz]; rfl) (Ev.now _))
      | succ d ih =>
        intro z hz
        refine Ev.step (fun k => by rw [spec_ProfileText.l0]) ?_
        refine Ev.pos (by omega) ?_
        have hb : (ptN p z).length ≤ 100 := by
          rw [ptN_len]
          exact Nat.le_trans (Nat.mul_le_mul (show z ≤ 6 by omega) (show p.length + 1 ≤ 9 by omega)) (by omega)
        have e := ih (z + 1) (by omega)
        rw [ptN_succ, ← wr_nat z (v.headD []).length (by omega) (by omega)] at e
        simpa using spec_ProfileText_l1 p (by omega) (ptN p z) hb z _ _ e p.length 0 (Nat.zero_add _)
    exact key _ 0 (Nat.zero_add _)
  · rw [bf hd]
    exact J _ (by rw [if_neg (fun e => hd (by rw [e.2.1, e.2.2]; rfl))])

def incr : List Int → Bool
  | a :: b :: t => decide (a < b) && incr (b :: t)
  | _ => true

theorem incr_cons {a b : Int} {t : List Int} : incr (a :: b :: t) = (decide (a < b) && incr (b :: t)) := by rw [incr]

theorem incr_short (p : List Int) (h : p.length ≤ 1) : incr p = true := by
  match p, h with
  | [], _ => rfl
  | [a], _ => rfl
  | a :: b :: t, h => simp at h

def rise (lo hi : Int) (xs : List Int) : Bool := xs.all (inB lo hi) && incr xs

theorem areBlocks_ev (xs : List Int) (n : Int) (hx : xs.length < 9223372036854775807) : Ev (fun k => impl_areBlocks.f k xs n) (rise 0 (n - 1) xs) := by
  unfold impl_areBlocks.f rise
  have key : ∀ (d i : Nat), i + d = xs.length → Ev (fun k => impl_areBlocks.l0 k xs n xs (xs.length : Int) (i : Int)) ((xs.drop i).all (inB 0 (n - 1)) && incr (xs.drop (i - 1))) := by
    intro d
    induction d with
    | zero =>
      intro i hi
      refine Ev.step (fun k => by rw [impl_areBlocks.l0]) ?_
      refine Ev.neg (by omega) (Ev.cast ?_ (Ev.now _))
      rw [dr0 _ _ (by omega), incr_short _ (by rw [List.length_drop]; omega)]; rfl
    | succ d ih =>
      intro i hd
      refine Ev.step (fun k => by rw [impl_areBlocks.l0]) ?_
      refine Ev.pos (by omega) (Ev.pos (nn _) (Ev.pos (by omega) ?_))
      rw [rd_get xs i (by omega), dr xs i (by omega), List.all_cons]
      refine Ev.cases (fun h => Ev.cast (by rw [inB, decide_eq_false (by omega)]; rfl) (Ev.now _)) (fun h1 => ?_)
      refine Ev.cases (fun h => Ev.cast (by rw [inB, decide_eq_false (by omega)]; rfl) (Ev.now _)) (fun h2 => ?_)
      rw [inB, decide_eq_true (show 0 ≤ xs[i] ∧ xs[i] ≤ n - 1 by omega), Bool.true_and]
      refine Ev.cases (fun h3 => ?_) (fun h3 => ?_)
      · have e : wrap64 ((i : Int) - 1) = ((i - 1 : Nat) : Int) := by rw [wr _ (by omega) (by omega)]; omega
        rw [e]
        refine Ev.pos (nn _) (Ev.pos (by omega) ?_)
        rw [rd_get xs (i - 1) (by omega), dr xs (i - 1) (by omega), show i - 1 + 1 = i by omega, dr xs i (by omega), incr_cons]
        refine Ev.cases (fun h2 => Ev.cast (by rw [decide_eq_false (show ¬ xs[i - 1] < xs[i] by omega)]; simp) (Ev.now _)) (fun h2 => ?_)
        rw [decide_eq_true (show xs[i - 1] < xs[i] by omega), Bool.true_and, ← dr xs i (by omega), wr_nat i xs.length (by omega) hx]
        exact ih (i + 1) (by omega)
      · obtain rfl : i = 0 := by omega
        rw [wr_nat 0 xs.length (by omega) hx]
        exact ih 1 (by omega)
  exact key xs.length 0 (by omega)

theorem rise_mem {lo hi : Int} {xs : List Int} (h : rise lo hi xs = true) {x : Int} (hx : x ∈ xs) : lo ≤ x ∧ x ≤ hi := by
  unfold rise at h
  rw [Bool.and_eq_true, List.all_eq_true] at h
  exact of_decide_eq_true (h.1 x hx)

def levL (v : List (List Int)) (z : Nat) : List Int := v.map fun c => c.getD z 0

def secL (v : List (List Int)) (n : Nat) : List Int := ((List.range n).map (levL v)).flatten

theorem secL_succ (v : List (List Int)) (n : Nat) : secL v (n + 1) = secL v n ++ levL v n := by
  unfold secL
  rw [List.range_succ, List.map_append, List.flatten_append]; simp

theorem secL_len (v : List (List Int)) (n : Nat) : (secL v n).length = n * v.length := by
  induction n with
  | zero => simp [secL]
  | succ n ih => rw [secL_succ, List.length_append, ih, levL, List.length_map, Nat.succ_mul]

theorem impl_SectionValues_l1 (v : List (List Int)) (D z : Nat) (hz : z < D) (hD : ∀ i (h : i < v.length), v[i].length = D) (hv : v.length ≤ 8) (acc : List Int) (ha : acc.length ≤ 100) (r : List Int × Bool)
    (h : Ev (fun k => impl_SectionValues.l0 k v (acc ++ levL v z) (D : Int) (wrap64 ((z : Int) + 1))) r) : ∀ (d i : Nat), i + d = v.length →
    Ev (fun k => impl_SectionValues.l1 k v (acc ++ levL (v.take i) z) (z : Int) (D : Int) (z : Int) (v.length : Int) (i : Int)) r := by
  intro d
  induction d with
  | zero =>
    intro i hi
    refine Ev.step (fun k => by rw [impl_SectionValues.l1]) ?_
    refine Ev.neg (by omega) ?_
    rw [List.take_of_length_le (by omega)]
    exact h
  | succ d ih =>
    intro i hi
    have e := ih (i + 1) (by omega)
    rw [List.take_succ_eq_append_getElem (by omega), levL, List.map_append, List.map_singleton, ← List.append_assoc] at e
    refine Ev.step (fun k => by rw [impl_SectionValues.l1]) ?_
    rw [rdL1_get v i (by omega), rd_nat, wr_nat i v.length (by omega) (by omega)]
    exact Ev.pos (by omega) (Ev.pos (nn _) (Ev.pos (by omega) (Ev.pos (nn _) (Ev.pos (by rw [hD i (by omega)]; omega) (Ev.pos (by simp [levL]; omega) e)))))

def secR (v : List (List Int)) : List Int × Bool := if secOk v = true then (secL v (v.headD []).length, true) else ([], false)

theorem secL_small {v : List (List Int)} (hs : secOk v = true) (z : Nat) (hz : z ≤ (v.headD []).length) : (secL v z).length ≤ 100 := by
  obtain ⟨h0, h1, h2, h3⟩ := secOk_parts hs
  rw [secL_len]
  exact Nat.le_trans (Nat.mul_le_mul (show z ≤ 6 by omega) h1) (by omega)

theorem impl_SectionValues_ev (v : List (List Int)) : Ev (fun k => impl_SectionValues.f k v) (secR v) := by
  unfold impl_SectionValues.f secR
  refine Ev.bind (IsSection_ev v) (Ev.cases (fun hs => ?_) (fun h => Ev.cast (by rw [if_neg h]) (Ev.now _)))
  obtain ⟨h0, h1, h2, h3⟩ := secOk_parts hs
  rw [if_pos hs, rdL1_zero]
  refine Ev.pos (by omega) ?_
  have key : ∀ (d z : Nat), z + d = (v.headD []).length → Ev (fun k => impl_SectionValues.l0 k v (secL v z) ((v.headD []).length : Int) (z : Int)) (secL v (v.headD []).length, true) := by
    intro d
    induction d with
    | zero =>
      intro z hz
      refine Ev.step (fun k => by rw [impl_SectionValues.l0]) ?_
      exact Ev.neg (by omega) (Ev.cast (by rw [show z = (v.headD []).length by omega]) (Ev.now _))
    | succ d ih =>
      intro z hz
      have e := ih (z + 1) (by omega)
      rw [secL_succ, ← wr_nat z 100 (by omega) (by omega)] at e
      refine Ev.step (fun k => by rw [impl_SectionValues.l0]) ?_
      refine Ev.pos (by omega) ?_
      simpa [levL] using impl_SectionValues_l1 v _ z (by omega) (fun i h => (h3 i h).1) h1 _ (secL_small hs z (by omega)) _ e v.length 0 (Nat.zero_add _)
  exact key _ 0 (Nat.zero_add _)

theorem mid_set {α : Type} (pre : List α) (a b : α) (suf : List α) (i : Nat) (h : pre.length = i) : (pre ++ a :: suf).set i b = pre ++ b :: suf := by
  subst h
  rw [List.set_append_right _ _ (Nat.le_refl _), Nat.sub_self, List.set_cons_zero]

theorem mid_get (pre : List Int) (a : Int) (suf : List Int) (i : Nat) (h : pre.length = i) : rd (pre ++ a :: suf) (i : Int) = a := by
  subst h
  exact rd_mid pre a suf

def gpAt (p : List Int) (c k : Nat) : Int := p.getD k 0 + (if c ≤ k then (k : Int) - (c : Int) else (c : Int) - (k : Int))

def gpBest (p : List Int) (c : Nat) : Nat → Int
  | 0 => p.getD c 0
  | j + 1 => if gpBest p c j > gpAt p c j then gpAt p c j else gpBest p c j

def gpIs (p : List Int) (n c : Nat) (x : Int) : Prop := (∀ k, k < n → gpAt p c k ≥ x) ∧ ∃ k, k < n ∧ x = gpAt p c k

theorem gpIs_unique {p : List Int} {n c : Nat} {x y : Int} (hx : gpIs p n c x) (hy : gpIs p n c y) : x = y := by
  obtain ⟨h1, k1, hk1, e1⟩ := hx
  obtain ⟨h2, k2, hk2, e2⟩ := hy
  have a := h1 k2 hk2
  have b := h2 k1 hk1
  omega

theorem gpBest_is (p : List Int) (n c : Nat) (hc : c < n) : gpIs p n c (gpBest p c n) := by
  have key : ∀ j, j ≤ n → (∀ k, k < j → gpAt p c k ≥ gpBest p c j) ∧ p.getD c 0 ≥ gpBest p c j ∧ ∃ k, k < n ∧ gpBest p c j = gpAt p c k := by
    intro j
    induction j with
    | zero => intro _; exact ⟨fun k hk => absurd hk (by omega), by simp [gpBest], c, hc, by simp [gpBest, gpAt]⟩
    | succ j ih =>
      intro hj
      obtain ⟨h1, h2, k, hk, h3⟩ := ih (by omega)
      rw [gpBest]
      split
      · rename_i h
        refine ⟨fun q hq => ?_, by omega, j, by omega, rfl⟩
        by_cases e : q = j
        · subst e; omega
        · have := h1 q (by omega); omega
      · rename_i h
        refine ⟨fun q hq => ?_, h2, k, hk, h3⟩
        by_cases e : q = j
        · subst e; omega
        · exact h1 q (by omega)
  obtain ⟨h1, _, h3⟩ := key n (Nat.le_refl _)
  exact ⟨h1, h3⟩

def gpF (p : List Int) : Nat → Int
  | 0 => p.getD 0 0
  | i + 1 => if gpF p i + 1 ≥ p.getD (i + 1) 0 then p.getD (i + 1) 0 else gpF p i + 1

theorem gpF_is (p : List Int) : ∀ i : Nat, (∀ k, k ≤ i → p.getD k 0 + ((i : Int) - (k : Int)) ≥ gpF p i) ∧ ∃ k, k ≤ i ∧ gpF p i = p.getD k 0 + ((i : Int) - (k : Int)) := by
  intro i
  induction i with
  | zero => exact ⟨fun k hk => by obtain rfl : k = 0 := by omega
                                  simp [gpF], 0, Nat.le_refl _, by simp [gpF]⟩
  | succ i ih =>
    obtain ⟨h1, k, hk, h2⟩ := ih
    rw [gpF]
    split
    · rename_i h
      refine ⟨fun q hq => ?_, i + 1, Nat.le_refl _, by omega⟩
      by_cases e : q = i + 1
      · subst e; omega
      · have := h1 q (by omega); omega
    · rename_i h
      refine ⟨fun q hq => ?_, k, by omega, by omega⟩
      by_cases e : q = i + 1
      · subst e; omega
      · have := h1 q (by omega); omega

def gpG (p : List Int) (n : Nat) : Nat → Int
  | 0 => gpF p (n - 1)
  | d + 1 => if gpG p n d + 1 ≥ gpF p (n - 2 - d) then gpF p (n - 2 - d) else gpG p n d + 1

theorem gpG_is (p : List Int) (n : Nat) : ∀ d : Nat, d < n → gpIs p n (n - 1 - d) (gpG p n d) := by
  intro d
  induction d with
  | zero =>
    intro hd
    obtain ⟨h1, k, hk, h2⟩ := gpF_is p (n - 1)
    refine ⟨fun q hq => ?_, k, by omega, ?_⟩
    · have := h1 q (by omega)
      rw [gpG, gpAt]
      split <;> omega
    · rw [gpG, h2, gpAt]
      split <;> omega
  | succ d ih =>
    intro hd
    obtain ⟨g1, gk, ghk, g2⟩ := ih (by omega)
    obtain ⟨h1, k, hk, h2⟩ := gpF_is p (n - 2 - d)
    rw [show n - 1 - (d + 1) = n - 2 - d by omega, gpG]
    have low : ∀ q, q ≤ n - 2 - d → gpAt p (n - 2 - d) q ≥ gpF p (n - 2 - d) := by
      intro q hq
      have := h1 q hq
      rw [gpAt]
      split <;> omega
    have high : ∀ q, n - 2 - d < q → q < n → gpAt p (n - 2 - d) q ≥ gpG p n d + 1 := by
      intro q hq hq2
      have := g1 q hq2
      rw [gpAt, if_pos (by omega)] at this
      rw [gpAt, if_pos (by omega)]
      omega
    split
    · rename_i h
      refine ⟨fun q hq => ?_, k, by omega, ?_⟩
      · by_cases e : q ≤ n - 2 - d
        · exact low q e
        · have := high q (by omega) hq; omega
      · rw [h2, gpAt]
        split <;> omega
    · rename_i h
      refine ⟨fun q hq => ?_, gk, ghk, ?_⟩
      · by_cases e : q ≤ n - 2 - d
        · have := low q e; omega
        · exact high q (by omega) hq
      · by_cases e : gk ≤ n - 2 - d
        · have := h1 gk e
          rw [gpAt] at g2
          split at g2 <;> omega
        · rw [g2, gpAt, gpAt, if_pos (by omega), if_pos (by omega)]
          omega

def gpL (p : List Int) : List Int := (List.range p.length).map fun c => gpBest p c p.length

theorem gp_same (p : List Int) : (List.range p.length).map (fun i => gpG p p.length (p.length - 1 - i)) = gpL p := by
  unfold gpL
  refine List.map_congr_left (fun i hi => ?_)
  have hi := List.mem_range.1 hi
  have g := gpG_is p p.length (p.length - 1 - i) (by omega)
  rw [show p.length - 1 - (p.length - 1 - i) = i by omega] at g
  exact gpIs_unique g (gpBest_is p p.length i hi)

theorem gpF_small (p : List Int) (hp : ∀ i (h : i < p.length), 0 ≤ p[i] ∧ p[i] ≤ 6) (hl : p.length ≤ 8) (i : Nat) (hi : i < p.length) : -20 ≤ gpF p i ∧ gpF p i ≤ 20 := by
  obtain ⟨h1, k, hk, h2⟩ := gpF_is p i
  have := hp k (by omega)
  rw [gD p 0 k (by omega)] at h2
  omega

theorem gpG_small (p : List Int) (hp : ∀ i (h : i < p.length), 0 ≤ p[i] ∧ p[i] ≤ 6) (hl : p.length ≤ 8) (d : Nat) (hd : d < p.length) : -20 ≤ gpG p p.length d ∧ gpG p p.length d ≤ 20 := by
  obtain ⟨h1, k, hk, h2⟩ := gpG_is p p.length d hd
  have := hp k (by omega)
  rw [gpAt, gD p 0 k (by omega)] at h2
  split at h2 <;> omega

theorem spec_seLower_l1 (p : List Int) (hp : ∀ i (h : i < p.length), 0 ≤ p[i] ∧ p[i] ≤ 6) (hl : p.length ≤ 8) : ∀ (i d : Nat), i + d = p.length → 1 ≤ d →
    Ev (fun k => spec_seLower.l1 k ((List.range i).map (gpF p) ++ (List.range' i d).map (fun i => gpG p p.length (p.length - 1 - i))) ((i : Int) - 1)) (gpL p) := by
  intro i
  induction i with
  | zero =>
    intro d hd h1
    refine Ev.step (fun k => by rw [spec_seLower.l1]) ?_
    refine Ev.neg (by omega) (Ev.cast ?_ (Ev.now _))
    rw [← gp_same p, show d = p.length by omega, ← List.range_eq_range']; rfl
  | succ i ih =>
    intro d hd h1
    have e := ih (d + 1) (by omega) (by omega)
    have f := gpF_small p hp hl i (by omega)
    have g := gpG_small p hp hl (p.length - 1 - (i + 1)) (by omega)
    have hlen : ((List.range (i + 1)).map (gpF p) ++ (List.range' (i + 1) d).map (fun i => gpG p p.length (p.length - 1 - i))).length = p.length := by simp; omega
    have r0 : (List.range (i + 1)).map (gpF p) ++ (List.range' (i + 1) d).map (fun i => gpG p p.length (p.length - 1 - i)) = (List.range i).map (gpF p) ++ gpF p i :: (List.range' (i + 1) d).map (fun i => gpG p p.length (p.length - 1 - i)) := by
      rw [List.range_succ, List.map_append, List.map_singleton, List.append_assoc, List.singleton_append]
    have r1 : (List.range' (i + 1) d).map (fun i => gpG p p.length (p.length - 1 - i)) = gpG p p.length (p.length - 1 - (i + 1)) :: (List.range' (i + 2) (d - 1)).map (fun i => gpG p p.length (p.length - 1 - i)) := by
      obtain ⟨d', rfl⟩ : ∃ d', d = d' + 1 := ⟨d - 1, by omega⟩
      rw [List.range'_succ, List.map_cons]; rfl
    refine Ev.step (fun k => by rw [spec_seLower.l1]) ?_
    rw [hlen, show ((i + 1 : Nat) : Int) - 1 = (i : Int) by omega, wr_nat i p.length (by omega) (by omega), wr ((i : Int) - 1) (by omega) (by omega)]
    refine Ev.pos (by omega) (Ev.pos (by omega) (Ev.pos (by omega) (Ev.pos (by omega) (Ev.pos (by omega) ?_))))
    have q0 : rd ((List.range (i + 1)).map (gpF p) ++ (List.range' (i + 1) d).map (fun i => gpG p p.length (p.length - 1 - i))) (i : Int) = gpF p i := by
      rw [r0]; exact mid_get _ _ _ i (by simp)
    have q1 : rd ((List.range (i + 1)).map (gpF p) ++ (List.range' (i + 1) d).map (fun i => gpG p p.length (p.length - 1 - i))) ((i + 1 : Nat) : Int) = gpG p p.length (p.length - 1 - (i + 1)) := by
      rw [r1]; exact mid_get _ _ _ (i + 1) (by simp)
    rw [q0, q1, wr (gpG p p.length (p.length - 1 - (i + 1)) + 1) (by omega) (by omega), l1Least_eq]
    refine Ev.sbind ?_
    rw [Int.toNat_natCast, r0, mid_set _ _ _ _ i (by simp)]
    have eg : (if gpF p i ≤ gpG p p.length (p.length - 1 - (i + 1)) + 1 then gpF p i else gpG p p.length (p.length - 1 - (i + 1)) + 1) = gpG p p.length (p.length - 1 - i) := by
      rw [show p.length - 1 - i = (p.length - 1 - (i + 1)) + 1 by omega, gpG, show p.length - 2 - (p.length - 1 - (i + 1)) = i by omega]
      try split
      all_goals (try split)
      all_goals (try omega)
    rw [eg]
    rw [List.range'_succ, List.map_cons] at e
    exact e

theorem spec_seLower_l0 (p : List Int) (hp : ∀ i (h : i < p.length), 0 ≤ p[i] ∧ p[i] ≤ 6) (hl : p.length ≤ 8) (h0 : 1 ≤ p.length) : ∀ (d i : Nat), i + d = p.length → 1 ≤ i →
    Ev (fun k => spec_seLower.l0 k ((List.range i).map (gpF p) ++ p.drop i) (i : Int)) (gpL p) := by
  intro d
  induction d with
  | zero =>
    intro i hi h1
    refine Ev.step (fun k => by rw [spec_seLower.l0]) ?_
    have hlen : ((List.range i).map (gpF p) ++ p.drop i).length = p.length := by simp; omega
    rw [hlen]
    refine Ev.neg (by omega) ?_
    have e := spec_seLower_l1 p hp hl (p.length - 1) 1 (by omega) (by omega)
    have e3 : (List.range' (p.length - 1) 1).map (fun i => gpG p p.length (p.length - 1 - i)) = [gpF p (p.length - 1)] := by
      simp [gpG]
    rw [e3] at e
    rw [wr _ (by omega) (by omega), dr0 _ _ (by omega), List.append_nil, show i = (p.length - 1) + 1 by omega, List.range_succ, List.map_append, List.map_singleton]
    rw [show ((p.length - 1 : Nat) : Int) - 1 = (p.length : Int) - 2 by omega] at e
    exact e
  | succ d ih =>
    intro i hi h1
    have e := ih (i + 1) (by omega) (by omega)
    have f := gpF_small p hp hl (i - 1) (by omega)
    have b := hp i (by omega)
    have hlen : ((List.range i).map (gpF p) ++ p.drop i).length = p.length := by simp; omega
    refine Ev.step (fun k => by rw [spec_seLower.l0]) ?_
    have e1 : wrap64 ((i : Int) - 1) = ((i - 1 : Nat) : Int) := by rw [wr _ (by omega) (by omega)]; omega
    rw [hlen, e1, wr_nat i p.length (by omega) (by omega)]
    refine Ev.pos (by omega) (Ev.pos (nn _) (Ev.pos (nn _) (Ev.pos (by omega) ?_)))
    have r0 : (List.range i).map (gpF p) ++ p.drop i = (List.range i).map (gpF p) ++ p[i] :: p.drop (i + 1) := by rw [dr p i (by omega)]
    have q0 : rd ((List.range i).map (gpF p) ++ p.drop i) (i : Int) = p[i] := by rw [r0]; exact mid_get _ _ _ i (by simp)
    have q1 : rd ((List.range i).map (gpF p) ++ p.drop i) ((i - 1 : Nat) : Int) = gpF p (i - 1) := by
      rw [rd_nat, List.getD_eq_getElem?_getD, List.getElem?_append_left (by simp; omega), List.getElem?_map, List.getElem?_range (by omega)]; rfl
    rw [q0, q1, wr (gpF p (i - 1) + 1) (by omega) (by omega), l1Least_eq]
    refine Ev.sbind ?_
    rw [Int.toNat_natCast, r0, mid_set _ _ _ _ i (by simp)]
    have eg : (if p[i] ≤ gpF p (i - 1) + 1 then p[i] else gpF p (i - 1) + 1) = gpF p i := by
      obtain ⟨i', rfl⟩ : ∃ i', i = i' + 1 := ⟨i - 1, by omega⟩
      rw [gpF, gD p 0 (i' + 1) (by omega), Nat.add_sub_cancel]
      try split
      all_goals (try split)
      all_goals (try omega)
    rw [eg]
    rw [List.range_succ, List.map_append, List.map_singleton, List.append_assoc, List.singleton_append] at e
    exact e

theorem seLower_ev (v : List (List Int)) (p : List Int) (hs : secOk v = true) (hd : depOk v p = true) : Ev (fun k => spec_seLower.f k p) (gpL p) := by
  obtain ⟨h0, h1, h2, h3⟩ := secOk_parts hs
  have hl := depLen hd
  have hp : ∀ i (h : i < p.length), 0 ≤ p[i] ∧ p[i] ≤ 6 := fun i h => by have := dep_at hd i h; omega
  unfold spec_seLower.f spec_l1Own.f
  refine Ev.bind (a := p) (Ev.sbind (Ev.pos (by simp; omega) (Ev.now _))) ?_
  have e := spec_seLower_l0 p hp (by omega) (by omega) (p.length - 1) 1 (by omega) (by omega)
  have e2 : (List.range 1).map (gpF p) ++ p.drop 1 = p := by
    match p, hl with
    | [], hl => simp at hl; omega
    | a :: t, _ => simp [gpF]
  rw [e2] at e
  exact e

def pbI (p : List Int) (w z : Nat) : Nat → List Int
  | 0 => []
  | i + 1 => pbI p w z i ++ (if (z : Int) < p.getD i 0 then [((z * w + i : Nat) : Int)] else [])

def pbL (p : List Int) (w : Nat) : Nat → List Int
  | 0 => []
  | z + 1 => pbL p w z ++ pbI p w z p.length

def pbR (v : List (List Int)) (p : List Int) : List Int × Bool := if secOk v = true ∧ depOk v p = true ∧ adjOk p = true then (pbL p v.length (v.headD []).length, true) else ([], false)

theorem pbI_len (p : List Int) (w z i : Nat) : (pbI p w z i).length ≤ i := by
  induction i with
  | zero => simp [pbI]
  | succ i ih => rw [pbI, List.length_append]; split <;> simp <;> omega

theorem pbL_small (p : List Int) (w z : Nat) (hz : z ≤ 6) (hp : p.length ≤ 8) : (pbL p w z).length ≤ 100 := by
  have : ∀ z, (pbL p w z).length ≤ z * 8 := by
    intro z
    induction z with
    | zero => simp [pbL]
    | succ z ih => have := pbI_len p w z p.length; rw [pbL, List.length_append]; omega
  have := this z
  omega

theorem spec_ProfileBlocks_l1 (v : List (List Int)) (p : List Int) (D z : Nat) (hz : z ≤ 6) (hv : v.length ≤ 8) (hp : p.length ≤ 8) (acc : List Int) (ha : acc.length ≤ 100) (r : List Int × Bool)
    (h : Ev (fun k => spec_ProfileBlocks.l0 k v p (acc ++ pbI p v.length z p.length) (D : Int) (wrap64 ((z : Int) + 1))) r) : ∀ (d i : Nat), i + d = p.length →
    Ev (fun k => spec_ProfileBlocks.l1 k v p (acc ++ pbI p v.length z i) (z : Int) (D : Int) (z : Int) p (p.length : Int) (i : Int)) r := by
  intro d
  induction d with
  | zero =>
    intro i hi
    obtain rfl : i = p.length := by omega
    refine Ev.step (fun k => by rw [spec_ProfileBlocks.l1]) ?_
    refine Ev.neg (by omega) ?_
    exact h
  | succ d ih =>
    intro i hi
    have e := ih (i + 1) (by omega)
    have hl := pbI_len p v.length z i
    refine Ev.step (fun k => by rw [spec_ProfileBlocks.l1]) ?_
    refine Ev.pos (by omega) (Ev.pos (nn _) (Ev.pos (by omega) ?_))
    rw [rd_get p i (by omega), wr_nat i p.length (by omega) (by omega)]
    have hm : z * v.length ≤ 6 * 8 := Nat.mul_le_mul hz hv
    have hw : wrap64 (wrap64 ((z : Int) * (v.length : Int)) + (i : Int)) = ((z * v.length + i : Nat) : Int) := by
      rw [← Int.natCast_mul]
      generalize z * v.length = m at hm
      rw [wr (m : Int) (by omega) (by omega), wr _ (by omega) (by omega)]; omega
    rw [pbI, gD p 0 i (by omega)] at e
    refine Ev.cases (fun h => Ev.pos (by simp; omega) ?_) (fun h => ?_)
    · rw [if_pos h, ← List.append_assoc] at e
      rw [hw]; exact e
    · rw [if_neg h, List.append_nil] at e
      exact e

theorem spec_ProfileBlocks_ev (v : List (List Int)) (p : List Int) (hv : v.length < 9223372036854775807) (hi : ∀ z ∈ v, z.length < 9223372036854775807) (hp : p.length < 9223372036854775807) : Ev (fun k => spec_ProfileBlocks.f k v p) (pbR v p) := by
  unfold spec_ProfileBlocks.f pbR
  have J : ∀ r, r = (([] : List Int), false) → Ev (fun k => spec_ProfileBlocks.j0 k v p true) r := by
    rintro r rfl
    exact Ev.step (fun k => by rw [spec_ProfileBlocks.j0]) (Ev.pos rfl (Ev.now _))
  refine Ev.bind (seGood_ev v hv hi) (Ev.cases (fun hs => ?_) (fun h => J _ (by rw [if_neg (fun e => h e.1)])))
  refine Ev.bind (seProfile_ev v p hs hp) ?_
  by_cases hd : (depOk v p && adjOk p) = true
  · rw [hd]
    rw [Bool.and_eq_true] at hd
    rw [if_pos ⟨hs, hd⟩]
    obtain ⟨h0, h1, h2, h3⟩ := secOk_parts hs
    have hl := depLen hd.1
    refine Ev.step (fun k => by rw [spec_ProfileBlocks.j0]) ?_
    refine Ev.neg (by simp) (Ev.pos (by omega) ?_)
    rw [rdL1_zero]
    have key : ∀ (d z : Nat), z + d = (v.headD []).length → Ev (fun k => spec_ProfileBlocks.l0 k v p (pbL p v.length z) ((v.headD []).length : Int) (z : Int)) (pbL p v.length (v.headD []).length, true) := by
      intro d
      induction d with
      | zero =>
        intro z hz
        refine Ev.step (fun k => by rw [spec_ProfileBlocks.l0]) ?_
        exact Ev.neg (by omega) (Ev.cast (by rw [← hz]; rfl) (Ev.now _))
      | succ d ih =>
        intro z hz
        refine Ev.step (fun k => by rw [spec_ProfileBlocks.l0]) ?_
        refine Ev.pos (by omega) ?_
        have hb : (pbL p v.length z).length ≤ 100 := pbL_small p _ z (by omega) (by omega)
        have e := ih (z + 1) (by omega)
        rw [pbL, ← wr_nat z (v.headD []).length (by omega) (by omega)] at e
        simpa [pbI] using spec_ProfileBlocks_l1 v p _ z (by omega) h1 (by omega) (pbL p v.length z) hb _ e p.length 0 (Nat.zero_add _)
    exact key _ 0 (Nat.zero_add _)
  · rw [bf hd]
    exact J _ (by rw [if_neg (fun e => hd (by rw [e.2.1, e.2.2]; rfl))])

theorem impl_ProfileBlocks_l1 (v : List (List Int)) (p : List Int) (D z : Nat) (hz : z ≤ 6) (hv : v.length ≤ 8) (hp : p.length ≤ 8) (acc : List Int) (ha : acc.length ≤ 100) (r : List Int × Bool)
    (h : Ev (fun k => impl_ProfileBlocks.l0 k v p (acc ++ pbI p v.length z p.length) (D : Int) (wrap64 ((z : Int) + 1))) r) : ∀ (d i : Nat), i + d = p.length →
    Ev (fun k => impl_ProfileBlocks.l1 k v p (acc ++ pbI p v.length z i) (z : Int) (D : Int) (z : Int) p (p.length : Int) (i : Int)) r := by
  intro d
  induction d with
  | zero =>
    intro i hi
    obtain rfl : i = p.length := by omega
    refine Ev.step (fun k => by rw [impl_ProfileBlocks.l1]) ?_
    refine Ev.neg (by omega) ?_
    exact h
  | succ d ih =>
    intro i hi
    have e := ih (i + 1) (by omega)
    have hl := pbI_len p v.length z i
    refine Ev.step (fun k => by rw [impl_ProfileBlocks.l1]) ?_
    refine Ev.pos (by omega) (Ev.pos (nn _) (Ev.pos (by omega) ?_))
    rw [rd_get p i (by omega), wr_nat i p.length (by omega) (by omega)]
    have hm : z * v.length ≤ 6 * 8 := Nat.mul_le_mul hz hv
    have hw : wrap64 (wrap64 ((z : Int) * (v.length : Int)) + (i : Int)) = ((z * v.length + i : Nat) : Int) := by
      rw [← Int.natCast_mul]
      generalize z * v.length = m at hm
      rw [wr (m : Int) (by omega) (by omega), wr _ (by omega) (by omega)]; omega
    rw [pbI, gD p 0 i (by omega)] at e
    refine Ev.cases (fun h => Ev.pos (by simp; omega) ?_) (fun h => ?_)
    · rw [if_pos h, ← List.append_assoc] at e
      rw [hw]; exact e
    · rw [if_neg h, List.append_nil] at e
      exact e

theorem impl_ProfileBlocks_ev (v : List (List Int)) (p : List Int) : Ev (fun k => impl_ProfileBlocks.f k v p) (pbR v p) := by
  unfold impl_ProfileBlocks.f pbR
  have J : ∀ r, r = (([] : List Int), false) → Ev (fun k => impl_ProfileBlocks.j0 k v p true) r := by
    rintro r rfl
    exact Ev.step (fun k => by rw [impl_ProfileBlocks.j0]) (Ev.pos rfl (Ev.now _))
  refine Ev.bind (IsSection_ev v) (Ev.cases (fun hs => ?_) (fun h => J _ (by rw [if_neg (fun e => h e.1)])))
  refine Ev.bind (isProfile_ev v p hs) ?_
  by_cases hd : (depOk v p && adjOk p) = true
  · rw [hd]
    rw [Bool.and_eq_true] at hd
    rw [if_pos ⟨hs, hd⟩]
    obtain ⟨h0, h1, h2, h3⟩ := secOk_parts hs
    have hl := depLen hd.1
    refine Ev.step (fun k => by rw [impl_ProfileBlocks.j0]) ?_
    refine Ev.neg (by simp) (Ev.pos (by omega) ?_)
    rw [rdL1_zero]
    have key : ∀ (d z : Nat), z + d = (v.headD []).length → Ev (fun k => impl_ProfileBlocks.l0 k v p (pbL p v.length z) ((v.headD []).length : Int) (z : Int)) (pbL p v.length (v.headD []).length, true) := by
      intro d
      induction d with
      | zero =>
        intro z hz
        refine Ev.step (fun k => by rw [impl_ProfileBlocks.l0]) ?_
        exact Ev.neg (by omega) (Ev.cast (by rw [← hz]; rfl) (Ev.now _))
      | succ d ih =>
        intro z hz
        refine Ev.step (fun k => by rw [impl_ProfileBlocks.l0]) ?_
        refine Ev.pos (by omega) ?_
        have hb : (pbL p v.length z).length ≤ 100 := pbL_small p _ z (by omega) (by omega)
        have e := ih (z + 1) (by omega)
        rw [pbL, ← wr_nat z (v.headD []).length (by omega) (by omega)] at e
        simpa [pbI] using impl_ProfileBlocks_l1 v p _ z (by omega) h1 (by omega) (pbL p v.length z) hb _ e p.length 0 (Nat.zero_add _)
    exact key _ 0 (Nat.zero_add _)
  · rw [bf hd]
    exact J _ (by rw [if_neg (fun e => hd (by rw [e.2.1, e.2.2]; rfl))])

def mxR (b : List Int) (lo : Nat) : Nat → Int
  | 0 => b.getD lo 0
  | n + 1 => max (mxR b lo n) (b.getD (lo + n + 1) 0)

def argR (b : List Int) (lo : Nat) : Nat → Nat
  | 0 => lo
  | n + 1 => if b.getD (lo + n + 1) 0 > b.getD (argR b lo n) 0 then lo + n + 1 else argR b lo n

theorem argR_in (b : List Int) (lo : Nat) : ∀ n, lo ≤ argR b lo n ∧ argR b lo n ≤ lo + n
  | 0 => by simp [argR]
  | n + 1 => by
    have ih := argR_in b lo n
    rw [argR]
    split <;> omega

theorem argR_mx (b : List Int) (lo : Nat) : ∀ n, b.getD (argR b lo n) 0 = mxR b lo n
  | 0 => rfl
  | n + 1 => by
    have ih := argR_mx b lo n
    rw [argR, mxR]
    split <;> omega

theorem mxR_le (b : List Int) (lo : Nat) : ∀ n j, lo ≤ j → j ≤ lo + n → b.getD j 0 ≤ mxR b lo n
  | 0, j, h1, h2 => by obtain rfl : j = lo := by omega
                       exact Int.le_refl _
  | n + 1, j, h1, h2 => by
    rw [mxR]
    by_cases c : j = lo + n + 1
    · subst c; exact Int.le_max_right _ _
    · exact Int.le_trans (mxR_le b lo n j h1 (by omega)) (Int.le_max_left _ _)

/-- Ahead of the first greatest one all are less. -/
theorem argR_first (b : List Int) (lo : Nat) : ∀ n j, lo ≤ j → j < argR b lo n → b.getD j 0 < mxR b lo n
  | 0, j, h1, h2 => by rw [argR] at h2; omega
  | n + 1, j, h1, h2 => by
    have hm := argR_mx b lo n
    rw [argR] at h2
    rw [mxR]
    split at h2
    · rename_i c
      have := mxR_le b lo n j h1 (by omega)
      omega
    · have := argR_first b lo n j h1 h2
      omega

theorem bestFrom_ev (b : List Int) (lo n : Nat) (h : lo + n < b.length) (hb : b.length ≤ 1000) : Ev (fun k => impl_bestFrom.f k b (lo : Int) ((lo + n : Nat) : Int)) ((argR b lo n : Nat) : Int) := by
  unfold impl_bestFrom.f
  have key : ∀ (d i : Nat), i + d = n + 1 → Ev (fun k => impl_bestFrom.l0 k b ((lo + n : Nat) : Int) ((argR b lo (i - 1) : Nat) : Int) ((lo + i : Nat) : Int)) ((argR b lo n : Nat) : Int) := by
    intro d
    induction d with
    | zero =>
      intro i hi
      refine Ev.step (fun k => by rw [impl_bestFrom.l0]) ?_
      exact Ev.neg (by omega) (Ev.cast (by rw [show i - 1 = n by omega]) (Ev.now _))
    | succ d ih =>
      intro i hi
      have e := ih (i + 1) (by omega)
      have hin := argR_in b lo (i - 1)
      refine Ev.step (fun k => by rw [impl_bestFrom.l0]) ?_
      rw [wr_nat (lo + i) 100000 (by omega) (by omega), rd_nat, rd_nat]
      refine Ev.pos (by omega) (Ev.pos (nn _) (Ev.pos (by omega) (Ev.pos (nn _) (Ev.pos (by omega) ?_))))
      rw [Nat.add_sub_cancel] at e
      by_cases c0 : i = 0
      · subst c0
        have e : Ev (fun k => impl_bestFrom.l0 k b ((lo + n : Nat) : Int) ((lo : Nat) : Int) ((lo + 0 + 1 : Nat) : Int)) ((argR b lo n : Nat) : Int) := e
        refine Ev.neg ?_ e
        show ¬ b.getD lo 0 > b.getD lo 0
        omega
      · obtain ⟨j, rfl⟩ : ∃ j, i = j + 1 := ⟨i - 1, by omega⟩
        rw [Nat.add_sub_cancel]
        rw [argR, show lo + j + 1 = lo + (j + 1) from rfl] at e
        refine Ev.cases (fun c => ?_) (fun c => ?_)
        · rw [if_pos c] at e; exact e
        · rw [if_neg c] at e; exact e
  exact key (n + 1) 0 (by omega)

theorem seMost_ev (b : List Int) (lo hi : Int) (h0 : max lo 0 < (b.length : Int)) (h1 : max lo 0 ≤ hi) (hb : b.length ≤ 1000) (hh : hi ≤ 1000) : Ev (fun k => spec_seMost.f k b lo hi) (mxR b (max lo 0).toNat ((min hi ((b.length : Int) - 1)).toNat - (max lo 0).toNat)) := by
  unfold spec_seMost.f
  rw [l1Most_eq, show (if lo ≤ 0 then (0 : Int) else lo) = (((max lo 0).toNat : Nat) : Int) by split <;> omega]
  obtain ⟨f, hf⟩ : ∃ f : Nat, f = (max lo 0).toNat := ⟨_, rfl⟩
  obtain ⟨t, ht⟩ : ∃ t : Nat, t = (min hi ((b.length : Int) - 1)).toNat := ⟨_, rfl⟩
  rw [← hf, ← ht]
  refine Ev.sbind (Ev.pos (nn _) (Ev.pos (by omega) (Ev.sbind ?_)))
  have key : ∀ (d i : Nat), i + d = t - f + 1 → Ev (fun k => spec_seMost.l0 k b hi (mxR b f (i - 1)) ((f + i : Nat) : Int)) (mxR b f (t - f)) := by
    intro d
    induction d with
    | zero =>
      intro i hi2
      refine Ev.step (fun k => by rw [spec_seMost.l0]) ?_
      refine Ev.cases (fun _ => Ev.neg (by omega) (Ev.cast (by rw [show i - 1 = t - f by omega]) (Ev.now _))) (fun _ => Ev.cast (by rw [show i - 1 = t - f by omega]) (Ev.now _))
    | succ d ih =>
      intro i hi2
      have e := ih (i + 1) (by omega)
      refine Ev.step (fun k => by rw [spec_seMost.l0]) ?_
      rw [wr_nat (f + i) 100000 (by omega) (by omega), rd_nat, l1Most_eq]
      refine Ev.pos (by omega) (Ev.pos (by omega) (Ev.pos (nn _) (Ev.sbind ?_)))
      rw [Nat.add_sub_cancel] at e
      by_cases c0 : i = 0
      · subst c0
        rw [show (if mxR b f (0 - 1) ≤ b.getD (f + 0) 0 then b.getD (f + 0) 0 else mxR b f (0 - 1)) = mxR b f 0 by show (if b.getD f 0 ≤ b.getD f 0 then b.getD f 0 else b.getD f 0) = b.getD f 0; split <;> rfl]
        exact e
      · obtain ⟨j, rfl⟩ : ∃ j, i = j + 1 := ⟨i - 1, by omega⟩
        rw [Nat.add_sub_cancel, show (if mxR b f j ≤ b.getD (f + (j + 1)) 0 then b.getD (f + (j + 1)) 0 else mxR b f j) = mxR b f (j + 1) by rw [mxR, ← Nat.add_assoc]; split <;> omega]
        exact e
  rw [rd_nat]
  exact key (t - f + 1) 0 (by omega)

def colS (c : List Int) (d : Nat) : Int := (c.take d).sum

def nxt (d : Nat) : Option (List Int) → Int
  | none => 0
  | some b => mxR b (d - 1) (min (d + 1) (b.length - 1) - (d - 1))

def rowD (c : List Int) (m : Int) (nx : Option (List Int)) : List Int := (List.range (m.toNat + 1)).map fun d => colS c d + nxt d nx

/-- The row of the column that has k columns behind it. -/
def dpR (v : List (List Int)) (ms : List Int) : Nat → List Int
  | 0 => rowD (v.getD (v.length - 1) []) (ms.getD (v.length - 1) 0) none
  | k + 1 => rowD (v.getD (v.length - 2 - k) []) (ms.getD (v.length - 2 - k) 0) (some (dpR v ms k))

theorem rowD_len (c : List Int) (m : Int) (nx : Option (List Int)) : (rowD c m nx).length = m.toNat + 1 := by simp [rowD]

theorem rowD_get (c : List Int) (m : Int) (nx : Option (List Int)) (d : Nat) (h : d ≤ m.toNat) : (rowD c m nx).getD d 0 = colS c d + nxt d nx := by
  unfold rowD
  rw [List.getD_eq_getElem?_getD, List.getElem?_map, List.getElem?_range (by omega)]; rfl

theorem colS_succ (c : List Int) (d : Nat) (h : d < c.length) : colS c (d + 1) = colS c d + c.getD d 0 := by
  unfold colS
  rw [List.take_succ_eq_append_getElem h, List.sum_append, gD c 0 d h]; simp

theorem seColumn_colS (c : List Int) (d : Nat) (h : d ≤ c.length) (hc : c.length ≤ 6) (hb : ∀ i (h : i < c.length), -1000000 ≤ c[i] ∧ c[i] ≤ 1000000) : Ev (fun k => spec_seColumn.f k c (d : Int)) (colS c d) := by
  unfold spec_seColumn.f
  refine Ev.pos (nn _) (Ev.pos (by omega) ?_)
  rw [Int.toNat_natCast]
  have hl : (c.take d).length = d := by rw [List.length_take]; omega
  have key : ∀ (e i : Nat), i + e = d → -1000000 * (i : Int) ≤ colS c i ∧ colS c i ≤ 1000000 * (i : Int) → Ev (fun k => spec_seColumn.l0 k (colS c i) (c.take d) ((c.take d).length : Int) (i : Int)) (colS c d) := by
    intro e
    induction e with
    | zero =>
      intro i hi _
      refine Ev.step (fun k => by rw [spec_seColumn.l0]) ?_
      exact Ev.neg (by omega) (Ev.cast (by rw [show i = d by omega]) (Ev.now _))
    | succ e ih =>
      intro i hi hr
      have b := hb i (by omega)
      have es := colS_succ c i (by omega)
      rw [gD c 0 i (by omega)] at es
      have g : rd (c.take d) (i : Int) = c[i] := by rw [rd_get _ i (by omega)]; exact List.getElem_take
      refine Ev.step (fun k => by rw [spec_seColumn.l0]) ?_
      rw [g, wr_nat i 1000 (by omega) (by omega), wr (colS c i + c[i]) (by omega) (by omega), ← es]
      exact Ev.pos (by omega) (Ev.pos (nn _) (Ev.pos (by omega) (ih (i + 1) (by omega) (by rw [es]; push_cast; omega))))
  have := key d 0 (by omega) (by simp [colS])
  simpa [colS] using this

theorem dpR_len (v : List (List Int)) (ms : List Int) (k : Nat) (h : k < v.length) : (dpR v ms k).length = (ms.getD (v.length - 1 - k) 0).toNat + 1 := by
  cases k with
  | zero => rw [dpR, rowD_len, Nat.sub_zero]
  | succ k => rw [dpR, rowD_len, show v.length - 2 - k = v.length - 1 - (k + 1) by omega]

/-- Depths cut from the right alone: that of the column with k behind it. -/
def mbR (p : List Int) : Nat → Int
  | 0 => p.getD (p.length - 1) 0
  | k + 1 => min (p.getD (p.length - 2 - k) 0) (mbR p k + 1)

def mbL (p : List Int) : List Int := (List.range p.length).map fun c => mbR p (p.length - 1 - c)

theorem mbL_get (p : List Int) (c : Nat) (h : c < p.length) : (mbL p).getD c 0 = mbR p (p.length - 1 - c) := by
  unfold mbL
  rw [List.getD_eq_getElem?_getD, List.getElem?_map, List.getElem?_range h]; rfl

theorem mxR_small (b : List Int) (lo : Nat) (B : Int) (hB : 0 ≤ B) (h : ∀ j, -B ≤ b.getD j 0 ∧ b.getD j 0 ≤ B) : ∀ n, -B ≤ mxR b lo n ∧ mxR b lo n ≤ B
  | 0 => h lo
  | n + 1 => by
    have a := mxR_small b lo B hB h n
    have c := h (lo + n + 1)
    rw [mxR]; omega

theorem rowD_small (c : List Int) (m : Int) (nx : Option (List Int)) (B : Int) (hc : ∀ d, -6000000 ≤ colS c d ∧ colS c d ≤ 6000000) (hn : ∀ d, -B ≤ nxt d nx ∧ nxt d nx ≤ B) (hB : 0 ≤ B) (j : Nat) : -(B + 6000000) ≤ (rowD c m nx).getD j 0 ∧ (rowD c m nx).getD j 0 ≤ B + 6000000 := by
  by_cases h : j ≤ m.toNat
  · rw [rowD_get c m nx j h]
    have a := hc j
    have b := hn j
    omega
  · rw [List.getD_eq_getElem?_getD, List.getElem?_eq_none (by rw [rowD_len]; omega)]
    show -(B + 6000000) ≤ (0 : Int) ∧ (0 : Int) ≤ B + 6000000
    omega

theorem dpR_small (v : List (List Int)) (ms : List Int) (hc : ∀ c d, -6000000 ≤ colS (v.getD c []) d ∧ colS (v.getD c []) d ≤ 6000000) : ∀ (k j : Nat), -(6000000 * ((k : Int) + 1)) ≤ (dpR v ms k).getD j 0 ∧ (dpR v ms k).getD j 0 ≤ 6000000 * ((k : Int) + 1)
  | 0, j => by
    have := rowD_small (v.getD (v.length - 1) []) (ms.getD (v.length - 1) 0) none 0 (hc _) (fun d => by simp [nxt]) (by omega) j
    rw [dpR]; omega
  | k + 1, j => by
    have ih := dpR_small v ms hc k
    have := rowD_small (v.getD (v.length - 2 - k) []) (ms.getD (v.length - 2 - k) 0) (some (dpR v ms k)) (6000000 * ((k : Int) + 1)) (hc _) (fun d => by
      show _ ≤ mxR (dpR v ms k) (d - 1) (min (d + 1) ((dpR v ms k).length - 1) - (d - 1)) ∧ mxR (dpR v ms k) (d - 1) (min (d + 1) ((dpR v ms k).length - 1) - (d - 1)) ≤ _
      exact mxR_small _ _ _ (by omega) ih _) (by omega) j
    rw [dpR]; push_cast; omega

/-- The rows that are done from column j on. -/
def RS (v : List (List Int)) (ms : List Int) (j : Nat) : List (List Int) := (List.range v.length).map fun c => if j ≤ c then dpR v ms (v.length - 1 - c) else []

theorem RS_len (v : List (List Int)) (ms : List Int) (j : Nat) : (RS v ms j).length = v.length := by simp [RS]

theorem RS_at (v : List (List Int)) (ms : List Int) (j c : Nat) (h : c < (RS v ms j).length) : (RS v ms j)[c] = if j ≤ c then dpR v ms (v.length - 1 - c) else [] := by
  simp [RS]

theorem RS_set (v : List (List Int)) (ms : List Int) (j : Nat) : (RS v ms (j + 1)).set j (dpR v ms (v.length - 1 - j)) = RS v ms j := by
  apply List.ext_getElem (by rw [List.length_set, RS_len, RS_len])
  intro i h1 h2
  rw [List.getElem_set, RS_at v ms j i h2]
  by_cases e : j = i
  · subst e; rw [if_pos rfl, if_pos (Nat.le_refl _)]
  · rw [if_neg e, RS_at]
    by_cases q : j + 1 ≤ i
    · rw [if_pos q, if_pos (by omega)]
    · rw [if_neg q, if_neg (by omega)]

theorem RS_self (v : List (List Int)) (ms : List Int) (j : Nat) : (RS v ms (j + 1)).set j [] = RS v ms (j + 1) := by
  apply List.ext_getElem (by rw [List.length_set])
  intro i h1 h2
  rw [List.getElem_set]
  by_cases e : j = i
  · subst e; rw [if_pos rfl, RS_at, if_neg (by omega)]
  · rw [if_neg e]

/-- What the section and the depths must be for the rounds of the reference. -/
structure SB (v : List (List Int)) (ms : List Int) : Prop where
  n : 1 ≤ v.length ∧ v.length ≤ 8
  ml : ms.length = v.length
  col : ∀ c, c < v.length → (v.getD c []).length ≤ 6 ∧ ms.getD c 0 ≤ ((v.getD c []).length : Int) ∧ ∀ i (h : i < (v.getD c []).length), -1000000 ≤ (v.getD c [])[i] ∧ (v.getD c [])[i] ≤ 1000000
  m0 : ∀ c, c < v.length → 0 ≤ ms.getD c 0
  up : ∀ c, c + 1 < v.length → ms.getD c 0 ≤ ms.getD (c + 1) 0 + 1
  cs : ∀ c d, -6000000 ≤ colS (v.getD c []) d ∧ colS (v.getD c []) d ≤ 6000000

theorem dpR_at (v : List (List Int)) (ms : List Int) (i : Nat) (h : i < v.length) (d : Nat) (hd : d ≤ (ms.getD i 0).toNat) : (dpR v ms (v.length - 1 - i)).getD d 0 = colS (v.getD i []) d + (if i + 1 < v.length then mxR (dpR v ms (v.length - 1 - (i + 1))) (d - 1) (min (d + 1) ((dpR v ms (v.length - 1 - (i + 1))).length - 1) - (d - 1)) else 0) := by
  by_cases q : i + 1 < v.length
  · rw [if_pos q, show v.length - 1 - i = (v.length - 1 - (i + 1)) + 1 by omega, dpR, show v.length - 2 - (v.length - 1 - (i + 1)) = i by omega, rowD_get _ _ _ d hd]; rfl
  · rw [if_neg q, show v.length - 1 - i = 0 by omega, dpR, show v.length - 1 = i by omega, rowD_get _ _ _ d hd]; rfl

theorem take_snoc (l : List Int) (d : Nat) (h : d < l.length) : l.take (d + 1) = l.take d ++ [l.getD d 0] := by
  rw [List.take_succ_eq_append_getElem h, gD l 0 d h]

theorem spec_seBest_l1 (v : List (List Int)) (ms : List Int) (S : SB v ms) (i : Nat) (hi : i < v.length) (r : List Int × Int) (h : Ev (fun k => spec_seBest.l0 k v ms (v.length : Int) (RS v ms i) ((i : Int) - 1)) r) : ∀ (e d : Nat), d + e = (ms.getD i 0).toNat + 1 →
    Ev (fun k => spec_seBest.l1 k v ms (v.length : Int) ((RS v ms (i + 1)).set i ((dpR v ms (v.length - 1 - i)).take d)) (i : Int) (d : Int)) r := by
  have hn := S.n
  have hml := S.ml
  have c0 := S.m0 i hi
  have cc := S.col i hi
  have hlen := dpR_len v ms (v.length - 1 - i) (by omega)
  rw [show v.length - 1 - (v.length - 1 - i) = i by omega] at hlen
  have em : rd ms (i : Int) = ms.getD i 0 := rd_nat ms i
  intro e
  induction e with
  | zero =>
    intro d hd
    refine Ev.step (fun k => by rw [spec_seBest.l1]) ?_
    rw [em, List.take_of_length_le (by omega), RS_set, wr ((i : Int) - 1) (by omega) (by omega)]
    exact Ev.pos (nn _) (Ev.pos (by omega) (Ev.neg (by omega) h))
  | succ e ih =>
    intro d hd
    have nx := ih (d + 1) (by omega)
    have sm := dpR_small v ms S.cs (v.length - 1 - i) d
    have va := dpR_at v ms i hi d (by omega)
    rw [take_snoc _ _ (by omega)] at nx
    have gi : rd_L1 ((RS v ms (i + 1)).set i ((dpR v ms (v.length - 1 - i)).take d)) (i : Int) = (dpR v ms (v.length - 1 - i)).take d := by
      rw [rdL1_get _ i (by rw [List.length_set, RS_len]; exact hi), List.getElem_set, if_pos rfl]
    have hl2 : ((RS v ms (i + 1)).set i ((dpR v ms (v.length - 1 - i)).take d)).length = v.length := by rw [List.length_set, RS_len]
    have htl : ((dpR v ms (v.length - 1 - i)).take d).length ≤ 100 := by rw [List.length_take]; omega
    refine Ev.step (fun k => by rw [spec_seBest.l1]) ?_
    rw [em, hl2, gi, Int.toNat_natCast, wr_nat d 1000 (by omega) (by omega)]
    simp only [List.set_set]
    refine Ev.pos (nn _) (Ev.pos (by omega) (Ev.pos (by omega) (Ev.pos (by omega) ?_)))
    rw [rdL1_get v i hi, ← gD v [] i hi]
    refine Ev.bind (seColumn_colS (v.getD i []) d (by omega) cc.1 cc.2.2) ?_
    rw [wr_nat i 1000 (by omega) (by omega)]
    refine Ev.cases (fun q => Ev.pos (nn _) (Ev.pos (by omega) ?_)) (fun q => Ev.pos (by omega) (Ev.pos (by omega) ?_))
    · have q' : i + 1 < v.length := by omega
      have u := S.up i q'
      have l2 := dpR_len v ms (v.length - 1 - (i + 1)) (by omega)
      rw [show v.length - 1 - (v.length - 1 - (i + 1)) = i + 1 by omega] at l2
      have c1 := S.col (i + 1) q'
      have g1 : rd_L1 ((RS v ms (i + 1)).set i ((dpR v ms (v.length - 1 - i)).take d)) ((i + 1 : Nat) : Int) = dpR v ms (v.length - 1 - (i + 1)) := by
        rw [rdL1_get _ (i + 1) (by rw [hl2]; exact q'), List.getElem_set, if_neg (by omega), RS_at, if_pos (Nat.le_refl _)]
      rw [g1, wr ((d : Int) - 1) (by omega) (by omega)]
      refine Ev.bind (seMost_ev _ ((d : Int) - 1) ((d + 1 : Nat) : Int) (by omega) (by omega) (by omega) (by omega)) (Ev.pos (by omega) (Ev.pos (by omega) ?_))
      rw [if_pos q'] at va
      have e3 : (max ((d : Int) - 1) 0).toNat = d - 1 := by omega
      have e4 : (min (((d + 1 : Nat)) : Int) (((dpR v ms (v.length - 1 - (i + 1))).length : Int) - 1)).toNat = min (d + 1) ((dpR v ms (v.length - 1 - (i + 1))).length - 1) := by omega
      rw [e3, e4, ← va, wr _ (by omega) (by omega)]
      exact nx
    · rw [if_neg (by omega), Int.add_zero] at va
      rw [← va]
      exact nx

theorem spec_seBest_l0 (v : List (List Int)) (ms : List Int) (S : SB v ms) (r : List Int × Int) (h : Ev (fun k => spec_seBest.l2 k ms (v.length : Int) (RS v ms 0) [] 0 (rd ms 0) 0) r) : ∀ j : Nat, j ≤ v.length → Ev (fun k => spec_seBest.l0 k v ms (v.length : Int) (RS v ms j) ((j : Int) - 1)) r := by
  have hn := S.n
  have hml := S.ml
  intro j
  induction j with
  | zero =>
    intro _
    refine Ev.step (fun k => by rw [spec_seBest.l0]) ?_
    exact Ev.neg (by omega) (Ev.pos (by omega) h)
  | succ j ih =>
    intro hj
    refine Ev.step (fun k => by rw [spec_seBest.l0]) ?_
    rw [show ((j + 1 : Nat) : Int) - 1 = (j : Int) by omega]
    refine Ev.pos (by omega) ?_
    have e := spec_seBest_l1 v ms S j (by omega) r (ih (by omega)) ((ms.getD j 0).toNat + 1) 0 (by omega)
    rw [List.take_zero, RS_self] at e
    exact e

/-- The range of a row that may be chosen from: from lo on, n more. -/
def chR (v : List (List Int)) (ms : List Int) : Nat → Nat
  | 0 => argR (dpR v ms (v.length - 1)) 0 ((dpR v ms (v.length - 1)).length - 1)
  | i + 1 => argR (dpR v ms (v.length - 2 - i)) (chR v ms i - 1) (min (chR v ms i + 1) ((dpR v ms (v.length - 2 - i)).length - 1) - (chR v ms i - 1))

theorem spec_seBest_l3 (v : List (List Int)) (ms : List Int) (S : SB v ms) (out : List Int) (ho : out.length ≤ 1000) (i : Nat) (hi : i < v.length) (lo hi_ : Int) (hlo : max lo 0 ≤ ms.getD i 0) (hhi : max lo 0 ≤ hi_) (hh : hi_ ≤ 1000) (r : List Int × Int) (c : Nat)
    (hc : c = argR (dpR v ms (v.length - 1 - i)) (max lo 0).toNat ((min hi_ (((dpR v ms (v.length - 1 - i)).length : Int) - 1)).toNat - (max lo 0).toNat))
    (h : Ev (fun k => spec_seBest.l2 k ms (v.length : Int) (RS v ms 0) (out ++ [(c : Int)]) ((c : Int) - 1) ((c : Int) + 1) (wrap64 ((i : Int) + 1))) r) : ∀ (e d : Nat), d + e = c → (max lo 0).toNat ≤ d →
    Ev (fun k => spec_seBest.l3 k ms (v.length : Int) (RS v ms 0) out lo hi_ (i : Int) (d : Int)) r := by
  have hn := S.n
  have c0 := S.m0 i hi
  have cc := S.col i hi
  have hlen := dpR_len v ms (v.length - 1 - i) (by omega)
  rw [show v.length - 1 - (v.length - 1 - i) = i by omega] at hlen
  have hin := argR_in (dpR v ms (v.length - 1 - i)) (max lo 0).toNat ((min hi_ (((dpR v ms (v.length - 1 - i)).length : Int) - 1)).toNat - (max lo 0).toNat)
  rw [← hc] at hin
  have gi : rd_L1 (RS v ms 0) (i : Int) = dpR v ms (v.length - 1 - i) := by
    rw [rdL1_get _ i (by rw [RS_len]; exact hi), RS_at, if_pos (Nat.zero_le _)]
  have M := seMost_ev (dpR v ms (v.length - 1 - i)) lo hi_ (by omega) hhi (by omega) hh
  intro e
  induction e with
  | zero =>
    intro d hd hld
    obtain rfl : d = c := by omega
    refine Ev.step (fun k => by rw [spec_seBest.l3]) ?_
    rw [gi, RS_len, rd_nat]
    refine Ev.pos (nn _) (Ev.pos (by omega) (Ev.pos (nn _) (Ev.pos (by omega) (Ev.bind M (Ev.pos ?_ (Ev.pos (by omega) ?_))))))
    · rw [hc]; exact argR_mx _ _ _
    · rw [wr ((d : Int) - 1) (by omega) (by omega), wr ((d : Int) + 1) (by omega) (by omega)]
      exact h
  | succ e ih =>
    intro d hd hld
    have lt := argR_first (dpR v ms (v.length - 1 - i)) (max lo 0).toNat ((min hi_ (((dpR v ms (v.length - 1 - i)).length : Int) - 1)).toNat - (max lo 0).toNat) d hld (by rw [← hc]; omega)
    refine Ev.step (fun k => by rw [spec_seBest.l3]) ?_
    rw [gi, RS_len, rd_nat, wr_nat d 1000 (by omega) (by omega)]
    exact Ev.pos (nn _) (Ev.pos (by omega) (Ev.pos (nn _) (Ev.pos (by omega) (Ev.bind M (Ev.neg (by omega) (ih (d + 1) (by omega) (by omega)))))))

theorem chR_in (v : List (List Int)) (ms : List Int) (S : SB v ms) : ∀ i, i < v.length → ((chR v ms i : Nat) : Int) ≤ ms.getD i 0
  | 0, hi => by
    have l := dpR_len v ms (v.length - 1) (by omega)
    rw [Nat.sub_self] at l
    have c0 := S.m0 0 hi
    have := argR_in (dpR v ms (v.length - 1)) 0 ((dpR v ms (v.length - 1)).length - 1)
    rw [chR]; omega
  | i + 1, hi => by
    have ih := chR_in v ms S i (by omega)
    have u := S.up i hi
    have l := dpR_len v ms (v.length - 2 - i) (by omega)
    rw [show v.length - 1 - (v.length - 2 - i) = i + 1 by omega] at l
    have c0 := S.m0 (i + 1) hi
    have := argR_in (dpR v ms (v.length - 2 - i)) (chR v ms i - 1) (min (chR v ms i + 1) ((dpR v ms (v.length - 2 - i)).length - 1) - (chR v ms i - 1))
    rw [chR]; omega

def chL (v : List (List Int)) (ms : List Int) (i : Nat) : List Int := (List.range i).map fun j => ((chR v ms j : Nat) : Int)

theorem chL_succ (v : List (List Int)) (ms : List Int) (i : Nat) : chL v ms (i + 1) = chL v ms i ++ [((chR v ms i : Nat) : Int)] := by simp [chL, List.range_succ]

theorem spec_seBest_l2 (v : List (List Int)) (ms : List Int) (S : SB v ms) : Ev (fun k => spec_seBest.l2 k ms (v.length : Int) (RS v ms 0) [] 0 (rd ms 0) 0) (chL v ms v.length, mxR (dpR v ms (v.length - 1)) 0 ((dpR v ms (v.length - 1)).length - 1)) := by
  have hn := S.n
  have hml := S.ml
  have c00 := S.m0 0 (by omega)
  have l0 := dpR_len v ms (v.length - 1) (by omega)
  rw [Nat.sub_self] at l0
  have cc0 := S.col 0 (by omega)
  have e0 : rd ms 0 = ms.getD 0 0 := rd_nat ms 0
  have g0 : rd_L1 (RS v ms 0) 0 = dpR v ms (v.length - 1) := by
    have := rdL1_get (RS v ms 0) 0 (by rw [RS_len]; omega)
    rw [RS_at, if_pos (Nat.le_refl _)] at this
    exact this
  have key : ∀ (d i : Nat), i + d = v.length → Ev (fun k => spec_seBest.l2 k ms (v.length : Int) (RS v ms 0) (chL v ms i) (if i = 0 then 0 else ((chR v ms (i - 1) : Nat) : Int) - 1) (if i = 0 then ms.getD 0 0 else ((chR v ms (i - 1) : Nat) : Int) + 1) (i : Int)) (chL v ms v.length, mxR (dpR v ms (v.length - 1)) 0 ((dpR v ms (v.length - 1)).length - 1)) := by
    intro d
    induction d with
    | zero =>
      intro i hi
      refine Ev.step (fun k => by rw [spec_seBest.l2]) ?_
      rw [g0, e0, RS_len]
      refine Ev.neg (by omega) (Ev.pos (by omega) (Ev.pos (by omega) (Ev.bind (seMost_ev (dpR v ms (v.length - 1)) 0 (ms.getD 0 0) (by omega) (by omega) (by omega) (by omega)) (Ev.cast ?_ (Ev.now _)))))
      rw [show i = v.length by omega, show (max (0 : Int) 0).toNat = 0 from rfl, show (min (ms.getD 0 0) (((dpR v ms (v.length - 1)).length : Int) - 1)).toNat - 0 = (dpR v ms (v.length - 1)).length - 1 by omega]
    | succ d ih =>
      intro i hi
      have e := ih (i + 1) (by omega)
      rw [if_neg (by omega), if_neg (by omega), Nat.add_sub_cancel, chL_succ, ← wr_nat i 1000 (by omega) (by omega)] at e
      have hlen := dpR_len v ms (v.length - 1 - i) (by omega)
      rw [show v.length - 1 - (v.length - 1 - i) = i by omega] at hlen
      have ci := S.m0 i (by omega)
      have hch := chR_in v ms S i (by omega)
      have cci := S.col i (by omega)
      refine Ev.step (fun k => by rw [spec_seBest.l2]) ?_
      rw [l1Most_eq]
      refine Ev.pos (by omega) (Ev.sbind ?_)
      by_cases z : i = 0
      · subst z
        rw [if_pos rfl, if_pos rfl]
        exact spec_seBest_l3 v ms S _ (by simp [chL]) 0 (by omega) 0 (ms.getD 0 0) (by omega) (by omega) (by omega) _ (chR v ms 0) (by
          rw [chR, Nat.sub_zero, show (max (0 : Int) 0).toNat = 0 from rfl]
          congr 1; omega) e (chR v ms 0) 0 (Nat.zero_add _) (by omega)
      · obtain ⟨j, rfl⟩ : ∃ j, i = j + 1 := ⟨i - 1, by omega⟩
        have hj := chR_in v ms S j (by omega)
        have u := S.up j (by omega)
        have ccj := S.col j (by omega)
        rw [if_neg z, if_neg z, Nat.add_sub_cancel]
        have cin := argR_in (dpR v ms (v.length - 2 - j)) (chR v ms j - 1) (min (chR v ms j + 1) ((dpR v ms (v.length - 2 - j)).length - 1) - (chR v ms j - 1))
        have e1 : (if ((chR v ms j : Nat) : Int) - 1 ≤ 0 then (0 : Int) else ((chR v ms j : Nat) : Int) - 1) = ((chR v ms j - 1 : Nat) : Int) := by split <;> omega
        rw [e1]
        refine spec_seBest_l3 v ms S _ (by simp [chL]; omega) (j + 1) (by omega) (((chR v ms j : Nat) : Int) - 1) (((chR v ms j : Nat) : Int) + 1) (by omega) (by omega) (by omega) _ (chR v ms (j + 1)) ?_ e (chR v ms (j + 1) - (chR v ms j - 1)) (chR v ms j - 1) ?_ (by omega)
        · rw [chR, show v.length - 1 - (j + 1) = v.length - 2 - j by omega]
          have a1 : (max (((chR v ms j : Nat) : Int) - 1) 0).toNat = chR v ms j - 1 := by omega
          rw [a1]
          congr 1
          omega
        · rw [chR]; omega
  have := key v.length 0 (by omega)
  rw [if_pos rfl, if_pos rfl] at this
  rw [e0]
  simpa [chL] using this

/-- The program's depths while it goes: cut from column j on. -/
def mS (p : List Int) (j : Nat) : List Int := (List.range p.length).map fun c => if j ≤ c then (mbL p).getD c 0 else p.getD c 0

theorem mS_len (p : List Int) (j : Nat) : (mS p j).length = p.length := by simp [mS]

theorem mS_at (p : List Int) (j c : Nat) (h : c < (mS p j).length) : (mS p j)[c] = if j ≤ c then (mbL p).getD c 0 else p.getD c 0 := by
  simp [mS]

theorem mS_set (p : List Int) (j : Nat) : (mS p (j + 1)).set j ((mbL p).getD j 0) = mS p j := by
  apply List.ext_getElem (by rw [List.length_set, mS_len, mS_len])
  intro i h1 h2
  rw [List.getElem_set, mS_at p j i h2]
  by_cases e : j = i
  · subst e; rw [if_pos rfl, if_pos (Nat.le_refl _)]
  · rw [if_neg e, mS_at]
    by_cases q : j + 1 ≤ i
    · rw [if_pos q, if_pos (by omega)]
    · rw [if_neg q, if_neg (by omega)]

theorem mb_rec (p : List Int) (c : Nat) (h : c < p.length) : (mbL p).getD c 0 = if c + 1 < p.length then min (p.getD c 0) ((mbL p).getD (c + 1) 0 + 1) else p.getD c 0 := by
  by_cases q : c + 1 < p.length
  · rw [if_pos q, mbL_get p c h, mbL_get p (c + 1) q, show p.length - 1 - c = (p.length - 1 - (c + 1)) + 1 by omega, mbR, show p.length - 2 - (p.length - 1 - (c + 1)) = c by omega]
  · rw [if_neg q, mbL_get p c h, show p.length - 1 - c = 0 by omega, mbR, show p.length - 1 = c by omega]

theorem impl_bestBelow_l2 (v : List (List Int)) (mb : List Int) (S : SB v mb) : ∀ (d i : Nat), i + d = v.length → 1 ≤ i → Ev (fun k => impl_bestBelow.l2 k (v.length : Int) (RS v mb 0) (chL v mb i) (i : Int)) (chL v mb v.length, mxR (dpR v mb (v.length - 1)) 0 ((dpR v mb (v.length - 1)).length - 1)) := by
  have hn := S.n
  have g0 : rd_L1 (RS v mb 0) 0 = dpR v mb (v.length - 1) := by
    have := rdL1_get (RS v mb 0) 0 (by rw [RS_len]; omega)
    rw [RS_at, if_pos (Nat.le_refl _)] at this
    exact this
  intro d
  induction d with
  | zero =>
    intro i hi h1
    have r0 : rd (chL v mb i) 0 = ((chR v mb 0 : Nat) : Int) := by
      have := rd_get (chL v mb i) 0 (by simp [chL]; omega)
      rw [show ((0 : Nat) : Int) = 0 from rfl] at this
      rw [this]; simp [chL]
    have c0 := chR_in v mb S 0 (by omega)
    have l := dpR_len v mb (v.length - 1) (by omega)
    rw [Nat.sub_self] at l
    have m0 := S.m0 0 (by omega)
    refine Ev.step (fun k => by rw [impl_bestBelow.l2]) ?_
    rw [g0, r0, RS_len, rd_nat]
    refine Ev.neg (by omega) (Ev.pos (by omega) (Ev.pos (by simp [chL]; omega) (Ev.pos (nn _) (Ev.pos (by omega) (Ev.cast ?_ (Ev.now _))))))
    rw [show i = v.length by omega, chR, argR_mx]
  | succ d ih =>
    intro i hi h1
    have e := ih (i + 1) (by omega) (by omega)
    rw [chL_succ] at e
    obtain ⟨j, rfl⟩ : ∃ j, i = j + 1 := ⟨i - 1, by omega⟩
    have gi : rd_L1 (RS v mb 0) ((j + 1 : Nat) : Int) = dpR v mb (v.length - 2 - j) := by
      rw [rdL1_get _ (j + 1) (by rw [RS_len]; omega), RS_at, if_pos (Nat.zero_le _), show v.length - 1 - (j + 1) = v.length - 2 - j by omega]
    have rj : rd (chL v mb (j + 1)) (j : Int) = ((chR v mb j : Nat) : Int) := by
      rw [rd_get _ j (by simp [chL])]; simp [chL]
    have cj := chR_in v mb S j (by omega)
    have u := S.up j (by omega)
    have l := dpR_len v mb (v.length - 2 - j) (by omega)
    rw [show v.length - 1 - (v.length - 2 - j) = j + 1 by omega] at l
    have m1 := S.m0 (j + 1) (by omega)
    have cc := S.col (j + 1) (by omega)
    have ccj := S.col j (by omega)
    refine Ev.step (fun k => by rw [impl_bestBelow.l2]) ?_
    rw [wr (((j + 1 : Nat) : Int) - 1) (by omega) (by omega), show ((j + 1 : Nat) : Int) - 1 = (j : Int) by omega, gi, rj, RS_len, wr_nat (j + 1) 1000 (by omega) (by omega)]
    rw [wr (((chR v mb j : Nat) : Int) - 1) (by omega) (by omega), wr (((chR v mb j : Nat) : Int) + 1) (by omega) (by omega), wr (((dpR v mb (v.length - 2 - j)).length : Int) - 1) (by omega) (by omega)]
    refine Ev.pos (by omega) (Ev.pos (nn _) (Ev.pos (by omega) (Ev.pos (nn _) (Ev.pos (by simp [chL]; omega) ?_))))
    have b := bestFrom_ev (dpR v mb (v.length - 2 - j)) (chR v mb j - 1) (min (chR v mb j + 1) ((dpR v mb (v.length - 2 - j)).length - 1) - (chR v mb j - 1)) (by omega) (by omega)
    rw [show mx 0 (((chR v mb j : Nat) : Int) - 1) = ((chR v mb j - 1 : Nat) : Int) by unfold mx; split <;> omega, show mn (((dpR v mb (v.length - 2 - j)).length : Int) - 1) (((chR v mb j : Nat) : Int) + 1) = ((chR v mb j - 1 + (min (chR v mb j + 1) ((dpR v mb (v.length - 2 - j)).length - 1) - (chR v mb j - 1)) : Nat) : Int) by unfold mn; split <;> omega]
    refine Ev.bind b (Ev.pos (by simp [chL]; omega) ?_)
    rw [chR] at e
    exact e

theorem impl_bestBelow_l1 (v : List (List Int)) (p : List Int) (S : SB v (mbL p)) (hpl : p.length = v.length) (hp : ∀ c, c < v.length → 0 ≤ p.getD c 0 ∧ p.getD c 0 ≤ ((v.getD c []).length : Int)) (i : Nat) (hi : i < v.length) (r : List Int × Int) (h : Ev (fun k => impl_bestBelow.l0 k v (mS p i) (v.length : Int) (RS v (mbL p) i) ((i : Int) - 1)) r) : ∀ (e d : Nat), d + e = ((mbL p).getD i 0).toNat + 1 →
    Ev (fun k => impl_bestBelow.l1 k v (mS p (i + 1)) (v.length : Int) ((RS v (mbL p) (i + 1)).set i ((dpR v (mbL p) (v.length - 1 - i)).take d)) (i : Int) (colS (v.getD i []) (d - 1)) (d : Int)) r := by
  have hn := S.n
  have hml := S.ml
  have c0 := S.m0 i hi
  have cc := S.col i hi
  have hpi := hp i hi
  have hlen := dpR_len v (mbL p) (v.length - 1 - i) (by omega)
  rw [show v.length - 1 - (v.length - 1 - i) = i by omega] at hlen
  have msl : (mS p (i + 1)).length = v.length := by rw [mS_len]; exact hpl
  have em : rd (mS p (i + 1)) (i : Int) = p.getD i 0 := by rw [rd_get _ i (by omega), mS_at, if_neg (by omega)]
  have hrec := mb_rec p i (by omega)
  rw [hpl] at hrec
  have back : ∀ (x7 : List (List Int)), x7 = RS v (mbL p) i → Ev (fun k => (some (([] : List Int) : List Int)).bind fun y => (if y.length + (mS p (i + 1)).length < 17592186044416 then ((some (y ++ mS p (i + 1) : List Int)).bind fun y1 => (if (i : Int) < (x7.length : Int) then (if (i : Int) < (y1.length : Int) then (impl_bestBelow.l0 k v (y1.set (i : Int).toNat (wrap64 (((rd_L1 x7 (i : Int)).length : Int) - 1))) (v.length : Int) x7 (wrap64 ((i : Int) - 1))) else (none)) else (none))) else (none))) r := by
    rintro x7 rfl
    have gi : rd_L1 (RS v (mbL p) i) (i : Int) = dpR v (mbL p) (v.length - 1 - i) := by rw [rdL1_get _ i (by rw [RS_len]; exact hi), RS_at, if_pos (Nat.le_refl _)]
    rw [gi, RS_len, wr (((dpR v (mbL p) (v.length - 1 - i)).length : Int) - 1) (by omega) (by omega), wr ((i : Int) - 1) (by omega) (by omega)]
    refine Ev.sbind (Ev.pos (by rw [List.length_nil]; omega) (Ev.sbind (Ev.pos (by omega) (Ev.pos (by rw [List.nil_append]; omega) ?_))))
    rw [List.nil_append, Int.toNat_natCast, show (((dpR v (mbL p) (v.length - 1 - i)).length : Int) - 1) = (mbL p).getD i 0 by omega, mS_set]
    exact h
  intro e
  induction e with
  | zero =>
    intro d hd
    have bk := back _ (show (RS v (mbL p) (i + 1)).set i ((dpR v (mbL p) (v.length - 1 - i)).take d) = RS v (mbL p) i by rw [List.take_of_length_le (by omega), RS_set])
    have hl2 : ((RS v (mbL p) (i + 1)).set i ((dpR v (mbL p) (v.length - 1 - i)).take d)).length = v.length := by rw [List.length_set, RS_len]
    refine Ev.step (fun k => by rw [impl_bestBelow.l1]) ?_
    rw [em, msl]
    refine Ev.pos (nn _) (Ev.pos (by omega) (Ev.cases (fun q => ?_) (fun q => ?_)))
    · by_cases z : i + 1 < v.length
      · rw [if_pos z] at hrec
        have m1 := S.m0 (i + 1) z
        have c1 := S.col (i + 1) z
        have g1 : rd (mS p (i + 1)) ((i + 1 : Nat) : Int) = (mbL p).getD (i + 1) 0 := by rw [rd_get _ (i + 1) (by omega), mS_at, if_pos (Nat.le_refl _)]
        have csd := colS_succ (v.getD i []) (d - 1) (by omega)
        rw [show d - 1 + 1 = d by omega] at csd
        refine Ev.pos (by omega) ?_
        rw [wr ((d : Int) - 1) (by omega) (by omega)]
        refine Ev.pos (by omega) (Ev.pos (by omega) (Ev.pos ?_ ?_))
        · rw [rdL1_get v i hi, ← gD v [] i hi]; omega
        · refine Ev.step (fun k => by rw [impl_bestBelow.j2]) ?_
          rw [wr_nat i 1000 (by omega) (by omega), wr_nat d 1000 (by omega) (by omega), wr ((d : Int) - 1) (by omega) (by omega), g1, msl]
          refine Ev.pos (by omega) (Ev.pos (nn _) (Ev.pos (by omega) (Ev.pos ?_ ?_)))
          · unfold mx mn; split <;> split <;> omega
          · have := back _ (show (RS v (mbL p) (i + 1)).set i ((dpR v (mbL p) (v.length - 1 - i)).take d) = RS v (mbL p) i by rw [List.take_of_length_le (by omega), RS_set])
            refine (Ev.cast rfl ?_)
            simpa only [msl, if_pos (nn i)] using this
      · rw [if_neg z] at hrec; omega
    · simpa only [msl] using bk
  | succ e ih =>
    intro d hd
    have nx := ih (d + 1) (by omega)
    have va := dpR_at v (mbL p) i hi d (by omega)
    have sm := dpR_small v (mbL p) S.cs (v.length - 1 - i) d
    rw [take_snoc _ _ (by omega), Nat.add_sub_cancel] at nx
    have hl2 : ((RS v (mbL p) (i + 1)).set i ((dpR v (mbL p) (v.length - 1 - i)).take d)).length = v.length := by rw [List.length_set, RS_len]
    have gi : rd_L1 ((RS v (mbL p) (i + 1)).set i ((dpR v (mbL p) (v.length - 1 - i)).take d)) (i : Int) = (dpR v (mbL p) (v.length - 1 - i)).take d := by
      rw [rdL1_get _ i (by rw [hl2]; exact hi), List.getElem_set, if_pos rfl]
    have htl : ((dpR v (mbL p) (v.length - 1 - i)).take d).length ≤ 100 := by rw [List.length_take]; omega
    have csB := S.cs i
    have dle : (d : Int) ≤ p.getD i 0 := by split at hrec <;> omega
    have j2 : Ev (fun k => impl_bestBelow.j2 k v (mS p (i + 1)) (v.length : Int) ((RS v (mbL p) (i + 1)).set i ((dpR v (mbL p) (v.length - 1 - i)).take d)) (i : Int) (colS (v.getD i []) d) (d : Int)) r := by
      refine Ev.step (fun k => by rw [impl_bestBelow.j2]) ?_
      rw [wr_nat i 1000 (by omega) (by omega), wr_nat d 1000 (by omega) (by omega), wr ((d : Int) - 1) (by omega) (by omega), gi, hl2, msl, Int.toNat_natCast]
      simp only [List.set_set]
      refine Ev.cases (fun q => ?_) (fun q => ?_)
      · have q' : i + 1 < v.length := by omega
        rw [if_pos q'] at hrec va
        have m1 := S.m0 (i + 1) q'
        have c1 := S.col (i + 1) q'
        have g1 : rd (mS p (i + 1)) ((i + 1 : Nat) : Int) = (mbL p).getD (i + 1) 0 := by rw [rd_get _ (i + 1) (by omega), mS_at, if_pos (Nat.le_refl _)]
        have l2 := dpR_len v (mbL p) (v.length - 1 - (i + 1)) (by omega)
        rw [show v.length - 1 - (v.length - 1 - (i + 1)) = i + 1 by omega] at l2
        have g2 : rd_L1 ((RS v (mbL p) (i + 1)).set i ((dpR v (mbL p) (v.length - 1 - i)).take d)) ((i + 1 : Nat) : Int) = dpR v (mbL p) (v.length - 1 - (i + 1)) := by
          rw [rdL1_get _ (i + 1) (by rw [hl2]; exact q'), List.getElem_set, if_neg (by omega), RS_at, if_pos (Nat.le_refl _)]
        rw [g1, g2]
        have b := bestFrom_ev (dpR v (mbL p) (v.length - 1 - (i + 1))) (d - 1) (min (d + 1) ((dpR v (mbL p) (v.length - 1 - (i + 1))).length - 1) - (d - 1)) (by omega) (by omega)
        have ai := argR_in (dpR v (mbL p) (v.length - 1 - (i + 1))) (d - 1) (min (d + 1) ((dpR v (mbL p) (v.length - 1 - (i + 1))).length - 1) - (d - 1))
        rw [show mx 0 ((d : Int) - 1) = ((d - 1 : Nat) : Int) by unfold mx; split <;> omega, show mn ((mbL p).getD (i + 1) 0) ((d + 1 : Nat) : Int) = ((d - 1 + (min (d + 1) ((dpR v (mbL p) (v.length - 1 - (i + 1))).length - 1) - (d - 1)) : Nat) : Int) by unfold mn; split <;> omega]
        refine Ev.pos (nn _) (Ev.pos (by omega) (Ev.neg (by omega) (Ev.pos (by omega) (Ev.bind b (Ev.pos (nn _) (Ev.pos (by omega) (Ev.pos (nn _) (Ev.pos (by omega) (Ev.pos (by omega) ?_)))))))))
        rw [rd_nat, argR_mx, wr (colS (v.getD i []) d + mxR _ _ _) (by omega) (by omega), ← va]
        exact nx
      · have q' : ¬ i + 1 < v.length := by omega
        rw [if_neg q', Int.add_zero] at va
        refine Ev.pos (nn _) (Ev.pos (by omega) (Ev.pos (by omega) ?_))
        rw [va] at nx
        exact nx
    refine Ev.step (fun k => by rw [impl_bestBelow.l1]) ?_
    rw [em, msl]
    refine Ev.pos (nn _) (Ev.pos (by omega) (Ev.pos dle (Ev.cases (fun q => ?_) (fun q => ?_))))
    · have csd := colS_succ (v.getD i []) (d - 1) (by omega)
      rw [show d - 1 + 1 = d by omega] at csd
      have cs1 := csB (d - 1)
      have cs2 := csB d
      rw [wr ((d : Int) - 1) (by omega) (by omega), show (d : Int) - 1 = ((d - 1 : Nat) : Int) by omega, rdL1_get v i hi, ← gD v [] i hi, rd_nat, wr (colS (v.getD i []) (d - 1) + (v.getD i []).getD (d - 1) 0) (by omega) (by omega), ← csd]
      exact Ev.pos (by omega) (Ev.pos (nn _) (Ev.pos (by omega) j2))
    · obtain rfl : d = 0 := by omega
      exact j2

theorem impl_bestBelow_l0 (v : List (List Int)) (p : List Int) (S : SB v (mbL p)) (hpl : p.length = v.length) (hp : ∀ c, c < v.length → 0 ≤ p.getD c 0 ∧ p.getD c 0 ≤ ((v.getD c []).length : Int)) : ∀ j : Nat, j ≤ v.length → Ev (fun k => impl_bestBelow.l0 k v (mS p j) (v.length : Int) (RS v (mbL p) j) ((j : Int) - 1)) (chL v (mbL p) v.length, mxR (dpR v (mbL p) (v.length - 1)) 0 ((dpR v (mbL p) (v.length - 1)).length - 1)) := by
  have hn := S.n
  intro j
  induction j with
  | zero =>
    intro _
    have g0 : rd_L1 (RS v (mbL p) 0) 0 = dpR v (mbL p) (v.length - 1) := by
      have := rdL1_get (RS v (mbL p) 0) 0 (by rw [RS_len]; omega)
      rw [RS_at, if_pos (Nat.le_refl _)] at this
      exact this
    have l := dpR_len v (mbL p) (v.length - 1) (by omega)
    rw [Nat.sub_self] at l
    have m0 := S.m0 0 (by omega)
    have cc := S.col 0 (by omega)
    have e := impl_bestBelow_l2 v (mbL p) S (v.length - 1) 1 (by omega) (by omega)
    have b := bestFrom_ev (dpR v (mbL p) (v.length - 1)) 0 ((dpR v (mbL p) (v.length - 1)).length - 1) (by omega) (by omega)
    refine Ev.step (fun k => by rw [impl_bestBelow.l0]) ?_
    rw [g0, RS_len, wr (((dpR v (mbL p) (v.length - 1)).length : Int) - 1) (by omega) (by omega), show ((dpR v (mbL p) (v.length - 1)).length : Int) - 1 = ((0 + ((dpR v (mbL p) (v.length - 1)).length - 1) : Nat) : Int) by omega]
    refine Ev.neg (by omega) (Ev.pos (by omega) (Ev.bind b ?_))
    rw [show chL v (mbL p) 1 = [((chR v (mbL p) 0 : Nat) : Int)] from rfl, chR] at e
    exact e
  | succ j ih =>
    intro hj
    have e := impl_bestBelow_l1 v p S hpl hp j (by omega) _ (ih (by omega)) (((mbL p).getD j 0).toNat + 1) 0 (by omega)
    rw [List.take_zero, RS_self] at e
    refine Ev.step (fun k => by rw [impl_bestBelow.l0]) ?_
    rw [show ((j + 1 : Nat) : Int) - 1 = (j : Int) by omega]
    refine Ev.pos (by omega) ?_
    simpa [colS] using e

theorem mS_full (p : List Int) : mS p p.length = p := by
  apply List.ext_getElem (by rw [mS_len])
  intro i h1 h2
  rw [mS_at, if_neg (by omega), gD p 0 i h2]

theorem RS_none (v : List (List Int)) (ms : List Int) : RS v ms v.length = List.replicate v.length [] := by
  apply List.ext_getElem (by simp [RS])
  intro i h1 h2
  rw [RS_at, if_neg (by rw [RS_len] at h1; omega), List.getElem_replicate]

theorem impl_bestBelow_ev (v : List (List Int)) (p : List Int) (S : SB v (mbL p)) (hpl : p.length = v.length) (hp : ∀ c, c < v.length → 0 ≤ p.getD c 0 ∧ p.getD c 0 ≤ ((v.getD c []).length : Int)) : Ev (fun k => impl_bestBelow.f k v p) (chL v (mbL p) v.length, mxR (dpR v (mbL p) (v.length - 1)) 0 ((dpR v (mbL p) (v.length - 1)).length - 1)) := by
  have hn := S.n
  unfold impl_bestBelow.f
  have e := impl_bestBelow_l0 v p S hpl hp v.length (Nat.le_refl _)
  rw [RS_none, ← hpl, mS_full, hpl] at e
  rw [Int.toNat_natCast, wr ((v.length : Int) - 1) (by omega) (by omega)]
  exact Ev.pos (nn _) (Ev.pos (by omega) e)

theorem spec_seBest_ev (v : List (List Int)) (ms : List Int) (S : SB v ms) : Ev (fun k => spec_seBest.f k v ms) (chL v ms v.length, mxR (dpR v ms (v.length - 1)) 0 ((dpR v ms (v.length - 1)).length - 1)) := by
  have hn := S.n
  unfold spec_seBest.f
  have e := spec_seBest_l0 v ms S _ (spec_seBest_l2 v ms S) v.length (Nat.le_refl _)
  rw [RS_none] at e
  rw [Int.toNat_natCast, wr ((v.length : Int) - 1) (by omega) (by omega)]
  exact Ev.pos (nn _) (Ev.pos (by omega) e)

theorem sum_small : ∀ (l : List Int), (∀ x ∈ l, -1000000 ≤ x ∧ x ≤ 1000000) → -(1000000 * (l.length : Int)) ≤ l.sum ∧ l.sum ≤ 1000000 * (l.length : Int)
  | [], _ => by simp
  | x :: l, h => by
    have a := sum_small l (fun y hy => h y (List.mem_cons_of_mem _ hy))
    have b := h x (List.mem_cons_self ..)
    rw [List.sum_cons, List.length_cons]; push_cast; omega

theorem colS_small (c : List Int) (hc : c.length ≤ 6) (h : ∀ i (h : i < c.length), -1000000 ≤ c[i] ∧ c[i] ≤ 1000000) (d : Nat) : -6000000 ≤ colS c d ∧ colS c d ≤ 6000000 := by
  have a := sum_small (c.take d) (fun x hx => by
    obtain ⟨i, hi, rfl⟩ := List.mem_iff_getElem.1 (List.mem_of_mem_take hx)
    exact h i hi)
  have l : (c.take d).length ≤ 6 := by rw [List.length_take]; omega
  unfold colS
  omega

theorem sB_of (v : List (List Int)) (p ms : List Int) (hs : secOk v = true) (hd : depOk v p = true) (hl : ms.length = v.length) (h0 : ∀ c, c < v.length → 0 ≤ ms.getD c 0 ∧ ms.getD c 0 ≤ p.getD c 0) (hu : ∀ c, c + 1 < v.length → ms.getD c 0 ≤ ms.getD (c + 1) 0 + 1) : SB v ms ∧ p.length = v.length ∧ ∀ c, c < v.length → 0 ≤ p.getD c 0 ∧ p.getD c 0 ≤ ((v.getD c []).length : Int) := by
  obtain ⟨a1, a2, a3, a4⟩ := secOk_parts hs
  have hp := depLen hd
  have el : ∀ c, c < v.length → (v.getD c []).length = (v.headD []).length ∧ ∀ i (h : i < (v.getD c []).length), -1000000 ≤ (v.getD c [])[i] ∧ (v.getD c [])[i] ≤ 1000000 := fun c hc => by
    rw [gD v [] c hc]
    refine ⟨(a4 c hc).1, fun i h => ?_⟩
    have := (List.all_eq_true.1 (a4 c hc).2) _ (List.getElem_mem h)
    exact of_decide_eq_true this
  have pp : ∀ c, c < v.length → 0 ≤ p.getD c 0 ∧ p.getD c 0 ≤ ((v.getD c []).length : Int) := fun c hc => by
    have := dep_at hd c (by omega)
    rw [gD p 0 c (by omega), (el c hc).1]; exact this
  refine ⟨⟨⟨a1, a2⟩, hl, fun c hc => ⟨by rw [(el c hc).1]; omega, Int.le_trans (h0 c hc).2 (pp c hc).2, (el c hc).2⟩, fun c hc => (h0 c hc).1, hu, fun c d => ?_⟩, hp, pp⟩
  by_cases hc : c < v.length
  · exact colS_small _ (by rw [(el c hc).1]; omega) (el c hc).2 d
  · rw [List.getD_eq_getElem?_getD, List.getElem?_eq_none (by omega)]
    simp [colS]

def fullL (v : List (List Int)) : List Int := List.replicate v.length ((v.headD []).length : Int)

theorem full_get (v : List (List Int)) (c : Nat) (h : c < v.length) : (fullL v).getD c 0 = ((v.headD []).length : Int) := by
  unfold fullL
  rw [List.getD_eq_getElem?_getD, List.getElem?_replicate, if_pos h]; rfl

theorem mbL_full (v : List (List Int)) : mbL (fullL v) = fullL v := by
  have hl : (fullL v).length = v.length := by simp [fullL]
  have key : ∀ k, k < v.length → mbR (fullL v) k = ((v.headD []).length : Int) := by
    intro k
    induction k with
    | zero => intro h; rw [mbR, hl, full_get v _ (by omega)]
    | succ k ih => intro h; rw [mbR, hl, full_get v _ (by omega), ih (by omega)]; omega
  apply List.ext_getElem (by simp [mbL])
  intro i h1 h2
  have a := mbL_get (fullL v) i h2
  rw [gD _ 0 i h1] at a
  rw [a, hl, key _ (by omega)]
  simp [fullL]

theorem spec_seFull_ev (v : List (List Int)) (hs : secOk v = true) : Ev (fun k => spec_seFull.f k v) (fullL v) := by
  obtain ⟨a1, a2, a3, a4⟩ := secOk_parts hs
  unfold spec_seFull.f
  have key : ∀ (d i : Nat), i + d = v.length → Ev (fun k => spec_seFull.l0 k (List.replicate i ((v.headD []).length : Int)) v (v.length : Int) (i : Int)) (fullL v) := by
    intro d
    induction d with
    | zero =>
      intro i hi
      refine Ev.step (fun k => by rw [spec_seFull.l0]) (Ev.neg (by omega) (Ev.cast ?_ (Ev.now _)))
      rw [show i = v.length by omega]; rfl
    | succ d ih =>
      intro i hi
      have e := ih (i + 1) (by omega)
      refine Ev.step (fun k => by rw [spec_seFull.l0]) ?_
      rw [rdL1_get v i (by omega), (a4 i (by omega)).1, wr_nat i 1000 (by omega) (by omega)]
      refine Ev.pos (by omega) (Ev.pos (nn _) (Ev.pos (by omega) (Ev.pos (by simp; omega) ?_)))
      rw [← List.replicate_succ']
      exact e
  have := key v.length 0 (by omega)
  simpa using this

theorem impl_BestProfile_l0 (v : List (List Int)) (hs : secOk v = true) (r : List Int × Int) (h : Ev (fun k => impl_bestBelow.f k v (fullL v)) r) : ∀ (d i : Nat), i + d = v.length → Ev (fun k => impl_BestProfile.l0 k v (List.replicate i ((v.headD []).length : Int) ++ List.replicate d 0) (v.length : Int) (i : Int)) (r.1, r.2, true) := by
  obtain ⟨a1, a2, a3, a4⟩ := secOk_parts hs
  intro d
  induction d with
  | zero =>
    intro i hi
    refine Ev.step (fun k => by rw [impl_BestProfile.l0]) (Ev.neg (by omega) ?_)
    rw [List.replicate_zero, List.append_nil, show i = v.length by omega]
    exact Ev.bind h (Ev.now _)
  | succ d ih =>
    intro i hi
    have e := ih (i + 1) (by omega)
    refine Ev.step (fun k => by rw [impl_BestProfile.l0]) ?_
    have r0 : rd_L1 v 0 = v.headD [] := by
      have := rdL1_get v 0 (by omega)
      rw [show ((0 : Nat) : Int) = 0 from rfl] at this
      rw [this]
      cases v with
      | nil => simp at a1
      | cons x l => rfl
    rw [r0, wr_nat i 1000 (by omega) (by omega)]
    refine Ev.pos (by omega) (Ev.pos (by omega) (Ev.pos (nn _) (Ev.pos (by simp; omega) ?_)))
    have es : (List.replicate i ((v.headD []).length : Int) ++ 0 :: List.replicate d 0).set (i : Int).toNat ((v.headD []).length : Int) = List.replicate (i + 1) ((v.headD []).length : Int) ++ List.replicate d 0 := by
      have s := set_mid (List.replicate i ((v.headD []).length : Int)) 0 ((v.headD []).length : Int) (List.replicate d 0)
      rw [List.length_replicate] at s
      rw [s, List.replicate_succ']
    rw [List.replicate_succ, es]
    exact e

def sumAt (v : List Int) (l : List Int) : Int := (l.map fun i => rd v i).sum

theorem sumAt_app (v : List Int) (l : List Int) (x : Int) : sumAt v (l ++ [x]) = sumAt v l + rd v x := by unfold sumAt; rw [List.map_append, List.sum_append]; simp

theorem sumAt_le (v : List Int) (M : Int) (hv : ∀ i, -M ≤ rd v i ∧ rd v i ≤ M) : ∀ l : List Int, -(M * (l.length : Int)) ≤ sumAt v l ∧ sumAt v l ≤ M * (l.length : Int)
  | [] => by simp [sumAt]
  | x :: l => by
    have a := sumAt_le v M hv l
    have b := hv x
    have e : sumAt v (x :: l) = rd v x + sumAt v l := by simp [sumAt]
    rw [e, List.length_cons, Int.natCast_add, Int.mul_add, Int.natCast_one, Int.mul_one]
    omega

theorem rd_le {v : List Int} {M : Int} (hM : 0 ≤ M) (h : ∀ x ∈ v, -M ≤ x ∧ x ≤ M) (i : Int) : -M ≤ rd v i ∧ rd v i ≤ M := by
  unfold rd
  rw [List.getD_eq_getElem?_getD]
  rcases e : v[i.toNat]? with _ | x
  · exact ⟨by show -M ≤ (0 : Int); omega, hM⟩
  · exact h x (List.mem_of_getElem? e)

theorem valueSum_ev (v l : List Int) (hl : l.length ≤ 120) (hv : ∀ x ∈ v, -1000000 ≤ x ∧ x ≤ 1000000) (hb : ∀ x ∈ l, 0 ≤ x ∧ x < (v.length : Int)) : Ev (fun k => impl_valueSum.f k v l) (sumAt v l) := by
  unfold impl_valueSum.f
  have key : ∀ (suf pre : List Int), l = pre ++ suf → Ev (fun k => impl_valueSum.l0 k v (sumAt v pre) l (l.length : Int) (pre.length : Int)) (sumAt v l) := by
    intro suf
    induction suf with
    | nil =>
      intro pre he
      rw [List.append_nil] at he
      subst he
      refine Ev.step (fun k => by rw [impl_valueSum.l0]) ?_
      exact Ev.neg (by omega) (Ev.now _)
    | cons x suf ih =>
      intro pre he
      have e := ih (pre ++ [x]) (by rw [he]; simp)
      have hlen : l.length = pre.length + suf.length + 1 := by rw [he]; simp; omega
      have hrd : rd l (pre.length : Int) = x := by rw [he]; exact rd_mid pre x suf
      have hx := hb x (by rw [he]; simp)
      have b1 := sumAt_le v 1000000 (rd_le (by omega) hv) pre
      have b2 := rd_le (v := v) (M := 1000000) (by omega) hv x
      refine Ev.step (fun k => by rw [impl_valueSum.l0]) ?_
      rw [hrd]
      refine Ev.pos (by omega) (Ev.pos (nn _) (Ev.pos (by omega) (Ev.pos hx.1 (Ev.pos hx.2 ?_))))
      rw [wr (sumAt v pre + rd v x) (by omega) (by omega), wr_nat pre.length l.length (by omega) (by omega), ← sumAt_app]
      simpa using e
  exact key l [] rfl

def sl (c : UInt8) : List UInt8 → List (List UInt8)
  | [] => [[]]
  | b :: l => if b = c then [] :: sl c l else match sl c l with
    | [] => [[b]]
    | p :: ps => (b :: p) :: ps

def tlV (v : List (List Int)) (q : Nat → Nat) : Nat → Int
  | 0 => colS (v.getD (v.length - 1) []) (q (v.length - 1))
  | k + 1 => colS (v.getD (v.length - 2 - k) []) (q (v.length - 2 - k)) + tlV v q k

theorem dpR_top (v : List (List Int)) (ms : List Int) (q : Nat → Nat) (hq : ∀ c, c < v.length → (q c : Int) ≤ ms.getD c 0) (k : Nat) (hk : k + 1 < v.length) :
    (dpR v ms (k + 1)).getD (q (v.length - 2 - k)) 0 = colS (v.getD (v.length - 2 - k) []) (q (v.length - 2 - k)) + nxt (q (v.length - 2 - k)) (some (dpR v ms k)) := by
  have h := hq (v.length - 2 - k) (by omega)
  rw [dpR]
  exact rowD_get _ _ _ _ (by omega)

theorem dpR_bot (v : List (List Int)) (ms : List Int) (q : Nat → Nat) (hq : ∀ c, c < v.length → (q c : Int) ≤ ms.getD c 0) (hk : 0 < v.length) :
    (dpR v ms 0).getD (q (v.length - 1)) 0 = tlV v q 0 := by
  have h := hq (v.length - 1) (by omega)
  rw [dpR, rowD_get _ _ _ _ (by omega), tlV]
  simp [nxt]

theorem best_ge (v : List (List Int)) (ms : List Int) (q : Nat → Nat) (hq : ∀ c, c < v.length → (q c : Int) ≤ ms.getD c 0) (ad : ∀ c, c + 1 < v.length → q c ≤ q (c + 1) + 1 ∧ q (c + 1) ≤ q c + 1) :
    ∀ k, k < v.length → tlV v q k ≤ (dpR v ms k).getD (q (v.length - 1 - k)) 0
  | 0, hk => by rw [Nat.sub_zero, dpR_bot v ms q hq hk]; exact Int.le_refl _
  | k + 1, hk => by
    have ih := best_ge v ms q hq ad k (by omega)
    rw [show v.length - 1 - (k + 1) = v.length - 2 - k by omega, dpR_top v ms q hq k hk, tlV]
    have a := ad (v.length - 2 - k) (by omega)
    rw [show v.length - 2 - k + 1 = v.length - 1 - k by omega] at a
    have l := dpR_len v ms k (by omega)
    have b := hq (v.length - 1 - k) (by omega)
    have m := mxR_le (dpR v ms k) (q (v.length - 2 - k) - 1) (min (q (v.length - 2 - k) + 1) ((dpR v ms k).length - 1) - (q (v.length - 2 - k) - 1)) (q (v.length - 1 - k)) (by omega) (by omega)
    rw [nxt]
    omega

theorem best_hit (v : List (List Int)) (ms : List Int) (S : SB v ms) : ∀ k, k < v.length → tlV v (chR v ms) k = (dpR v ms k).getD (chR v ms (v.length - 1 - k)) 0
  | 0, hk => by rw [Nat.sub_zero, dpR_bot v ms _ (fun c hc => chR_in v ms S c hc) hk]
  | k + 1, hk => by
    have ih := best_hit v ms S k (by omega)
    rw [show v.length - 1 - (k + 1) = v.length - 2 - k by omega, dpR_top v ms _ (fun c hc => chR_in v ms S c hc) k hk, tlV, ih, nxt]
    congr 1
    rw [show v.length - 1 - k = (v.length - 2 - k) + 1 by omega, chR, show v.length - 2 - (v.length - 2 - k) = k by omega]
    exact argR_mx _ _ _

theorem chR_adj (v : List (List Int)) (ms : List Int) (S : SB v ms) (c : Nat) (hc : c + 1 < v.length) : chR v ms c ≤ chR v ms (c + 1) + 1 ∧ chR v ms (c + 1) ≤ chR v ms c + 1 := by
  have i0 := chR_in v ms S c (by omega)
  have u := S.up c hc
  have z := S.m0 (c + 1) hc
  have l := dpR_len v ms (v.length - 2 - c) (by omega)
  rw [show v.length - 1 - (v.length - 2 - c) = c + 1 by omega] at l
  have a := argR_in (dpR v ms (v.length - 2 - c)) (chR v ms c - 1) (min (chR v ms c + 1) ((dpR v ms (v.length - 2 - c)).length - 1) - (chR v ms c - 1))
  have e : chR v ms (c + 1) = argR (dpR v ms (v.length - 2 - c)) (chR v ms c - 1) (min (chR v ms c + 1) ((dpR v ms (v.length - 2 - c)).length - 1) - (chR v ms c - 1)) := rfl
  rw [← e] at a
  omega

theorem profVn_tl (v : List (List Int)) (p : List Int) : ∀ k, k < v.length → profVn v p (v.length - 1 - k) + tlV v (fun i => (p.getD i 0).toNat) k = profVn v p v.length
  | 0, hk => by
    have e := profVn_succ v p (v.length - 1)
    rw [show v.length - 1 + 1 = v.length by omega] at e
    rw [Nat.sub_zero, e, tlV]; rfl
  | k + 1, hk => by
    have ih := profVn_tl v p k (by omega)
    have e := profVn_succ v p (v.length - 2 - k)
    rw [show v.length - 2 - k + 1 = v.length - 1 - k by omega] at e
    rw [show v.length - 1 - (k + 1) = v.length - 2 - k by omega, tlV, ← ih, e, Int.add_assoc]; rfl

theorem profV_tl (v : List (List Int)) (p : List Int) (hn : 0 < v.length) (hl : p.length = v.length) : profV v p = tlV v (fun i => (p.getD i 0).toNat) (v.length - 1) := by
  have h := profVn_tl v p (v.length - 1) (by omega)
  rw [Nat.sub_self] at h
  have z : profVn v p 0 = 0 := rfl
  have e : profV v p = profVn v p v.length := by rw [← hl]; rfl
  omega

theorem tlV_congr (v : List (List Int)) {q q' : Nat → Nat} (h : ∀ c, c < v.length → q c = q' c) : ∀ k, k < v.length → tlV v q k = tlV v q' k
  | 0, hk => by rw [tlV, tlV, h _ (by omega)]
  | k + 1, hk => by rw [tlV, tlV, h _ (by omega), tlV_congr v h k (by omega)]

theorem adj_of : ∀ (p : List Int), (∀ i, i + 1 < p.length → p.getD i 0 ≤ p.getD (i + 1) 0 + 1 ∧ p.getD (i + 1) 0 ≤ p.getD i 0 + 1) → adjOk p = true
  | [], _ => rfl
  | [_], _ => rfl
  | a :: b :: t, h => by
    rw [adj_cons, Bool.and_eq_true]
    refine ⟨decide_eq_true ?_, adj_of (b :: t) (fun i hi => ?_)⟩
    · have := h 0 (by simp)
      simp at this
      omega
    · have := h (i + 1) (by simp at hi ⊢; omega)
      simpa using this

theorem adj_at : ∀ (p : List Int), adjOk p = true → ∀ i, i + 1 < p.length → p.getD i 0 ≤ p.getD (i + 1) 0 + 1 ∧ p.getD (i + 1) 0 ≤ p.getD i 0 + 1
  | [], _, i, hi => by simp at hi
  | [_], _, i, hi => by simp at hi
  | a :: b :: t, h, i, hi => by
    rw [adj_cons, Bool.and_eq_true] at h
    cases i with
    | zero => have := of_decide_eq_true h.1; simp; omega
    | succ i => have := adj_at (b :: t) h.2 i (by simp at hi ⊢; omega); simpa using this

theorem dep_of {v : List (List Int)} {p : List Int} (hl : p.length = v.length) (h : ∀ i, i < v.length → 0 ≤ p.getD i 0 ∧ p.getD i 0 ≤ ((v.headD []).length : Int)) : depOk v p = true := by
  unfold depOk
  rw [Bool.and_eq_true, List.all_eq_true]
  refine ⟨decide_eq_true hl, fun x hx => ?_⟩
  obtain ⟨i, hi, rfl⟩ := List.mem_iff_getElem.1 hx
  have := h i (by omega)
  rw [gD p 0 i hi] at this
  exact decide_eq_true this

theorem dep_get {v : List (List Int)} {p : List Int} (hd : depOk v p = true) (i : Nat) (hi : i < v.length) : 0 ≤ p.getD i 0 ∧ p.getD i 0 ≤ ((v.headD []).length : Int) := by
  have hl := depLen hd
  rw [gD p 0 i (by omega)]
  exact dep_at hd i (by omega)

theorem chL_get (v : List (List Int)) (ms : List Int) (n i : Nat) (h : i < n) : (chL v ms n).getD i 0 = ((chR v ms i : Nat) : Int) := by
  unfold chL
  rw [List.getD_eq_getElem?_getD, List.getElem?_map, List.getElem?_range h]; rfl

/-- The value that the tables tell. -/
def topV (v : List (List Int)) (ms : List Int) : Int := mxR (dpR v ms (v.length - 1)) 0 ((dpR v ms (v.length - 1)).length - 1)

theorem top_most (v : List (List Int)) (ms : List Int) (S : SB v ms) (hn : 0 < v.length) (q : List Int) (hl : q.length = v.length) (hq : ∀ c, c < v.length → 0 ≤ q.getD c 0 ∧ q.getD c 0 ≤ ms.getD c 0) (ha : adjOk q = true) : profV v q ≤ topV v ms := by
  rw [profV_tl v q hn hl]
  have ad := adj_at q ha
  have h := best_ge v ms (fun i => (q.getD i 0).toNat) (fun c hc => by have := hq c hc; show ((q.getD c 0).toNat : Int) ≤ _; omega) (fun c hc => by have := ad c (by omega); have := hq c (by omega); have := hq (c + 1) hc; show (q.getD c 0).toNat ≤ (q.getD (c + 1) 0).toNat + 1 ∧ (q.getD (c + 1) 0).toNat ≤ (q.getD c 0).toNat + 1; omega) (v.length - 1) (by omega)
  refine Int.le_trans h ?_
  rw [Nat.sub_self]
  have l := dpR_len v ms (v.length - 1) (by omega)
  rw [Nat.sub_self] at l
  have := hq 0 hn
  exact mxR_le _ _ _ _ (by omega) (by show (q.getD 0 0).toNat ≤ _; omega)

theorem top_is (v : List (List Int)) (ms : List Int) (S : SB v ms) (hn : 0 < v.length) : topV v ms = profV v (chL v ms v.length) := by
  rw [profV_tl v _ hn (by simp [chL]), tlV_congr v (q' := chR v ms) (fun c hc => by rw [chL_get v ms _ c hc]; omega) _ (by omega), best_hit v ms S _ (by omega), Nat.sub_self, chR, argR_mx]; rfl

theorem ch_profile (v : List (List Int)) (ms : List Int) (S : SB v ms) (hs : secOk v = true) (hm : ∀ c, c < v.length → ms.getD c 0 ≤ ((v.headD []).length : Int)) : depOk v (chL v ms v.length) = true ∧ adjOk (chL v ms v.length) = true := by
  refine ⟨dep_of (by simp [chL]) (fun i hi => ?_), adj_of _ (fun i hi => ?_)⟩
  · have a := chR_in v ms S i hi
    have := hm i hi
    rw [chL_get v ms _ i hi]; omega
  · have hi : i + 1 < v.length := by simpa [chL] using hi
    have := chR_adj v ms S i hi
    rw [chL_get v ms _ i (by omega), chL_get v ms _ (i + 1) hi]; omega

theorem prof_zero (v : List (List Int)) : profV v (List.replicate v.length 0) = 0 := by
  have key : ∀ n, profVn v (List.replicate v.length 0) n = 0 := by
    intro n
    induction n with
    | zero => rfl
    | succ n ih =>
      rw [profVn_succ, ih]
      have : (List.replicate v.length (0 : Int)).getD n 0 = 0 := by rw [List.getD_eq_getElem?_getD, List.getElem?_replicate]; split <;> rfl
      rw [this]; simp [colV]
  have e : profV v (List.replicate v.length 0) = profVn v (List.replicate v.length 0) (List.replicate v.length (0 : Int)).length := rfl
  rw [e]; exact key _

theorem top_pos (v : List (List Int)) (ms : List Int) (S : SB v ms) (hn : 0 < v.length) : 0 ≤ topV v ms := by
  have h := top_most v ms S hn (List.replicate v.length 0) (by simp) (fun c hc => by
    have := S.m0 c hc
    rw [List.getD_eq_getElem?_getD, List.getElem?_replicate, if_pos hc]; exact ⟨Int.le_refl _, this⟩) (adj_of _ (fun i hi => by
    have hi : i + 1 < v.length := by simpa using hi
    rw [List.getD_eq_getElem?_getD, List.getElem?_replicate, if_pos (by omega), List.getD_eq_getElem?_getD, List.getElem?_replicate, if_pos hi]; simp))
  rw [prof_zero] at h; exact h

def csZ (v : List (List Int)) (p : List Int) (z : Nat) : Nat → Int
  | 0 => 0
  | i + 1 => csZ v p z i + colS (v.getD i []) (min z (p.getD i 0).toNat)

theorem getD_app (a b : List Int) (i : Nat) : (a ++ b).getD i 0 = if i < a.length then a.getD i 0 else b.getD (i - a.length) 0 := by
  rw [List.getD_eq_getElem?_getD, List.getElem?_append]
  split <;> rw [List.getD_eq_getElem?_getD]

theorem secL_get (v : List (List Int)) (j : Nat) (hj : j < v.length) (z : Nat) : ∀ n, z < n → (secL v n).getD (z * v.length + j) 0 = (v.getD j []).getD z 0 := by
  intro n
  induction n with
  | zero => intro h; omega
  | succ n ih =>
    intro h
    rw [secL_succ, getD_app, secL_len]
    by_cases c : z < n
    · rw [if_pos, ih c]
      have := Nat.mul_le_mul_right v.length (show z + 1 ≤ n from c)
      rw [Nat.succ_mul] at this
      omega
    · obtain rfl : z = n := by omega
      rw [if_neg (by omega), Nat.add_sub_cancel_left, levL, List.getD_eq_getElem?_getD, List.getElem?_map, List.getElem?_eq_getElem hj, gD v [] j hj]; rfl

theorem colS_step (c : List Int) (z q : Nat) (h : z < c.length) : colS c (min (z + 1) q) = colS c (min z q) + (if z < q then c.getD z 0 else 0) := by
  by_cases e : z < q
  · rw [if_pos e, show min (z + 1) q = z + 1 by omega, show min z q = z by omega, colS_succ c z h]
  · rw [if_neg e, show min (z + 1) q = q by omega, show min z q = q by omega, Int.add_zero]

theorem sumAt_two (v l l' : List Int) : sumAt v (l ++ l') = sumAt v l + sumAt v l' := by unfold sumAt; rw [List.map_append, List.sum_append]

theorem sum_pbI (v : List (List Int)) (p : List Int) (D z : Nat) (hz : z < D) (hc : ∀ j, j < v.length → (v.getD j []).length = D) (hp : ∀ j, j < v.length → 0 ≤ p.getD j 0) : ∀ i, i ≤ v.length → sumAt (secL v D) (pbI p v.length z i) = csZ v p (z + 1) i - csZ v p z i := by
  intro i
  induction i with
  | zero => intro _; rfl
  | succ i ih =>
    intro hi
    rw [pbI, sumAt_two, ih (by omega), csZ, csZ, colS_step _ z _ (by rw [hc i (by omega)]; exact hz)]
    have h0 := hp i (by omega)
    by_cases c : (z : Int) < p.getD i 0
    · rw [if_pos c, if_pos (by omega)]
      have e : sumAt (secL v D) [((z * v.length + i : Nat) : Int)] = (v.getD i []).getD z 0 := by
        unfold sumAt
        rw [List.map_singleton, List.sum_singleton]
        unfold rd
        rw [Int.toNat_natCast]
        exact secL_get v i (by omega) z D hz
      rw [e]; omega
    · rw [if_neg c, if_neg (by omega)]
      have e : sumAt (secL v D) [] = 0 := rfl
      rw [e]; omega

theorem sum_pbL (v : List (List Int)) (p : List Int) (D : Nat) (hl : p.length = v.length) (hc : ∀ j, j < v.length → (v.getD j []).length = D) (hp : ∀ j, j < v.length → 0 ≤ p.getD j 0) : ∀ z, z ≤ D → sumAt (secL v D) (pbL p v.length z) = csZ v p z v.length := by
  intro z
  induction z with
  | zero =>
    intro _
    have key : ∀ i, csZ v p 0 i = 0 := by
      intro i
      induction i with
      | zero => rfl
      | succ i ih => rw [csZ, ih, Nat.zero_min]; simp [colS]
    rw [key]; rfl
  | succ z ih =>
    intro hz
    rw [pbL, sumAt_two, ih (by omega), hl, sum_pbI v p D z (by omega) hc hp _ (Nat.le_refl _)]; omega

theorem cs_prof (v : List (List Int)) (p : List Int) (D : Nat) (hp : ∀ j, j < v.length → 0 ≤ p.getD j 0 ∧ p.getD j 0 ≤ (D : Int)) : ∀ n, n ≤ v.length → csZ v p D n = profVn v p n := by
  intro n
  induction n with
  | zero => intro _; rfl
  | succ n ih =>
    intro hn
    have := hp n (by omega)
    rw [csZ, profVn_succ, ih (by omega), show min D (p.getD n 0).toNat = (p.getD n 0).toNat by omega]; rfl

theorem sec_col {v : List (List Int)} (hs : secOk v = true) (j : Nat) (hj : j < v.length) : (v.getD j []).length = (v.headD []).length := by
  rw [gD v [] j hj]; exact ((secOk_parts hs).2.2.2 j hj).1

theorem blocks_value (v : List (List Int)) (p : List Int) (hs : secOk v = true) (hd : depOk v p = true) : sumAt (secL v (v.headD []).length) (pbL p v.length (v.headD []).length) = profV v p := by
  have hl := depLen hd
  have g := fun j hj => dep_get hd j hj
  rw [sum_pbL v p _ hl (fun j hj => sec_col hs j hj) (fun j hj => (g j hj).1) _ (Nat.le_refl _), cs_prof v p _ g _ (Nat.le_refl _)]
  have e : profV v p = profVn v p p.length := rfl
  rw [e, hl]

theorem pbI_in (p : List Int) (w z : Nat) : ∀ i, ∀ x ∈ pbI p w z i, ((z * w : Nat) : Int) ≤ x ∧ x < ((z * w + i : Nat) : Int)
  | 0, x, h => by simp [pbI] at h
  | i + 1, x, h => by
    rw [pbI, List.mem_append] at h
    rcases h with h | h
    · have := pbI_in p w z i x h; omega
    · split at h
      · rw [List.mem_singleton] at h; omega
      · cases h

theorem pbI_pw (p : List Int) (w z : Nat) : ∀ i, (pbI p w z i).Pairwise (· < ·)
  | 0 => List.Pairwise.nil
  | i + 1 => by
    rw [pbI, List.pairwise_append]
    refine ⟨pbI_pw p w z i, by split <;> simp, fun x hx y hy => ?_⟩
    have := pbI_in p w z i x hx
    split at hy
    · rw [List.mem_singleton] at hy; omega
    · cases hy

theorem pbL_in (p : List Int) (w : Nat) (hl : p.length = w) : ∀ z, ∀ x ∈ pbL p w z, 0 ≤ x ∧ x < ((z * w : Nat) : Int)
  | 0, x, h => by simp [pbL] at h
  | z + 1, x, h => by
    rw [pbL, List.mem_append] at h
    rw [Nat.succ_mul]
    rcases h with h | h
    · have := pbL_in p w hl z x h; omega
    · have := pbI_in p w z p.length x h; omega

theorem pbL_pw (p : List Int) (w : Nat) (hl : p.length = w) : ∀ z, (pbL p w z).Pairwise (· < ·)
  | 0 => List.Pairwise.nil
  | z + 1 => by
    rw [pbL, List.pairwise_append]
    refine ⟨pbL_pw p w hl z, pbI_pw p w z _, fun x hx y hy => ?_⟩
    have := pbL_in p w hl z x hx
    have := pbI_in p w z _ y hy
    omega

theorem pw_incr : ∀ (xs : List Int), xs.Pairwise (· < ·) → incr xs = true
  | [], _ => rfl
  | [_], _ => rfl
  | a :: b :: t, h => by
    rw [incr_cons, Bool.and_eq_true]
    rw [List.pairwise_cons] at h
    exact ⟨decide_eq_true (h.1 b (by simp)), pw_incr (b :: t) h.2⟩

theorem rise_of {lo hi : Int} {xs : List Int} (h : ∀ x ∈ xs, lo ≤ x ∧ x ≤ hi) (hp : xs.Pairwise (· < ·)) : rise lo hi xs = true := by
  unfold rise
  rw [Bool.and_eq_true, List.all_eq_true]
  exact ⟨fun x hx => decide_eq_true (h x hx), pw_incr xs hp⟩

def lnZ (p : List Int) (z : Nat) : Nat → Nat
  | 0 => 0
  | i + 1 => lnZ p z i + min z (p.getD i 0).toNat

theorem len_pbI (p : List Int) (w z : Nat) (hp : ∀ j, j < p.length → 0 ≤ p.getD j 0) : ∀ i, i ≤ p.length → (pbI p w z i).length + lnZ p z i = lnZ p (z + 1) i := by
  intro i
  induction i with
  | zero => intro _; rfl
  | succ i ih =>
    intro hi
    have := ih (by omega)
    have h0 := hp i (by omega)
    rw [pbI, List.length_append, lnZ, lnZ]
    split
    · rw [List.length_singleton]; omega
    · rw [List.length_nil]; omega

theorem len_pbL (p : List Int) (w : Nat) (hp : ∀ j, j < p.length → 0 ≤ p.getD j 0) : ∀ z, (pbL p w z).length = lnZ p z p.length := by
  intro z
  induction z with
  | zero =>
    have key : ∀ i, lnZ p 0 i = 0 := by
      intro i
      induction i with
      | zero => rfl
      | succ i ih => rw [lnZ, ih, Nat.zero_min]
    rw [key]; rfl
  | succ z ih => rw [pbL, List.length_append, ih]; have := len_pbI p w z hp _ (Nat.le_refl _); omega

theorem ln_sum (p : List Int) (D : Nat) (hp : ∀ j, j < p.length → 0 ≤ p.getD j 0 ∧ p.getD j 0 ≤ (D : Int)) : ((lnZ p D p.length : Nat) : Int) = p.sum := by
  have key : ∀ i, i ≤ p.length → ((lnZ p D i : Nat) : Int) = (p.take i).sum := by
    intro i
    induction i with
    | zero => intro _; rfl
    | succ i ih =>
      intro hi
      have := hp i (by omega)
      have h2 := ih (by omega)
      rw [lnZ, List.take_succ_eq_append_getElem (by omega), List.sum_append, List.sum_singleton, ← gD p 0 i (by omega), ← h2]
      omega
  rw [key _ (Nat.le_refl _), List.take_length]

theorem blocks_count (v : List (List Int)) (p : List Int) (hd : depOk v p = true) : (((pbL p v.length (v.headD []).length).length : Nat) : Int) = p.sum := by
  have hl := depLen hd
  have g := fun (j : Nat) (hj : j < p.length) => dep_get hd j (by omega)
  rw [len_pbL p _ (fun j hj => (g j hj).1), ln_sum p _ g]

def Cu (code : List Int) : Prop := ∀ x ∈ code, 0 ≤ x ∧ x ≤ 255

def At (n : Nat) (a : Int) : Prop := 0 ≤ a ∧ a ≤ (n : Int)
theorem At.mono {n m : Nat} {a : Int} (h : At n a) (hm : n ≤ m) : At m a := ⟨h.1, by have := h.2; omega⟩

theorem and255 (x : Int) : 0 ≤ Go.bits .and .u64 x 255 ∧ Go.bits .and .u64 x 255 ≤ 255 := by
  have h : (BitVec.ofInt IntKind.u64.bits x &&& BitVec.ofInt IntKind.u64.bits 255).toNat ≤ 255 := by
    rw [BitVec.toNat_and]
    exact Nat.le_trans Nat.and_le_right (by decide)
  have hb : Go.bits .and .u64 x 255 = IntKind.u64.wrap (((BitVec.ofInt IntKind.u64.bits x &&& BitVec.ofInt IntKind.u64.bits 255).toNat : Nat) : Int) := rfl
  rw [hb]
  generalize (BitVec.ofInt IntKind.u64.bits x &&& BitVec.ofInt IntKind.u64.bits 255).toNat = m at h ⊢
  have e : IntKind.u64.wrap (m : Int) = (m : Int) := by
    unfold IntKind.wrap
    simp only [IntKind.bits, IntKind.signed]
    simp
    omega
  rw [e]
  omega

theorem next_eq {code : List Int} (hc : Cu code) {n : Nat} {a s : Int} (h : At n a) (hn : n ≤ 1000000000) (hl : code.length ≤ 1048576) : ∃ v s', spec_l1Cur_next.f code a s = some (v, a + 1, s') ∧ 0 ≤ v ∧ v ≤ 255 := by
  obtain ⟨h0, h1⟩ := h
  have w : wrap64 (a + 1) = a + 1 := wr _ (by omega) (by omega)
  have wb : ∀ x : Int, 0 ≤ wrap64 (Go.bits .and .u64 x 255) ∧ wrap64 (Go.bits .and .u64 x 255) ≤ 255 := fun x => by
    have := and255 x
    rw [wr _ (by omega) (by omega)]; exact this
  unfold spec_l1Cur_next.f
  rw [w]
  by_cases c : a < (code.length : Int)
  · have r : 0 ≤ rd code a ∧ rd code a ≤ 255 := by
      obtain ⟨i, rfl⟩ := Int.eq_ofNat_of_zero_le h0
      rw [rd_get code i (by omega)]
      exact hc _ (List.getElem_mem _)
    rw [if_pos c, if_pos h0]
    by_cases d : a + 1 ≤ (code.length : Int)
    · rw [if_pos d, wr (rd code a) (by omega) (by omega)]
      exact ⟨_, _, rfl, r⟩
    · rw [if_neg d]
      exact ⟨_, _, rfl, wb _⟩
  · rw [if_neg c]
    by_cases d : a + 1 ≤ (code.length : Int)
    · rw [if_pos d]
      exact ⟨_, _, rfl, by omega, by omega⟩
    · rw [if_neg d]
      exact ⟨_, _, rfl, wb _⟩

theorem pick_eq {code : List Int} (hc : Cu code) (hl : code.length ≤ 1048576) {n : Nat} {a s : Int} (h : At n a) (hn : n ≤ 100000000) (m : Int) : ∃ v a' s', spec_l1Cur_pick.f code a s m = some (v, a', s') ∧ At (n + 2) a' ∧ 0 ≤ v ∧ (1 ≤ m → v < m) := by
  have h' := h
  obtain ⟨h0, h1⟩ := h'
  unfold spec_l1Cur_pick.f
  by_cases c : m ≤ 1
  · rw [if_pos c]
    exact ⟨_, _, _, rfl, ⟨h0, by omega⟩, by omega, fun _ => by omega⟩
  · obtain ⟨v, s', e, v0, v1⟩ := next_eq (s := s) hc h (by omega) hl
    rw [if_neg c, e, Option.bind_some]
    by_cases d : m > 200
    · obtain ⟨u, t', e2, u0, u1⟩ := next_eq (n := n + 1) (a := a + 1) (s := s') hc ⟨by omega, by omega⟩ (by omega) hl
      rw [if_pos d, e2, Option.bind_some, if_neg (by omega), wr (v * 256) (by omega) (by omega), wr _ (by omega) (by omega)]
      exact ⟨_, a + 1 + 1, _, rfl, ⟨by omega, by omega⟩, Int.tmod_nonneg _ (by omega), fun _ => Int.tmod_lt_of_pos _ (by omega)⟩
    · rw [if_neg d, if_neg (by omega)]
      exact ⟨_, a + 1, _, rfl, ⟨by omega, by omega⟩, Int.tmod_nonneg _ v0, fun _ => Int.tmod_lt_of_pos _ (by omega)⟩

theorem one_eq {code : List Int} (hc : Cu code) (hl : code.length ≤ 1048576) {n : Nat} {a s : Int} (h : At n a) (hn : n ≤ 100000000) (m : Int) : ∃ b a' s', spec_l1Cur_one.f code a s m = some (b, a', s') ∧ At (n + 2) a' := by
  obtain ⟨v, a', s', e, h2, _⟩ := pick_eq (s := s) hc hl h hn m
  unfold spec_l1Cur_one.f
  rw [e, Option.bind_some]
  exact ⟨_, _, _, rfl, h2⟩

theorem among_eq {code : List Int} (hc : Cu code) (hl : code.length ≤ 1048576) {n : Nat} {a s : Int} (h : At n a) (hn : n ≤ 100000000) (l : List Int) (h1 : 1 ≤ l.length) : ∃ v a' s', spec_l1Cur_among.f code a s l = some (v, a', s') ∧ At (n + 2) a' ∧ v ∈ l := by
  obtain ⟨v, a', s', e, h2, v0, v1⟩ := pick_eq (s := s) hc hl h hn (l.length : Int)
  have v1 := v1 (by omega)
  unfold spec_l1Cur_among.f
  rw [e, Option.bind_some, if_pos v0, if_pos v1]
  refine ⟨_, _, _, rfl, h2, ?_⟩
  obtain ⟨i, rfl⟩ := Int.eq_ofNat_of_zero_le v0
  rw [rd_get l i (by omega)]
  exact List.getElem_mem _

theorem big_eq (x y : List Int) (hx : x.length < 9223372036854775807) (hy : y.length < 9223372036854775807) : ∃ b, laws_big.f x y = some b ∧ (b = false → x.length ≤ 1048576 ∧ y.length ≤ 1048576) := by
  unfold laws_big.f
  split
  · exact ⟨_, rfl, fun e => by cases e⟩
  · rename_i h
    refine ⟨_, rfl, fun e => ?_⟩
    have e := of_decide_eq_false e
    rw [wr _ (by omega) (by omega)] at e
    omega

theorem section_l2 (s a : Int) : ∀ (d : Nat) (z : List (List Int)), z.length + d = 9 → 1 ≤ z.length → (∀ r ∈ z, r.length ≤ 7) → ∃ z' : List (List Int), Ev (fun k => spec_l1Cur_section.l2 k z a s) (z', a, s) ∧ z'.length ≤ 9 ∧ ∀ r ∈ z', r.length ≤ 7 := by
  intro d
  induction d with
  | zero => exact fun z h _ hz => ⟨z, Ev.step (fun k => by rw [spec_l1Cur_section.l2]) (Ev.neg (by omega) (Ev.now _)), by omega, hz⟩
  | succ d ih =>
    intro z h h1 hz
    obtain ⟨z', e, l, hz'⟩ := ih (z ++ [rd_L1 z 0]) (by simp; omega) (by simp) (fun r hr => by
      rcases List.mem_append.1 hr with hr | hr
      · exact hz r hr
      · rw [List.mem_singleton.1 hr, rdL1_zero]
        cases z with
        | nil => simp
        | cons x t => exact hz x (by simp))
    exact ⟨z', Ev.step (fun k => by rw [spec_l1Cur_section.l2]) (Ev.pos (by omega) (Ev.pos (by omega) e)), l, hz'⟩

theorem section_end {code : List Int} (hc : Cu code) (hl : code.length ≤ 1048576) {n : Nat} {a s : Int} (h : At n a) (hn : n ≤ 100000) (x4 : Int) (z : List (List Int)) (h1 : 1 ≤ z.length) (h8 : z.length ≤ 8) (hz : ∀ r ∈ z, 1 ≤ r.length ∧ r.length ≤ 6) :
    ∃ z' a' s', Ev (fun k => spec_l1Cur_section.l0 k 0 x4 z code a s) (z', a', s') ∧ At (n + 4) a' ∧ z'.length ≤ 9 ∧ ∀ r ∈ z', r.length ≤ 7 := by
  obtain ⟨v, a', s', e, h2, v0, v1⟩ := pick_eq (s := s) hc hl h (by omega) 30
  have hz7 : ∀ r ∈ z, r.length ≤ 7 := fun r hr => by have := hz r hr; omega
  have fin : ∀ (r : List (List Int) × Int × Int), (Ev (fun k => if v = 0 then (if z.length < 5864062014805 then (some ((z ++ [[]]), a', s')) else (none)) else (if v = 1 then (if 0 < z.length then (if 0 < (rd_L1 z 0).length then ((spec_l1Cur_among.f code a' s' ([(-1000000), 1000000, 1000001, (-1000001)] : List Int)).bind fun ba => (some (z.set 0 ((rd_L1 z 0).set 0 ba.1), ba.2.1, ba.2.2))) else (none)) else (none)) else (if v = 2 then (some (([] : List (List Int)), a', s')) else (if v = 3 then (some ([List.replicate 7 0], a', s')) else (if v = 4 then (spec_l1Cur_section.l2 k z a' s') else (some (z, a', s'))))))) r) → Ev (fun k => spec_l1Cur_section.l0 k 0 x4 z code a s) r := fun r hr => by
    refine Ev.step (fun k => by rw [spec_l1Cur_section.l0]) (Ev.neg (by omega) ?_)
    rw [e]
    exact Ev.sbind hr
  by_cases c0 : v = 0
  · exact ⟨_, _, _, fin _ (Ev.pos c0 (Ev.pos (by omega) (Ev.now _))), h2.mono (by omega), by simp; omega, fun r hr => by
      rcases List.mem_append.1 hr with hr | hr
      · exact hz7 r hr
      · rw [List.mem_singleton.1 hr]; simp⟩
  by_cases c1 : v = 1
  · obtain ⟨u, b', t', e2, h3, _⟩ := among_eq (s := s') hc hl h2 (by omega) ([(-1000000), 1000000, 1000001, (-1000001)] : List Int) (by simp)
    have hr0 : rd_L1 z 0 ∈ z := by
      rw [rdL1_zero]
      cases z with
      | nil => simp at h1
      | cons x t => simp
    have := hz _ hr0
    refine ⟨_, _, _, fin _ (Ev.neg c0 (Ev.pos c1 (Ev.pos (by omega) (Ev.pos (by omega) (by rw [e2]; exact Ev.sbind (Ev.now _)))))), h3.mono (by omega), by simp; omega, fun r hr => ?_⟩
    rcases List.mem_or_eq_of_mem_set hr with hr | hr
    · exact hz7 r hr
    · rw [hr, List.length_set]; omega
  by_cases c2 : v = 2
  · exact ⟨_, _, _, fin _ (Ev.neg c0 (Ev.neg c1 (Ev.pos c2 (Ev.now _)))), h2.mono (by omega), by simp, fun r hr => by cases hr⟩
  by_cases c3 : v = 3
  · exact ⟨_, _, _, fin _ (Ev.neg c0 (Ev.neg c1 (Ev.neg c2 (Ev.pos c3 (Ev.now _))))), h2.mono (by omega), by simp, fun r hr => by rw [List.mem_singleton.1 hr]; simp⟩
  by_cases c4 : v = 4
  · obtain ⟨z', e3, l, hz'⟩ := section_l2 s' a' (9 - z.length) z (by omega) h1 hz7
    exact ⟨_, _, _, fin _ (Ev.neg c0 (Ev.neg c1 (Ev.neg c2 (Ev.neg c3 (Ev.pos c4 e3))))), h2.mono (by omega), l, hz'⟩
  · exact ⟨_, _, _, fin _ (Ev.neg c0 (Ev.neg c1 (Ev.neg c2 (Ev.neg c3 (Ev.neg c4 (Ev.now _)))))), h2.mono (by omega), by omega, hz7⟩

theorem section_l1 {code : List Int} (hc : Cu code) (hl : code.length ≤ 1048576) (x3 : Int) (D N : Nat) (hD : D ≤ 6) (hN : N ≤ 100000) (z : List (List Int)) (hz : z.length ≤ 8) (R : List (List Int) × Int × Int → Prop)
    (H : ∀ (a s : Int) (r : List Int), At N a → r.length = D → ∃ q, Ev (fun k => spec_l1Cur_section.l0 k (wrap64 (x3 - 1)) (D : Int) (z ++ [r]) code a s) q ∧ R q) :
    ∀ (d : Nat) (r : List Int) (n : Nat) (a s : Int), r.length + d = D → n + 4 * d ≤ N → At n a → ∃ q, Ev (fun k => spec_l1Cur_section.l1 k x3 (D : Int) z r (r.length : Int) code a s) q ∧ R q := by
  intro d
  induction d with
  | zero =>
    intro r n a s h hn ha
    obtain ⟨q, e, hr⟩ := H a s r (ha.mono (by omega)) (by omega)
    exact ⟨q, Ev.step (fun k => by rw [spec_l1Cur_section.l1]) (Ev.neg (by omega) (Ev.pos (by omega) e)), hr⟩
  | succ d ih =>
    intro r n a s h hn ha
    obtain ⟨v, a', s', e, h2, v0, v1⟩ := pick_eq (s := s) hc hl ha (by omega) 60
    obtain ⟨u, b', t', e2, h3, _⟩ := among_eq (s := s') hc hl h2 (by omega) (([(-3), (-2), (-1), 0, 1, 2, 5, 9, wrap64 (v - 30)] : List Int)) (by simp)
    obtain ⟨q, e3, hr⟩ := ih (r ++ [u]) (n + 4) b' t' (by simp; omega) (by omega) h3
    refine ⟨q, Ev.step (fun k => by rw [spec_l1Cur_section.l1]) (Ev.pos (by omega) ?_), hr⟩
    rw [e]
    refine Ev.sbind ?_
    rw [e2]
    refine Ev.sbind (Ev.pos (by omega) ?_)
    rw [wr _ (by omega) (by omega)]
    rw [List.length_append, List.length_singleton] at e3
    exact e3

theorem section_l0 {code : List Int} (hc : Cu code) (hl : code.length ≤ 1048576) (D : Nat) (hD : D ≤ 6) (hD1 : 1 ≤ D) : ∀ (d : Nat) (z : List (List Int)) (n : Nat) (a s : Int), z.length + d ≤ 8 → 1 ≤ z.length + d → (∀ r ∈ z, r.length = D) → n + 50 * d ≤ 10000 → At n a →
    ∃ q : List (List Int) × Int × Int, Ev (fun k => spec_l1Cur_section.l0 k (d : Int) (D : Int) z code a s) q ∧ (At 60000 q.2.1 ∧ q.1.length ≤ 9 ∧ ∀ r ∈ q.1, r.length ≤ 7) := by
  intro d
  induction d with
  | zero =>
    intro z n a s h8 h1 hz hn ha
    obtain ⟨z', a', s', e, h2, h3⟩ := section_end (s := s) hc hl ha (by omega) (D : Int) z (by omega) (by omega) (fun r hr => by rw [hz r hr]; omega)
    exact ⟨(z', a', s'), e, h2.mono (by omega), h3⟩
  | succ d ih =>
    intro z n a s h8 h1 hz hn ha
    obtain ⟨q, e, hq⟩ := section_l1 hc hl ((d + 1 : Nat) : Int) D (n + 4 * D) hD (by omega) z (by omega) (fun q => At 60000 q.2.1 ∧ q.1.length ≤ 9 ∧ ∀ r ∈ q.1, r.length ≤ 7) (fun a s r h hr => by
      obtain ⟨q, e, hq⟩ := ih (z ++ [r]) (n + 4 * D) a s (by simp; omega) (by simp; omega) (fun x hx => by
        rcases List.mem_append.1 hx with hx | hx
        · exact hz x hx
        · rw [List.mem_singleton.1 hx]; exact hr) (by omega) h
      refine ⟨q, ?_, hq⟩
      rw [wr _ (by omega) (by omega), show ((d + 1 : Nat) : Int) - 1 = (d : Int) by omega]
      exact e) D [] n a s (by simp) (by omega) ha
    refine ⟨q, Ev.step (fun k => by rw [spec_l1Cur_section.l0]) (Ev.pos (by omega) ?_), hq⟩
    simpa using e

theorem section_ev {code : List Int} (hc : Cu code) (hl : code.length ≤ 1048576) : ∃ z a' s', Ev (fun k => spec_l1Cur_section.f k code 0 0) (z, a', s') ∧ At 60000 a' ∧ z.length ≤ 9 ∧ ∀ r ∈ z, r.length ≤ 7 := by
  obtain ⟨v, a1, s1, e1, h1, v0, v1⟩ := pick_eq (n := 0) (a := 0) (s := 0) hc hl ⟨by omega, by omega⟩ (by omega) 6
  obtain ⟨u, a2, s2, e2, h2, u0, u1⟩ := pick_eq (s := s1) hc hl h1 (by omega) 4
  obtain ⟨b, a3, s3, e3, h3⟩ := one_eq (s := s2) hc hl h2 (by omega) 12
  have v1 := v1 (by omega)
  have u1 := u1 (by omega)
  have key : ∃ q : List (List Int) × Int × Int, Ev (fun k => if b = true then (spec_l1Cur_section.j0 k 8 6 code a3 s3) else (spec_l1Cur_section.j0 k (wrap64 (1 + v)) (wrap64 (1 + u)) code a3 s3)) q ∧ (At 60000 q.2.1 ∧ q.1.length ≤ 9 ∧ ∀ r ∈ q.1, r.length ≤ 7) := by
    have w : wrap64 (1 + v) = (((1 + v).toNat : Nat) : Int) := by rw [wr _ (by omega) (by omega)]; omega
    have w' : wrap64 (1 + u) = (((1 + u).toNat : Nat) : Int) := by rw [wr _ (by omega) (by omega)]; omega
    cases b with
    | true =>
      obtain ⟨q, e, hq⟩ := section_l0 hc hl 6 (by omega) (by omega) 8 [] 6 a3 s3 (by simp) (by simp) (fun r hr => by cases hr) (by omega) h3
      exact ⟨q, Ev.pos rfl (Ev.step (fun k => by rw [spec_l1Cur_section.j0]; rfl) e), hq⟩
    | false =>
      obtain ⟨q, e, hq⟩ := section_l0 hc hl (1 + u).toNat (by omega) (by omega) (1 + v).toNat [] 6 a3 s3 (by simp; omega) (by simp; omega) (fun r hr => by cases hr) (by omega) h3
      refine ⟨q, Ev.neg (by simp) (Ev.step (fun k => by rw [spec_l1Cur_section.j0]) ?_), hq⟩
      rw [w, w']
      exact e
  obtain ⟨q, e, hq⟩ := key
  refine ⟨q.1, q.2.1, q.2.2, ?_, hq⟩
  unfold spec_l1Cur_section.f
  rw [e1]
  refine Ev.sbind ?_
  rw [e2]
  refine Ev.sbind ?_
  rw [e3]
  exact Ev.sbind e

theorem depths_j1 {code : List Int} (hc : Cu code) (hl : code.length ≤ 1048576) {n : Nat} {a s : Int} (h : At n a) (hn : n ≤ 1000000) (p : List Int) (b : Bool) (hb : b = true → 1 ≤ p.length) (hp : p.length ≤ 100) :
    ∃ q a' s', Ev (fun k => spec_l1Cur_depths.j1 k p b code a s) (q, a', s') ∧ At (n + 6) a' ∧ q.length ≤ p.length + 1 := by
  cases b with
  | false =>
    obtain ⟨c, a', s', e, h2⟩ := one_eq (s := s) hc hl h (by omega) 24
    cases c with
    | true => exact ⟨p ++ [0], a', s', Ev.step (fun k => by rw [spec_l1Cur_depths.j1]) (Ev.neg (by simp) (by rw [e]; exact Ev.sbind (Ev.pos rfl (Ev.pos (by omega) (Ev.now _))))), h2.mono (by omega), by simp⟩
    | false => exact ⟨p, a', s', Ev.step (fun k => by rw [spec_l1Cur_depths.j1]) (Ev.neg (by simp) (by rw [e]; exact Ev.sbind (Ev.neg (by simp) (Ev.now _)))), h2.mono (by omega), by omega⟩
  | true =>
    have hb := hb rfl
    obtain ⟨v, a1, s1, e1, h1, v0, v1⟩ := pick_eq (s := s) hc hl h (by omega) (p.length : Int)
    obtain ⟨u, a2, s2, e2, h2, _⟩ := among_eq (s := s1) hc hl h1 (by omega) ([(-1), 7] : List Int) (by simp)
    obtain ⟨c, a3, s3, e3, h3⟩ := one_eq (s := s2) hc hl h2 (by omega) 24
    have v1 := v1 (by omega)
    cases c with
    | true => exact ⟨p.set v.toNat u ++ [0], a3, s3, Ev.step (fun k => by rw [spec_l1Cur_depths.j1]) (Ev.pos rfl (by
        rw [e1]; refine Ev.sbind ?_; rw [e2]; refine Ev.sbind (Ev.pos v0 (Ev.pos v1 (Ev.sbind ?_))); rw [e3]; exact Ev.sbind (Ev.pos rfl (Ev.pos (by rw [List.length_set]; omega) (Ev.now _))))), h3.mono (by omega), by simp⟩
    | false => exact ⟨p.set v.toNat u, a3, s3, Ev.step (fun k => by rw [spec_l1Cur_depths.j1]) (Ev.pos rfl (by
        rw [e1]; refine Ev.sbind ?_; rw [e2]; refine Ev.sbind (Ev.pos v0 (Ev.pos v1 (Ev.sbind ?_))); rw [e3]; exact Ev.sbind (Ev.neg (by simp) (Ev.now _)))), h3.mono (by omega), by simp⟩

theorem depths_l0 {code : List Int} (hc : Cu code) (hl : code.length ≤ 1048576) (z : List (List Int)) (hz : z.length ≤ 9) (hr : ∀ r ∈ z, r.length ≤ 7) : ∀ (d i : Nat) (p : List Int) (n : Nat) (a s : Int), i + d = z.length → p.length = i → n + 2 * d ≤ 900000 → At n a →
    ∃ q a' s', Ev (fun k => spec_l1Cur_depths.l0 k p z (z.length : Int) (i : Int) code a s) (q, a', s') ∧ At 1000000 a' ∧ q.length ≤ 10 := by
  intro d
  induction d with
  | zero =>
    intro i p n a s hi hp hn h
    by_cases c : (p.length : Int) > 0
    · obtain ⟨b, a1, s1, e1, h1⟩ := one_eq (s := s) hc hl h (by omega) 16
      obtain ⟨q, a2, s2, e2, h2, hq⟩ := depths_j1 (s := s1) hc hl h1 (by omega) p b (fun _ => by omega) (by omega)
      refine ⟨q, a2, s2, Ev.step (fun k => by rw [spec_l1Cur_depths.l0]) (Ev.neg (by omega) (Ev.pos c (by rw [e1]; exact Ev.sbind e2))), h2.mono (by omega), by omega⟩
    · obtain ⟨q, a2, s2, e2, h2, hq⟩ := depths_j1 (s := s) hc hl h (by omega) p false (fun e => by cases e) (by omega)
      refine ⟨q, a2, s2, Ev.step (fun k => by rw [spec_l1Cur_depths.l0]) (Ev.neg (by omega) (Ev.neg c e2)), h2.mono (by omega), by omega⟩
  | succ d ih =>
    intro i p n a s hi hp hn h
    have hm : rd_L1 z (i : Int) ∈ z := by rw [rdL1_get z i (by omega)]; exact List.getElem_mem _
    have := hr _ hm
    obtain ⟨v, a1, s1, e1, h1, v0, v1⟩ := pick_eq (s := s) hc hl h (by omega) (wrap64 (((rd_L1 z (i : Int)).length : Int) + 1))
    obtain ⟨q, a2, s2, e2, h2, hq⟩ := ih (i + 1) (p ++ [v]) (n + 2) a1 s1 (by omega) (by simp; omega) (by omega) h1
    refine ⟨q, a2, s2, Ev.step (fun k => by rw [spec_l1Cur_depths.l0]) (Ev.pos (by omega) (Ev.pos (nn _) (Ev.pos (by omega) ?_))), h2, hq⟩
    rw [e1]
    refine Ev.sbind (Ev.pos (by omega) ?_)
    rw [wr_nat i z.length (by omega) (by omega)]
    exact e2

theorem depths_ev {code : List Int} (hc : Cu code) (hl : code.length ≤ 1048576) {a s : Int} (h : At 60000 a) (z : List (List Int)) (hz : z.length ≤ 9) (hr : ∀ r ∈ z, r.length ≤ 7) : ∃ q a' s', Ev (fun k => spec_l1Cur_depths.f k code a s z) (q, a', s') ∧ At 1000000 a' ∧ q.length ≤ 10 := by
  obtain ⟨q, a', s', e, h2⟩ := depths_l0 hc hl z hz hr z.length 0 [] 60000 a s (by omega) rfl (by omega) h
  exact ⟨q, a', s', by unfold spec_l1Cur_depths.f; exact e, h2⟩

theorem cu_of {code : List Int} (h : okI .u8 code) : Cu code := fun x hx => by
  have := h x hx
  have q : IntKind.u8.min ≤ x ∧ x ≤ IntKind.u8.max := by simpa [Lit.wf] using this
  exact ⟨q.1, q.2⟩

theorem dec_cons (a b : Int) (s t : List Int) : decide (a :: s = b :: t) = (decide (a = b) && decide (s = t)) := by
  by_cases h : a = b <;> by_cases h2 : s = t <;> simp [h, h2]

theorem sameInts_ev (x y : List Int) (hx : x.length ≤ 1048576) : Ev (fun k => laws_sameInts.f k x y) (decide (x = y)) := by
  unfold laws_sameInts.f
  by_cases c : x.length = y.length
  · refine Ev.pos (by omega) ?_
    have key : ∀ (d i : Nat), i + d = x.length → Ev (fun k => laws_sameInts.l0 k x y (x.length : Int) (i : Int)) (decide (x.drop i = y.drop i)) := by
      intro d
      induction d with
      | zero =>
        intro i hi
        exact Ev.step (fun k => by rw [laws_sameInts.l0]) (Ev.neg (by omega) (Ev.cast (by rw [dr0 _ _ (by omega), dr0 _ _ (by omega)]; simp) (Ev.now _)))
      | succ d ih =>
        intro i hi
        refine Ev.step (fun k => by rw [laws_sameInts.l0]) (Ev.pos (by omega) (Ev.pos (nn _) (Ev.pos (by omega) (Ev.pos (by omega) ?_))))
        rw [rd_get x i (by omega), rd_get y i (by omega), dr x i (by omega), dr y i (by omega), wr_nat i x.length (by omega) (by omega), dec_cons]
        refine Ev.cases (fun h => ?_) (fun h => Ev.cast (by rw [decide_eq_false h]; rfl) (Ev.now _))
        exact Ev.cast (by rw [decide_eq_true h, Bool.true_and]) (ih (i + 1) (by omega))
    have := key x.length 0 (by omega)
    simpa using this
  · exact Ev.neg (by omega) (Ev.cast (by rw [decide_eq_false (fun e => c (by rw [e]))]) (Ev.now _))

theorem same_self (x : List Int) (hx : x.length ≤ 1048576) : Ev (fun k => laws_sameInts.f k x x) true := Ev.cast (by simp) (sameInts_ev x x hx)

theorem full_dep (v : List (List Int)) : depOk v (fullL v) = true := by
  unfold depOk
  rw [Bool.and_eq_true]
  refine ⟨decide_eq_true (by simp [fullL]), ?_⟩
  rw [List.all_eq_true]
  intro x hx
  have : x = ((v.headD []).length : Int) := List.eq_of_mem_replicate hx
  subst this
  simp [inB]

theorem full_sb (v : List (List Int)) (hs : secOk v = true) : SB v (fullL v) ∧ (fullL v).length = v.length ∧ ∀ c, c < v.length → 0 ≤ (fullL v).getD c 0 ∧ (fullL v).getD c 0 ≤ ((v.getD c []).length : Int) :=
  sB_of v (fullL v) (fullL v) hs (full_dep v) (by simp [fullL]) (fun c hc => by rw [full_get v c hc]; omega) (fun c hc => by rw [full_get v c (by omega), full_get v (c + 1) hc]; omega)

def bpR (v : List (List Int)) : List Int × Int × Bool := if secOk v = true then (chL v (fullL v) v.length, topV v (fullL v), true) else ([], 0, false)

theorem impl_BestProfile_ev (v : List (List Int)) : Ev (fun k => impl_BestProfile.f k v) (bpR v) := by
  unfold impl_BestProfile.f bpR
  refine Ev.bind (IsSection_ev v) (Ev.cases (fun hs => ?_) (fun hs => Ev.cast (by rw [if_neg hs]) (Ev.now _)))
  obtain ⟨a1, a2, a3, a4⟩ := secOk_parts hs
  obtain ⟨S, hpl, pp⟩ := full_sb v hs
  have e2 := impl_bestBelow_ev v (fullL v) (by rw [mbL_full]; exact S) hpl pp
  rw [mbL_full] at e2
  rw [if_pos hs]
  refine Ev.pos (nn _) (Ev.pos (by omega) (Ev.sbind ?_))
  have l := impl_BestProfile_l0 v hs _ e2 v.length 0 (by omega)
  rw [Int.toNat_natCast, List.length_replicate]
  unfold topV
  simpa using l

theorem chL_len (v : List (List Int)) (ms : List Int) (n : Nat) : (chL v ms n).length = n := by simp [chL]

theorem spec_BestProfile_ev (v : List (List Int)) (hv : v.length ≤ 1048576) (hi : ∀ z ∈ v, z.length ≤ 1048576) : Ev (fun k => spec_BestProfile.f k v) (bpR v) := by
  unfold spec_BestProfile.f bpR
  refine Ev.bind (seGood_ev v (by omega) (fun z hz => by have := hi z hz; omega)) (Ev.cases (fun hs => ?_) (fun hs => Ev.cast (by rw [if_neg hs]) (Ev.now _)))
  obtain ⟨S, hpl, pp⟩ := full_sb v hs
  rw [if_pos hs]
  exact Ev.bind (spec_seFull_ev v hs) (Ev.bind (spec_seBest_ev v (fullL v) S) (Ev.now _))

theorem profile_ev {code : List Int} (hc : Cu code) (hl : code.length ≤ 1048576) {a s : Int} (h : At 60000 a) (z : List (List Int)) (hz : z.length ≤ 9) (hr : ∀ r ∈ z, r.length ≤ 7) : ∃ q a' s', Ev (fun k => spec_l1Cur_profile.f k code a s z) (q, a', s') ∧ q.length ≤ 10 := by
  obtain ⟨q, a', s', e, h2, hq⟩ := depths_ev (s := s) hc hl h z hz hr
  have G := seGood_ev z (by omega) (fun x hx => by have := hr x hx; omega)
  unfold spec_l1Cur_profile.f
  by_cases hs : secOk z = true
  · rw [hs] at G
    have n1 := (secOk_parts hs).1
    have Dp := seDepths_ev z q (by omega) (by omega)
    by_cases hd : depOk z q = true
    · rw [hd] at Dp
      obtain ⟨b, a3, s3, e3, h3⟩ := one_eq (s := s') hc hl h2 (by omega) 5
      cases b with
      | true => exact ⟨q, a3, s3, Ev.bind e (Ev.bind G (Ev.pos rfl (Ev.bind Dp (Ev.pos rfl (by rw [e3]; exact Ev.sbind (Ev.pos rfl (Ev.now _))))))), hq⟩
      | false => exact ⟨gpL q, a3, s3, Ev.bind e (Ev.bind G (Ev.pos rfl (Ev.bind Dp (Ev.pos rfl (by rw [e3]; exact Ev.sbind (Ev.neg (by simp) (Ev.bind (seLower_ev z q hs hd) (Ev.now _)))))))), by simp [gpL]; omega⟩
    · rw [bf hd] at Dp
      exact ⟨q, a', s', Ev.bind e (Ev.bind G (Ev.pos rfl (Ev.bind Dp (Ev.neg (by simp) (Ev.now _))))), hq⟩
  · rw [bf hs] at G
    exact ⟨q, a', s', Ev.bind e (Ev.bind G (Ev.neg (by simp) (Ev.now _))), hq⟩

theorem secL_in {v : List (List Int)} (hs : secOk v = true) : ∀ n, ∀ x ∈ secL v n, -1000000 ≤ x ∧ x ≤ 1000000 := by
  obtain ⟨_, _, _, h⟩ := secOk_parts hs
  intro n
  induction n with
  | zero => intro x hx; simp [secL] at hx
  | succ n ih =>
    intro x hx
    rw [secL_succ, List.mem_append] at hx
    rcases hx with hx | hx
    · exact ih x hx
    · unfold levL at hx
      obtain ⟨c, hc, rfl⟩ := List.mem_map.1 hx
      obtain ⟨i, hi, rfl⟩ := List.mem_iff_getElem.1 hc
      by_cases q : n < v[i].length
      · have := List.all_eq_true.1 (h i hi).2 _ (List.getElem_mem q)
        rw [gD _ 0 n q]
        exact of_decide_eq_true this
      · rw [List.getD_eq_getElem?_getD, List.getElem?_eq_none (by omega)]
        simp

theorem ValueOf_ev (v l : List Int) (h1 : 1 ≤ v.length) (h2 : v.length ≤ 120) (hv : ∀ x ∈ v, -1000000 ≤ x ∧ x ≤ 1000000) (hl : l.length ≤ 120) (hr : rise 0 ((v.length : Int) - 1) l = true) : Ev (fun k => impl_ValueOf.f k v l) (sumAt v l, true) := by
  unfold impl_ValueOf.f
  have G := goodValues_ev v
  rw [decide_eq_true (show 1 ≤ v.length ∧ v.length ≤ 120 from ⟨h1, h2⟩), show v.all (inB (-1000000) 1000000) = true from List.all_eq_true.2 (fun x hx => decide_eq_true (hv x hx))] at G
  refine Ev.bind G (Ev.pos rfl (Ev.bind (areBlocks_ev l (v.length : Int) (by omega)) (Ev.pos hr ?_)))
  exact Ev.bind (valueSum_ev v l hl hv (fun x hx => by have := rise_mem hr hx; omega)) (Ev.now _)

theorem pSum_ev (r : List Int) (hl : r.length ≤ 1000) (hr : ∀ x ∈ r, -1000 ≤ x ∧ x ≤ 1000) : Ev (fun k => laws_pSum.f k r) r.sum := by
  have bd : ∀ i, i ≤ r.length → -1000 * (i : Int) ≤ (r.take i).sum ∧ (r.take i).sum ≤ 1000 * (i : Int) := by
    intro i
    induction i with
    | zero => intro _; simp
    | succ i ih =>
      intro hi
      have a := ih (by omega)
      have b := hr _ (List.getElem_mem (show i < r.length by omega))
      rw [List.take_succ_eq_append_getElem (by omega), List.sum_append, List.sum_singleton]
      omega
  have key : ∀ (d i : Nat), i + d = r.length → Ev (fun k => laws_pSum.l0 k (r.take i).sum r (r.length : Int) (i : Int)) r.sum := by
    intro d
    induction d with
    | zero => exact fun i hi => Ev.step (fun k => by rw [laws_pSum.l0]) (Ev.neg (by omega) (Ev.cast (by rw [List.take_of_length_le (by omega)]) (Ev.now _)))
    | succ d ih =>
      intro i hi
      have a := bd i (by omega)
      have b := hr _ (List.getElem_mem (show i < r.length by omega))
      have e := ih (i + 1) (by omega)
      rw [List.take_succ_eq_append_getElem (by omega), List.sum_append, List.sum_singleton] at e
      refine Ev.step (fun k => by rw [laws_pSum.l0]) (Ev.pos (by omega) (Ev.pos (nn _) (Ev.pos (by omega) ?_)))
      rw [rd_get r i (by omega), wr _ (by omega) (by omega), wr_nat i r.length (by omega) (by omega)]
      exact e
  have := key r.length 0 (by omega)
  unfold laws_pSum.f
  simpa using this

theorem pbR_len (v : List (List Int)) (p : List Int) : (pbR v p).1.length ≤ 100 := by
  unfold pbR
  split
  · rename_i h
    have := secOk_parts h.1
    exact pbL_small p v.length _ (by omega) (by rw [depLen h.2.1]; omega)
  · simp

theorem profiles_j3 {y : List Int} (hc : Cu y) (hl : y.length ≤ 1048576) : Ev (fun k => laws_FnProfiles.j3 k y) true := by
  obtain ⟨v, a1, s1, e1, h1, hv, hr⟩ := section_ev hc hl
  obtain ⟨p, a2, s2, e2, hp⟩ := profile_ev (s := s1) hc hl h1 v hv hr
  have hi : ∀ z ∈ v, z.length < 9223372036854775807 := fun z hz => by have := hr z hz; omega
  have D : Ev (fun k => spec_DrawIsProfile.f k y) (v, p) := by
    unfold spec_DrawIsProfile.f
    exact Ev.bind e1 (Ev.bind e2 (Ev.now _))
  refine Ev.step (fun k => by rw [laws_FnProfiles.j3]) ?_
  refine Ev.bind D (Ev.bind (impl_IsProfile_ev v p) (Ev.bind (spec_IsProfile_ev v p (by omega) hi (by omega)) (Ev.bind (impl_ProfileBlocks_ev v p) (Ev.bind (spec_ProfileBlocks_ev v p (by omega) hi (by omega)) ?_))))
  refine Ev.pos (by simp) (Ev.pos (by simp) (Ev.pos (by simp) (Ev.bind (same_self _ (by have := pbR_len v p; omega)) (Ev.pos rfl (Ev.cases (fun h => ?_) (fun _ => Ev.now _))))))
  unfold pbR at h ⊢
  split at h
  · rename_i c
    simp only [if_pos c]
    have d := c.2.1
    refine Ev.bind (pSum_ev p (by omega) (fun x hx => ?_)) (Ev.cast ?_ (Ev.now _))
    · obtain ⟨i, hi, rfl⟩ := List.mem_iff_getElem.1 hx
      have := dep_at d i hi
      have := secOk_parts c.1
      omega
    · rw [blocks_count v p d]; simp
  · cases h

theorem profiles_j1 {y : List Int} (hc : Cu y) (hl : y.length ≤ 1048576) : Ev (fun k => laws_FnProfiles.j1 k y) true := by
  obtain ⟨v, a1, s1, e1, h1, hv, hr⟩ := section_ev hc hl
  obtain ⟨p, a2, s2, e2, hp⟩ := profile_ev (s := s1) hc hl h1 v hv hr
  have hi : ∀ z ∈ v, z.length < 9223372036854775807 := fun z hz => by have := hr z hz; omega
  have D : Ev (fun k => spec_DrawProfileValue.f k y) (v, p) := by
    unfold spec_DrawProfileValue.f spec_DrawIsProfile.f
    exact Ev.bind (Ev.bind e1 (Ev.bind e2 (Ev.now _))) (Ev.now _)
  refine Ev.step (fun k => by rw [laws_FnProfiles.j1]) ?_
  refine Ev.bind D (Ev.bind (impl_ProfileValue_ev v p) (Ev.bind (spec_ProfileValue_ev v p (by omega) hi (by omega)) (Ev.neg (by simp) ?_)))
  refine Ev.step (fun k => by rw [laws_FnProfiles.j2]) (Ev.neg (by simp) (Ev.cases (fun h => ?_) (fun _ => profiles_j3 hc hl)))
  unfold pvR at h ⊢
  split at h
  · rename_i c
    obtain ⟨hs, hd, ha⟩ := c
    simp only [if_pos (show secOk v = true ∧ depOk v p = true ∧ adjOk p = true from ⟨hs, hd, ha⟩)]
    obtain ⟨Sf, _, _⟩ := full_sb v hs
    have n1 := (secOk_parts hs).1
    have P4 := impl_BestProfile_ev v
    unfold bpR at P4
    rw [if_pos hs] at P4
    have t1 := top_most v (fullL v) Sf (by omega) p (depLen hd) (fun c hc => ⟨(dep_get hd c hc).1, by rw [full_get v c hc]; exact (dep_get hd c hc).2⟩) ha
    have T := impl_ProfileText_ev v p
    have T2 := spec_ProfileText_ev v p (by omega) hi (by omega)
    unfold ptR at T T2
    rw [if_pos ⟨hs, hd, ha⟩] at T T2
    exact Ev.bind P4 (Ev.bind T (Ev.bind T2 (Ev.pos rfl (Ev.neg (by simp only []; omega) (Ev.pos rfl (Ev.pos rfl (profiles_j3 hc hl)))))))
  · cases h

theorem FnProfiles (x y : List Int) (hx : x.length * 1 ≤ 140737488351232) (wx : okI .u8 x) (hy : y.length * 1 ≤ 140737488351232) (wy : okI .u8 y) : ∃ k, laws_FnProfiles.f k x y = some true := by
  refine Ev.ex (g := fun k => laws_FnProfiles.f k x y) ?_
  obtain ⟨b, eb, hb⟩ := big_eq x y (by omega) (by omega)
  unfold laws_FnProfiles.f
  rw [eb]
  refine Ev.sbind (Ev.cases (fun _ => Ev.now _) (fun h => ?_))
  obtain ⟨hx, hy⟩ := hb (bf h)
  have cx := cu_of wx
  have cy := cu_of wy
  have J1 := profiles_j1 cy hy
  obtain ⟨v, a1, s1, e1, h1, hv, hr⟩ := section_ev cx hx
  have D : Ev (fun k => spec_DrawBestProfile.f k x) v := by
    unfold spec_DrawBestProfile.f spec_DrawIsSection.f
    exact Ev.bind (Ev.bind e1 (Ev.now _)) (Ev.now _)
  refine Ev.bind D (Ev.bind (impl_BestProfile_ev v) (Ev.bind (spec_BestProfile_ev v (by omega) (fun z hz => by have := hr z hz; omega)) ?_))
  refine Ev.neg (by simp) ?_
  unfold bpR
  by_cases hs : secOk v = true
  · simp only [if_pos hs]
    obtain ⟨n1, n8, n6, _⟩ := secOk_parts hs
    obtain ⟨Sf, _, _⟩ := full_sb v hs
    obtain ⟨b1, b2⟩ := ch_profile v (fullL v) Sf hs (fun c hc => by rw [full_get v c hc]; exact Int.le_refl _)
    refine Ev.bind (same_self _ (by rw [chL_len]; omega)) (Ev.pos rfl (Ev.pos (by trivial) (Ev.bind (IsSection_ev v) ?_)))
    rw [hs]
    refine Ev.step (fun k => by rw [laws_FnProfiles.j0]) (Ev.neg (by simp) (Ev.pos rfl ?_))
    have P1 := impl_IsProfile_ev v (chL v (fullL v) v.length)
    have P2 := impl_ProfileValue_ev v (chL v (fullL v) v.length)
    have P3 := impl_ProfileBlocks_ev v (chL v (fullL v) v.length)
    have P4 := impl_SectionValues_ev v
    unfold profR at P1
    unfold pvR at P2
    unfold pbR at P3
    unfold secR at P4
    rw [if_pos hs, b1, b2] at P1
    rw [if_pos ⟨hs, b1, b2⟩] at P2 P3
    rw [if_pos hs] at P4
    have sl : (secL v (v.headD []).length).length = (v.headD []).length * v.length := secL_len v _
    have m1 := Nat.mul_le_mul (show 1 ≤ (v.headD []).length by omega) n1
    have m2 := Nat.mul_le_mul (show (v.headD []).length ≤ 6 by omega) n8
    have hl := chL_len v (fullL v) v.length
    have P5 := ValueOf_ev (secL v (v.headD []).length) (pbL (chL v (fullL v) v.length) v.length (v.headD []).length) (by omega) (by omega) (secL_in hs _) (by have := pbL_small (chL v (fullL v) v.length) v.length (v.headD []).length (by omega) (by omega); omega)
      (rise_of (fun x hx => by have := pbL_in _ v.length hl (v.headD []).length x hx; omega) (pbL_pw _ v.length hl _))
    rw [blocks_value v _ hs b1] at P5
    have t1 := top_is v (fullL v) Sf (by omega)
    have t2 := top_pos v (fullL v) Sf (by omega)
    refine Ev.bind P1 (Ev.bind P2 (Ev.bind P3 (Ev.bind P4 (Ev.bind P5 (Ev.pos rfl (Ev.pos rfl (Ev.pos rfl (Ev.pos t1.symm (Ev.pos rfl (Ev.pos rfl (Ev.pos rfl (Ev.pos t1.symm (Ev.neg (by omega) J1)))))))))))))
  · simp only [if_neg hs]
    refine Ev.bind (same_self [] (by simp)) (Ev.pos rfl (Ev.pos (by trivial) (Ev.bind (IsSection_ev v) ?_)))
    rw [bf hs]
    exact Ev.step (fun k => by rw [laws_FnProfiles.j0]) (Ev.neg (by simp) (Ev.neg (by simp) J1))

end Go.Proofs.Ytdipbpckmcmljaa.Pure

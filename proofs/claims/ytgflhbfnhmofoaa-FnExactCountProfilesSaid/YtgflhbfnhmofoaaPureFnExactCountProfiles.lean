/- FnExactCountProfiles over numbers and lists alone: what the program's text computes and what the reference's text computes is the same, for all arguments that the row lets in; no further condition. -/
import Derived.Test.YtgflhbfnhmofoaaPFnExactCountProfilesx4
import Derived.Test.YtgflhbfnhmofoaaGen
import Derived.Test.YtgflhbfnhmofoaaOpn
set_option linter.unusedVariables false
set_option linter.unusedSimpArgs false
namespace Go.Proofs.Ytgflhbfnhmofoaa.Pure
open Go.RowKit Go.Proofs.Ytgflhbfnhmofoaa.PFnExactCountProfiles Go.Proofs.YtgflhbfnhmofoaaW.PrintWords Go.Proofs.YtgflhbfnhmofoaaW.PrintLast Go.Proofs.Ytgflhbfnhmofoaa.Gen Go.Proofs.Ytgflhbfnhmofoaa.Opn
theorem l1In_eq (n a b : Int) : spec_l1In.f n a b = some (decide (a ≤ n ∧ n ≤ b)) := by
  unfold spec_l1In.f
  by_cases h : n ≥ a
  · rw [if_pos h]; simp [show a ≤ n from h]
  · rw [if_neg h]; simp [show ¬ a ≤ n from h]

def cpCell (c d : Nat) : Option (Int × Bool) := impl_CountProfiles.f 400 (c : Int) (d : Int)

theorem cp_tab : ((List.range 8).all fun c => (List.range 6).all fun d => (spec_CountProfiles.f 400 ((c + 1 : Nat) : Int) ((d + 1 : Nat) : Int) == cpCell (c + 1) (d + 1)) && (cpCell (c + 1) (d + 1)).isSome) = true := by decide +kernel

theorem cp_at (c d : Int) (h1 : 1 ≤ c) (h2 : c ≤ 8) (h3 : 1 ≤ d) (h4 : d ≤ 6) : ∃ v, spec_CountProfiles.f 400 c d = some v ∧ impl_CountProfiles.f 400 c d = some v ∧ cpCell c.toNat d.toNat = some v := by
  have h := cp_tab
  rw [List.all_eq_true] at h
  have h := h (c.toNat - 1) (List.mem_range.2 (by omega))
  rw [List.all_eq_true] at h
  have h := h (d.toNat - 1) (List.mem_range.2 (by omega))
  rw [show c.toNat - 1 + 1 = c.toNat by omega, show d.toNat - 1 + 1 = d.toNat by omega] at h
  rw [Bool.and_eq_true, beq_iff_eq, Option.isSome_iff_exists] at h
  obtain ⟨h5, v, hv⟩ := h
  refine ⟨v, ?_, ?_, hv⟩
  · rw [Int.toNat_of_nonneg (by omega), Int.toNat_of_nonneg (by omega)] at h5; rw [h5, hv]
  · unfold cpCell at hv; rw [Int.toNat_of_nonneg (by omega), Int.toNat_of_nonneg (by omega)] at hv; exact hv

def cpV (c d : Int) : Int × Bool := if 1 ≤ c ∧ c ≤ 8 ∧ 1 ≤ d ∧ d ≤ 6 then (cpCell c.toNat d.toNat).getD (0, false) else (0, false)

theorem spec_CountProfiles_ev (c d : Int) : Ev (fun k => spec_CountProfiles.f k c d) (cpV c d) := by
  unfold cpV
  by_cases h : 1 ≤ c ∧ c ≤ 8 ∧ 1 ≤ d ∧ d ≤ 6
  · obtain ⟨v, hv, _, he⟩ := cp_at c d h.1 h.2.1 h.2.2.1 h.2.2.2
    rw [if_pos h, he]
    exact Ev.of (spec_CountProfiles.mono _ _) hv
  · rw [if_neg h]
    unfold spec_CountProfiles.f
    have J : Ev (fun k => spec_CountProfiles.j0 k c d true) (0, false) := Ev.step (fun k => by rw [spec_CountProfiles.j0]) (Ev.pos rfl (Ev.now _))
    rw [l1In_eq, l1In_eq]
    refine Ev.sbind (Ev.cases (fun h1 => ?_) (fun _ => J))
    refine Ev.sbind ?_
    rw [show decide (1 ≤ d ∧ d ≤ 6) = false by have := of_decide_eq_true h1; exact decide_eq_false (fun e => h ⟨this.1, this.2, e.1, e.2⟩)]
    exact J

theorem impl_CountProfiles_ev (c d : Int) : Ev (fun k => impl_CountProfiles.f k c d) (cpV c d) := by
  unfold cpV
  by_cases h : 1 ≤ c ∧ c ≤ 8 ∧ 1 ≤ d ∧ d ≤ 6
  · obtain ⟨v, _, hv, he⟩ := cp_at c d h.1 h.2.1 h.2.2.1 h.2.2.2
    rw [if_pos h, he]
    exact Ev.of (impl_CountProfiles.mono _ _) hv
  · rw [if_neg h]
    unfold impl_CountProfiles.f
    have J : Ev (fun k => impl_CountProfiles.j0 k c d true) (0, false) := Ev.step (fun k => by rw [impl_CountProfiles.j0]) (Ev.pos rfl (Ev.now _))
    refine Ev.cases (fun _ => J) (fun h1 => Ev.cases (fun _ => J) (fun h2 => Ev.cases (fun _ => J) (fun h3 => ?_)))
    rw [decide_eq_true (show d > 6 by omega)]
    exact J

theorem FnExactCountProfiles (c d : Int) (_ : (Lit.int .i64 c).wf = true) (_ : (Lit.int .i64 d).wf = true) : ∃ k, laws_FnExactCountProfiles.f k c d = some true := by
  refine Ev.ex (g := fun k => laws_FnExactCountProfiles.f k c d) ?_
  unfold laws_FnExactCountProfiles.f
  refine Ev.bind (spec_CountProfiles_ev c d) (Ev.bind (impl_CountProfiles_ev c d) (Ev.pos rfl (Ev.neg (by simp) (Ev.now _))))

end Go.Proofs.Ytgflhbfnhmofoaa.Pure

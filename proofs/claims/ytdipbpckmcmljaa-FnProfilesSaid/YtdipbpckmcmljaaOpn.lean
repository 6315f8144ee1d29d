/- How the arguments of this seat's laws read: slices of whole numbers and slices of such slices, out of the row's own reading. -/
import Derived.WalkKit
import Derived.ProofKit
import Derived.OpenShut
import Derived.ShutString
import Derived.ChangeOld
import Derived.Below
import Derived.SizedLaws
import Derived.ChangeSlices
import Derived.Deep.Matrix
import Derived.Test.YtdipbpckmcmljaaWSized
import Derived.Test.YtdipbpckmcmljaaWMore
namespace Go.Proofs.Ytdipbpckmcmljaa.Opn
open Go.ChangeShapes Go.WideShapes Go.ChangeAt Go.RowKit Go.Proofs.YtdipbpckmcmljaaW.PrintWords Go.Deep
set_option linter.unusedVariables false

def okI (k : IntKind) (zs : List Int) : Prop := ∀ n ∈ zs, (Lit.int k n).wf = true

section
variable {H : Type} {enc : TypeId × Value → H} {P : Program} {W : World}
theorem C_of_cells {α : Type} {d : Kd α} {A : Option Addr} {n : Nat} {xs : List α} (hs : d.sz = 1) (hl : xs.length = n) (hn : n ≤ maxLen)
    (h : 0 < n → ∃ ad, A = some ad ∧ ∀ (j : Nat) (p : α), xs[j]? = some p → ∃ v, d.K W p [v] ∧ W.cell? (ad.add j) = some v) : d.C W A n xs := by
  refine ⟨hl, by unfold maxLen at hn; omega, fun hp => ?_⟩
  obtain ⟨ad, rfl, hc⟩ := h hp
  refine ⟨ad, rfl, fun j p hj => ?_⟩
  obtain ⟨v, hk, hv⟩ := hc j p hj
  refine ⟨[v], by rw [hs]; rfl, hk, fun i u hu => ?_⟩
  rw [hs, Nat.mul_one]
  cases i with
  | zero => simp at hu; subst hu; exact hv
  | succ i => simp at hu

theorem ints_cell {t e : TypeId} {k : IntKind} {fuel : Nat} {v : Value} {x : DataW H × List MemPlace} (hu : P.underlying t = some (.slice e)) (he : P.underlying e = some (.int k)) (hc : P.cellsOf e = 1)
    (hf : DataW.trod enc P W 0 (fun _ => true) true fuel t [v] = some x) :
    ∃ (a : Option Addr) (len cap : Nat) (zs : List Int), v = .slice a len cap ∧ zs.length = len ∧ len ≤ cap ∧ len ≤ maxLen ∧ (Kd.int k).C W a len zs ∧ okI k zs := by
  rcases open_ints hu he hc hf with ⟨hcs, _⟩ | ⟨x, l, c, zs, hcs, _, hl, hm, hz, _, hcell, hwz⟩
  · have hv : v = .slice none 0 0 := by simpa using hcs
    exact ⟨none, 0, 0, [], hv, rfl, Nat.le_refl _, by simp [maxLen], ⟨rfl, by omega, fun h => absurd h (by omega)⟩, fun n hn => by cases hn⟩
  · have hv : v = .slice (some x) l c := by simpa using hcs
    have hz' : zs.length = c := by simpa using hz
    refine ⟨some x, l, c, zs.take l, hv, by rw [List.length_take]; omega, hl, by omega, C_of_cells rfl (by rw [List.length_take]; omega) (by omega) (fun hp => ⟨x, rfl, fun j p hj => ?_⟩), fun n hn => hwz n (List.mem_of_mem_take hn)⟩
    have hjl : j < l := by have := (List.getElem?_eq_some_iff.1 hj).1; rw [List.length_take] at this; omega
    have hjv : zs.getD j 0 = p := by
      rw [List.getElem?_take] at hj; simp [hjl] at hj
      rw [List.getD_eq_getElem?_getD, hj]; rfl
    exact ⟨.int k p, rfl, by rw [← hjv]; exact hcell j (by omega)⟩

theorem ints_open {t e : TypeId} {k : IntKind} {a : Option Addr} {len cap : Nat} {d : DataW H} {ps : List MemPlace} (hu : P.underlying t = some (.slice e)) (he : P.underlying e = some (.int k)) (hc : P.cellsOf e = 1)
    (h : DataW.Trod enc P W 0 (fun _ => true) true t (.slice a len cap) d ps) :
    ∃ zs : List Int, zs.length = len ∧ len ≤ cap ∧ len ≤ maxLen ∧ (Kd.int k).C W a len zs ∧ okI k zs := by
  obtain ⟨fuel, hf⟩ := h
  obtain ⟨a', len', cap', zs, hv, h⟩ := ints_cell (v := .slice a len cap) hu he hc hf
  injection hv with e1 e2 e3
  subst e1; subst e2; subst e3
  exact ⟨zs, h⟩

theorem rows_cell {t e q : TypeId} {k : IntKind} {fuel : Nat} {v : Value} {x : DataW H × List MemPlace} (hu : P.underlying t = some (.slice e)) (he : P.underlying e = some (.slice q)) (hq : P.underlying q = some (.int k))
    (ce : P.cellsOf e = 1) (cq : P.cellsOf q = 1) (hf : DataW.trod enc P W 0 (fun _ => true) true fuel t [v] = some x) :
    ∃ (a : Option Addr) (len cap : Nat) (zs : List (List Int)), v = .slice a len cap ∧ zs.length = len ∧ len ≤ cap ∧ len ≤ maxLen ∧ (Kd.slice q (Kd.int k)).C W a len zs ∧ (∀ z ∈ zs, z.length ≤ maxLen) ∧ ∀ z ∈ zs, okI k z := by
  rcases open_int_rows hu he hq ce cq hf with ⟨hcs, _⟩ | ⟨x, len, cap, A, L, C, Z, hcs, _, hl, hm, _, hr⟩
  · have hv : v = .slice none 0 0 := by simpa using hcs
    exact ⟨none, 0, 0, [], hv, rfl, Nat.le_refl _, by simp [maxLen], ⟨rfl, by omega, fun h => absurd h (by omega)⟩, fun n hn => (by cases hn), fun n hn => by cases hn⟩
  · have hv : v = .slice (some x) len cap := by simpa using hcs
    refine ⟨some x, len, cap, (List.range len).map fun r => (Z r).take (L r), hv, by simp, hl, by omega, C_of_cells rfl (by simp) (by omega) (fun hp => ⟨x, rfl, fun j p hj => ?_⟩), fun z hz => ?_, fun z hz => ?_⟩
    · have hjl : j < len := by have := (List.getElem?_eq_some_iff.1 hj).1; simpa using this
      have hp' : (Z j).take (L j) = p := by simpa [hjl] using hj
      obtain ⟨h1, h2, h3, h4, h5, h6, h7⟩ := hr j (by omega)
      have hlen : p.length = L j := by rw [← hp', List.length_take]; omega
      refine ⟨.slice (A j) (L j) (C j), ⟨A j, C j, by rw [hlen], by omega, ?_⟩, h1⟩
      refine C_of_cells rfl rfl (by omega) (fun hpos => ?_)
      cases hA : A j with
      | none => exact absurd (h6 hA) (by omega)
      | some ad =>
        refine ⟨ad, rfl, fun i n hi => ?_⟩
        have hil : i < L j := by have := (List.getElem?_eq_some_iff.1 hi).1; omega
        refine ⟨.int k n, rfl, ?_⟩
        have := (h7 ad hA).2 i (by omega)
        rw [this]
        rw [← hp', List.getElem?_take] at hi; simp [hil] at hi
        rw [List.getD_eq_getElem?_getD, hi]; rfl
    · obtain ⟨j, hj, rfl⟩ := List.mem_map.1 hz
      have hj := List.mem_range.1 hj
      obtain ⟨h1, h2, h3, h4, h5, h6, h7⟩ := hr j (by omega)
      rw [List.length_take]; omega
    · obtain ⟨j, hj, rfl⟩ := List.mem_map.1 hz
      have hj := List.mem_range.1 hj
      obtain ⟨h1, h2, h3, h4, h5, h6, h7⟩ := hr j (by omega)
      exact fun n hn => h5 n (List.mem_of_mem_take hn)

theorem rows_open {t e q : TypeId} {k : IntKind} {a : Option Addr} {len cap : Nat} {d : DataW H} {ps : List MemPlace} (hu : P.underlying t = some (.slice e)) (he : P.underlying e = some (.slice q)) (hq : P.underlying q = some (.int k))
    (ce : P.cellsOf e = 1) (cq : P.cellsOf q = 1) (h : DataW.Trod enc P W 0 (fun _ => true) true t (.slice a len cap) d ps) :
    ∃ zs : List (List Int), zs.length = len ∧ len ≤ cap ∧ len ≤ maxLen ∧ (Kd.slice q (Kd.int k)).C W a len zs ∧ (∀ z ∈ zs, z.length ≤ maxLen) ∧ ∀ z ∈ zs, okI k z := by
  obtain ⟨fuel, hf⟩ := h
  obtain ⟨a', len', cap', zs, hv, h⟩ := rows_cell (v := .slice a len cap) hu he hq ce cq hf
  injection hv with e1 e2 e3
  subst e1; subst e2; subst e3
  exact ⟨zs, h⟩

theorem int_cell {t : TypeId} {k : IntKind} {fuel : Nat} {v : Value} {x : DataW H × List MemPlace} (hu : P.underlying t = some (.int k)) (hf : DataW.trod enc P W 0 (fun _ => true) true fuel t [v] = some x) :
    ∃ n, v = .int k n ∧ (Lit.int k n).wf = true := by
  obtain ⟨n, hcs, _, hw⟩ := DataW.trod_int hu hf
  exact ⟨n, by simpa using hcs, hw⟩

/-- A struct's field reads by itself. -/
theorem fld {t : TypeId} {fs : Array Field} {fuel : Nat} {cs : List Value} {x : DataW H × List MemPlace} (hu : P.underlying t = some (.struct fs)) (hf : DataW.trod enc P W 0 (fun _ => true) true fuel t cs = some x)
    (i : Nat) (f : Field) (hi : fs[i]? = some f) : ∃ n y, DataW.trod enc P W 0 (fun _ => true) true n f.type ((cs.drop f.offset).take (P.cellsOf f.type)) = some y := by
  obtain ⟨xs, n, _, _, _, hl, h⟩ := DataW.trod_struct hu hf
  have := h i f hi
  have hlt : i < xs.length := by rw [hl]; exact (Array.getElem?_eq_some_iff.1 hi).1
  rw [List.getElem?_eq_getElem hlt] at this
  exact ⟨n, _, this⟩
theorem fldAt {t : TypeId} {fs : Array Field} {fuel : Nat} {cs cs' : List Value} {x : DataW H × List MemPlace} (hu : P.underlying t = some (.struct fs)) (hf : DataW.trod enc P W 0 (fun _ => true) true fuel t cs = some x)
    (i ty off nc : Nat) (hi : fs[i]?.map (fun f => (f.type, f.offset)) = some (ty, off)) (hc : P.cellsOf ty = nc) (hcs : (cs.drop off).take nc = cs') : ∃ n y, DataW.trod enc P W 0 (fun _ => true) true n ty cs' = some y := by
  obtain ⟨f, hf1, hf2⟩ := Option.map_eq_some_iff.1 hi
  obtain ⟨n, y, h⟩ := fld hu hf i f hf1
  injection hf2 with h1 h2
  subst h1; subst h2; subst hc; subst hcs
  exact ⟨n, y, h⟩
theorem arr_list {α : Type} {cs : Array α} {n : Nat} (h : cs.size = n) : ∃ l : List α, cs = l.toArray ∧ l.length = n := ⟨cs.toList, by simp, by simpa using h⟩
end
theorem list2 {α : Type} {l : List α} (h : l.length = 2) : ∃ a0 a1, l = [a0, a1] := by
  match l, h with
  | [a0, a1], _ => exact ⟨_, _, rfl⟩
theorem list3 {α : Type} {l : List α} (h : l.length = 3) : ∃ a0 a1 a2, l = [a0, a1, a2] := by
  match l, h with
  | [a0, a1, a2], _ => exact ⟨_, _, _, rfl⟩
theorem list6 {α : Type} {l : List α} (h : l.length = 6) : ∃ a0 a1 a2 a3 a4 a5, l = [a0, a1, a2, a3, a4, a5] := by
  match l, h with
  | [a0, a1, a2, a3, a4, a5], _ => exact ⟨_, _, _, _, _, _, rfl⟩
theorem list8 {α : Type} {l : List α} (h : l.length = 8) : ∃ a0 a1 a2 a3 a4 a5 a6 a7, l = [a0, a1, a2, a3, a4, a5, a6, a7] := by
  match l, h with
  | [a0, a1, a2, a3, a4, a5, a6, a7], _ => exact ⟨_, _, _, _, _, _, _, _, rfl⟩
theorem list9 {α : Type} {l : List α} (h : l.length = 9) : ∃ a0 a1 a2 a3 a4 a5 a6 a7 a8, l = [a0, a1, a2, a3, a4, a5, a6, a7, a8] := by
  match l, h with
  | [a0, a1, a2, a3, a4, a5, a6, a7, a8], _ => exact ⟨_, _, _, _, _, _, _, _, _, rfl⟩
end Go.Proofs.Ytdipbpckmcmljaa.Opn

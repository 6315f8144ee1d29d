/- What a law's own walk carries beside the worlds: rows of the call's own, with the blocks that they may take; marks. -/
import Derived.Test.YtjjbohacmmhddaaDoorWMore
import Derived.Test.YtjjbohacmmhddaaDoorGen
namespace Go.Proofs.YtjjbohacmmhddaaDoor.Law
open Go.RowKit Go.Proofs.YtjjbohacmmhddaaDoorW.PrintWords Go.Proofs.YtjjbohacmmhddaaDoorW.PrintLast Go.Proofs.YtjjbohacmmhddaaDoorW.PrintMore
section
variable {α : Type} {d : Kd α} {e b B H : Nat} {W W2 w : World} {v : Value} {xs : List α}
/-- A row of the call's own; its blocks lie from B on, below H (ex: what more is known of them). -/
structure Own (d : Kd α) (e : Nat) (W : World) (b B H : Nat) (ex : Nat → Prop) (v : Value) (xs : List α) : Prop where
  r : d.R e W b (fun k => (B ≤ k ∧ k < H) ∧ ex k) v xs
  BH : B ≤ H
  sz : H ≤ W.heap.size
structure OwnS (d : Kd α) (e : Nat) (W : World) (b B H : Nat) (ex : Nat → Prop) (v : Value) (xs : List α) : Prop where
  r : d.S e W b (fun k => (B ≤ k ∧ k < H) ∧ ex k) v xs
  BH : B ≤ H
  sz : H ≤ W.heap.size
variable {ex : Nat → Prop} {W0 : World}
theorem Own.new (h0 : Below W0.heap.size W0 W) (h : d.R e W2 W.heap.size ex v xs) (hb : Below W.heap.size W W2) (hle : b ≤ W0.heap.size) (B H : Nat) (hB : B = W.heap.size) (hH : H = W2.heap.size) : Own d e W2 b B H ex v xs := by
  subst hB; subst hH
  exact ⟨Kd.R_lower (Kd.R_mono (Kd.R_bound h) (fun _ hk => ⟨⟨hk.2.1, hk.2.2.1⟩, hk.1⟩)) (Nat.le_trans hle h0.size), hb.size, Nat.le_refl _⟩
theorem OwnS.new (h0 : Below W0.heap.size W0 W) (h : d.S e W2 W.heap.size ex v xs) (hb : Below W.heap.size W W2) (hle : b ≤ W0.heap.size) (B H : Nat) (hB : B = W.heap.size) (hH : H = W2.heap.size) : OwnS d e W2 b B H ex v xs := by
  subst hB; subst hH
  exact ⟨Kd.S_lower (Kd.S_mono (Kd.S_bound h) (fun _ hk => ⟨⟨hk.2.1, hk.2.2.1⟩, hk.1⟩)) (Nat.le_trans hle h0.size), hb.size, Nat.le_refl _⟩
/-- Where the blocks of what a call made lie. -/
theorem spot (h0 : Below W0.heap.size W0 W) (hb : Below W.heap.size W W2) : ∃ B H, B = W.heap.size ∧ H = W2.heap.size ∧ W0.heap.size ≤ B ∧ B ≤ H ∧ H ≤ W2.heap.size := ⟨_, _, rfl, rfl, h0.size, hb.size, Nat.le_refl _⟩
theorem Own.step (h : Own d e W b B H ex v xs) (hb : Below W.heap.size W W2) : Own d e W2 b B H ex v xs :=
  ⟨Kd.R_step h.r (fun k _ hlt => hb.block k hlt), h.BH, Nat.le_trans h.sz hb.size⟩
theorem OwnS.step (h : OwnS d e W b B H ex v xs) (hb : Below W.heap.size W W2) : OwnS d e W2 b B H ex v xs :=
  ⟨Kd.S_step h.r (fun k _ hlt => hb.block k hlt), h.BH, Nat.le_trans h.sz hb.size⟩
theorem Own.kept {S : Nat → Prop} (h : Own d e W b B H ex v xs) (hk : Kept W W2 S) (hn : ∀ k, B ≤ k → k < H → ¬ S k) : Own d e W2 b B H ex v xs :=
  ⟨Kd.R_kept h.r hk (fun k ho => hn k ho.1.1 ho.1.2), h.BH, Nat.le_trans h.sz hk.1⟩
theorem OwnS.kept {S : Nat → Prop} (h : OwnS d e W b B H ex v xs) (hk : Kept W W2 S) (hn : ∀ k, B ≤ k → k < H → ¬ S k) : OwnS d e W2 b B H ex v xs :=
  ⟨Kd.S_kept h.r hk (fun k ho => hn k ho.1.1 ho.1.2), h.BH, Nat.le_trans h.sz hk.1⟩
theorem Own.reads (h : Own d e W b B H ex v xs) : ∃ A c, v = .slice A xs.length c ∧ xs.length ≤ c := by
  obtain ⟨A, c, h1, h2, _⟩ := Kd.R_reads h.r
  exact ⟨A, c, h1, h2⟩
theorem OwnS.reads (h : OwnS d e W b B H ex v xs) : ∃ A c, v = .slice A xs.length c ∧ xs.length ≤ c := by
  obtain ⟨A, c, h1, h2, _⟩ := Kd.R_reads (Kd.S_R h.r)
  exact ⟨A, c, h1, h2⟩
theorem Own.C {A : Option Addr} {n c : Nat} (h : Own d e W b B H ex (.slice A n c) xs) : d.C W A xs.length xs := (Kd.R_reads' h.r).2.2
theorem OwnS.C {A : Option Addr} {n c : Nat} (h : OwnS d e W b B H ex (.slice A n c) xs) : d.C W A xs.length xs := (Kd.S_reads' h.r).2.2
/-- Behind a mark of the row itself. -/
theorem Own.marked {S : Nat → Prop} {ys : List α} (h : Own d e W b B H ex v xs) (hr : d.R e W2 b (fun k => ((B ≤ k ∧ k < H) ∧ ex k) ∨ W.heap.size ≤ k) v ys) (hk : Kept W W2 S) : Own d e W2 b B W2.heap.size (fun _ => True) v ys :=
  ⟨Kd.R_mono (Kd.R_bound hr) (fun k hk => ⟨⟨by have := h.BH; have := h.sz; omega, hk.2.2.1⟩, trivial⟩), by have := h.BH; have := h.sz; have := hk.1; omega, Nat.le_refl _⟩
theorem OwnS.marked {S : Nat → Prop} {ys : List α} (h : OwnS d e W b B H ex v xs) (hr : d.S e W2 b (fun k => ((B ≤ k ∧ k < H) ∧ ex k) ∨ W.heap.size ≤ k) v ys) (hk : Kept W W2 S) : OwnS d e W2 b B W2.heap.size (fun _ => True) v ys :=
  ⟨Kd.S_mono (Kd.S_bound hr) (fun k hk => ⟨⟨by have := h.BH; have := h.sz; omega, hk.2.2.1⟩, trivial⟩), by have := h.BH; have := h.sz; have := hk.1; omega, Nat.le_refl _⟩
/-- A row of numbers takes its one block. -/
theorem tightRow (hE : d.E = []) (h : d.R e w b ex v xs) : d.R e w b (fun k => ex k ∧ some k = v.ownBlock) v xs :=
  Kd.R_mono (Kd.R_tight hE h) (fun k hk => ⟨h.1 k hk.symm, hk⟩)
/-- The cells of a box. -/
theorem cells2_ {W : World} {g : Nat} {t : TypeId} {v0 v1 : Value} (h : W.heap[g]? = some (.cells #[v0, v1] t (0, 0))) : W.cell? ⟨g, 0, none⟩ = some v0 ∧ W.frozen? ⟨g, 0, none⟩ = false ∧ W.cell? ⟨g, 1, none⟩ = some v1 ∧ W.frozen? ⟨g, 1, none⟩ = false := ⟨(blk_cell h 0).trans rfl, blk_frozen h 0, (blk_cell h 1).trans rfl, blk_frozen h 1⟩
theorem cells3_ {W : World} {g : Nat} {t : TypeId} {v0 v1 v2 : Value} (h : W.heap[g]? = some (.cells #[v0, v1, v2] t (0, 0))) : W.cell? ⟨g, 0, none⟩ = some v0 ∧ W.frozen? ⟨g, 0, none⟩ = false ∧ W.cell? ⟨g, 1, none⟩ = some v1 ∧ W.frozen? ⟨g, 1, none⟩ = false ∧ W.cell? ⟨g, 2, none⟩ = some v2 ∧ W.frozen? ⟨g, 2, none⟩ = false := ⟨(blk_cell h 0).trans rfl, blk_frozen h 0, (blk_cell h 1).trans rfl, blk_frozen h 1, (blk_cell h 2).trans rfl, blk_frozen h 2⟩
theorem cells6_ {W : World} {g : Nat} {t : TypeId} {v0 v1 v2 v3 v4 v5 : Value} (h : W.heap[g]? = some (.cells #[v0, v1, v2, v3, v4, v5] t (0, 0))) : W.cell? ⟨g, 0, none⟩ = some v0 ∧ W.frozen? ⟨g, 0, none⟩ = false ∧ W.cell? ⟨g, 1, none⟩ = some v1 ∧ W.frozen? ⟨g, 1, none⟩ = false ∧ W.cell? ⟨g, 2, none⟩ = some v2 ∧ W.frozen? ⟨g, 2, none⟩ = false ∧ W.cell? ⟨g, 3, none⟩ = some v3 ∧ W.frozen? ⟨g, 3, none⟩ = false ∧ W.cell? ⟨g, 4, none⟩ = some v4 ∧ W.frozen? ⟨g, 4, none⟩ = false ∧ W.cell? ⟨g, 5, none⟩ = some v5 ∧ W.frozen? ⟨g, 5, none⟩ = false := ⟨(blk_cell h 0).trans rfl, blk_frozen h 0, (blk_cell h 1).trans rfl, blk_frozen h 1, (blk_cell h 2).trans rfl, blk_frozen h 2, (blk_cell h 3).trans rfl, blk_frozen h 3, (blk_cell h 4).trans rfl, blk_frozen h 4, (blk_cell h 5).trans rfl, blk_frozen h 5⟩
theorem cells8_ {W : World} {g : Nat} {t : TypeId} {v0 v1 v2 v3 v4 v5 v6 v7 : Value} (h : W.heap[g]? = some (.cells #[v0, v1, v2, v3, v4, v5, v6, v7] t (0, 0))) : W.cell? ⟨g, 0, none⟩ = some v0 ∧ W.frozen? ⟨g, 0, none⟩ = false ∧ W.cell? ⟨g, 1, none⟩ = some v1 ∧ W.frozen? ⟨g, 1, none⟩ = false ∧ W.cell? ⟨g, 2, none⟩ = some v2 ∧ W.frozen? ⟨g, 2, none⟩ = false ∧ W.cell? ⟨g, 3, none⟩ = some v3 ∧ W.frozen? ⟨g, 3, none⟩ = false ∧ W.cell? ⟨g, 4, none⟩ = some v4 ∧ W.frozen? ⟨g, 4, none⟩ = false ∧ W.cell? ⟨g, 5, none⟩ = some v5 ∧ W.frozen? ⟨g, 5, none⟩ = false ∧ W.cell? ⟨g, 6, none⟩ = some v6 ∧ W.frozen? ⟨g, 6, none⟩ = false ∧ W.cell? ⟨g, 7, none⟩ = some v7 ∧ W.frozen? ⟨g, 7, none⟩ = false := ⟨(blk_cell h 0).trans rfl, blk_frozen h 0, (blk_cell h 1).trans rfl, blk_frozen h 1, (blk_cell h 2).trans rfl, blk_frozen h 2, (blk_cell h 3).trans rfl, blk_frozen h 3, (blk_cell h 4).trans rfl, blk_frozen h 4, (blk_cell h 5).trans rfl, blk_frozen h 5, (blk_cell h 6).trans rfl, blk_frozen h 6, (blk_cell h 7).trans rfl, blk_frozen h 7⟩
theorem drawn_below {w w' : World} (h : Drawn0 w w') : Below w.heap.size w w' := h.below
theorem more {w W W2 : World} (h : Below w.heap.size w W) (hb : Below W.heap.size W W2) : Below w.heap.size w W2 := below_step h hb
end
end Go.Proofs.YtjjbohacmmhddaaDoor.Law

-- Printed by a changed copy of the printer; impl.bestPit and spec.paFind by contracts walked by hand
import Derived.Test.YtcbdglefkmpaeaaPFnExactShellsOfx0
import Derived.Test.YtcbdglefkmpaeaaPFnExactShellsOfx1
import Derived.Test.YtcbdglefkmpaeaaPFnExactShellsOfx2
import Derived.Test.YtcbdglefkmpaeaaPFnExactShellsOfx3
namespace Go.Proofs.Ytcbdglefkmpaeaa.PFnExactShellsOf
open Go.RowKit Go.Proofs.YtcbdglefkmpaeaaW.PrintWords Go.Proofs.YtcbdglefkmpaeaaW.PrintLast Go.Proofs.YtcbdglefkmpaeaaW.PrintMore
attribute [local go_sem] max2_int min2_int max_two min_two max_three min_three max_four min_four   -- for this text's walks alone
set_option linter.unusedVariables false
set_option linter.unusedSimpArgs false

/-! ### spec_l1Has: function 71 -/
def spec_l1Has.l0 : Nat → Int → List Int → Int → Int → Option (Bool)
  | 0, _, _, _, _ => none
  | k + 1, x1, x7, x8, x9 => if x9 < x8 then (if 0 ≤ x9 then (if x9 < (x7.length : Int) then (if (rd x7 x9) = x1 then (some true) else (spec_l1Has.l0 k x1 x7 x8 (wrap64 (x9 + 1)))) else (none)) else (none)) else (some false)
def spec_l1Has.f (k : Nat) (l0 : List Int) (a1 : Int) : Option (Bool) := spec_l1Has.l0 k a1 l0 (l0.length : Int) 0
theorem spec_l1Has.mono_l : ∀ k, (∀ y0 y1 y2 y3, LeO (spec_l1Has.l0 k y0 y1 y2 y3) (spec_l1Has.l0 (k + 1) y0 y1 y2 y3))
  | 0 => fun _ _ _ _ r h => by simp [spec_l1Has.l0] at h
  | k + 1 => by
    have ih0 := spec_l1Has.mono_l k
    · intro y0 y1 y2 y3
      unfold spec_l1Has.l0
      repeat' first
      | (with_reducible exact ih0 _ _ _ _)
      | (with_reducible exact LeO.refl _)
      | (with_reducible exact LeO.none _)
      | (with_reducible refine LeO.ite ?_ ?_)
      | (with_reducible refine LeO.bind ?_ (fun _ => ?_))
      | exact ih0 _ _ _ _
      | exact LeO.none _
      | refine LeO.ite ?_ ?_
      | refine LeO.bind ?_ (fun _ => ?_)
theorem spec_l1Has.mono : ∀ a0 a1 k, LeO (spec_l1Has.f k a0 a1) (spec_l1Has.f (k + 1) a0 a1) := by
  intro a0 a1 k
  have ih0 := spec_l1Has.mono_l k
  unfold spec_l1Has.f
  repeat' first
      | (with_reducible exact ih0 _ _ _ _)
      | (with_reducible exact LeO.refl _)
      | (with_reducible exact LeO.none _)
      | (with_reducible refine LeO.ite ?_ ?_)
      | (with_reducible refine LeO.bind ?_ (fun _ => ?_))
      | exact ih0 _ _ _ _
      | exact LeO.none _
      | refine LeO.ite ?_ ?_
      | refine LeO.bind ?_ (fun _ => ?_)
set_option maxHeartbeats 8000000 in
set_option maxRecDepth 100000 in
theorem spec_l1Has.calls (k : Nat) (A0 : Option Addr) (c0 : Nat) (l0 : List Int) (a1 : Int) (r : Bool) (w : World) (hr0 : Kd.C (Kd.int .i64) w A0 l0.length l0) (hc0 : l0.length ≤ c0) (h : spec_l1Has.f k l0 a1 = some r) :
    Calls Try.prog 71 #[.slice A0 l0.length c0, .int .i64 a1] w fun e w' => e = .returned (.bool r) ∧ Drawn0 w w' := by
  have HR0 := Aside0.mk hr0
  have HC0 := Aside0.mk hc0
  clear hr0 hc0
  have H : (spec_l1Has.l0 k a1 l0 (l0.length : Int) 0) = some r := h
  clear h
  have H' := Aside0.mk H
  clear H
  go_enter Try.func71, Try.ntmps71
  go_wp2
  go_loopg [9] k (fun kq v9 w' => ∃ (x9_1 : Int), v9 = .int .i64 x9_1 ∧ Aside0 (spec_l1Has.l0 kq a1 l0 (l0.length : Int) x9_1 = some r) ∧ Aside0 (kq ≤ k) ∧ Drawn0 w w')
  case atStart => exact ⟨(0), (by first | rfl | (simp; done) | (simp [*]; done)), H', ⟨Nat.le_refl _⟩, by repeat (first | exact Drawn0.refl _ | apply Drawn0.step)⟩
  case round =>
    clear H'
    try clear p2
    obtain ⟨x9_1, rfl, HA, HK1, ⟨m1, rfl⟩⟩ := hrel
    cases gk with
    | zero => exact absurd HA.out (by simp [spec_l1Has.l0])
    | succ k1 =>
      have H := HA.out
      clear HA
      simp only [spec_l1Has.l0] at H
      by_cases c3 : x9_1 < (l0.length : Int)
      · rw [if_pos c3] at H
        have c3b0 : decide (x9_1 < (l0.length : Int)) = true := decide_eq_true c3
        clear c3
        by_cases c4 : 0 ≤ x9_1
        · rw [if_pos c4] at H
          have c4b0 : decide (0 ≤ x9_1) = true := decide_eq_true c4
          clear c4
          by_cases c5 : x9_1 < (l0.length : Int)
          · rw [if_pos c5] at H
            have c5b0 : decide (x9_1 < (l0.length : Int)) = true := decide_eq_true c5
            clear c5
            by_cases c6 : (rd l0 x9_1) = a1
            · rw [if_pos c6] at H
              have c6b0 : ((rd l0 x9_1) == a1) = true := beq_iff_eq.mpr c6
              have c6b1 : ((rd l0 x9_1) != a1) = false := bne_eq_false_iff_eq.mpr c6
              clear c6
              obtain rfl := Option.some.inj H
              have p246 : 0 ≤ (x9_1 : Int) := of_decide_eq_true (by first | (with_reducible assumption) | assumption)
              have q246 : x9_1 < (l0.length : Int) := of_decide_eq_true (by first | (with_reducible assumption) | assumption)
              obtain ⟨ad246, e246, hx246_0⟩ := Kd.at_int HR0.out x9_1 p246 q246
              cases e246
              replace p246 := eq_true p246
              replace q246 := eq_true q246
              go_wp2
              go_ret
              exact ⟨by first | rfl | (simp; done) | (simp [*]; done), by repeat (first | exact Drawn0.refl _ | apply Drawn0.step)⟩
            · rw [if_neg c6] at H
              have c6b0 : ((rd l0 x9_1) == a1) = false := beq_eq_false_iff_ne.mpr c6
              have c6b1 : ((rd l0 x9_1) != a1) = true := bne_iff_ne.mpr c6
              have H' := Aside0.mk H
              clear H
              have p246 : 0 ≤ (x9_1 : Int) := of_decide_eq_true (by first | (with_reducible assumption) | assumption)
              have q246 : x9_1 < (l0.length : Int) := of_decide_eq_true (by first | (with_reducible assumption) | assumption)
              obtain ⟨ad246, e246, hx246_0⟩ := Kd.at_int HR0.out x9_1 p246 q246
              cases e246
              replace p246 := eq_true p246
              replace q246 := eq_true q246
              go_wp2
              go_roundg k1
              case measure => have := HK1.out; omega
              case rel => exact ⟨(wrap64 (x9_1 + 1)), (by first | rfl | (simp; done) | (simp [*]; done)), H', ⟨by have := HK1.out; omega⟩, by repeat (first | exact Drawn0.refl _ | apply Drawn0.step)⟩
          · rw [if_neg c5] at H
            exact absurd H (by simp)
        · rw [if_neg c4] at H
          exact absurd H (by simp)
      · rw [if_neg c3] at H
        have c3b0 : decide (x9_1 < (l0.length : Int)) = false := decide_eq_false c3
        clear c3
        obtain rfl := Option.some.inj H
        go_wp2
        go_ret
        exact ⟨by first | rfl | (simp; done) | (simp [*]; done), by repeat (first | exact Drawn0.refl _ | apply Drawn0.step)⟩

-- NOT PRINTED: function 38 (spec_ShellsOf)

/-! ### spec_ShellsOf: function 38 -/
/-- The blocks of a pit that the one before it does not have (walked by hand: two rows of rows, one of them stored into). -/
def spec_ShellsOf.sh (ps : List (List Int)) (f : Nat) : List Int := (ps.getD f []).filter fun i => !decide (i ∈ (if f = 0 then [] else ps.getD (f - 1) []))
def spec_ShellsOf.f (k : Nat) (l0 : List (List Int)) (l1 : List Int) (l2 : List Int) (a3 : Int) : Option (List (List Int) × Bool) := (spec_neAsked.f k l0 l1 l2 a3).bind fun t => (if t = true then ((spec_nePits.f k l0 l1 l2 a3).bind fun ps => (if 0 ≤ a3 ∧ (ps.length : Int) = a3 + 1 ∧ ps.length ≤ 61 ∧ (ps.all fun p => decide (p.length ≤ 1000)) = true then (some ((List.range ps.length).map (spec_ShellsOf.sh ps), true)) else (none))) else (some (([] : List (List Int)), false)))
def spec_ShellsOf.mkG (g : Nat → List Int) (n : Nat) : List (List Int) := (List.range n).map g
theorem spec_ShellsOf.mkG_len (g : Nat → List Int) (n : Nat) : (spec_ShellsOf.mkG g n).length = n := by simp [spec_ShellsOf.mkG]
theorem spec_ShellsOf.mkG_at {g : Nat → List Int} {n i : Nat} (h : i < n) : (spec_ShellsOf.mkG g n)[i]? = some (g i) := by unfold spec_ShellsOf.mkG; rw [List.getElem?_map, List.getElem?_range h]; rfl
theorem spec_ShellsOf.mkG_congr {f g : Nat → List Int} {n : Nat} (h : ∀ i, i < n → f i = g i) : spec_ShellsOf.mkG f n = spec_ShellsOf.mkG g n := List.map_congr_left fun i hi => h i (List.mem_range.1 hi)
theorem spec_ShellsOf.mkG_set (f : Nat → List Int) (n j : Nat) (x : List Int) : (spec_ShellsOf.mkG f n).set j x = spec_ShellsOf.mkG (fun i => if i = j then x else f i) n := by
  refine List.ext_getElem? fun i => ?_
  rw [List.getElem?_set]
  by_cases hi : i < n
  · rw [spec_ShellsOf.mkG_at (g := fun i => if i = j then x else f i) hi]
    by_cases h : j = i
    · subst h; rw [if_pos rfl, spec_ShellsOf.mkG_len, if_pos hi, if_pos rfl]
    · rw [if_neg h, spec_ShellsOf.mkG_at hi, if_neg (fun e => h e.symm)]
  · rw [List.getElem?_eq_none (l := spec_ShellsOf.mkG (fun i => if i = j then x else f i) n) (by rw [spec_ShellsOf.mkG_len]; omega)]
    split
    · rw [spec_ShellsOf.mkG_len, if_neg (by omega)]
    · rw [List.getElem?_eq_none (by rw [spec_ShellsOf.mkG_len]; omega)]
theorem spec_ShellsOf.mkG_nil (n : Nat) : List.replicate n ([] : List Int) = spec_ShellsOf.mkG (fun _ => []) n := by
  refine List.ext_getElem? fun i => ?_
  by_cases h : i < n
  · rw [spec_ShellsOf.mkG_at h, List.getElem?_replicate, if_pos h]
  · rw [List.getElem?_eq_none (by rw [List.length_replicate]; omega), List.getElem?_eq_none (by rw [spec_ShellsOf.mkG_len]; omega)]
theorem spec_ShellsOf.has (l : List Int) (x : Int) (hl : l.length ≤ 1000) : spec_l1Has.f (l.length + 1) l x = some (decide (x ∈ l)) := by
  unfold spec_l1Has.f
  have key : ∀ (d i : Nat), i + d = l.length → spec_l1Has.l0 (d + 1) x l (l.length : Int) (i : Int) = some (decide (x ∈ l.drop i)) := by
    intro d
    induction d with
    | zero =>
      intro i hd
      rw [spec_l1Has.l0, if_neg (by omega), List.drop_eq_nil_of_le (by omega)]; rfl
    | succ d ih =>
      intro i hd
      have hi : i < l.length := by omega
      have e := ih (i + 1) (by omega)
      have w1 : wrap64 ((i : Int) + 1) = ((i + 1 : Nat) : Int) := by unfold wrap64; omega
      have hr : rd l (i : Int) = l[i] := by unfold rd; rw [Int.toNat_natCast, List.getD_eq_getElem?_getD, List.getElem?_eq_getElem hi]; rfl
      rw [spec_l1Has.l0, if_pos (by omega), if_pos (Int.natCast_nonneg _), if_pos (by omega), hr, w1, List.drop_eq_getElem_cons hi]
      by_cases c : l[i] = x
      · rw [if_pos c, decide_eq_true (by rw [c]; exact List.mem_cons_self ..)]
      · rw [if_neg c, e]
        congr 1
        rw [decide_eq_decide, List.mem_cons]
        exact ⟨.inr, fun h => h.resolve_left (fun h => c h.symm)⟩
  have := key l.length 0 (by omega)
  simpa using this
theorem spec_ShellsOf.lend {base b n c : Nat} {ok : Nat → Prop} {E : List (List Int)} {W : World} (S : Kd.S (Kd.slice 3 (Kd.int .i64)) 23 W base ok (.slice (some ⟨b, 0, none⟩) n c) E) (hfr : ∀ k, W.heap.size ≤ k → ok k) {x : Nat} {row : List Int} (hx : E[x]? = some row) :
    ∃ (oki : Nat → Prop) (v : Value), Kd.R (Kd.int .i64) 3 W base oki v row ∧ W.cell? ⟨b, x, none⟩ = some v ∧ W.frozen? ⟨b, x, none⟩ = false ∧ (∀ k, oki k → ok k ∧ k ≠ b) ∧
      ∀ {w1 : World} {v1 : Value} {row1 : List Int}, Kd.R (Kd.int .i64) 3 w1 base (fun k => oki k ∨ W.heap.size ≤ k) v1 row1 → W.grownBy w1 v.ownBlock → Kd.S (Kd.slice 3 (Kd.int .i64)) 23 (w1.setCell ⟨b, x, none⟩ v1) base ok (.slice (some ⟨b, 0, none⟩) n c) (E.set x row1) := by
  have hlt := (List.getElem?_eq_some_iff.1 hx).1
  have hn := (Kd.S_reads' S).1
  have h0 : (0 : Int) ≤ (x : Int) := Int.natCast_nonneg _
  have h1 : (x : Int) < (n : Int) := by omega
  obtain ⟨oki, cc, hcl, hM, hcc, hfz, hoki, hH⟩ := Kd.S_elem S [] (x : Int) h0 h1
  obtain ⟨v, rfl, hR⟩ := hM
  rw [Int.toNat_natCast, show E.getD x [] = row by rw [List.getD_eq_getElem?_getD, hx]; rfl] at hR
  have hc0 := hcc 0 v rfl
  have hf0 := hfz 0
  rw [Int.toNat_natCast] at hc0 hf0
  have esz : x * (Kd.slice 3 (Kd.int .i64)).sz + 0 = x := by show x * 1 + 0 = x; omega
  rw [esz] at hc0 hf0
  refine ⟨oki, v, hR, hc0, hf0, hoki, ?_⟩
  intro w1 v1 row1 ho hg
  have k1 := Kd.H_widen hH
  have k2 := Kd.H_grown k1 hg (fun k hk => .inl (hR.1 k hk))
  have k3 := (Kd.S_seg0 k2 h0 h1 (seg := [v1]) (j := 0) (show 1 ≤ 1 by omega) (x' := row1) (okp := fun k => oki k ∨ W.heap.size ≤ k) (Kd.M_row ho) (fun k hk => hk.imp_right fun h => ⟨hfr k h, h⟩)).1
  rw [Int.toNat_natCast, esz] at k3
  exact k3
theorem spec_ShellsOf.addB (a : Addr) (i : Nat) : (a.add i).block = a.block := by unfold Addr.add; split <;> rfl
theorem spec_ShellsOf.gone (W : World) (g : Nat) : ∃ W' : World, (∀ k, k ≠ g → W'.heap[k]? = W.heap[k]?) ∧ ∀ a : Addr, a.block = g → W'.cell? a = none := by
  refine ⟨{ W with heap := W.heap.setIfInBounds g (.cells #[] 0) }, fun k hk => by simp [Ne.symm hk], fun a ha => ?_⟩
  subst ha
  by_cases hlt : a.block < W.heap.size
  · simp [World.cell?, hlt]
  · simp [World.cell?, hlt]
theorem spec_ShellsOf.get {α : Type} {d : Kd α} {W : World} {ok : Nat → Prop} {A : Option Addr} {n : Nat} {xs : List α} (h : Kd.F d W ok A n xs) (z : α) (i : Int) (h0 : 0 ≤ i) (h1 : i < n) :
    ∃ ad c, A = some ad ∧ c.length = d.sz ∧ Kd.FK d W ok (xs.getD i.toNat z) c ∧ (∀ j u, c[j]? = some u → W.cell? (ad.add (i.toNat * d.sz + j)) = some u) := by
  obtain ⟨ad, c, rfl, hcl, hK, hcc⟩ := Kd.C_get (Kd.F_now h) z i h0 h1
  have hin : 0 < d.sz → ok ad.block := by
    intro hs
    by_cases hk : ok ad.block
    · exact hk
    · obtain ⟨W', h2, h3⟩ := spec_ShellsOf.gone W ad.block
      obtain ⟨ad', c', he, hcl', _, hcc'⟩ := Kd.C_get (h W' (fun k hk' _ => h2 k (fun e => hk (e ▸ hk')))) z i h0 h1
      injection he with he
      subst he
      have h4 := hcc' 0 _ (List.getElem?_eq_getElem (by omega))
      rw [h3 _ (spec_ShellsOf.addB _ _)] at h4
      cases h4
  refine ⟨ad, c, rfl, hcl, fun W' hW => ?_, hcc⟩
  obtain ⟨ad', c', he, hcl', hK', hcc'⟩ := Kd.C_get (h W' hW) z i h0 h1
  injection he with he
  subst he
  have hc : c = c' := by
    apply List.ext_getElem?
    intro j
    by_cases hj : j < d.sz
    · have hb : W'.heap[ad.block]? = W.heap[ad.block]? := by
        have h5 := hcc j _ (List.getElem?_eq_getElem (by omega))
        have h6 := World.block_lt_of_cell? W _ h5
        rw [spec_ShellsOf.addB] at h6
        exact hW _ (hin (by omega)) h6
      have h5 := hcc j _ (List.getElem?_eq_getElem (by omega))
      have h6 := hcc' j _ (List.getElem?_eq_getElem (by omega))
      have h7 : W'.cell? (ad.add (i.toNat * d.sz + j)) = W.cell? (ad.add (i.toNat * d.sz + j)) := by simp [World.cell?, spec_ShellsOf.addB, hb]
      rw [h7, h5] at h6
      rw [List.getElem?_eq_getElem (by omega), List.getElem?_eq_getElem (by omega)]
      exact h6
    · rw [List.getElem?_eq_none (by omega), List.getElem?_eq_none (by omega)]
  rw [hc]
  exact hK'
theorem spec_ShellsOf.grown {α : Type} {d : Kd α} {W W1 : World} {ok : Nat → Prop} {A : Option Addr} {n : Nat} {xs : List α} (h : Kd.F d W ok A n xs) {row : Option Nat} (hg : W.grownBy W1 row) (hok : ∀ k, ok k → some k ≠ row) : Kd.F d W1 ok A n xs := Kd.F_step h (fun k hk hlt => hg.block k hlt (hok k hk))
theorem spec_ShellsOf.far {α : Type} {d : Kd α} {W : World} {ok : Nat → Prop} {A : Option Addr} {n : Nat} {xs : List α} (h : Kd.F d W ok A n xs) {p : Addr} (hok : ∀ k, ok k → k ≠ p.block) (u : Value) : Kd.F d (W.setCell p u) ok A n xs := Kd.F_step h (fun k hk _ => Below.heap_setCell W p u k (hok k hk))
theorem spec_ShellsOf.row {W : World} {ok : Nat → Prop} {A : Option Addr} {ps : List (List Int)} (h : Kd.F (Kd.slice 3 (Kd.int .i64)) W ok A ps.length ps) {f : Nat} (hf : f < ps.length) :
    ∃ ad A1 c1, A = some ad ∧ W.cell? (ad.add f) = some (.slice A1 (ps.getD f []).length c1) ∧ (ps.getD f []).length ≤ c1 ∧ Kd.F (Kd.int .i64) W ok A1 (ps.getD f []).length (ps.getD f []) := by
  obtain ⟨ad, c, rfl, hcl, hK, hcc⟩ := spec_ShellsOf.get h [] (f : Int) (Int.natCast_nonneg _) (by omega)
  rw [Int.toNat_natCast] at hK hcc
  obtain ⟨A1, c1, rfl, hl, hF⟩ := Kd.FK_slice_open hK
  have := hcc 0 _ rfl
  rw [show f * (Kd.slice 3 (Kd.int .i64)).sz + 0 = f by show f * 1 + 0 = f; omega] at this
  exact ⟨ad, A1, c1, rfl, this, hl, hF⟩
theorem spec_ShellsOf.snoc (b pre : List Int) (x : Int) : (pre ++ [x]).filter (fun i => !decide (i ∈ b)) = pre.filter (fun i => !decide (i ∈ b)) ++ (if x ∈ b then [] else [x]) := by
  rw [List.filter_append]
  congr 1
  by_cases h : x ∈ b
  · rw [if_pos h, List.filter_cons_of_neg (by simp [h])]; rfl
  · rw [if_neg h, List.filter_cons_of_pos (by simp [h])]; rfl
set_option maxHeartbeats 8000000 in
set_option maxRecDepth 100000 in
theorem spec_ShellsOf.calls (k : Nat) (A0 : Option Addr) (c0 : Nat) (l0 : List (List Int)) (A1 : Option Addr) (c1 : Nat) (l1 : List Int) (A2 : Option Addr) (c2 : Nat) (l2 : List Int) (a3 : Int) (r1 : List (List Int)) (r2 : Bool) (w : World) (hr0 : Kd.C (Kd.slice 3 (Kd.int .i64)) w A0 l0.length l0) (hc0 : l0.length ≤ c0) (hr1 : Kd.C (Kd.int .i64) w A1 l1.length l1) (hc1 : l1.length ≤ c1) (hr2 : Kd.C (Kd.int .i64) w A2 l2.length l2) (hc2 : l2.length ≤ c2) (h : spec_ShellsOf.f k l0 l1 l2 a3 = some (r1, r2)) :
    Calls Try.prog 38 #[.slice A0 l0.length c0, .slice A1 l1.length c1, .slice A2 l2.length c2, .int .i64 a3] w fun e w' => ∃ v0_ : Value, e = .returned (.tuple #[v0_, .bool r2]) ∧ Kd.S (Kd.slice 3 (Kd.int .i64)) 23 w' w.heap.size (fun _ => True) v0_ r1 ∧ Below w.heap.size w w' := by
  have HR0 := Aside0.mk hr0
  have HC0 := Aside0.mk hc0
  have HR1 := Aside0.mk hr1
  have HC1 := Aside0.mk hc1
  have HR2 := Aside0.mk hr2
  have HC2 := Aside0.mk hc2
  clear hr0 hc0 hr1 hc1 hr2 hc2
  have HB := Aside0.mk (Below.refl w.heap.size w)
  have H : ((spec_neAsked.f k l0 l1 l2 a3).bind fun t => (if t = true then ((spec_nePits.f k l0 l1 l2 a3).bind fun ps => (if 0 ≤ a3 ∧ (ps.length : Int) = a3 + 1 ∧ ps.length ≤ 61 ∧ (ps.all fun p => decide (p.length ≤ 1000)) = true then (some ((List.range ps.length).map (spec_ShellsOf.sh ps), true)) else (none))) else (some (([] : List (List Int)), false)))) = some (r1, r2) := h
  clear h
  replace H := Option.bind_eq_some_iff.mp H
  obtain ⟨t, hA, H⟩ := H
  have A5 := Aside0.mk hA
  clear hA
  go_enter Try.func38, Try.ntmps38
  go_wp2_with fail
  refine (spec_neAsked.calls k A0 c0 l0 A1 c1 l1 A2 c2 l2 a3 t w HR0.out HC0.out HR1.out HC1.out HR2.out HC2.out A5.out).mono ?_
  rintro e1 w1 ⟨rfl, hdr⟩
  have HB1 := Aside0.mk (show Below w.heap.size w w1 from hdr.below)
  clear hdr A5
  by_cases ct : t = true
  · subst ct
    rw [if_pos rfl] at H
    replace H := Option.bind_eq_some_iff.mp H
    obtain ⟨ps, hP, H⟩ := H
    split at H
    · rename_i hok
      obtain ⟨g0, g1, g2, g3⟩ := hok
      rw [List.all_eq_true] at g3
      have G3 := Aside0.mk (show ∀ p ∈ ps, p.length ≤ 1000 from fun p hp => of_decide_eq_true (g3 p hp))
      simp only [Option.some.injEq, Prod.mk.injEq] at H
      obtain ⟨rfl, rfl⟩ := H
      have AP := Aside0.mk hP
      clear hP g3
      obtain ⟨m, rfl⟩ : ∃ m : Nat, a3 = (m : Int) := ⟨a3.toNat, by omega⟩
      have hm : ps.length = m + 1 := by omega
      have HM := Aside0.mk hm
      have hwr : IntKind.i64.wrap ((m : Int) + 1) = (m : Int) + 1 := by rw [i64_w]; unfold wrap64; omega
      have hm60 : m ≤ 60 := by omega
      clear g0 g1 g2 hm
      go_wp2_with (first
        | ((with_reducible refine gate_dst (N := 24) rfl ?_); refine Kd.S_make (Kd.slice 3 (Kd.int .i64)) (w0 := w) w.heap.size 23 rfl (N := 24) rfl 22 _ _ rfl ((m : Int) + 1) rfl rfl Try.underlying22 (.slice none 0 0) 24 info23 rfl (by decide) (by omega) [] (ok := fun k => w1.heap.size ≤ k) (okp := fun _ => False) ⟨_, rfl, Kd.R_nil _ _ _ _ _⟩ (fun _ hk => hk.elim) (Nat.le_refl _) (by omega) (by omega) HB1.out HB1.out.size ?_; intro v2 w2 ho hb hg hnew;
            have e0 : ((m : Int) + 1).toNat = m + 1 := (by omega);
            rw [e0] at ho;
            obtain ⟨bO, cO, e2, hv1, hv2, _⟩ := Kd.R_form (Kd.S_R ho) (by rw [List.length_replicate]; omega);
            rw [List.length_replicate] at e2; subst e2;
            have HO2 := Aside0.mk ho;
            have HB2 := Aside0.mk hb;
            have HbO := Aside0.mk hv2;
            clear ho hb hg hnew hv1 hv2 e0 HB1))
      refine (spec_nePits.calls k A0 c0 l0 A1 c1 l1 A2 c2 l2 (m : Int) ps w2 (Kd.C_below HR0.out HB2.out) HC0.out (Kd.C_below HR1.out HB2.out) HC1.out (Kd.C_below HR2.out HB2.out) HC2.out AP.out).mono ?_
      rintro e3 w3 ⟨v3, rfl, hS3, hB3⟩
      obtain ⟨Ap, cp, rfl⟩ := Kd.V_slice hS3
      have HF := Aside0.mk (Kd.F_mono (ok' := fun k => w2.heap.size ≤ k ∧ k < w3.heap.size) (Kd.F_bound (Kd.V_F hS3)) (fun k hk => ⟨hk.1, hk.2⟩))
      have HO3 := Aside0.mk (show Kd.S (Kd.slice 3 (Kd.int .i64)) 23 w3 w.heap.size (fun k => ¬ (w2.heap.size ≤ k ∧ k < w3.heap.size)) (.slice (some ⟨bO, 0, none⟩) (m + 1) cO) (spec_ShellsOf.mkG (fun f => if f < 0 then spec_ShellsOf.sh ps f else []) (m + 1)) from by
        rw [spec_ShellsOf.mkG_congr (g := fun _ => []) (fun i _ => if_neg (by omega)), ← spec_ShellsOf.mkG_nil]
        exact Kd.S_below (Kd.S_mono (Kd.S_bound HO2.out) (fun k hk h => by have := hk.2.2.1; omega)) hB3)
      have HB3 := Aside0.mk (below_step HB2.out hB3)
      have HbO3 := Aside0.mk (show bO < w2.heap.size from HbO.out)
      have HW := Aside0.mk hB3.size
      clear hS3 hB3 HO2 HB2 AP HR0 HR1 HR2 HbO
      go_wp2_with fail
      go_loopg [11, 31] (m + 1) (fun kq v11 v31 w' => ∃ n : Nat, n + kq = m + 1 ∧ v31 = .int .i64 (n : Int) ∧ (∃ (A7 : Option Addr) (c7 : Nat), v11 = .slice A7 (if n = 0 then [] else ps.getD (n - 1) []).length c7 ∧ (if n = 0 then [] else ps.getD (n - 1) []).length ≤ c7 ∧ Aside0 (Kd.F (Kd.int .i64) w' (fun k => w2.heap.size ≤ k ∧ k < w3.heap.size) A7 (if n = 0 then [] else ps.getD (n - 1) []).length (if n = 0 then [] else ps.getD (n - 1) []))) ∧ Aside0 (Kd.S (Kd.slice 3 (Kd.int .i64)) 23 w' w.heap.size (fun k => ¬ (w2.heap.size ≤ k ∧ k < w3.heap.size)) (.slice (some ⟨bO, 0, none⟩) (m + 1) cO) (spec_ShellsOf.mkG (fun f => if f < n then spec_ShellsOf.sh ps f else []) (m + 1))) ∧ Aside0 (Kd.F (Kd.slice 3 (Kd.int .i64)) w' (fun k => w2.heap.size ≤ k ∧ k < w3.heap.size) Ap ps.length ps) ∧ Aside0 (Below w.heap.size w w') ∧ Aside0 (w3.heap.size ≤ w'.heap.size))
      case atStart => exact ⟨0, by omega, rfl, ⟨none, 0, rfl, Nat.le_refl _, ⟨Kd.F_nil _ _ _⟩⟩, HO3, HF, HB3, ⟨Nat.le_refl _⟩⟩
      case round =>
        clear HO3 HF HB3
        obtain ⟨n, hn, rfl, ⟨A7, c7, rfl, hc7, HF7⟩, HO, HF, HB, HZ⟩ := hrel
        by_cases hin : n < m + 1
        · have hps := HM.out
          have ht : decide ((n : Int) < (ps.length : Int)) = true := decide_eq_true (by omega)
          have ht2 : decide (n < ps.length) = true := decide_eq_true (by omega)
          obtain ⟨ad, A8, c8, rfl, hcell, hc8, hF8⟩ := spec_ShellsOf.row HF.out (f := n) (by omega)
          have HF8 := Aside0.mk hF8
          have HL8 := Aside0.mk (show (ps.getD n []).length ≤ 1000 from G3.out _ (by rw [List.getD_eq_getElem?_getD, List.getElem?_eq_getElem (by omega)]; exact List.getElem_mem _))
          have HC7 := Aside0.mk hc7
          have HC8 := Aside0.mk hc8
          obtain ⟨pit, hpit⟩ : ∃ pit, pit = ps.getD n [] := ⟨_, rfl⟩
          obtain ⟨bef, hbef⟩ : ∃ bef, bef = (if n = 0 then [] else ps.getD (n - 1) []) := ⟨_, rfl⟩
          have HL7 := Aside0.mk (show bef.length ≤ 1000 from by
            rw [hbef]
            split
            · exact Nat.zero_le _
            · exact G3.out _ (by rw [List.getD_eq_getElem?_getD, List.getElem?_eq_getElem (by omega)]; exact List.getElem_mem _))
          have HSH := Aside0.mk (show spec_ShellsOf.sh ps n = pit.filter (fun i => !decide (i ∈ bef)) from by rw [hpit, hbef]; rfl)
          rw [← hpit] at HF8 HL8 HC8 hcell
          rw [← hbef] at HF7 HC7 ⊢
          have HPIT := Aside0.mk hpit
          have hpl : n < ps.length := by omega
          clear hF8 hc7 hc8 hpit hbef hps
          go_wp2_with fail
          go_loopg [38] pit.length (fun kq v38 w' => ∃ (pre suf : List Int), pit = pre ++ suf ∧ kq = suf.length ∧ v38 = .int .i64 (pre.length : Int) ∧ Aside0 (Kd.F (Kd.int .i64) w' (fun k => w2.heap.size ≤ k ∧ k < w3.heap.size) A7 bef.length bef) ∧ Aside0 (Kd.F (Kd.int .i64) w' (fun k => w2.heap.size ≤ k ∧ k < w3.heap.size) A8 pit.length pit) ∧ Aside0 (Kd.S (Kd.slice 3 (Kd.int .i64)) 23 w' w.heap.size (fun k => ¬ (w2.heap.size ≤ k ∧ k < w3.heap.size)) (.slice (some ⟨bO, 0, none⟩) (m + 1) cO) (spec_ShellsOf.mkG (fun f => if f < n then spec_ShellsOf.sh ps f else if f = n then pre.filter (fun i => !decide (i ∈ bef)) else []) (m + 1))) ∧ Aside0 (Kd.F (Kd.slice 3 (Kd.int .i64)) w' (fun k => w2.heap.size ≤ k ∧ k < w3.heap.size) (some ad) ps.length ps) ∧ Aside0 (Below w.heap.size w w') ∧ Aside0 (w3.heap.size ≤ w'.heap.size))
          case atStart => exact ⟨[], pit, rfl, rfl, rfl, HF7, HF8, ⟨by rw [spec_ShellsOf.mkG_congr (g := fun f => if f < n then spec_ShellsOf.sh ps f else []) (fun i _ => by split; rfl; split <;> rfl)]; exact HO.out⟩, HF, HB, HZ⟩
          case round =>
            clear HF7 HF8 HO HF HB HZ hcell
            obtain ⟨pre, suf, hsp, rfl, rfl, HF7, HF8, HO, HF, HB, HZ⟩ := hrel
            have HSP := Aside0.mk hsp
            rcases suf with _ | ⟨x, suf⟩
            · have hl : pit.length = pre.length := by rw [hsp, List.append_nil]
              have ht : decide ((pre.length : Int) < (pit.length : Int)) = false := decide_eq_false (by omega)
              have ht2 : decide (pre.length < pit.length) = false := decide_eq_false (by omega)
              have HPP := Aside0.mk (show pre = pit from by rw [hsp, List.append_nil])
              clear hl hsp
              go_wp2_with fail
              go_roundg (m + 1 - (n + 1))
              case measure => omega
              case rel => exact ⟨n + 1, by omega, rfl, ⟨A8, c8, by rw [if_neg (by omega), Nat.add_sub_cancel, ← HPIT.out], by rw [if_neg (by omega), Nat.add_sub_cancel, ← HPIT.out]; exact HC8.out, ⟨by rw [if_neg (by omega), Nat.add_sub_cancel, ← HPIT.out]; exact HF8.out⟩⟩, ⟨by
                have := HO.out
                rw [spec_ShellsOf.mkG_congr (g := fun f => if f < n + 1 then spec_ShellsOf.sh ps f else []) (fun i _ => by
                  by_cases q : i < n
                  · rw [if_pos q, if_pos (by omega)]
                  · rw [if_neg q]
                    by_cases q2 : i = n
                    · rw [if_pos q2, if_pos (by omega), q2, HSH.out, HPP.out]
                    · rw [if_neg q2, if_neg (by omega)])] at this
                exact this⟩, HF, HB, HZ⟩
            · have hlt : pre.length < pit.length := by rw [hsp, List.length_append, List.length_cons]; omega
              have ht : decide ((pre.length : Int) < (pit.length : Int)) = true := decide_eq_true (by omega)
              have ht2 : decide (pre.length < pit.length) = true := decide_eq_true hlt
              obtain ⟨ad8, e8, hx8⟩ := Kd.at_int (Kd.F_now HF8.out) (pre.length : Int) (Int.natCast_nonneg _) (by omega)
              subst e8
              rw [Int.toNat_natCast, show rd pit (pre.length : Int) = x from by unfold rd; rw [Int.toNat_natCast, hsp, List.getD_eq_getElem?_getD, List.getElem?_append_right (Nat.le_refl _), Nat.sub_self]; rfl] at hx8
              clear hsp
              go_wp2_with fail
              refine (spec_l1Has.calls (bef.length + 1) A7 c7 bef x (decide (x ∈ bef)) wr (Kd.F_now HF7.out) HC7.out (spec_ShellsOf.has bef x HL7.out)).mono ?_
              rintro e4 w4 ⟨rfl, hdr⟩
              have HF7b := Aside0.mk (Kd.F_below HF7.out hdr.below)
              have HF8b := Aside0.mk (Kd.F_below HF8.out hdr.below)
              have HOb := Aside0.mk (Kd.S_below HO.out hdr.below)
              have HFb := Aside0.mk (Kd.F_below HF.out hdr.below)
              have HBb := Aside0.mk (below_step HB.out hdr.below)
              have HZb := Aside0.mk (Nat.le_trans HZ.out hdr.below.size)
              clear hdr HF7 HF8 HO HF HB HZ hx8
              have hgr : (spec_ShellsOf.mkG (fun f => if f < n then spec_ShellsOf.sh ps f else if f = n then pre.filter (fun i => !decide (i ∈ bef)) else []) (m + 1))[n]? = some (pre.filter (fun i => !decide (i ∈ bef))) := by
                rw [spec_ShellsOf.mkG_at hin, if_neg (by omega), if_pos rfl]
              have HLT := Aside0.mk hlt
              by_cases cx : x ∈ bef
              · have qd : decide (x ∈ bef) = true := decide_eq_true cx
                have HCX := Aside0.mk cx
                rw [qd]
                clear qd cx hgr
                go_wp2_with fail
                go_roundg suf.length
                case measure => rw [List.length_cons]; omega
                case rel => exact ⟨pre ++ [x], suf, by rw [HSP.out]; simp, rfl, congrArg (Value.int .i64) (by have := HL8.out; have := HLT.out; rw [List.length_append, List.length_singleton]; (try simp only [i64_w]); unfold wrap64; omega), HF7b, HF8b, ⟨by rw [spec_ShellsOf.snoc, if_pos HCX.out, List.append_nil]; exact HOb.out⟩, HFb, HBb, HZb⟩
              · have qd : decide (x ∈ bef) = false := decide_eq_false cx
                have HCX := Aside0.mk cx
                obtain ⟨oki, v, hR, hc, hfz, hoki, hput⟩ := spec_ShellsOf.lend HOb.out (fun k hk h => by have := HZb.out; omega) hgr
                have HR := Aside0.mk hR
                have HP := Aside0.mk @hput
                have HK := Aside0.mk hoki
                have HFZ := Aside0.mk hfz
                have HCV := Aside0.mk hc
                have HFL := Aside0.mk (show (pre.filter (fun i => !decide (i ∈ bef))).length ≤ 1000 from Nat.le_trans (List.length_filter_le _ _) (by have := HL8.out; omega))
                rw [qd]
                clear qd cx hgr hR hput hoki hfz
                have hbnd : decide ((n : Int) < ((m + 1 : Nat) : Int)) = true := decide_eq_true (by omega)
                have hbnd2 : decide (n < m + 1) = true := decide_eq_true hin
                go_wp2_with (first
                  | ((with_reducible refine gate_builtin (b := .append) (xs := #[.tmp 51, .tmp 53]) rfl ?_); at_builtin; refine Kd.R_append (Kd.int .i64) (w0 := w) w.heap.size rfl (.tmp 51) (.tmp 53) 23 3 (.int .i64 0) 8 rfl Try.underlying23 info3 rfl (by decide) (by omega) v (pre.filter (fun i => !decide (i ∈ bef))) x [.int .i64 x] (fun k => oki k ∨ w4.heap.size ≤ k) (fun _ => False) rfl rfl rfl (fun _ hk => hk.elim) (fun k hk => .inr hk) (Kd.R_mono HR.out (fun _ hk => .inl hk)) HBb.out (below_size HBb.out) (by have := HFL.out; omega) ?_; intro v5 w5 ho hb hg hat;
                      obtain ⟨A5, n5, c5, e5⟩ : ∃ A n c, v5 = .slice A n c := (by obtain ⟨A, c, h⟩ := Kd.R_slice ho; exact ⟨A, _, c, h⟩);
                      subst e5;
                      have HO5 := Aside0.mk (HP.out ho hg);
                      have hown : ∀ k, v.ownBlock = some k → ¬ (w2.heap.size ≤ k ∧ k < w3.heap.size) ∧ k ≠ bO := (fun k hk => HK.out k (HR.out.1 k hk));
                      have HF7c := Aside0.mk (spec_ShellsOf.grown HF7b.out hg (fun k hk he => (hown k he.symm).1 hk));
                      have HF8c := Aside0.mk (spec_ShellsOf.grown HF8b.out hg (fun k hk he => (hown k he.symm).1 hk));
                      have HFc := Aside0.mk (spec_ShellsOf.grown HFb.out hg (fun k hk he => (hown k he.symm).1 hk));
                      have HBc := Aside0.mk hb;
                      have HZc := Aside0.mk (Nat.le_trans HZb.out hg.size);
                      have hcc := Res.cell_gr HCV.out hg (fun he => (hown bO he.symm).2 rfl);
                      have hff := Res.frozen_gr HFZ.out HCV.out hg (fun he => (hown bO he.symm).2 rfl);
                      clear ho hb hg hat hc hown HF7b HF8b HOb HFb HBb HZb HP HR)
                  | ((with_reducible refine gate_store (t := 23) (p := 55) rfl ?_); refine store_event (t := 23) (p := 55) (v := ?vo55) (w1 := (w5.setCell ⟨bO, n, none⟩ (.slice A5 n5 c5))) ?hg ?ho ?hn ?hr ?_; (case ho => rfl); (case hg => rfl); (case hn => rfl); (case hr => first | (go_simp; done) | (go_simp; rfl));
                      intro W6 hw;
                      have HO6 := Aside0.mk (show Kd.S (Kd.slice 3 (Kd.int .i64)) 23 W6 w.heap.size (fun k => ¬ (w2.heap.size ≤ k ∧ k < w3.heap.size)) (.slice (some ⟨bO, 0, none⟩) (m + 1) cO) _ from hw ▸ HO5.out);
                      have HF7d := Aside0.mk (show Kd.F (Kd.int .i64) W6 (fun k => w2.heap.size ≤ k ∧ k < w3.heap.size) A7 bef.length bef from hw ▸ spec_ShellsOf.far (p := ⟨bO, n, none⟩) HF7c.out (fun k hk he => (by have := hk.1; have := HbO3.out; have e : k = bO := he; omega)) (.slice A5 n5 c5));
                      have HF8d := Aside0.mk (show Kd.F (Kd.int .i64) W6 (fun k => w2.heap.size ≤ k ∧ k < w3.heap.size) (some ad8) pit.length pit from hw ▸ spec_ShellsOf.far (p := ⟨bO, n, none⟩) HF8c.out (fun k hk he => (by have := hk.1; have := HbO3.out; have e : k = bO := he; omega)) (.slice A5 n5 c5));
                      have HFd := Aside0.mk (show Kd.F (Kd.slice 3 (Kd.int .i64)) W6 (fun k => w2.heap.size ≤ k ∧ k < w3.heap.size) (some ad) ps.length ps from hw ▸ spec_ShellsOf.far (p := ⟨bO, n, none⟩) HFc.out (fun k hk he => (by have := hk.1; have := HbO3.out; have e : k = bO := he; omega)) (.slice A5 n5 c5));
                      have HBd := Aside0.mk (show Below w.heap.size w W6 from hw ▸ below_set (j := n) (v := (.slice A5 n5 c5)) HBc.out ((Kd.S_R HO5.out).1 bO rfl |> fun _ => Kd.R_base (Kd.S_R HO5.out) bO rfl));
                      have HZd := Aside0.mk (show w3.heap.size ≤ W6.heap.size from hw ▸ (by simpa [World.setCell] using HZc.out));
                      clear hw hcc hff HO5 HF7c HF8c HFc HBc HZc))
                go_roundg suf.length
                case measure => rw [List.length_cons]; omega
                case rel => exact ⟨pre ++ [x], suf, by rw [HSP.out]; simp, rfl, congrArg (Value.int .i64) (by have := HL8.out; have := HLT.out; rw [List.length_append, List.length_singleton]; (try simp only [i64_w]); unfold wrap64; omega), HF7d, HF8d, ⟨by
                  have := HO6.out
                  rw [spec_ShellsOf.mkG_set, spec_ShellsOf.mkG_congr (g := fun f => if f < n then spec_ShellsOf.sh ps f else if f = n then (pre ++ [x]).filter (fun i => !decide (i ∈ bef)) else []) (fun i _ => by
                    by_cases q : i = n
                    · subst q; rw [if_pos rfl, if_neg (by omega), if_pos rfl, spec_ShellsOf.snoc, if_neg HCX.out]
                    · rw [if_neg q]
                      by_cases q2 : i < n
                      · rw [if_pos q2, if_pos q2]
                      · rw [if_neg q2, if_neg q2, if_neg q, if_neg q])] at this
                  exact this⟩, HFd, HBd, HZd⟩
        · have hps := HM.out
          have ht : decide ((n : Int) < (ps.length : Int)) = false := decide_eq_false (by omega)
          have ht2 : decide (n < ps.length) = false := decide_eq_false (by omega)
          have hnm : n = m + 1 := by omega
          have HNM := Aside0.mk hnm
          obtain ⟨bef, hbef⟩ : ∃ bef, bef = (if n = 0 then [] else ps.getD (n - 1) []) := ⟨_, rfl⟩
          rw [← hbef] at hc7 ⊢
          clear hbef
          clear hps hnm hin hn
          go_wp2_with fail
          go_ret2
          exact ⟨_, rfl, by
            have := HO.out
            rw [spec_ShellsOf.mkG_congr (g := spec_ShellsOf.sh ps) (fun i hi => if_pos (by have := HNM.out; omega))] at this
            rw [HM.out]
            exact Kd.S_mono this (fun _ _ => trivial), HB.out⟩
    · cases H
  · rw [if_neg ct] at H
    simp only [Option.some.injEq, Prod.mk.injEq] at H
    obtain ⟨rfl, rfl⟩ := H
    have ct2 : t = false := by cases t <;> simp_all
    subst ct2
    go_wp2_with fail
    go_ret2
    exact ⟨_, rfl, Kd.S_nil _ _ _ _ _, HB1.out⟩

/-! ### impl_areBlocks: function 68 -/
def impl_areBlocks.l0 : Nat → List Int → Int → List Int → Int → Int → Option (Bool)
  | 0, _, _, _, _, _ => none
  | k + 1, x0, x1, x7, x8, x9 => if x9 < x8 then (if 0 ≤ x9 then (if x9 < (x7.length : Int) then (if (rd x7 x9) < 0 then (some false) else (if (rd x7 x9) ≥ x1 then (some false) else (if x9 > 0 then (if 0 ≤ (wrap64 (x9 - 1)) then (if (wrap64 (x9 - 1)) < (x0.length : Int) then (if (rd x7 x9) ≤ (rd x0 (wrap64 (x9 - 1))) then (some false) else (impl_areBlocks.l0 k x0 x1 x7 x8 (wrap64 (x9 + 1)))) else (none)) else (none)) else (impl_areBlocks.l0 k x0 x1 x7 x8 (wrap64 (x9 + 1)))))) else (none)) else (none)) else (some true)
def impl_areBlocks.f (k : Nat) (l0 : List Int) (a1 : Int) : Option (Bool) := impl_areBlocks.l0 k l0 a1 l0 (l0.length : Int) 0
theorem impl_areBlocks.mono_l : ∀ k, (∀ y0 y1 y2 y3 y4, LeO (impl_areBlocks.l0 k y0 y1 y2 y3 y4) (impl_areBlocks.l0 (k + 1) y0 y1 y2 y3 y4))
  | 0 => fun _ _ _ _ _ r h => by simp [impl_areBlocks.l0] at h
  | k + 1 => by
    have ih0 := impl_areBlocks.mono_l k
    · intro y0 y1 y2 y3 y4
      unfold impl_areBlocks.l0
      repeat' first
      | (with_reducible exact ih0 _ _ _ _ _)
      | (with_reducible exact LeO.refl _)
      | (with_reducible exact LeO.none _)
      | (with_reducible refine LeO.ite ?_ ?_)
      | (with_reducible refine LeO.bind ?_ (fun _ => ?_))
      | exact ih0 _ _ _ _ _
      | exact LeO.none _
      | refine LeO.ite ?_ ?_
      | refine LeO.bind ?_ (fun _ => ?_)
theorem impl_areBlocks.mono : ∀ a0 a1 k, LeO (impl_areBlocks.f k a0 a1) (impl_areBlocks.f (k + 1) a0 a1) := by
  intro a0 a1 k
  have ih0 := impl_areBlocks.mono_l k
  unfold impl_areBlocks.f
  repeat' first
      | (with_reducible exact ih0 _ _ _ _ _)
      | (with_reducible exact LeO.refl _)
      | (with_reducible exact LeO.none _)
      | (with_reducible refine LeO.ite ?_ ?_)
      | (with_reducible refine LeO.bind ?_ (fun _ => ?_))
      | exact ih0 _ _ _ _ _
      | exact LeO.none _
      | refine LeO.ite ?_ ?_
      | refine LeO.bind ?_ (fun _ => ?_)
set_option maxHeartbeats 8000000 in
set_option maxRecDepth 100000 in
theorem impl_areBlocks.calls (k : Nat) (A0 : Option Addr) (c0 : Nat) (l0 : List Int) (a1 : Int) (r : Bool) (w : World) (hr0 : Kd.C (Kd.int .i64) w A0 l0.length l0) (hc0 : l0.length ≤ c0) (h : impl_areBlocks.f k l0 a1 = some r) :
    Calls Try.prog 68 #[.slice A0 l0.length c0, .int .i64 a1] w fun e w' => e = .returned (.bool r) ∧ Drawn0 w w' := by
  have HR0 := Aside0.mk hr0
  have HC0 := Aside0.mk hc0
  clear hr0 hc0
  have H : (impl_areBlocks.l0 k l0 a1 l0 (l0.length : Int) 0) = some r := h
  clear h
  have H' := Aside0.mk H
  clear H
  go_enter Try.func68, Try.ntmps68
  go_wp2
  go_loopg [9] k (fun kq v9 w' => ∃ (x9_1 : Int), v9 = .int .i64 x9_1 ∧ Aside0 (impl_areBlocks.l0 kq l0 a1 l0 (l0.length : Int) x9_1 = some r) ∧ Aside0 (kq ≤ k) ∧ Drawn0 w w')
  case atStart => exact ⟨(0), (by first | rfl | (simp; done) | (simp [*]; done)), H', ⟨Nat.le_refl _⟩, by repeat (first | exact Drawn0.refl _ | apply Drawn0.step)⟩
  case round =>
    clear H'
    try clear p2
    obtain ⟨x9_1, rfl, HA, HK1, ⟨m1, rfl⟩⟩ := hrel
    cases gk with
    | zero => exact absurd HA.out (by simp [impl_areBlocks.l0])
    | succ k1 =>
      have H := HA.out
      clear HA
      simp only [impl_areBlocks.l0] at H
      by_cases c3 : x9_1 < (l0.length : Int)
      · rw [if_pos c3] at H
        have c3b0 : decide (x9_1 < (l0.length : Int)) = true := decide_eq_true c3
        clear c3
        by_cases c4 : 0 ≤ x9_1
        · rw [if_pos c4] at H
          have c4b0 : decide (0 ≤ x9_1) = true := decide_eq_true c4
          clear c4
          by_cases c5 : x9_1 < (l0.length : Int)
          · rw [if_pos c5] at H
            have c5b0 : decide (x9_1 < (l0.length : Int)) = true := decide_eq_true c5
            clear c5
            by_cases c6 : (rd l0 x9_1) < 0
            · rw [if_pos c6] at H
              have c6b0 : decide ((rd l0 x9_1) < 0) = true := decide_eq_true c6
              clear c6
              obtain rfl := Option.some.inj H
              have p262 : 0 ≤ (x9_1 : Int) := of_decide_eq_true (by first | (with_reducible assumption) | assumption)
              have q262 : x9_1 < (l0.length : Int) := of_decide_eq_true (by first | (with_reducible assumption) | assumption)
              obtain ⟨ad262, e262, hx262_0⟩ := Kd.at_int HR0.out x9_1 p262 q262
              cases e262
              replace p262 := eq_true p262
              replace q262 := eq_true q262
              go_wp2
              go_ret
              exact ⟨by first | rfl | (simp; done) | (simp [*]; done), by repeat (first | exact Drawn0.refl _ | apply Drawn0.step)⟩
            · rw [if_neg c6] at H
              have c6b0 : decide ((rd l0 x9_1) < 0) = false := decide_eq_false c6
              clear c6
              by_cases c7 : (rd l0 x9_1) ≥ a1
              · rw [if_pos c7] at H
                have c7b0 : decide (a1 ≤ (rd l0 x9_1)) = true := decide_eq_true c7
                clear c7
                obtain rfl := Option.some.inj H
                have p262 : 0 ≤ (x9_1 : Int) := of_decide_eq_true (by first | (with_reducible assumption) | assumption)
                have q262 : x9_1 < (l0.length : Int) := of_decide_eq_true (by first | (with_reducible assumption) | assumption)
                obtain ⟨ad262, e262, hx262_0⟩ := Kd.at_int HR0.out x9_1 p262 q262
                cases e262
                replace p262 := eq_true p262
                replace q262 := eq_true q262
                go_wp2
                go_ret
                exact ⟨by first | rfl | (simp; done) | (simp [*]; done), by repeat (first | exact Drawn0.refl _ | apply Drawn0.step)⟩
              · rw [if_neg c7] at H
                have c7b0 : decide (a1 ≤ (rd l0 x9_1)) = false := decide_eq_false c7
                clear c7
                by_cases c8 : x9_1 > 0
                · rw [if_pos c8] at H
                  have c8b0 : decide (0 < x9_1) = true := decide_eq_true c8
                  clear c8
                  obtain ⟨ji9, hji9⟩ : ∃ j_ : Int, (wrap64 (x9_1 - 1)) = j_ := ⟨_, rfl⟩
                  replace H : (if 0 ≤ (ji9) then (if (ji9) < (l0.length : Int) then (if (rd l0 x9_1) ≤ (rd l0 (ji9)) then (some false) else (impl_areBlocks.l0 k1 l0 a1 l0 (l0.length : Int) (wrap64 (x9_1 + 1)))) else (none)) else (none)) = some r := by first | (rw [hji9] at H; exact H) | (simp only [hji9] at H ⊢; exact H)
                  have hji9w : (IntKind.i64.wrap (x9_1 - 1)) = ji9 := (i64_w _).trans hji9
                  by_cases c10 : 0 ≤ (ji9)
                  · rw [if_pos c10] at H
                    have c10b0 : decide (0 ≤ (ji9)) = true := decide_eq_true c10
                    clear c10
                    by_cases c11 : (ji9) < (l0.length : Int)
                    · rw [if_pos c11] at H
                      have c11b0 : decide ((ji9) < (l0.length : Int)) = true := decide_eq_true c11
                      clear c11
                      by_cases c12 : (rd l0 x9_1) ≤ (rd l0 (ji9))
                      · rw [if_pos c12] at H
                        have c12b0 : decide ((rd l0 x9_1) ≤ (rd l0 (ji9))) = true := decide_eq_true c12
                        clear c12
                        obtain rfl := Option.some.inj H
                        have p262 : 0 ≤ (x9_1 : Int) := of_decide_eq_true (by first | (with_reducible assumption) | assumption)
                        have q262 : x9_1 < (l0.length : Int) := of_decide_eq_true (by first | (with_reducible assumption) | assumption)
                        obtain ⟨ad262, e262, hx262_0⟩ := Kd.at_int HR0.out x9_1 p262 q262
                        cases e262
                        replace p262 := eq_true p262
                        replace q262 := eq_true q262
                        have p263 : 0 ≤ ((ji9) : Int) := of_decide_eq_true (by first | (with_reducible assumption) | assumption)
                        have q263 : (ji9) < (l0.length : Int) := of_decide_eq_true (by first | (with_reducible assumption) | assumption)
                        obtain ⟨ad263, e263, hx263_0⟩ := Kd.at_int HR0.out (ji9) p263 q263
                        obtain rfl : ad262 = ad263 := (by injection e263)
                        replace p263 := eq_true p263
                        replace q263 := eq_true q263
                        go_wp2
                        go_ret
                        exact ⟨by first | rfl | (simp; done) | (simp only [← hji9] <;> (first | rfl | simp)) | (simp [*]; done), by repeat (first | exact Drawn0.refl _ | apply Drawn0.step)⟩
                      · rw [if_neg c12] at H
                        have c12b0 : decide ((rd l0 x9_1) ≤ (rd l0 (ji9))) = false := decide_eq_false c12
                        clear c12
                        have H' := Aside0.mk H
                        clear H
                        have p262 : 0 ≤ (x9_1 : Int) := of_decide_eq_true (by first | (with_reducible assumption) | assumption)
                        have q262 : x9_1 < (l0.length : Int) := of_decide_eq_true (by first | (with_reducible assumption) | assumption)
                        obtain ⟨ad262, e262, hx262_0⟩ := Kd.at_int HR0.out x9_1 p262 q262
                        cases e262
                        replace p262 := eq_true p262
                        replace q262 := eq_true q262
                        have p263 : 0 ≤ ((ji9) : Int) := of_decide_eq_true (by first | (with_reducible assumption) | assumption)
                        have q263 : (ji9) < (l0.length : Int) := of_decide_eq_true (by first | (with_reducible assumption) | assumption)
                        obtain ⟨ad263, e263, hx263_0⟩ := Kd.at_int HR0.out (ji9) p263 q263
                        obtain rfl : ad262 = ad263 := (by injection e263)
                        replace p263 := eq_true p263
                        replace q263 := eq_true q263
                        go_wp2
                        go_roundg k1
                        case measure => have := HK1.out; omega
                        case rel => exact ⟨(wrap64 (x9_1 + 1)), (by first | rfl | (simp; done) | (simp [*]; done)), H', ⟨by have := HK1.out; omega⟩, by repeat (first | exact Drawn0.refl _ | apply Drawn0.step)⟩
                    · rw [if_neg c11] at H
                      exact absurd H (by simp)
                  · rw [if_neg c10] at H
                    exact absurd H (by simp)
                · rw [if_neg c8] at H
                  have c8b0 : decide (0 < x9_1) = false := decide_eq_false c8
                  clear c8
                  have H' := Aside0.mk H
                  clear H
                  have p262 : 0 ≤ (x9_1 : Int) := of_decide_eq_true (by first | (with_reducible assumption) | assumption)
                  have q262 : x9_1 < (l0.length : Int) := of_decide_eq_true (by first | (with_reducible assumption) | assumption)
                  obtain ⟨ad262, e262, hx262_0⟩ := Kd.at_int HR0.out x9_1 p262 q262
                  cases e262
                  replace p262 := eq_true p262
                  replace q262 := eq_true q262
                  go_wp2
                  go_roundg k1
                  case measure => have := HK1.out; omega
                  case rel => exact ⟨(wrap64 (x9_1 + 1)), (by first | rfl | (simp; done) | (simp [*]; done)), H', ⟨by have := HK1.out; omega⟩, by repeat (first | exact Drawn0.refl _ | apply Drawn0.step)⟩
          · rw [if_neg c5] at H
            exact absurd H (by simp)
        · rw [if_neg c4] at H
          exact absurd H (by simp)
      · rw [if_neg c3] at H
        have c3b0 : decide (x9_1 < (l0.length : Int)) = false := decide_eq_false c3
        clear c3
        obtain rfl := Option.some.inj H
        go_wp2
        go_ret
        exact ⟨by first | rfl | (simp; done) | (simp [*]; done), by repeat (first | exact Drawn0.refl _ | apply Drawn0.step)⟩

/-! ### impl_AreArcs: function 78 -/
mutual
def impl_AreArcs.j0 : Nat → List (List Int) → Bool → Option (Bool)
  | 0, _, _ => none
  | k + 1, x0, x12 => if x12 = true then (some false) else (impl_AreArcs.l0 k x0 (x0.length : Int) 0)
def impl_AreArcs.l0 : Nat → List (List Int) → Int → Int → Option (Bool)
  | 0, _, _, _ => none
  | k + 1, x13, x14, x15 => if x15 < x14 then (if 0 ≤ x15 then (if x15 < (x13.length : Int) then ((impl_areBlocks.f k (rd_L1 x13 x15) x15).bind fun t265 => (if t265 = true then (impl_AreArcs.l0 k x13 x14 (wrap64 (x15 + 1))) else (some false))) else (none)) else (none)) else (some true)
end
def impl_AreArcs.f (k : Nat) (l0 : List (List Int)) : Option (Bool) := if (l0.length : Int) < 1 then (impl_AreArcs.j0 k l0 true) else (impl_AreArcs.j0 k l0 (decide ((l0.length : Int) > 120)))
theorem impl_AreArcs.mono_l : ∀ k, (∀ y0 y1, LeO (impl_AreArcs.j0 k y0 y1) (impl_AreArcs.j0 (k + 1) y0 y1)) ∧ (∀ y0 y1 y2, LeO (impl_AreArcs.l0 k y0 y1 y2) (impl_AreArcs.l0 (k + 1) y0 y1 y2))
  | 0 => ⟨fun _ _ r h => by simp [impl_AreArcs.j0] at h, fun _ _ _ r h => by simp [impl_AreArcs.l0] at h⟩
  | k + 1 => by
    obtain ⟨ih0, ih1⟩ := impl_AreArcs.mono_l k
    refine ⟨?_, ?_⟩
    · intro y0 y1
      unfold impl_AreArcs.j0
      repeat' first
      | (with_reducible exact ih0 _ _)
      | (with_reducible exact ih1 _ _ _)
      | (with_reducible exact impl_areBlocks.mono _ _ _)
      | (with_reducible exact LeO.refl _)
      | (with_reducible exact LeO.none _)
      | (with_reducible refine LeO.ite ?_ ?_)
      | (with_reducible refine LeO.bind ?_ (fun _ => ?_))
      | exact ih0 _ _
      | exact ih1 _ _ _
      | exact impl_areBlocks.mono _ _ _
      | exact LeO.none _
      | refine LeO.ite ?_ ?_
      | refine LeO.bind ?_ (fun _ => ?_)
    · intro y0 y1 y2
      unfold impl_AreArcs.l0
      repeat' first
      | (with_reducible exact ih0 _ _)
      | (with_reducible exact ih1 _ _ _)
      | (with_reducible exact impl_areBlocks.mono _ _ _)
      | (with_reducible exact LeO.refl _)
      | (with_reducible exact LeO.none _)
      | (with_reducible refine LeO.ite ?_ ?_)
      | (with_reducible refine LeO.bind ?_ (fun _ => ?_))
      | exact ih0 _ _
      | exact ih1 _ _ _
      | exact impl_areBlocks.mono _ _ _
      | exact LeO.none _
      | refine LeO.ite ?_ ?_
      | refine LeO.bind ?_ (fun _ => ?_)
theorem impl_AreArcs.mono : ∀ a0 k, LeO (impl_AreArcs.f k a0) (impl_AreArcs.f (k + 1) a0) := by
  intro a0 k
  obtain ⟨ih0, ih1⟩ := impl_AreArcs.mono_l k
  unfold impl_AreArcs.f
  repeat' first
      | (with_reducible exact ih0 _ _)
      | (with_reducible exact ih1 _ _ _)
      | (with_reducible exact impl_areBlocks.mono _ _ _)
      | (with_reducible exact LeO.refl _)
      | (with_reducible exact LeO.none _)
      | (with_reducible refine LeO.ite ?_ ?_)
      | (with_reducible refine LeO.bind ?_ (fun _ => ?_))
      | exact ih0 _ _
      | exact ih1 _ _ _
      | exact impl_areBlocks.mono _ _ _
      | exact LeO.none _
      | refine LeO.ite ?_ ?_
      | refine LeO.bind ?_ (fun _ => ?_)
set_option maxHeartbeats 8000000 in
set_option maxRecDepth 100000 in
theorem impl_AreArcs.calls (k : Nat) (A0 : Option Addr) (c0 : Nat) (l0 : List (List Int)) (r : Bool) (w : World) (hr0 : Kd.C (Kd.slice 3 (Kd.int .i64)) w A0 l0.length l0) (hc0 : l0.length ≤ c0) (h : impl_AreArcs.f k l0 = some r) :
    Calls Try.prog 78 #[.slice A0 l0.length c0] w fun e w' => e = .returned (.bool r) ∧ Drawn0 w w' := by
  have HR0 := Aside0.mk hr0
  have HC0 := Aside0.mk hc0
  clear hr0 hc0
  have H : (if (l0.length : Int) < 1 then (impl_AreArcs.j0 k l0 true) else (impl_AreArcs.j0 k l0 (decide ((l0.length : Int) > 120)))) = some r := h
  clear h
  have HC2 := Aside0.mk H
  clear H
  go_enter Try.func78, Try.ntmps78
  go_upto_region 1 with (fail)
  go_cut [12] (fun v12 wc => ∃ (kq : Nat) (x12_1 : Bool), v12 = .bool x12_1 ∧ Aside0 (impl_AreArcs.j0 kq l0 x12_1 = some r) ∧ Aside0 (kq ≤ k) ∧ Drawn0 w wc)
  case first =>
    have H := HC2.out
    clear HC2
    by_cases c3 : (l0.length : Int) < 1
    · rw [if_pos c3] at H
      have c3b0 : decide ((l0.length : Int) < 1) = true := decide_eq_true c3
      have c3b1 : decide (l0.length < 1) = true := decide_eq_true (by omega)
      clear c3
      (first | rw [c3b0] | (simp only [i64_w, i32_w]; rw [c3b0]) | skip)
      have H' := Aside0.mk H
      clear H
      go_wp2
      go_meet
      case rel => exact ⟨_, (true), (by first | rfl | (simp; done) | (simp [*]; done)), H', ⟨by first | omega | exact Nat.le_refl _⟩, by repeat (first | exact Drawn0.refl _ | apply Drawn0.step)⟩
    · rw [if_neg c3] at H
      have c3b0 : decide ((l0.length : Int) < 1) = false := decide_eq_false c3
      have c3b1 : decide (l0.length < 1) = false := decide_eq_false (by omega)
      clear c3
      (first | rw [c3b0] | (simp only [i64_w, i32_w]; rw [c3b0]) | skip)
      have H' := Aside0.mk H
      clear H
      go_wp2
      go_meet
      case rel => exact ⟨_, (decide ((l0.length : Int) > 120)), (by first | rfl | (simp; done) | (simp [*]; done)), H', ⟨by first | omega | exact Nat.le_refl _⟩, by repeat (first | exact Drawn0.refl _ | apply Drawn0.step)⟩
  case rest =>
    clear HC2
    try clear p2
    try clear c3
    try clear c3b0
    try clear c3b1
    obtain ⟨kq, x12_1, rfl, HA, HJ1, ⟨mc1, rfl⟩⟩ := hcut
    cases kq with
    | zero => exact absurd HA.out (by simp [impl_AreArcs.j0])
    | succ kj1 =>
      have H := HA.out
      clear HA
      simp only [impl_AreArcs.j0] at H
      by_cases c4 : x12_1 = true
      · subst c4
        have H1 : (some false) = some r := by rw [if_pos rfl] at H; exact H
        clear H
        have H := H1
        clear H1
        obtain rfl := Option.some.inj H
        go_wp2
        go_ret
        exact ⟨by first | rfl | (simp; done) | (simp [*]; done), by repeat (first | exact Drawn0.refl _ | apply Drawn0.step)⟩
      · replace c4 := Bool.eq_false_iff.mpr c4
        subst c4
        have H1 : (impl_AreArcs.l0 kj1 l0 (l0.length : Int) 0) = some r := by rw [if_neg (show ¬ (false = true) by decide)] at H; exact H
        clear H
        have H := H1
        clear H1
        have H' := Aside0.mk H
        clear H
        go_wp2
        go_loopg [15] kj1 (fun kq v15 w' => ∃ (x15_2 : Int), v15 = .int .i64 x15_2 ∧ Aside0 (impl_AreArcs.l0 kq l0 (l0.length : Int) x15_2 = some r) ∧ Aside0 (kq ≤ kj1) ∧ Drawn0 w w')
        case atStart => exact ⟨(0), (by first | rfl | (simp; done) | (simp [*]; done)), H', ⟨Nat.le_refl _⟩, by repeat (first | exact Drawn0.refl _ | apply Drawn0.step)⟩
        case round =>
          clear H'
          try clear c1
          try clear p2
          try clear c3
          try clear c3b0
          try clear c3b1
          try clear c4
          try clear p2
          obtain ⟨x15_2, rfl, HA, HK2, ⟨m2, rfl⟩⟩ := hrel
          cases gk with
          | zero => exact absurd HA.out (by simp [impl_AreArcs.l0])
          | succ k2 =>
            have H := HA.out
            clear HA
            simp only [impl_AreArcs.l0] at H
            by_cases c5 : x15_2 < (l0.length : Int)
            · rw [if_pos c5] at H
              have c5b0 : decide (x15_2 < (l0.length : Int)) = true := decide_eq_true c5
              clear c5
              by_cases c6 : 0 ≤ x15_2
              · rw [if_pos c6] at H
                have c6b0 : decide (0 ≤ x15_2) = true := decide_eq_true c6
                clear c6
                by_cases c7 : x15_2 < (l0.length : Int)
                · rw [if_pos c7] at H
                  have c7b0 : decide (x15_2 < (l0.length : Int)) = true := decide_eq_true c7
                  clear c7
                  replace H := Option.bind_eq_some_iff.mp H
                  obtain ⟨t265, A80, H⟩ := H
                  replace H : (if t265 = true then (impl_AreArcs.l0 k2 l0 (l0.length : Int) (wrap64 (x15_2 + 1))) else (some false)) = some r := H
                  have A8 := Aside0.mk A80
                  clear A80
                  by_cases c9 : t265 = true
                  · subst c9
                    have H1 : (impl_AreArcs.l0 k2 l0 (l0.length : Int) (wrap64 (x15_2 + 1))) = some r := by rw [if_pos rfl] at H; exact H
                    clear H
                    have H := H1
                    clear H1
                    have H' := Aside0.mk H
                    clear H
                    have p264 : 0 ≤ (x15_2 : Int) := of_decide_eq_true (by first | (with_reducible assumption) | assumption)
                    have q264 : x15_2 < (l0.length : Int) := of_decide_eq_true (by first | (with_reducible assumption) | assumption)
                    obtain ⟨ad264, A264_0, c264_0, e264, hx264_0, hl264_0, hi264_0⟩ := at_L1 HR0.out x15_2 p264 q264
                    cases e264
                    have HR264_0 := Aside0.mk hi264_0
                    have HC264_0 := Aside0.mk hl264_0
                    clear hi264_0 hl264_0
                    replace p264 := eq_true p264
                    replace q264 := eq_true q264
                    go_wp2_with (first | ((with_reducible refine gate_callee (f := 68) rfl ?_); refine goesL_ (some 22) rfl rfl Try.func68 (by kernel_rfl) rfl #[.slice A264_0 (rd_L1 l0 x15_2).length c264_0, .int .i64 x15_2] rfl (by (try simp only [List.map_toArray, List.map_cons, List.map_nil]); first | done | rfl | (simp only [List.length_drop, List.length_take]; rfl)) ?_; (with_reducible refine (impl_areBlocks.calls k2 _ _ (rd_L1 l0 x15_2) x15_2 true _ ?side1 ?side2 A8.out).mono ?_); (case side1 => repeat (first | exact HR264_0.out | (with_reducible refine Kd.C_alloc ?_ _) | (with_reducible refine Kd.C_drewN ?_ _) | (with_reducible refine Kd.C_drew ?_))); (case side2 => exact HC264_0.out); rintro e w' ⟨rfl, ⟨nd, rfl⟩⟩; refine ⟨_, rfl, ?_⟩))
                    go_roundg k2
                    case measure => have := HJ1.out; have := HK2.out; omega
                    case rel => exact ⟨(wrap64 (x15_2 + 1)), (by first | rfl | (simp; done) | (simp [*]; done)), H', ⟨by have := HJ1.out; have := HK2.out; omega⟩, by repeat (first | exact Drawn0.refl _ | apply Drawn0.step)⟩
                  · replace c9 := Bool.eq_false_iff.mpr c9
                    subst c9
                    have H1 : (some false) = some r := by rw [if_neg (show ¬ (false = true) by decide)] at H; exact H
                    clear H
                    have H := H1
                    clear H1
                    obtain rfl := Option.some.inj H
                    have p264 : 0 ≤ (x15_2 : Int) := of_decide_eq_true (by first | (with_reducible assumption) | assumption)
                    have q264 : x15_2 < (l0.length : Int) := of_decide_eq_true (by first | (with_reducible assumption) | assumption)
                    obtain ⟨ad264, A264_0, c264_0, e264, hx264_0, hl264_0, hi264_0⟩ := at_L1 HR0.out x15_2 p264 q264
                    cases e264
                    have HR264_0 := Aside0.mk hi264_0
                    have HC264_0 := Aside0.mk hl264_0
                    clear hi264_0 hl264_0
                    replace p264 := eq_true p264
                    replace q264 := eq_true q264
                    go_wp2_with (first | ((with_reducible refine gate_callee (f := 68) rfl ?_); refine goesL_ (some 22) rfl rfl Try.func68 (by kernel_rfl) rfl #[.slice A264_0 (rd_L1 l0 x15_2).length c264_0, .int .i64 x15_2] rfl (by (try simp only [List.map_toArray, List.map_cons, List.map_nil]); first | done | rfl | (simp only [List.length_drop, List.length_take]; rfl)) ?_; (with_reducible refine (impl_areBlocks.calls k2 _ _ (rd_L1 l0 x15_2) x15_2 false _ ?side1 ?side2 A8.out).mono ?_); (case side1 => repeat (first | exact HR264_0.out | (with_reducible refine Kd.C_alloc ?_ _) | (with_reducible refine Kd.C_drewN ?_ _) | (with_reducible refine Kd.C_drew ?_))); (case side2 => exact HC264_0.out); rintro e w' ⟨rfl, ⟨nd, rfl⟩⟩; refine ⟨_, rfl, ?_⟩))
                    go_ret
                    exact ⟨by first | rfl | (simp; done) | (simp [*]; done), by repeat (first | exact Drawn0.refl _ | apply Drawn0.step)⟩
                · rw [if_neg c7] at H
                  exact absurd H (by simp)
              · rw [if_neg c6] at H
                exact absurd H (by simp)
            · rw [if_neg c5] at H
              have c5b0 : decide (x15_2 < (l0.length : Int)) = false := decide_eq_false c5
              clear c5
              obtain rfl := Option.some.inj H
              go_wp2
              go_ret
              exact ⟨by first | rfl | (simp; done) | (simp [*]; done), by repeat (first | exact Drawn0.refl _ | apply Drawn0.step)⟩

/-! ### impl_AreGains: function 79 -/
mutual
def impl_AreGains.j0 : Nat → List Int → List Int → Int → Bool → Option (Bool)
  | 0, _, _, _, _ => none
  | k + 1, x0, x1, x2, x25 => if x25 = true then (some false) else (impl_AreGains.l0 k x0 x1 x2 0)
def impl_AreGains.l0 : Nat → List Int → List Int → Int → Int → Option (Bool)
  | 0, _, _, _, _ => none
  | k + 1, x0, x1, x26, x27 => if x27 < x26 then (if 0 ≤ x27 then (if x27 < (x0.length : Int) then (if (rd x0 x27) < 0 then (some false) else (if (rd x0 x27) > 10000 then (some false) else (if x27 < (x1.length : Int) then (if (rd x1 x27) < 0 then (some false) else (if (rd x1 x27) > 400000 then (some false) else (impl_AreGains.l0 k x0 x1 x26 (wrap64 (x27 + 1))))) else (none)))) else (none)) else (none)) else (some true)
end
def impl_AreGains.f (k : Nat) (l0 : List Int) (l1 : List Int) (a2 : Int) : Option (Bool) := if a2 < 1 then (impl_AreGains.j0 k l0 l1 a2 true) else (if a2 > 120 then (impl_AreGains.j0 k l0 l1 a2 true) else (if (l0.length : Int) = a2 then (impl_AreGains.j0 k l0 l1 a2 ((l1.length : Int) != a2)) else (impl_AreGains.j0 k l0 l1 a2 true)))
theorem impl_AreGains.mono_l : ∀ k, (∀ y0 y1 y2 y3, LeO (impl_AreGains.j0 k y0 y1 y2 y3) (impl_AreGains.j0 (k + 1) y0 y1 y2 y3)) ∧ (∀ y0 y1 y2 y3, LeO (impl_AreGains.l0 k y0 y1 y2 y3) (impl_AreGains.l0 (k + 1) y0 y1 y2 y3))
  | 0 => ⟨fun _ _ _ _ r h => by simp [impl_AreGains.j0] at h, fun _ _ _ _ r h => by simp [impl_AreGains.l0] at h⟩
  | k + 1 => by
    obtain ⟨ih0, ih1⟩ := impl_AreGains.mono_l k
    refine ⟨?_, ?_⟩
    · intro y0 y1 y2 y3
      unfold impl_AreGains.j0
      repeat' first
      | (with_reducible exact ih0 _ _ _ _)
      | (with_reducible exact ih1 _ _ _ _)
      | (with_reducible exact LeO.refl _)
      | (with_reducible exact LeO.none _)
      | (with_reducible refine LeO.ite ?_ ?_)
      | (with_reducible refine LeO.bind ?_ (fun _ => ?_))
      | exact ih0 _ _ _ _
      | exact ih1 _ _ _ _
      | exact LeO.none _
      | refine LeO.ite ?_ ?_
      | refine LeO.bind ?_ (fun _ => ?_)
    · intro y0 y1 y2 y3
      unfold impl_AreGains.l0
      repeat' first
      | (with_reducible exact ih0 _ _ _ _)
      | (with_reducible exact ih1 _ _ _ _)
      | (with_reducible exact LeO.refl _)
      | (with_reducible exact LeO.none _)
      | (with_reducible refine LeO.ite ?_ ?_)
      | (with_reducible refine LeO.bind ?_ (fun _ => ?_))
      | exact ih0 _ _ _ _
      | exact ih1 _ _ _ _
      | exact LeO.none _
      | refine LeO.ite ?_ ?_
      | refine LeO.bind ?_ (fun _ => ?_)
theorem impl_AreGains.mono : ∀ a0 a1 a2 k, LeO (impl_AreGains.f k a0 a1 a2) (impl_AreGains.f (k + 1) a0 a1 a2) := by
  intro a0 a1 a2 k
  obtain ⟨ih0, ih1⟩ := impl_AreGains.mono_l k
  unfold impl_AreGains.f
  repeat' first
      | (with_reducible exact ih0 _ _ _ _)
      | (with_reducible exact ih1 _ _ _ _)
      | (with_reducible exact LeO.refl _)
      | (with_reducible exact LeO.none _)
      | (with_reducible refine LeO.ite ?_ ?_)
      | (with_reducible refine LeO.bind ?_ (fun _ => ?_))
      | exact ih0 _ _ _ _
      | exact ih1 _ _ _ _
      | exact LeO.none _
      | refine LeO.ite ?_ ?_
      | refine LeO.bind ?_ (fun _ => ?_)
set_option maxHeartbeats 8000000 in
set_option maxRecDepth 100000 in
theorem impl_AreGains.calls (k : Nat) (A0 : Option Addr) (c0 : Nat) (l0 : List Int) (A1 : Option Addr) (c1 : Nat) (l1 : List Int) (a2 : Int) (r : Bool) (w : World) (hr0 : Kd.C (Kd.int .i64) w A0 l0.length l0) (hc0 : l0.length ≤ c0) (hr1 : Kd.C (Kd.int .i64) w A1 l1.length l1) (hc1 : l1.length ≤ c1) (h : impl_AreGains.f k l0 l1 a2 = some r) :
    Calls Try.prog 79 #[.slice A0 l0.length c0, .slice A1 l1.length c1, .int .i64 a2] w fun e w' => e = .returned (.bool r) ∧ Drawn0 w w' := by
  have HR0 := Aside0.mk hr0
  have HC0 := Aside0.mk hc0
  clear hr0 hc0
  have HR1 := Aside0.mk hr1
  have HC1 := Aside0.mk hc1
  clear hr1 hc1
  have H : (if a2 < 1 then (impl_AreGains.j0 k l0 l1 a2 true) else (if a2 > 120 then (impl_AreGains.j0 k l0 l1 a2 true) else (if (l0.length : Int) = a2 then (impl_AreGains.j0 k l0 l1 a2 ((l1.length : Int) != a2)) else (impl_AreGains.j0 k l0 l1 a2 true)))) = some r := h
  clear h
  have HC4 := Aside0.mk H
  clear H
  go_enter Try.func79, Try.ntmps79
  go_upto_region 1 with (fail)
  go_cut [25] (fun v25 wc => ∃ (kq : Nat) (x25_3 : Bool), v25 = .bool x25_3 ∧ Aside0 (impl_AreGains.j0 kq l0 l1 a2 x25_3 = some r) ∧ Aside0 (kq ≤ k) ∧ Drawn0 w wc)
  case first =>
    have H := HC4.out
    clear HC4
    by_cases c5 : a2 < 1
    · rw [if_pos c5] at H
      have c5b0 : decide (a2 < 1) = true := decide_eq_true c5
      clear c5
      (first | rw [c5b0] | (simp only [i64_w, i32_w]; rw [c5b0]) | skip)
      have H' := Aside0.mk H
      clear H
      go_wp2
      go_meet
      case rel => exact ⟨_, (true), (by first | rfl | (simp; done) | (simp [*]; done)), H', ⟨by first | omega | exact Nat.le_refl _⟩, by repeat (first | exact Drawn0.refl _ | apply Drawn0.step)⟩
    · rw [if_neg c5] at H
      have c5b0 : decide (a2 < 1) = false := decide_eq_false c5
      clear c5
      (first | rw [c5b0] | (simp only [i64_w, i32_w]; rw [c5b0]) | skip)
      by_cases c6 : a2 > 120
      · rw [if_pos c6] at H
        have c6b0 : decide (120 < a2) = true := decide_eq_true c6
        clear c6
        have H' := Aside0.mk H
        clear H
        go_wp2
        go_meet
        case rel => exact ⟨_, (true), (by first | rfl | (simp; done) | (simp [*]; done)), H', ⟨by first | omega | exact Nat.le_refl _⟩, by repeat (first | exact Drawn0.refl _ | apply Drawn0.step)⟩
      · rw [if_neg c6] at H
        have c6b0 : decide (120 < a2) = false := decide_eq_false c6
        clear c6
        by_cases c7 : (l0.length : Int) = a2
        · rw [if_pos c7] at H
          have c7b0 : ((l0.length : Int) == a2) = true := beq_iff_eq.mpr c7
          have c7b1 : ((l0.length : Int) != a2) = false := bne_eq_false_iff_eq.mpr c7
          clear c7
          have H' := Aside0.mk H
          clear H
          go_wp2
          go_meet
          case rel => exact ⟨_, (((l1.length : Int) != a2)), (by first | rfl | (simp; done) | (simp [*]; done)), H', ⟨by first | omega | exact Nat.le_refl _⟩, by repeat (first | exact Drawn0.refl _ | apply Drawn0.step)⟩
        · rw [if_neg c7] at H
          have c7b0 : ((l0.length : Int) == a2) = false := beq_eq_false_iff_ne.mpr c7
          have c7b1 : ((l0.length : Int) != a2) = true := bne_iff_ne.mpr c7
          have H' := Aside0.mk H
          clear H
          go_wp2
          go_meet
          case rel => exact ⟨_, (true), (by first | rfl | (simp; done) | (simp [*]; done)), H', ⟨by first | omega | exact Nat.le_refl _⟩, by repeat (first | exact Drawn0.refl _ | apply Drawn0.step)⟩
  case rest =>
    clear HC4
    try clear c1
    try clear p2
    try clear c5
    try clear c5b0
    try clear c6
    try clear c6b0
    try clear c7
    try clear c7b0
    try clear c7b1
    obtain ⟨kq, x25_3, rfl, HA, HJ3, ⟨mc3, rfl⟩⟩ := hcut
    cases kq with
    | zero => exact absurd HA.out (by simp [impl_AreGains.j0])
    | succ kj3 =>
      have H := HA.out
      clear HA
      simp only [impl_AreGains.j0] at H
      by_cases c8 : x25_3 = true
      · subst c8
        have H1 : (some false) = some r := by rw [if_pos rfl] at H; exact H
        clear H
        have H := H1
        clear H1
        obtain rfl := Option.some.inj H
        go_wp2
        go_ret
        exact ⟨by first | rfl | (simp; done) | (simp [*]; done), by repeat (first | exact Drawn0.refl _ | apply Drawn0.step)⟩
      · replace c8 := Bool.eq_false_iff.mpr c8
        subst c8
        have H1 : (impl_AreGains.l0 kj3 l0 l1 a2 0) = some r := by rw [if_neg (show ¬ (false = true) by decide)] at H; exact H
        clear H
        have H := H1
        clear H1
        have H' := Aside0.mk H
        clear H
        go_wp2
        go_loopg [27] kj3 (fun kq v27 w' => ∃ (x27_2 : Int), v27 = .int .i64 x27_2 ∧ Aside0 (impl_AreGains.l0 kq l0 l1 a2 x27_2 = some r) ∧ Aside0 (kq ≤ kj3) ∧ Drawn0 w w')
        case atStart => exact ⟨(0), (by first | rfl | (simp; done) | (simp [*]; done)), H', ⟨Nat.le_refl _⟩, by repeat (first | exact Drawn0.refl _ | apply Drawn0.step)⟩
        case round =>
          clear H'
          try clear c1
          try clear p2
          try clear c3
          try clear c5
          try clear c5b0
          try clear c6
          try clear c6b0
          try clear c7
          try clear c7b0
          try clear c7b1
          try clear c8
          try clear p2
          obtain ⟨x27_2, rfl, HA, HK2, ⟨m2, rfl⟩⟩ := hrel
          cases gk with
          | zero => exact absurd HA.out (by simp [impl_AreGains.l0])
          | succ k2 =>
            have H := HA.out
            clear HA
            simp only [impl_AreGains.l0] at H
            by_cases c9 : x27_2 < a2
            · rw [if_pos c9] at H
              have c9b0 : decide (x27_2 < a2) = true := decide_eq_true c9
              clear c9
              by_cases c10 : 0 ≤ x27_2
              · rw [if_pos c10] at H
                have c10b0 : decide (0 ≤ x27_2) = true := decide_eq_true c10
                clear c10
                by_cases c11 : x27_2 < (l0.length : Int)
                · rw [if_pos c11] at H
                  have c11b0 : decide (x27_2 < (l0.length : Int)) = true := decide_eq_true c11
                  clear c11
                  by_cases c12 : (rd l0 x27_2) < 0
                  · rw [if_pos c12] at H
                    have c12b0 : decide ((rd l0 x27_2) < 0) = true := decide_eq_true c12
                    clear c12
                    obtain rfl := Option.some.inj H
                    have p266 : 0 ≤ (x27_2 : Int) := of_decide_eq_true (by first | (with_reducible assumption) | assumption)
                    have q266 : x27_2 < (l0.length : Int) := of_decide_eq_true (by first | (with_reducible assumption) | assumption)
                    obtain ⟨ad266, e266, hx266_0⟩ := Kd.at_int HR0.out x27_2 p266 q266
                    cases e266
                    replace p266 := eq_true p266
                    replace q266 := eq_true q266
                    go_wp2
                    go_ret
                    exact ⟨by first | rfl | (simp; done) | (simp [*]; done), by repeat (first | exact Drawn0.refl _ | apply Drawn0.step)⟩
                  · rw [if_neg c12] at H
                    have c12b0 : decide ((rd l0 x27_2) < 0) = false := decide_eq_false c12
                    clear c12
                    by_cases c13 : (rd l0 x27_2) > 10000
                    · rw [if_pos c13] at H
                      have c13b0 : decide (10000 < (rd l0 x27_2)) = true := decide_eq_true c13
                      clear c13
                      obtain rfl := Option.some.inj H
                      have p266 : 0 ≤ (x27_2 : Int) := of_decide_eq_true (by first | (with_reducible assumption) | assumption)
                      have q266 : x27_2 < (l0.length : Int) := of_decide_eq_true (by first | (with_reducible assumption) | assumption)
                      obtain ⟨ad266, e266, hx266_0⟩ := Kd.at_int HR0.out x27_2 p266 q266
                      cases e266
                      replace p266 := eq_true p266
                      replace q266 := eq_true q266
                      have p267 : 0 ≤ (x27_2 : Int) := of_decide_eq_true (by first | (with_reducible assumption) | assumption)
                      have q267 : x27_2 < (l0.length : Int) := of_decide_eq_true (by first | (with_reducible assumption) | assumption)
                      obtain ⟨ad267, e267, hx267_0⟩ := Kd.at_int HR0.out x27_2 p267 q267
                      obtain rfl : ad266 = ad267 := (by injection e267)
                      replace p267 := eq_true p267
                      replace q267 := eq_true q267
                      go_wp2
                      go_ret
                      exact ⟨by first | rfl | (simp; done) | (simp [*]; done), by repeat (first | exact Drawn0.refl _ | apply Drawn0.step)⟩
                    · rw [if_neg c13] at H
                      have c13b0 : decide (10000 < (rd l0 x27_2)) = false := decide_eq_false c13
                      clear c13
                      by_cases c14 : x27_2 < (l1.length : Int)
                      · rw [if_pos c14] at H
                        have c14b0 : decide (x27_2 < (l1.length : Int)) = true := decide_eq_true c14
                        clear c14
                        by_cases c15 : (rd l1 x27_2) < 0
                        · rw [if_pos c15] at H
                          have c15b0 : decide ((rd l1 x27_2) < 0) = true := decide_eq_true c15
                          clear c15
                          obtain rfl := Option.some.inj H
                          have p266 : 0 ≤ (x27_2 : Int) := of_decide_eq_true (by first | (with_reducible assumption) | assumption)
                          have q266 : x27_2 < (l0.length : Int) := of_decide_eq_true (by first | (with_reducible assumption) | assumption)
                          obtain ⟨ad266, e266, hx266_0⟩ := Kd.at_int HR0.out x27_2 p266 q266
                          cases e266
                          replace p266 := eq_true p266
                          replace q266 := eq_true q266
                          have p267 : 0 ≤ (x27_2 : Int) := of_decide_eq_true (by first | (with_reducible assumption) | assumption)
                          have q267 : x27_2 < (l0.length : Int) := of_decide_eq_true (by first | (with_reducible assumption) | assumption)
                          obtain ⟨ad267, e267, hx267_0⟩ := Kd.at_int HR0.out x27_2 p267 q267
                          obtain rfl : ad266 = ad267 := (by injection e267)
                          replace p267 := eq_true p267
                          replace q267 := eq_true q267
                          have p268 : 0 ≤ (x27_2 : Int) := of_decide_eq_true (by first | (with_reducible assumption) | assumption)
                          have q268 : x27_2 < (l1.length : Int) := of_decide_eq_true (by first | (with_reducible assumption) | assumption)
                          obtain ⟨ad268, e268, hx268_0⟩ := Kd.at_int HR1.out x27_2 p268 q268
                          cases e268
                          replace p268 := eq_true p268
                          replace q268 := eq_true q268
                          go_wp2
                          go_ret
                          exact ⟨by first | rfl | (simp; done) | (simp [*]; done), by repeat (first | exact Drawn0.refl _ | apply Drawn0.step)⟩
                        · rw [if_neg c15] at H
                          have c15b0 : decide ((rd l1 x27_2) < 0) = false := decide_eq_false c15
                          clear c15
                          by_cases c16 : (rd l1 x27_2) > 400000
                          · rw [if_pos c16] at H
                            have c16b0 : decide (400000 < (rd l1 x27_2)) = true := decide_eq_true c16
                            clear c16
                            obtain rfl := Option.some.inj H
                            have p266 : 0 ≤ (x27_2 : Int) := of_decide_eq_true (by first | (with_reducible assumption) | assumption)
                            have q266 : x27_2 < (l0.length : Int) := of_decide_eq_true (by first | (with_reducible assumption) | assumption)
                            obtain ⟨ad266, e266, hx266_0⟩ := Kd.at_int HR0.out x27_2 p266 q266
                            cases e266
                            replace p266 := eq_true p266
                            replace q266 := eq_true q266
                            have p267 : 0 ≤ (x27_2 : Int) := of_decide_eq_true (by first | (with_reducible assumption) | assumption)
                            have q267 : x27_2 < (l0.length : Int) := of_decide_eq_true (by first | (with_reducible assumption) | assumption)
                            obtain ⟨ad267, e267, hx267_0⟩ := Kd.at_int HR0.out x27_2 p267 q267
                            obtain rfl : ad266 = ad267 := (by injection e267)
                            replace p267 := eq_true p267
                            replace q267 := eq_true q267
                            have p268 : 0 ≤ (x27_2 : Int) := of_decide_eq_true (by first | (with_reducible assumption) | assumption)
                            have q268 : x27_2 < (l1.length : Int) := of_decide_eq_true (by first | (with_reducible assumption) | assumption)
                            obtain ⟨ad268, e268, hx268_0⟩ := Kd.at_int HR1.out x27_2 p268 q268
                            cases e268
                            replace p268 := eq_true p268
                            replace q268 := eq_true q268
                            have p269 : 0 ≤ (x27_2 : Int) := of_decide_eq_true (by first | (with_reducible assumption) | assumption)
                            have q269 : x27_2 < (l1.length : Int) := of_decide_eq_true (by first | (with_reducible assumption) | assumption)
                            obtain ⟨ad269, e269, hx269_0⟩ := Kd.at_int HR1.out x27_2 p269 q269
                            obtain rfl : ad268 = ad269 := (by injection e269)
                            replace p269 := eq_true p269
                            replace q269 := eq_true q269
                            go_wp2
                            go_ret
                            exact ⟨by first | rfl | (simp; done) | (simp [*]; done), by repeat (first | exact Drawn0.refl _ | apply Drawn0.step)⟩
                          · rw [if_neg c16] at H
                            have c16b0 : decide (400000 < (rd l1 x27_2)) = false := decide_eq_false c16
                            clear c16
                            have H' := Aside0.mk H
                            clear H
                            have p266 : 0 ≤ (x27_2 : Int) := of_decide_eq_true (by first | (with_reducible assumption) | assumption)
                            have q266 : x27_2 < (l0.length : Int) := of_decide_eq_true (by first | (with_reducible assumption) | assumption)
                            obtain ⟨ad266, e266, hx266_0⟩ := Kd.at_int HR0.out x27_2 p266 q266
                            cases e266
                            replace p266 := eq_true p266
                            replace q266 := eq_true q266
                            have p267 : 0 ≤ (x27_2 : Int) := of_decide_eq_true (by first | (with_reducible assumption) | assumption)
                            have q267 : x27_2 < (l0.length : Int) := of_decide_eq_true (by first | (with_reducible assumption) | assumption)
                            obtain ⟨ad267, e267, hx267_0⟩ := Kd.at_int HR0.out x27_2 p267 q267
                            obtain rfl : ad266 = ad267 := (by injection e267)
                            replace p267 := eq_true p267
                            replace q267 := eq_true q267
                            have p268 : 0 ≤ (x27_2 : Int) := of_decide_eq_true (by first | (with_reducible assumption) | assumption)
                            have q268 : x27_2 < (l1.length : Int) := of_decide_eq_true (by first | (with_reducible assumption) | assumption)
                            obtain ⟨ad268, e268, hx268_0⟩ := Kd.at_int HR1.out x27_2 p268 q268
                            cases e268
                            replace p268 := eq_true p268
                            replace q268 := eq_true q268
                            have p269 : 0 ≤ (x27_2 : Int) := of_decide_eq_true (by first | (with_reducible assumption) | assumption)
                            have q269 : x27_2 < (l1.length : Int) := of_decide_eq_true (by first | (with_reducible assumption) | assumption)
                            obtain ⟨ad269, e269, hx269_0⟩ := Kd.at_int HR1.out x27_2 p269 q269
                            obtain rfl : ad268 = ad269 := (by injection e269)
                            replace p269 := eq_true p269
                            replace q269 := eq_true q269
                            go_wp2
                            go_roundg k2
                            case measure => have := HJ3.out; have := HK2.out; omega
                            case rel => exact ⟨(wrap64 (x27_2 + 1)), (by first | rfl | (simp; done) | (simp [*]; done)), H', ⟨by have := HJ3.out; have := HK2.out; omega⟩, by repeat (first | exact Drawn0.refl _ | apply Drawn0.step)⟩
                      · rw [if_neg c14] at H
                        exact absurd H (by simp)
                · rw [if_neg c11] at H
                  exact absurd H (by simp)
              · rw [if_neg c10] at H
                exact absurd H (by simp)
            · rw [if_neg c9] at H
              have c9b0 : decide (x27_2 < a2) = false := decide_eq_false c9
              clear c9
              obtain rfl := Option.some.inj H
              go_wp2
              go_ret
              exact ⟨by first | rfl | (simp; done) | (simp [*]; done), by repeat (first | exact Drawn0.refl _ | apply Drawn0.step)⟩

/-! ### impl_isFactor: function 80 -/
def impl_isFactor.f (a0 : Int) : Option (Bool) := if a0 ≥ 0 then (some (decide (a0 ≤ 60))) else (some false)
set_option maxHeartbeats 8000000 in
set_option maxRecDepth 100000 in
theorem impl_isFactor.calls (a0 : Int) (r : Bool) (w : World) (h : impl_isFactor.f a0 = some r) :
    Calls Try.prog 80 #[.int .i64 a0] w fun e w' => e = .returned (.bool r) ∧ Drawn0 w w' := by
  have H : (if a0 ≥ 0 then (some (decide (a0 ≤ 60))) else (some false)) = some r := h
  clear h
  by_cases c2 : a0 ≥ 0
  · rw [if_pos c2] at H
    have c2b0 : decide (0 ≤ a0) = true := decide_eq_true c2
    clear c2
    obtain rfl := Option.some.inj H
    go_enter Try.func80, Try.ntmps80
    go_wp2
    go_ret
    exact ⟨by first | rfl | (simp; done) | (simp [*]; done), by repeat (first | exact Drawn0.refl _ | apply Drawn0.step)⟩
  · rw [if_neg c2] at H
    have c2b0 : decide (0 ≤ a0) = false := decide_eq_false c2
    clear c2
    obtain rfl := Option.some.inj H
    go_enter Try.func80, Try.ntmps80
    go_wp2
    go_ret
    exact ⟨by first | rfl | (simp; done) | (simp [*]; done), by repeat (first | exact Drawn0.refl _ | apply Drawn0.step)⟩

end Go.Proofs.Ytcbdglefkmpaeaa.PFnExactShellsOf

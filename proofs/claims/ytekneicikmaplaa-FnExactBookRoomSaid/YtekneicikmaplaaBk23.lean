/- The program's look at a book's shape: a walk. -/
import Derived.Test.YtekneicikmaplaaBk11
import Derived.Test.YtekneicikmaplaaBk12
import Derived.Test.YtekneicikmaplaaBk20
set_option linter.unusedVariables false
set_option linter.unusedSimpArgs false
namespace Go.Proofs.Ytekneicikmaplaa.Bk
open Go.RowKit Go.Proofs.YtekneicikmaplaaW.PrintWords Go.Proofs.YtekneicikmaplaaW.PrintLast Go.Proofs.YtekneicikmaplaaW.PrintMore

theorem index4 (A : Nat → Option Addr) (c : Nat → Nat) (L : Nat → List Int) (k : Nat) (hk : k < 4) (W : World) : (Instr.index 25 (.agg #[.slice (A 1) (L 1).length (c 1), .slice (A 2) (L 2).length (c 2), .slice (A 3) (L 3).length (c 3), .slice (A 4) (L 4).length (c 4)]) (.int .i64 (k : Int))).run Try.prog W = .ok (.slice (A (k + 1)) (L (k + 1)).length (c (k + 1))) W := by
  match k, hk with
  | 0, _ => rfl
  | 1, _ => rfl
  | 2, _ => rfl
  | 3, _ => rfl
theorem within_f {n lo hi : Int} (h : ¬ (lo ≤ n ∧ n ≤ hi)) : withinB n lo hi = false := by
  cases e : withinB n lo hi with
  | false => rfl
  | true => exact absurd (within_t.mp e) h
theorem slot_iff {v e : Int} : (¬ v < 0 ∧ ¬ v > 2 ∧ ¬ e < 0 ∧ ¬ e > 4095 ∧ ¬ (e = 0 ∧ v > 0)) ↔ ((0 ≤ v ∧ v ≤ 2) ∧ (0 ≤ e ∧ e ≤ 4095) ∧ ¬ (v ≠ 0 ∧ e = 0)) := by omega
theorem kind_iff {q : Int} {k : Nat} : kindN q = (k : Int) ↔ (k < 4 ∧ q = (k : Int) + 1) := by
  unfold kindN
  by_cases h1 : q < 1
  · rw [if_pos h1]; omega
  · rw [if_neg h1]
    by_cases h2 : q > 4
    · rw [if_pos h2]; omega
    · rw [if_neg h2]; omega
theorem inP_wrap {s o : Int} {I : List Int} (h0 : -9223372036854775808 ≤ o) (h1 : o ≤ 9223372036854775807) (h4 : s ≤ 4) : InP s I (wrap64 (o - 1)) ↔ InP s I (o - 1) := by
  by_cases e : o = -9223372036854775808
  · subst e
    have e1 : wrap64 (-9223372036854775808 - 1) = 9223372036854775807 := by unfold wrap64; omega
    rw [e1]
    unfold InP
    constructor
    · rintro ⟨a, b, _⟩; omega
    · rintro ⟨a, b, _⟩; omega
  · have e1 : wrap64 (o - 1) = o - 1 := by unfold wrap64; omega
    rw [e1]
set_option maxHeartbeats 8000000 in
set_option maxRecDepth 100000 in
theorem shapeOk_calls (s : Int) (A : Nat → Option Addr) (c : Nat → Nat) (L : Nat → List Int) (w : World) (h : BkC w A c L) (hl : ∀ i, (L i).length ≤ 35184372088832) (hw5 : Wf64 (L 5)) :
    Calls Try.prog 49 #[.agg (bkCells s A c L)] w (RetB (SlotsP s L ∧ ListsP L) w) := by
  have HR := Aside0.mk h
  have HL := Aside0.mk hl
  have hl0 : ((L 0).length : Int) ≤ 35184372088832 := by have := hl 0; omega
  have hl5 : ((L 5).length : Int) ≤ 35184372088832 := by have := hl 5; omega
  have hl6 : ((L 6).length : Int) ≤ 35184372088832 := by have := hl 6; omega
  have HW5 := Aside0.mk hw5
  clear h hl hw5
  have HB := Aside0.mk (Below.refl w.heap.size w)
  by_cases h1 : 1 ≤ s ∧ s ≤ 4
  rotate_left
  · have HF : Aside0 (¬ (SlotsP s L ∧ ListsP L)) := ⟨fun hh => by obtain ⟨a1, a2, a3, a4, a5, a6, a7⟩ := hh.1.1; omega⟩
    have h1b : withinB s 1 4 = false := within_f h1
    clear h1
    go_enter Try.func49, Try.ntmps49
    go_wp2_with (first | ((with_reducible refine gate_dst (N := 1) rfl ?_); refine box_event rfl (N := 1) rfl (cs := bkCells s A c L) (t := 27) (by first | (go_simp; done) | (go_simp; rfl)) ?_; intro gb hggb w1 hbox hb; have n0_ := Aside0.mk (below_step HB.out hb); have BKgb := Aside0.mk hbox; have HGgb := Aside0.mk (show w.heap.size ≤ gb by rw [hggb]; exact HB.out.size); clear HB; have HB := n0_; have fgbs0 : w1.cell? ⟨gb, 0, none⟩ = some (.int .i64 _) := (blk_cell BKgb.out 0).trans rfl; have fgb1 : w1.cell? ⟨gb, 1, none⟩ = some (.slice (A 0) (L 0).length (c 0)) := (blk_cell BKgb.out 1).trans rfl; have fgb2 : w1.cell? ⟨gb, 2, none⟩ = some (.slice (A 1) (L 1).length (c 1)) := (blk_cell BKgb.out 2).trans rfl; have fgb3 : w1.cell? ⟨gb, 3, none⟩ = some (.slice (A 2) (L 2).length (c 2)) := (blk_cell BKgb.out 3).trans rfl; have fgb4 : w1.cell? ⟨gb, 4, none⟩ = some (.slice (A 3) (L 3).length (c 3)) := (blk_cell BKgb.out 4).trans rfl; have fgb5 : w1.cell? ⟨gb, 5, none⟩ = some (.slice (A 4) (L 4).length (c 4)) := (blk_cell BKgb.out 5).trans rfl; have fgb6 : w1.cell? ⟨gb, 6, none⟩ = some (.slice (A 5) (L 5).length (c 5)) := (blk_cell BKgb.out 6).trans rfl; have fgb7 : w1.cell? ⟨gb, 7, none⟩ = some (.slice (A 6) (L 6).length (c 6)) := (blk_cell BKgb.out 7).trans rfl; have fgb8 : w1.cell? ⟨gb, 8, none⟩ = some (.slice (A 7) (L 7).length (c 7)) := (blk_cell BKgb.out 8).trans rfl; have fgbz0 := blk_frozen BKgb.out 0; have fgbz1 := blk_frozen BKgb.out 1; have fgbz2 := blk_frozen BKgb.out 2; have fgbz3 := blk_frozen BKgb.out 3; have fgbz4 := blk_frozen BKgb.out 4; have fgbz5 := blk_frozen BKgb.out 5; have fgbz6 := blk_frozen BKgb.out 6; have fgbz7 := blk_frozen BKgb.out 7; have fgbz8 := blk_frozen BKgb.out 8; clear n0_ hbox hb hggb) | (go_at_call 53; refine (within_calls _ _ _ _).mono ?_; rintro e w' ⟨rfl, rfl⟩))
    go_ret
    exact RetB.mk rfl (iff_f HF.out) HB.out
  obtain ⟨h11, h12⟩ := h1
  have h1b : withinB s 1 4 = true := within_t.mpr ⟨h11, h12⟩
  by_cases h2 : 1 ≤ ((L 0).length : Int) ∧ ((L 0).length : Int) ≤ 6
  rotate_left
  · have HF : Aside0 (¬ (SlotsP s L ∧ ListsP L)) := ⟨fun hh => by obtain ⟨a1, a2, a3, a4, a5, a6, a7⟩ := hh.1.1; omega⟩
    have h2b : withinB ((L 0).length : Int) 1 6 = false := within_f h2
    clear h2
    go_enter Try.func49, Try.ntmps49
    go_wp2_with (first | ((with_reducible refine gate_dst (N := 1) rfl ?_); refine box_event rfl (N := 1) rfl (cs := bkCells s A c L) (t := 27) (by first | (go_simp; done) | (go_simp; rfl)) ?_; intro gb hggb w1 hbox hb; have n0_ := Aside0.mk (below_step HB.out hb); have BKgb := Aside0.mk hbox; have HGgb := Aside0.mk (show w.heap.size ≤ gb by rw [hggb]; exact HB.out.size); clear HB; have HB := n0_; have fgbs0 : w1.cell? ⟨gb, 0, none⟩ = some (.int .i64 _) := (blk_cell BKgb.out 0).trans rfl; have fgb1 : w1.cell? ⟨gb, 1, none⟩ = some (.slice (A 0) (L 0).length (c 0)) := (blk_cell BKgb.out 1).trans rfl; have fgb2 : w1.cell? ⟨gb, 2, none⟩ = some (.slice (A 1) (L 1).length (c 1)) := (blk_cell BKgb.out 2).trans rfl; have fgb3 : w1.cell? ⟨gb, 3, none⟩ = some (.slice (A 2) (L 2).length (c 2)) := (blk_cell BKgb.out 3).trans rfl; have fgb4 : w1.cell? ⟨gb, 4, none⟩ = some (.slice (A 3) (L 3).length (c 3)) := (blk_cell BKgb.out 4).trans rfl; have fgb5 : w1.cell? ⟨gb, 5, none⟩ = some (.slice (A 4) (L 4).length (c 4)) := (blk_cell BKgb.out 5).trans rfl; have fgb6 : w1.cell? ⟨gb, 6, none⟩ = some (.slice (A 5) (L 5).length (c 5)) := (blk_cell BKgb.out 6).trans rfl; have fgb7 : w1.cell? ⟨gb, 7, none⟩ = some (.slice (A 6) (L 6).length (c 6)) := (blk_cell BKgb.out 7).trans rfl; have fgb8 : w1.cell? ⟨gb, 8, none⟩ = some (.slice (A 7) (L 7).length (c 7)) := (blk_cell BKgb.out 8).trans rfl; have fgbz0 := blk_frozen BKgb.out 0; have fgbz1 := blk_frozen BKgb.out 1; have fgbz2 := blk_frozen BKgb.out 2; have fgbz3 := blk_frozen BKgb.out 3; have fgbz4 := blk_frozen BKgb.out 4; have fgbz5 := blk_frozen BKgb.out 5; have fgbz6 := blk_frozen BKgb.out 6; have fgbz7 := blk_frozen BKgb.out 7; have fgbz8 := blk_frozen BKgb.out 8; clear n0_ hbox hb hggb) | (go_at_call 53; refine (within_calls _ _ _ _).mono ?_; rintro e w' ⟨rfl, rfl⟩))
    go_ret
    exact RetB.mk rfl (iff_f HF.out) HB.out
  obtain ⟨h21, h22⟩ := h2
  have h2b : withinB ((L 0).length : Int) 1 6 = true := within_t.mpr ⟨h21, h22⟩
  by_cases h3 : ((L 5).length : Int) = 8 * ((L 0).length : Int)
  rotate_left
  · have HF : Aside0 (¬ (SlotsP s L ∧ ListsP L)) := ⟨fun hh => by obtain ⟨a1, a2, a3, a4, a5, a6, a7⟩ := hh.1.1; omega⟩
    have h3b : (((L 5).length : Int) != 8 * ((L 0).length : Int)) = true := bne_iff_ne.mpr h3
    clear h3
    go_enter Try.func49, Try.ntmps49
    go_wp2_with (first | ((with_reducible refine gate_dst (N := 1) rfl ?_); refine box_event rfl (N := 1) rfl (cs := bkCells s A c L) (t := 27) (by first | (go_simp; done) | (go_simp; rfl)) ?_; intro gb hggb w1 hbox hb; have n0_ := Aside0.mk (below_step HB.out hb); have BKgb := Aside0.mk hbox; have HGgb := Aside0.mk (show w.heap.size ≤ gb by rw [hggb]; exact HB.out.size); clear HB; have HB := n0_; have fgbs0 : w1.cell? ⟨gb, 0, none⟩ = some (.int .i64 _) := (blk_cell BKgb.out 0).trans rfl; have fgb1 : w1.cell? ⟨gb, 1, none⟩ = some (.slice (A 0) (L 0).length (c 0)) := (blk_cell BKgb.out 1).trans rfl; have fgb2 : w1.cell? ⟨gb, 2, none⟩ = some (.slice (A 1) (L 1).length (c 1)) := (blk_cell BKgb.out 2).trans rfl; have fgb3 : w1.cell? ⟨gb, 3, none⟩ = some (.slice (A 2) (L 2).length (c 2)) := (blk_cell BKgb.out 3).trans rfl; have fgb4 : w1.cell? ⟨gb, 4, none⟩ = some (.slice (A 3) (L 3).length (c 3)) := (blk_cell BKgb.out 4).trans rfl; have fgb5 : w1.cell? ⟨gb, 5, none⟩ = some (.slice (A 4) (L 4).length (c 4)) := (blk_cell BKgb.out 5).trans rfl; have fgb6 : w1.cell? ⟨gb, 6, none⟩ = some (.slice (A 5) (L 5).length (c 5)) := (blk_cell BKgb.out 6).trans rfl; have fgb7 : w1.cell? ⟨gb, 7, none⟩ = some (.slice (A 6) (L 6).length (c 6)) := (blk_cell BKgb.out 7).trans rfl; have fgb8 : w1.cell? ⟨gb, 8, none⟩ = some (.slice (A 7) (L 7).length (c 7)) := (blk_cell BKgb.out 8).trans rfl; have fgbz0 := blk_frozen BKgb.out 0; have fgbz1 := blk_frozen BKgb.out 1; have fgbz2 := blk_frozen BKgb.out 2; have fgbz3 := blk_frozen BKgb.out 3; have fgbz4 := blk_frozen BKgb.out 4; have fgbz5 := blk_frozen BKgb.out 5; have fgbz6 := blk_frozen BKgb.out 6; have fgbz7 := blk_frozen BKgb.out 7; have fgbz8 := blk_frozen BKgb.out 8; clear n0_ hbox hb hggb) | (go_at_call 53; refine (within_calls _ _ _ _).mono ?_; rintro e w' ⟨rfl, rfl⟩))
    go_ret
    exact RetB.mk rfl (iff_f HF.out) HB.out
  have Hh3 := Aside0.mk h3
  have h3b : (((L 5).length : Int) != 8 * ((L 0).length : Int)) = false := bne_eq_false_iff_eq.mpr h3
  clear h3
  by_cases h4 : ((L 6).length : Int) = s
  rotate_left
  · have HF : Aside0 (¬ (SlotsP s L ∧ ListsP L)) := ⟨fun hh => by obtain ⟨a1, a2, a3, a4, a5, a6, a7⟩ := hh.1.1; exact h4 a3⟩
    have h4b : (((L 6).length : Int) != s) = true := bne_iff_ne.mpr h4
    clear h4
    go_enter Try.func49, Try.ntmps49
    go_wp2_with (first | ((with_reducible refine gate_dst (N := 1) rfl ?_); refine box_event rfl (N := 1) rfl (cs := bkCells s A c L) (t := 27) (by first | (go_simp; done) | (go_simp; rfl)) ?_; intro gb hggb w1 hbox hb; have n0_ := Aside0.mk (below_step HB.out hb); have BKgb := Aside0.mk hbox; have HGgb := Aside0.mk (show w.heap.size ≤ gb by rw [hggb]; exact HB.out.size); clear HB; have HB := n0_; have fgbs0 : w1.cell? ⟨gb, 0, none⟩ = some (.int .i64 _) := (blk_cell BKgb.out 0).trans rfl; have fgb1 : w1.cell? ⟨gb, 1, none⟩ = some (.slice (A 0) (L 0).length (c 0)) := (blk_cell BKgb.out 1).trans rfl; have fgb2 : w1.cell? ⟨gb, 2, none⟩ = some (.slice (A 1) (L 1).length (c 1)) := (blk_cell BKgb.out 2).trans rfl; have fgb3 : w1.cell? ⟨gb, 3, none⟩ = some (.slice (A 2) (L 2).length (c 2)) := (blk_cell BKgb.out 3).trans rfl; have fgb4 : w1.cell? ⟨gb, 4, none⟩ = some (.slice (A 3) (L 3).length (c 3)) := (blk_cell BKgb.out 4).trans rfl; have fgb5 : w1.cell? ⟨gb, 5, none⟩ = some (.slice (A 4) (L 4).length (c 4)) := (blk_cell BKgb.out 5).trans rfl; have fgb6 : w1.cell? ⟨gb, 6, none⟩ = some (.slice (A 5) (L 5).length (c 5)) := (blk_cell BKgb.out 6).trans rfl; have fgb7 : w1.cell? ⟨gb, 7, none⟩ = some (.slice (A 6) (L 6).length (c 6)) := (blk_cell BKgb.out 7).trans rfl; have fgb8 : w1.cell? ⟨gb, 8, none⟩ = some (.slice (A 7) (L 7).length (c 7)) := (blk_cell BKgb.out 8).trans rfl; have fgbz0 := blk_frozen BKgb.out 0; have fgbz1 := blk_frozen BKgb.out 1; have fgbz2 := blk_frozen BKgb.out 2; have fgbz3 := blk_frozen BKgb.out 3; have fgbz4 := blk_frozen BKgb.out 4; have fgbz5 := blk_frozen BKgb.out 5; have fgbz6 := blk_frozen BKgb.out 6; have fgbz7 := blk_frozen BKgb.out 7; have fgbz8 := blk_frozen BKgb.out 8; clear n0_ hbox hb hggb) | (go_at_call 53; refine (within_calls _ _ _ _).mono ?_; rintro e w' ⟨rfl, rfl⟩))
    go_ret
    exact RetB.mk rfl (iff_f HF.out) HB.out
  have Hh4 := Aside0.mk h4
  have h4b : (((L 6).length : Int) != s) = false := bne_eq_false_iff_eq.mpr h4
  clear h4
  by_cases h5 : ((L 7).length : Int) = s
  rotate_left
  · have HF : Aside0 (¬ (SlotsP s L ∧ ListsP L)) := ⟨fun hh => by obtain ⟨a1, a2, a3, a4, a5, a6, a7⟩ := hh.1.1; exact h5 a4⟩
    have h5b : (((L 7).length : Int) != s) = true := bne_iff_ne.mpr h5
    clear h5
    go_enter Try.func49, Try.ntmps49
    go_wp2_with (first | ((with_reducible refine gate_dst (N := 1) rfl ?_); refine box_event rfl (N := 1) rfl (cs := bkCells s A c L) (t := 27) (by first | (go_simp; done) | (go_simp; rfl)) ?_; intro gb hggb w1 hbox hb; have n0_ := Aside0.mk (below_step HB.out hb); have BKgb := Aside0.mk hbox; have HGgb := Aside0.mk (show w.heap.size ≤ gb by rw [hggb]; exact HB.out.size); clear HB; have HB := n0_; have fgbs0 : w1.cell? ⟨gb, 0, none⟩ = some (.int .i64 _) := (blk_cell BKgb.out 0).trans rfl; have fgb1 : w1.cell? ⟨gb, 1, none⟩ = some (.slice (A 0) (L 0).length (c 0)) := (blk_cell BKgb.out 1).trans rfl; have fgb2 : w1.cell? ⟨gb, 2, none⟩ = some (.slice (A 1) (L 1).length (c 1)) := (blk_cell BKgb.out 2).trans rfl; have fgb3 : w1.cell? ⟨gb, 3, none⟩ = some (.slice (A 2) (L 2).length (c 2)) := (blk_cell BKgb.out 3).trans rfl; have fgb4 : w1.cell? ⟨gb, 4, none⟩ = some (.slice (A 3) (L 3).length (c 3)) := (blk_cell BKgb.out 4).trans rfl; have fgb5 : w1.cell? ⟨gb, 5, none⟩ = some (.slice (A 4) (L 4).length (c 4)) := (blk_cell BKgb.out 5).trans rfl; have fgb6 : w1.cell? ⟨gb, 6, none⟩ = some (.slice (A 5) (L 5).length (c 5)) := (blk_cell BKgb.out 6).trans rfl; have fgb7 : w1.cell? ⟨gb, 7, none⟩ = some (.slice (A 6) (L 6).length (c 6)) := (blk_cell BKgb.out 7).trans rfl; have fgb8 : w1.cell? ⟨gb, 8, none⟩ = some (.slice (A 7) (L 7).length (c 7)) := (blk_cell BKgb.out 8).trans rfl; have fgbz0 := blk_frozen BKgb.out 0; have fgbz1 := blk_frozen BKgb.out 1; have fgbz2 := blk_frozen BKgb.out 2; have fgbz3 := blk_frozen BKgb.out 3; have fgbz4 := blk_frozen BKgb.out 4; have fgbz5 := blk_frozen BKgb.out 5; have fgbz6 := blk_frozen BKgb.out 6; have fgbz7 := blk_frozen BKgb.out 7; have fgbz8 := blk_frozen BKgb.out 8; clear n0_ hbox hb hggb) | (go_at_call 53; refine (within_calls _ _ _ _).mono ?_; rintro e w' ⟨rfl, rfl⟩))
    go_ret
    exact RetB.mk rfl (iff_f HF.out) HB.out
  have Hh5 := Aside0.mk h5
  have h5b : (((L 7).length : Int) != s) = false := bne_eq_false_iff_eq.mpr h5
  clear h5
  have HS : Aside0 (SizesP s L) := ⟨⟨by omega, by omega, Hh4.out, Hh5.out, by omega, by omega, by have := Hh3.out; omega⟩⟩
  go_enter Try.func49, Try.ntmps49
  go_wp2_with (first | ((with_reducible refine gate_dst (N := 1) rfl ?_); refine box_event rfl (N := 1) rfl (cs := bkCells s A c L) (t := 27) (by first | (go_simp; done) | (go_simp; rfl)) ?_; intro gb hggb w1 hbox hb; have n0_ := Aside0.mk (below_step HB.out hb); have BKgb := Aside0.mk hbox; have HGgb := Aside0.mk (show w.heap.size ≤ gb by rw [hggb]; exact HB.out.size); clear HB; have HB := n0_; have fgbs0 : w1.cell? ⟨gb, 0, none⟩ = some (.int .i64 _) := (blk_cell BKgb.out 0).trans rfl; have fgb1 : w1.cell? ⟨gb, 1, none⟩ = some (.slice (A 0) (L 0).length (c 0)) := (blk_cell BKgb.out 1).trans rfl; have fgb2 : w1.cell? ⟨gb, 2, none⟩ = some (.slice (A 1) (L 1).length (c 1)) := (blk_cell BKgb.out 2).trans rfl; have fgb3 : w1.cell? ⟨gb, 3, none⟩ = some (.slice (A 2) (L 2).length (c 2)) := (blk_cell BKgb.out 3).trans rfl; have fgb4 : w1.cell? ⟨gb, 4, none⟩ = some (.slice (A 3) (L 3).length (c 3)) := (blk_cell BKgb.out 4).trans rfl; have fgb5 : w1.cell? ⟨gb, 5, none⟩ = some (.slice (A 4) (L 4).length (c 4)) := (blk_cell BKgb.out 5).trans rfl; have fgb6 : w1.cell? ⟨gb, 6, none⟩ = some (.slice (A 5) (L 5).length (c 5)) := (blk_cell BKgb.out 6).trans rfl; have fgb7 : w1.cell? ⟨gb, 7, none⟩ = some (.slice (A 6) (L 6).length (c 6)) := (blk_cell BKgb.out 7).trans rfl; have fgb8 : w1.cell? ⟨gb, 8, none⟩ = some (.slice (A 7) (L 7).length (c 7)) := (blk_cell BKgb.out 8).trans rfl; have fgbz0 := blk_frozen BKgb.out 0; have fgbz1 := blk_frozen BKgb.out 1; have fgbz2 := blk_frozen BKgb.out 2; have fgbz3 := blk_frozen BKgb.out 3; have fgbz4 := blk_frozen BKgb.out 4; have fgbz5 := blk_frozen BKgb.out 5; have fgbz6 := blk_frozen BKgb.out 6; have fgbz7 := blk_frozen BKgb.out 7; have fgbz8 := blk_frozen BKgb.out 8; clear n0_ hbox hb hggb) | (go_at_call 53; refine (within_calls _ _ _ _).mono ?_; rintro e w' ⟨rfl, rfl⟩))
  clear h3b h4b h5b h1b h2b
  go_loopg [51] 5 (fun kq v51 w' => ∃ k : Nat, k ≤ 4 ∧ kq = 5 - k ∧ v51 = .int .i64 k ∧ Aside0 ((k : Int) ≤ s) ∧ Aside0 (∀ j, j < k → SlotU (L 6) (L 7) j) ∧ Aside0 (w'.heap[gb]? = some (.cells (bkCells s A c L) 27 (0, 0))) ∧ Aside0 (Below w.heap.size w w'))
  case atStart => exact ⟨0, by omega, rfl, rfl, ⟨by omega⟩, ⟨fun j hj => by omega⟩, BKgb, HB⟩
  case round =>
    clear HB BKgb
    clear fgbs0 fgbz0 fgb1 fgbz1 fgb2 fgbz2 fgb3 fgbz3 fgb4 fgbz4 fgb5 fgbz5 fgb6 fgbz6 fgb7 fgbz7 fgb8 fgbz8
    obtain ⟨k, hk4, rfl, rfl, HK, HU, BKgb, HB⟩ := hrel
    by_cases hlt : (k : Int) < s
    · have k0 : (0 : Int) ≤ (k : Int) := by omega
      have k6 : (k : Int) < ((L 6).length : Int) := by have := Hh4.out; omega
      have k6n : k < (L 6).length := by omega
      have k7 : (k : Int) < ((L 7).length : Int) := by have := Hh5.out; omega
      obtain ⟨ad6, v, ea6, hx6, HV⟩ := at_v ((HR.out 6 (by omega)).below HB.out) k (by omega)
      obtain ⟨ad7, e, ea7, hx7, HE⟩ := at_v ((HR.out 7 (by omega)).below HB.out) k (by omega)
      have hc8 : wr.cell? ⟨gb, 8, none⟩ = some (.slice (some ad7) (L 7).length (c 7)) := (blk_cell BKgb.out 8).trans (by rw [← ea7]; rfl)
      have hz8 := blk_frozen BKgb.out 8
      clear ea7
      have HE6 := Aside0.mk ea6
      have HSU : Aside0 (SlotU (L 6) (L 7) k ↔ ((0 ≤ v ∧ v ≤ 2) ∧ (0 ≤ e ∧ e ≤ 4095) ∧ ¬ (v ≠ 0 ∧ e = 0))) := ⟨by unfold SlotU; rw [HV.out, HE.out]; exact slot_iff⟩
      by_cases g1 : 0 ≤ v ∧ v ≤ 2
      rotate_left
      · have g1b : withinB v 0 2 = false := within_f g1
        have G1 := Aside0.mk g1
        clear g1
        have HF : Aside0 (¬ (SlotsP s L ∧ ListsP L)) := ⟨fun hh => (fun q => G1.out q.1) (HSU.out.mp (hh.1.2.1 k hlt))⟩
        go_wp2_with (first | (go_at_call 53; refine (within_calls _ _ _ _).mono ?_; rintro e w' ⟨rfl, rfl⟩))
        go_ret
        exact RetB.mk rfl (iff_f HF.out) HB.out
      have G1 := Aside0.mk g1
      have g1b : withinB v 0 2 = true := within_t.mpr g1
      clear g1
      by_cases g2 : 0 ≤ e ∧ e ≤ 4095
      rotate_left
      · have g2b : withinB e 0 4095 = false := within_f g2
        have G2 := Aside0.mk g2
        clear g2
        have HF : Aside0 (¬ (SlotsP s L ∧ ListsP L)) := ⟨fun hh => (fun q => G2.out q.2.1) (HSU.out.mp (hh.1.2.1 k hlt))⟩
        go_wp2_with (first | (go_at_call 53; refine (within_calls _ _ _ _).mono ?_; rintro e w' ⟨rfl, rfl⟩))
        go_ret
        exact RetB.mk rfl (iff_f HF.out) HB.out
      have G2 := Aside0.mk g2
      have g2b : withinB e 0 4095 = true := within_t.mpr g2
      clear g2
      by_cases g3 : v = 0
      · have G3 := Aside0.mk g3
        have g3b : (v != 0) = false := by rw [g3]; rfl
        clear g3
        have HZ : Aside0 (∀ j, j < k + 1 → SlotU (L 6) (L 7) j) := ⟨fun j hj => if q : j < k then HU.out j q else (show k = j by omega) ▸ HSU.out.mpr ⟨G1.out, G2.out, fun q => q.1 G3.out⟩⟩
        go_wp2_with (first | (go_at_call 53; refine (within_calls _ _ _ _).mono ?_; rintro e w' ⟨rfl, rfl⟩))
        try rw [← HE6.out]
        go_roundg (5 - (k + 1))
        case measure => omega
        case rel => exact ⟨k + 1, by omega, rfl, by go_num, ⟨by omega⟩, HZ, BKgb, HB⟩
      have G3 := Aside0.mk g3
      have g3b : (v != 0) = true := bne_iff_ne.mpr g3
      clear g3
      by_cases g4 : e = 0
      · have G4 := Aside0.mk g4
        have g4b : (e == 0) = true := by rw [g4]; rfl
        clear g4
        have HF : Aside0 (¬ (SlotsP s L ∧ ListsP L)) := ⟨fun hh => (fun q => q.2.2 ⟨G3.out, G4.out⟩) (HSU.out.mp (hh.1.2.1 k hlt))⟩
        go_wp2_with (first | (go_at_call 53; refine (within_calls _ _ _ _).mono ?_; rintro e w' ⟨rfl, rfl⟩))
        go_ret
        exact RetB.mk rfl (iff_f HF.out) HB.out
      have G4 := Aside0.mk g4
      have g4b : (e == 0) = false := beq_eq_false_iff_ne.mpr g4
      clear g4
      have HZ : Aside0 (∀ j, j < k + 1 → SlotU (L 6) (L 7) j) := ⟨fun j hj => if q : j < k then HU.out j q else (show k = j by omega) ▸ HSU.out.mpr ⟨G1.out, G2.out, fun q => G4.out q.2⟩⟩
      go_wp2_with (first | (go_at_call 53; refine (within_calls _ _ _ _).mono ?_; rintro e w' ⟨rfl, rfl⟩))
      try rw [← HE6.out]
      go_roundg (5 - (k + 1))
      case measure => omega
      case rel => exact ⟨k + 1, by omega, rfl, by go_num, ⟨by omega⟩, HZ, BKgb, HB⟩
    · have HA : Aside0 (∀ i : Nat, (i : Int) < s → SlotU (L 6) (L 7) i) := ⟨fun i hi => HU.out i (by omega)⟩
      have hnl : ¬ (k : Int) < ((L 6).length : Int) := by have := Hh4.out; omega
      have hnk : ¬ k < (L 6).length := by omega
      have fgbs0 : wr.cell? ⟨gb, 0, none⟩ = some (.int .i64 _) := (blk_cell BKgb.out 0).trans rfl; have fgb1 : wr.cell? ⟨gb, 1, none⟩ = some (.slice (A 0) (L 0).length (c 0)) := (blk_cell BKgb.out 1).trans rfl; have fgb2 : wr.cell? ⟨gb, 2, none⟩ = some (.slice (A 1) (L 1).length (c 1)) := (blk_cell BKgb.out 2).trans rfl; have fgb3 : wr.cell? ⟨gb, 3, none⟩ = some (.slice (A 2) (L 2).length (c 2)) := (blk_cell BKgb.out 3).trans rfl; have fgb4 : wr.cell? ⟨gb, 4, none⟩ = some (.slice (A 3) (L 3).length (c 3)) := (blk_cell BKgb.out 4).trans rfl; have fgb5 : wr.cell? ⟨gb, 5, none⟩ = some (.slice (A 4) (L 4).length (c 4)) := (blk_cell BKgb.out 5).trans rfl; have fgb6 : wr.cell? ⟨gb, 6, none⟩ = some (.slice (A 5) (L 5).length (c 5)) := (blk_cell BKgb.out 6).trans rfl; have fgb7 : wr.cell? ⟨gb, 7, none⟩ = some (.slice (A 6) (L 6).length (c 6)) := (blk_cell BKgb.out 7).trans rfl; have fgb8 : wr.cell? ⟨gb, 8, none⟩ = some (.slice (A 7) (L 7).length (c 7)) := (blk_cell BKgb.out 8).trans rfl; have fgbz0 := blk_frozen BKgb.out 0; have fgbz1 := blk_frozen BKgb.out 1; have fgbz2 := blk_frozen BKgb.out 2; have fgbz3 := blk_frozen BKgb.out 3; have fgbz4 := blk_frozen BKgb.out 4; have fgbz5 := blk_frozen BKgb.out 5; have fgbz6 := blk_frozen BKgb.out 6; have fgbz7 := blk_frozen BKgb.out 7; have fgbz8 := blk_frozen BKgb.out 8
      clear HU HK
      go_wp2
      clear fgbs0 fgbz0 fgb1 fgbz1 fgb2 fgbz2 fgb3 fgbz3 fgb4 fgbz4 fgb5 fgbz5 fgb6 fgbz6 fgb7 fgbz7 fgb8 fgbz8
      obtain ⟨wo, rfl⟩ : ∃ wo : World, wo = wr := ⟨_, rfl⟩
      go_loopg [84] ((L 5).length + 1) (fun kq v84 w' => ∃ u : Nat, u ≤ (L 5).length ∧ kq = (L 5).length + 1 - u ∧ v84 = .int .i64 u ∧ Aside0 (∀ j, j < u → UnitU s (L 6) (L 5) j) ∧ Aside0 (w'.heap[gb]? = some (.cells (bkCells s A c L) 27 (0, 0))) ∧ Aside0 (Below w.heap.size w w'))
      case atStart => exact ⟨0, by omega, rfl, rfl, ⟨fun j hj => by omega⟩, BKgb, HB⟩
      case round =>
        clear HB BKgb
        obtain ⟨u, hu5, rfl, rfl, HU, BKgb, HB⟩ := hrel
        by_cases hlt5 : u < (L 5).length
        · have u0 : (0 : Int) ≤ (u : Int) := by omega
          have u5 : (u : Int) < ((L 5).length : Int) := by omega
          obtain ⟨ad5, o, ea5, hx5, HO⟩ := at_v ((HR.out 5 (by omega)).below HB.out) u hlt5
          have HUU : Aside0 (UnitU s (L 6) (L 5) u ↔ (o = 0 ∨ InP s (L 6) (o - 1))) := ⟨by
            unfold UnitU InP
            rw [HO.out]
            by_cases e0 : o = 0
            · subst e0; simp; omega
            · constructor
              · rintro ⟨q1, q2, q3⟩; exact Or.inr ⟨by omega, by omega, fun q => q3 ⟨by omega, q⟩⟩
              · rintro (q | ⟨q1, q2, q3⟩)
                · exact absurd q e0
                · exact ⟨by omega, by omega, fun q => q3 q.2⟩⟩
          have HE5 := Aside0.mk ea5
          by_cases g1 : o = 0
          · have HZ : Aside0 (∀ j, j < u + 1 → UnitU s (L 6) (L 5) j) := ⟨fun j hj => if q : j < u then HU.out j q else (show u = j by omega) ▸ HUU.out.mpr (Or.inl g1)⟩
            have g1b : (o != 0) = false := by rw [g1]; rfl
            clear g1
            go_wp2
            try rw [← HE5.out]
            go_roundg ((L 5).length + 1 - (u + 1))
            case measure => omega
            case rel => exact ⟨u + 1, by omega, rfl, by go_num, HZ, BKgb, HB⟩
          · have G1 := Aside0.mk g1
            have g1b : (o != 0) = true := bne_iff_ne.mpr g1
            clear g1
            have fgbs0 : wr.cell? ⟨gb, 0, none⟩ = some (.int .i64 _) := (blk_cell BKgb.out 0).trans rfl; have fgb1 : wr.cell? ⟨gb, 1, none⟩ = some (.slice (A 0) (L 0).length (c 0)) := (blk_cell BKgb.out 1).trans rfl; have fgb2 : wr.cell? ⟨gb, 2, none⟩ = some (.slice (A 1) (L 1).length (c 1)) := (blk_cell BKgb.out 2).trans rfl; have fgb3 : wr.cell? ⟨gb, 3, none⟩ = some (.slice (A 2) (L 2).length (c 2)) := (blk_cell BKgb.out 3).trans rfl; have fgb4 : wr.cell? ⟨gb, 4, none⟩ = some (.slice (A 3) (L 3).length (c 3)) := (blk_cell BKgb.out 4).trans rfl; have fgb5 : wr.cell? ⟨gb, 5, none⟩ = some (.slice (A 4) (L 4).length (c 4)) := (blk_cell BKgb.out 5).trans rfl; have fgb6 : wr.cell? ⟨gb, 6, none⟩ = some (.slice (A 5) (L 5).length (c 5)) := (blk_cell BKgb.out 6).trans rfl; have fgb7 : wr.cell? ⟨gb, 7, none⟩ = some (.slice (A 6) (L 6).length (c 6)) := (blk_cell BKgb.out 7).trans rfl; have fgb8 : wr.cell? ⟨gb, 8, none⟩ = some (.slice (A 7) (L 7).length (c 7)) := (blk_cell BKgb.out 8).trans rfl; have fgbz0 := blk_frozen BKgb.out 0; have fgbz1 := blk_frozen BKgb.out 1; have fgbz2 := blk_frozen BKgb.out 2; have fgbz3 := blk_frozen BKgb.out 3; have fgbz4 := blk_frozen BKgb.out 4; have fgbz5 := blk_frozen BKgb.out 5; have fgbz6 := blk_frozen BKgb.out 6; have fgbz7 := blk_frozen BKgb.out 7; have fgbz8 := blk_frozen BKgb.out 8
            clear fgb6 fgbz6
            have fgb6 : wr.cell? ⟨gb, 6, none⟩ = some (.slice (A 5) (L 5).length (c 5)) := (blk_cell BKgb.out 6).trans rfl
            have fgbz6 := blk_frozen BKgb.out 6
            go_wp2_with fail
            try rw [← HE5.out]
            refine (isIn_calls s A c L (wrap64 (o - 1)) _ (HR.out.below HB.out) (by omega) (by omega) Hh4.out).mono ?_
            rintro e w3 ⟨r, rfl, hr, hb⟩
            have HRR : Aside0 (r = true ↔ InP s (L 6) (o - 1)) := ⟨hr.trans (inP_wrap (by rw [← HO.out]; exact (HW5.out u).1) (by rw [← HO.out]; exact (HW5.out u).2) (by omega))⟩
            have HB3 := Aside0.mk (below_step HB.out hb)
            have BK3 := Aside0.mk (blk_below BKgb.out hb)
            clear hr hb HB BKgb hx5 ea5
            clear fgbs0 fgbz0 fgb1 fgbz1 fgb2 fgbz2 fgb3 fgbz3 fgb4 fgbz4 fgb5 fgbz5 fgb6 fgbz6 fgb7 fgbz7 fgb8 fgbz8
            cases r with
            | false =>
              have HF : Aside0 (¬ (SlotsP s L ∧ ListsP L)) := ⟨fun hh => by
                rcases HUU.out.mp (hh.1.2.2 u hlt5) with q | q
                · exact G1.out q
                · have := HRR.out.mpr q; cases this⟩
              go_wp2
              go_ret
              exact RetB.mk rfl (iff_f HF.out) HB3.out
            | true =>
              have HZ : Aside0 (∀ j, j < u + 1 → UnitU s (L 6) (L 5) j) := ⟨fun j hj => if q : j < u then HU.out j q else (show u = j by omega) ▸ HUU.out.mpr (Or.inr (HRR.out.mp rfl))⟩
              go_wp2
              try rw [← HE5.out]
              go_roundg ((L 5).length + 1 - (u + 1))
              case measure => omega
              case rel => exact ⟨u + 1, by omega, rfl, by go_num, HZ, BK3, HB3⟩
        · have HSP : Aside0 (SlotsP s L) := ⟨⟨HS.out, HA.out, fun j hj => HU.out j (by omega)⟩⟩
          have fgbs0 : wr.cell? ⟨gb, 0, none⟩ = some (.int .i64 _) := (blk_cell BKgb.out 0).trans rfl; have fgb1 : wr.cell? ⟨gb, 1, none⟩ = some (.slice (A 0) (L 0).length (c 0)) := (blk_cell BKgb.out 1).trans rfl; have fgb2 : wr.cell? ⟨gb, 2, none⟩ = some (.slice (A 1) (L 1).length (c 1)) := (blk_cell BKgb.out 2).trans rfl; have fgb3 : wr.cell? ⟨gb, 3, none⟩ = some (.slice (A 2) (L 2).length (c 2)) := (blk_cell BKgb.out 3).trans rfl; have fgb4 : wr.cell? ⟨gb, 4, none⟩ = some (.slice (A 3) (L 3).length (c 3)) := (blk_cell BKgb.out 4).trans rfl; have fgb5 : wr.cell? ⟨gb, 5, none⟩ = some (.slice (A 4) (L 4).length (c 4)) := (blk_cell BKgb.out 5).trans rfl; have fgb6 : wr.cell? ⟨gb, 6, none⟩ = some (.slice (A 5) (L 5).length (c 5)) := (blk_cell BKgb.out 6).trans rfl; have fgb7 : wr.cell? ⟨gb, 7, none⟩ = some (.slice (A 6) (L 6).length (c 6)) := (blk_cell BKgb.out 7).trans rfl; have fgb8 : wr.cell? ⟨gb, 8, none⟩ = some (.slice (A 7) (L 7).length (c 7)) := (blk_cell BKgb.out 8).trans rfl; have fgbz0 := blk_frozen BKgb.out 0; have fgbz1 := blk_frozen BKgb.out 1; have fgbz2 := blk_frozen BKgb.out 2; have fgbz3 := blk_frozen BKgb.out 3; have fgbz4 := blk_frozen BKgb.out 4; have fgbz5 := blk_frozen BKgb.out 5; have fgbz6 := blk_frozen BKgb.out 6; have fgbz7 := blk_frozen BKgb.out 7; have fgbz8 := blk_frozen BKgb.out 8
          clear HU
          go_wp2
          clear fgbs0 fgbz0 fgb1 fgbz1 fgb2 fgbz2 fgb3 fgbz3 fgb4 fgbz4 fgb5 fgbz5 fgb6 fgbz6 fgb7 fgbz7 fgb8 fgbz8
          obtain ⟨wp, rfl⟩ : ∃ wp : World, wp = wr := ⟨_, rfl⟩
          go_loopg [100] 5 (fun kq v100 w' => ∃ k : Nat, k ≤ 4 ∧ kq = 5 - k ∧ v100 = .int .i64 k ∧ Aside0 (∀ j, j < k → ListP (L 0) (L 5) (L (j + 1)) j) ∧ Aside0 (w'.heap[gb]? = some (.cells (bkCells s A c L) 27 (0, 0))) ∧ Aside0 (Below w.heap.size w w'))
          case atStart => exact ⟨0, by omega, rfl, rfl, ⟨fun j hj => by omega⟩, BKgb, HB⟩
          case round =>
            clear HB BKgb
            obtain ⟨k, hk4, rfl, rfl, HU, BKgb, HB⟩ := hrel
            by_cases hltk : k < 4
            · have hi4 : (k : Int) < 4 := by omega
              have hax := index4 A c L k hltk
              have hc6 : wr.cell? ⟨gb, 6, none⟩ = some (.slice (A 5) (L 5).length (c 5)) := (blk_cell BKgb.out 6).trans rfl
              have hz6 := blk_frozen BKgb.out 6
              by_cases hlen : (L (k + 1)).length > (L 5).length
              · have HF : Aside0 (¬ (SlotsP s L ∧ ListsP L)) := ⟨fun hh => by have := (hh.2 k hltk).1; omega⟩
                have hlen' : ((L 5).length : Int) < ((L (k + 1)).length : Int) := by omega
                go_wp2
                go_ret
                exact RetB.mk rfl (iff_f HF.out) HB.out
              · have hlen' : ¬ ((L 5).length : Int) < ((L (k + 1)).length : Int) := by omega
                have HLE : Aside0 ((L (k + 1)).length ≤ (L 5).length) := ⟨by omega⟩
                have hlk : ((L (k + 1)).length : Int) ≤ 35184372088832 := by have := HL.out (k + 1); omega
                go_wp2
                clear hlen hlen' hc6 hz6
                obtain ⟨wq, rfl⟩ : ∃ wq : World, wq = wr := ⟨_, rfl⟩
                go_loopg [112] ((L (k + 1)).length + 1) (fun kq v112 w' => ∃ i : Nat, i ≤ (L (k + 1)).length ∧ kq = (L (k + 1)).length + 1 - i ∧ v112 = .int .i64 i ∧ Aside0 (∀ j, j < i → EntryU (L 0) (L 5) (L (k + 1)) k j) ∧ Aside0 (w'.heap[gb]? = some (.cells (bkCells s A c L) 27 (0, 0))) ∧ Aside0 (Below w.heap.size w w'))
                case atStart => exact ⟨0, by omega, rfl, rfl, ⟨fun j hj => by omega⟩, BKgb, HB⟩
                case round =>
                  clear HB BKgb hax
                  obtain ⟨i, hil, rfl, rfl, HI, BKgb, HB⟩ := hrel
                  by_cases hlti : i < (L (k + 1)).length
                  · have i0 : (0 : Int) ≤ (i : Int) := by omega
                    have i1 : (i : Int) < ((L (k + 1)).length : Int) := by omega
                    obtain ⟨adk, a, eak, hxk, HAk⟩ := at_v ((HR.out (k + 1) (by omega)).below HB.out) i hlti
                    have HEK := Aside0.mk eak
                    have hc6 : wr.cell? ⟨gb, 6, none⟩ = some (.slice (A 5) (L 5).length (c 5)) := (blk_cell BKgb.out 6).trans rfl
                    have hz6 := blk_frozen BKgb.out 6
                    have HE : Aside0 (EntryU (L 0) (L 5) (L (k + 1)) k i ↔ ((0 ≤ a ∧ a ≤ ((L 5).length : Int) - 1) ∧ a % (sizeN k : Int) = 0 ∧ (L 0).getD (a / 8).toNat 0 = (k : Int) + 1)) := ⟨by
                      unfold EntryU
                      rw [HAk.out, kind_iff]
                      have hz := sizeN_pos' k
                      have hm := Int.emod_nonneg a (show (sizeN k : Int) ≠ 0 by omega)
                      constructor
                      · rintro ⟨q1, q2, q3, q4⟩; exact ⟨⟨by omega, by omega⟩, by omega, q3.2⟩
                      · rintro ⟨q1, q2, q3⟩; exact ⟨by omega, by omega, ⟨hltk, q3⟩, by omega⟩⟩
                    by_cases g1 : 0 ≤ a ∧ a ≤ ((L 5).length : Int) - 1
                    rotate_left
                    · have HF : Aside0 (¬ (SlotsP s L ∧ ListsP L)) := ⟨fun hh => g1 (HE.out.mp ((hh.2 k hltk).2 i hlti)).1⟩
                      have g1b : withinB a 0 (((L 5).length : Int) - 1) = false := within_f g1
                      clear g1
                      go_wp2_with (first | (go_at_call 53; refine (within_calls _ _ _ _).mono ?_; rintro e w' ⟨rfl, rfl⟩))
                      go_ret
                      exact RetB.mk rfl (iff_f HF.out) HB.out
                    have g1b : withinB a 0 (((L 5).length : Int) - 1) = true := within_t.mpr g1
                    have G1 := Aside0.mk g1
                    obtain ⟨a0, a1⟩ := g1
                    have aM : a ≤ 35184372088832 := by omega
                    have hdv : wrap64 (a.tdiv 8) = a / 8 := by rw [Int.tdiv_eq_ediv_of_nonneg a0]; unfold wrap64; omega
                    have a8 : (0 : Int) ≤ a / 8 := by omega
                    have a9 : a / 8 < ((L 0).length : Int) := by have := Hh3.out; omega
                    obtain ⟨ad0, q, ea0, hx0, HQ⟩ := at_v ((HR.out 0 (by omega)).below HB.out) (a / 8).toNat (by omega)
                    have hc1 : wr.cell? ⟨gb, 1, none⟩ = some (.slice (some ad0) (L 0).length (c 0)) := (blk_cell BKgb.out 1).trans (by rw [← ea0]; rfl)
                    have hz1 := blk_frozen BKgb.out 1
                    clear ea0
                    go_wp2_with (first | (go_at_call 53; refine (within_calls _ _ _ _).mono ?_; rintro e w' ⟨rfl, rfl⟩))
                    refine (unitsOf_calls k hltk _).mono ?_
                    rintro e w2 ⟨rfl, rfl⟩
                    obtain ⟨z, hz⟩ : ∃ z : Nat, sizeN k = z := ⟨_, rfl⟩
                    have HZ := Aside0.mk hz
                    have z0 : (0 : Int) < (z : Int) := by have := sizeN_pos k; omega
                    rw [hz]
                    clear hz
                    have hzb : ((z : Int) == 0) = false := by rw [beq_eq_false_iff_ne]; omega
                    by_cases g2 : a % (z : Int) = 0
                    rotate_left
                    · have HF : Aside0 (¬ (SlotsP s L ∧ ListsP L)) := ⟨fun hh => g2 (by rw [← HZ.out]; exact (HE.out.mp ((hh.2 k hltk).2 i hlti)).2.1)⟩
                      have g2b : (a % (z : Int) != 0) = true := bne_iff_ne.mpr g2
                      clear g2
                      go_wp2
                      go_ret
                      exact RetB.mk rfl (iff_f HF.out) HB.out
                    have G2 := Aside0.mk g2
                    have g2b : (a % (z : Int) != 0) = false := bne_eq_false_iff_eq.mpr g2
                    clear g2
                    by_cases g3 : q = (k : Int) + 1
                    rotate_left
                    · have HF : Aside0 (¬ (SlotsP s L ∧ ListsP L)) := ⟨fun hh => g3 (by rw [← HQ.out]; exact (HE.out.mp ((hh.2 k hltk).2 i hlti)).2.2)⟩
                      have g3b : (q != (k : Int) + 1) = true := bne_iff_ne.mpr g3
                      clear g3
                      go_wp2
                      go_ret
                      exact RetB.mk rfl (iff_f HF.out) HB.out
                    have G3 := Aside0.mk g3
                    have g3b : (q != (k : Int) + 1) = false := bne_eq_false_iff_eq.mpr g3
                    clear g3
                    have HI2 : Aside0 (∀ j, j < i + 1 → EntryU (L 0) (L 5) (L (k + 1)) k j) := ⟨fun j hj => if p : j < i then HI.out j p else (show i = j by omega) ▸ HE.out.mpr ⟨G1.out, by rw [HZ.out]; exact G2.out, by rw [HQ.out]; exact G3.out⟩⟩
                    go_wp2
                    try rw [← HEK.out]
                    go_roundg ((L (k + 1)).length + 1 - (i + 1))
                    case measure => omega
                    case rel => exact ⟨i + 1, by omega, rfl, by go_num, HI2, BKgb, HB⟩
                  · have HU2 : Aside0 (∀ j, j < k + 1 → ListP (L 0) (L 5) (L (j + 1)) j) := ⟨fun j hj => if p : j < k then HU.out j p else (show k = j by omega) ▸ ⟨HLE.out, fun x hx => HI.out x (by omega)⟩⟩
                    have hni : ¬ (i : Int) < ((L (k + 1)).length : Int) := by omega
                    go_wp2
                    go_roundg (5 - (k + 1))
                    case measure => omega
                    case rel => exact ⟨k + 1, by omega, rfl, by go_num, HU2, BKgb, HB⟩
            · have HF : Aside0 (SlotsP s L ∧ ListsP L) := ⟨⟨HSP.out, fun j hj => HU.out j (by omega)⟩⟩
              go_wp2
              go_ret
              exact RetB.mk rfl (iff_t HF.out) HB.out
end Go.Proofs.Ytekneicikmaplaa.Bk

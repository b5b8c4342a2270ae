/- The reference's look at a book's slots: a walk. -/
import Derived.Test.YtekneicikmaplaaBk10
set_option linter.unusedVariables false
set_option linter.unusedSimpArgs false
namespace Go.Proofs.Ytekneicikmaplaa.Bk
open Go.RowKit Go.Proofs.YtekneicikmaplaaW.PrintWords Go.Proofs.YtekneicikmaplaaW.PrintLast Go.Proofs.YtekneicikmaplaaW.PrintMore

def SlotU (I E : List Int) (i : Nat) : Prop := ¬ I.getD i 0 < 0 ∧ ¬ I.getD i 0 > 2 ∧ ¬ E.getD i 0 < 0 ∧ ¬ E.getD i 0 > 4095 ∧ ¬ (E.getD i 0 = 0 ∧ I.getD i 0 > 0)
def UnitU (s : Int) (I O : List Int) (u : Nat) : Prop := ¬ O.getD u 0 < 0 ∧ ¬ O.getD u 0 > s ∧ ¬ (O.getD u 0 > 0 ∧ I.getD (O.getD u 0 - 1).toNat 0 = 0)
def SizesP (s : Int) (L : Nat → List Int) : Prop := ¬ s < 1 ∧ ¬ s > 4 ∧ ((L 6).length : Int) = s ∧ ((L 7).length : Int) = s ∧ ¬ ((L 0).length : Int) < 1 ∧ ¬ ((L 0).length : Int) > 6 ∧ ((L 5).length : Int) = ((L 0).length : Int) * 8
def SlotsP (s : Int) (L : Nat → List Int) : Prop := SizesP s L ∧ (∀ i : Nat, (i : Int) < s → SlotU (L 6) (L 7) i) ∧ ∀ u, u < (L 5).length → UnitU s (L 6) (L 5) u
set_option maxHeartbeats 4000000 in
set_option maxRecDepth 100000 in
theorem l3Slots_calls (s : Int) (A : Nat → Option Addr) (c : Nat → Nat) (L : Nat → List Int) (w : World) (h : BkC w A c L) (hl : ∀ i, (L i).length ≤ 35184372088832) :
    Calls Try.prog 46 #[.agg (bkCells s A c L)] w (RetB (SlotsP s L) w) := by
  have HR := Aside0.mk h
  have HL := Aside0.mk hl
  have hl0 : ((L 0).length : Int) ≤ 35184372088832 := by have := hl 0; omega
  have hl5 : ((L 5).length : Int) ≤ 35184372088832 := by have := hl 5; omega
  clear h hl
  have HB := Aside0.mk (Below.refl w.heap.size w)
  by_cases h1 : s < 1
  · have HF : Aside0 (¬ SlotsP s L) := ⟨fun hh => hh.1.1 h1⟩
    go_enter Try.func46, Try.ntmps46
    go_wp2_with (first | ((with_reducible refine gate_dst (N := 1) rfl ?_); refine box_event rfl (N := 1) rfl (cs := bkCells s A c L) (t := 27) (by first | (go_simp; done) | (go_simp; rfl)) ?_; intro gb hggb w1 hbox hb; have n0_ := Aside0.mk (below_step HB.out hb); have BKgb := Aside0.mk hbox; have HGgb := Aside0.mk (show w.heap.size ≤ gb by rw [hggb]; exact HB.out.size); clear HB; have HB := n0_; have fgbs0 : w1.cell? ⟨gb, 0, none⟩ = some (.int .i64 _) := (blk_cell BKgb.out 0).trans rfl; have fgb1 : w1.cell? ⟨gb, 1, none⟩ = some (.slice (A 0) (L 0).length (c 0)) := (blk_cell BKgb.out 1).trans rfl; have fgb2 : w1.cell? ⟨gb, 2, none⟩ = some (.slice (A 1) (L 1).length (c 1)) := (blk_cell BKgb.out 2).trans rfl; have fgb3 : w1.cell? ⟨gb, 3, none⟩ = some (.slice (A 2) (L 2).length (c 2)) := (blk_cell BKgb.out 3).trans rfl; have fgb4 : w1.cell? ⟨gb, 4, none⟩ = some (.slice (A 3) (L 3).length (c 3)) := (blk_cell BKgb.out 4).trans rfl; have fgb5 : w1.cell? ⟨gb, 5, none⟩ = some (.slice (A 4) (L 4).length (c 4)) := (blk_cell BKgb.out 5).trans rfl; have fgb6 : w1.cell? ⟨gb, 6, none⟩ = some (.slice (A 5) (L 5).length (c 5)) := (blk_cell BKgb.out 6).trans rfl; have fgb7 : w1.cell? ⟨gb, 7, none⟩ = some (.slice (A 6) (L 6).length (c 6)) := (blk_cell BKgb.out 7).trans rfl; have fgb8 : w1.cell? ⟨gb, 8, none⟩ = some (.slice (A 7) (L 7).length (c 7)) := (blk_cell BKgb.out 8).trans rfl; have fgbz0 := blk_frozen BKgb.out 0; have fgbz1 := blk_frozen BKgb.out 1; have fgbz2 := blk_frozen BKgb.out 2; have fgbz3 := blk_frozen BKgb.out 3; have fgbz4 := blk_frozen BKgb.out 4; have fgbz5 := blk_frozen BKgb.out 5; have fgbz6 := blk_frozen BKgb.out 6; have fgbz7 := blk_frozen BKgb.out 7; have fgbz8 := blk_frozen BKgb.out 8; clear n0_ hbox hb hggb))
    go_ret
    exact RetB.mk rfl (iff_f HF.out) HB.out
  have Hh1 := Aside0.mk h1
  by_cases h2 : s > 4
  · have HF : Aside0 (¬ SlotsP s L) := ⟨fun hh => hh.1.2.1 h2⟩
    go_enter Try.func46, Try.ntmps46
    go_wp2_with (first | ((with_reducible refine gate_dst (N := 1) rfl ?_); refine box_event rfl (N := 1) rfl (cs := bkCells s A c L) (t := 27) (by first | (go_simp; done) | (go_simp; rfl)) ?_; intro gb hggb w1 hbox hb; have n0_ := Aside0.mk (below_step HB.out hb); have BKgb := Aside0.mk hbox; have HGgb := Aside0.mk (show w.heap.size ≤ gb by rw [hggb]; exact HB.out.size); clear HB; have HB := n0_; have fgbs0 : w1.cell? ⟨gb, 0, none⟩ = some (.int .i64 _) := (blk_cell BKgb.out 0).trans rfl; have fgb1 : w1.cell? ⟨gb, 1, none⟩ = some (.slice (A 0) (L 0).length (c 0)) := (blk_cell BKgb.out 1).trans rfl; have fgb2 : w1.cell? ⟨gb, 2, none⟩ = some (.slice (A 1) (L 1).length (c 1)) := (blk_cell BKgb.out 2).trans rfl; have fgb3 : w1.cell? ⟨gb, 3, none⟩ = some (.slice (A 2) (L 2).length (c 2)) := (blk_cell BKgb.out 3).trans rfl; have fgb4 : w1.cell? ⟨gb, 4, none⟩ = some (.slice (A 3) (L 3).length (c 3)) := (blk_cell BKgb.out 4).trans rfl; have fgb5 : w1.cell? ⟨gb, 5, none⟩ = some (.slice (A 4) (L 4).length (c 4)) := (blk_cell BKgb.out 5).trans rfl; have fgb6 : w1.cell? ⟨gb, 6, none⟩ = some (.slice (A 5) (L 5).length (c 5)) := (blk_cell BKgb.out 6).trans rfl; have fgb7 : w1.cell? ⟨gb, 7, none⟩ = some (.slice (A 6) (L 6).length (c 6)) := (blk_cell BKgb.out 7).trans rfl; have fgb8 : w1.cell? ⟨gb, 8, none⟩ = some (.slice (A 7) (L 7).length (c 7)) := (blk_cell BKgb.out 8).trans rfl; have fgbz0 := blk_frozen BKgb.out 0; have fgbz1 := blk_frozen BKgb.out 1; have fgbz2 := blk_frozen BKgb.out 2; have fgbz3 := blk_frozen BKgb.out 3; have fgbz4 := blk_frozen BKgb.out 4; have fgbz5 := blk_frozen BKgb.out 5; have fgbz6 := blk_frozen BKgb.out 6; have fgbz7 := blk_frozen BKgb.out 7; have fgbz8 := blk_frozen BKgb.out 8; clear n0_ hbox hb hggb))
    go_ret
    exact RetB.mk rfl (iff_f HF.out) HB.out
  have Hh2 := Aside0.mk h2
  by_cases h3 : ((L 6).length : Int) = s
  rotate_left
  · have HF : Aside0 (¬ SlotsP s L) := ⟨fun hh => h3 hh.1.2.2.1⟩
    have h3b : (((L 6).length : Int) != s) = true := bne_iff_ne.mpr h3
    clear h3
    go_enter Try.func46, Try.ntmps46
    go_wp2_with (first | ((with_reducible refine gate_dst (N := 1) rfl ?_); refine box_event rfl (N := 1) rfl (cs := bkCells s A c L) (t := 27) (by first | (go_simp; done) | (go_simp; rfl)) ?_; intro gb hggb w1 hbox hb; have n0_ := Aside0.mk (below_step HB.out hb); have BKgb := Aside0.mk hbox; have HGgb := Aside0.mk (show w.heap.size ≤ gb by rw [hggb]; exact HB.out.size); clear HB; have HB := n0_; have fgbs0 : w1.cell? ⟨gb, 0, none⟩ = some (.int .i64 _) := (blk_cell BKgb.out 0).trans rfl; have fgb1 : w1.cell? ⟨gb, 1, none⟩ = some (.slice (A 0) (L 0).length (c 0)) := (blk_cell BKgb.out 1).trans rfl; have fgb2 : w1.cell? ⟨gb, 2, none⟩ = some (.slice (A 1) (L 1).length (c 1)) := (blk_cell BKgb.out 2).trans rfl; have fgb3 : w1.cell? ⟨gb, 3, none⟩ = some (.slice (A 2) (L 2).length (c 2)) := (blk_cell BKgb.out 3).trans rfl; have fgb4 : w1.cell? ⟨gb, 4, none⟩ = some (.slice (A 3) (L 3).length (c 3)) := (blk_cell BKgb.out 4).trans rfl; have fgb5 : w1.cell? ⟨gb, 5, none⟩ = some (.slice (A 4) (L 4).length (c 4)) := (blk_cell BKgb.out 5).trans rfl; have fgb6 : w1.cell? ⟨gb, 6, none⟩ = some (.slice (A 5) (L 5).length (c 5)) := (blk_cell BKgb.out 6).trans rfl; have fgb7 : w1.cell? ⟨gb, 7, none⟩ = some (.slice (A 6) (L 6).length (c 6)) := (blk_cell BKgb.out 7).trans rfl; have fgb8 : w1.cell? ⟨gb, 8, none⟩ = some (.slice (A 7) (L 7).length (c 7)) := (blk_cell BKgb.out 8).trans rfl; have fgbz0 := blk_frozen BKgb.out 0; have fgbz1 := blk_frozen BKgb.out 1; have fgbz2 := blk_frozen BKgb.out 2; have fgbz3 := blk_frozen BKgb.out 3; have fgbz4 := blk_frozen BKgb.out 4; have fgbz5 := blk_frozen BKgb.out 5; have fgbz6 := blk_frozen BKgb.out 6; have fgbz7 := blk_frozen BKgb.out 7; have fgbz8 := blk_frozen BKgb.out 8; clear n0_ hbox hb hggb))
    go_ret
    exact RetB.mk rfl (iff_f HF.out) HB.out
  have Hh3 := Aside0.mk h3
  have h3b : (((L 6).length : Int) != s) = false := bne_eq_false_iff_eq.mpr h3
  clear h3
  by_cases h4 : ((L 7).length : Int) = s
  rotate_left
  · have HF : Aside0 (¬ SlotsP s L) := ⟨fun hh => h4 hh.1.2.2.2.1⟩
    have h4b : (((L 7).length : Int) != s) = true := bne_iff_ne.mpr h4
    clear h4
    go_enter Try.func46, Try.ntmps46
    go_wp2_with (first | ((with_reducible refine gate_dst (N := 1) rfl ?_); refine box_event rfl (N := 1) rfl (cs := bkCells s A c L) (t := 27) (by first | (go_simp; done) | (go_simp; rfl)) ?_; intro gb hggb w1 hbox hb; have n0_ := Aside0.mk (below_step HB.out hb); have BKgb := Aside0.mk hbox; have HGgb := Aside0.mk (show w.heap.size ≤ gb by rw [hggb]; exact HB.out.size); clear HB; have HB := n0_; have fgbs0 : w1.cell? ⟨gb, 0, none⟩ = some (.int .i64 _) := (blk_cell BKgb.out 0).trans rfl; have fgb1 : w1.cell? ⟨gb, 1, none⟩ = some (.slice (A 0) (L 0).length (c 0)) := (blk_cell BKgb.out 1).trans rfl; have fgb2 : w1.cell? ⟨gb, 2, none⟩ = some (.slice (A 1) (L 1).length (c 1)) := (blk_cell BKgb.out 2).trans rfl; have fgb3 : w1.cell? ⟨gb, 3, none⟩ = some (.slice (A 2) (L 2).length (c 2)) := (blk_cell BKgb.out 3).trans rfl; have fgb4 : w1.cell? ⟨gb, 4, none⟩ = some (.slice (A 3) (L 3).length (c 3)) := (blk_cell BKgb.out 4).trans rfl; have fgb5 : w1.cell? ⟨gb, 5, none⟩ = some (.slice (A 4) (L 4).length (c 4)) := (blk_cell BKgb.out 5).trans rfl; have fgb6 : w1.cell? ⟨gb, 6, none⟩ = some (.slice (A 5) (L 5).length (c 5)) := (blk_cell BKgb.out 6).trans rfl; have fgb7 : w1.cell? ⟨gb, 7, none⟩ = some (.slice (A 6) (L 6).length (c 6)) := (blk_cell BKgb.out 7).trans rfl; have fgb8 : w1.cell? ⟨gb, 8, none⟩ = some (.slice (A 7) (L 7).length (c 7)) := (blk_cell BKgb.out 8).trans rfl; have fgbz0 := blk_frozen BKgb.out 0; have fgbz1 := blk_frozen BKgb.out 1; have fgbz2 := blk_frozen BKgb.out 2; have fgbz3 := blk_frozen BKgb.out 3; have fgbz4 := blk_frozen BKgb.out 4; have fgbz5 := blk_frozen BKgb.out 5; have fgbz6 := blk_frozen BKgb.out 6; have fgbz7 := blk_frozen BKgb.out 7; have fgbz8 := blk_frozen BKgb.out 8; clear n0_ hbox hb hggb))
    go_ret
    exact RetB.mk rfl (iff_f HF.out) HB.out
  have Hh4 := Aside0.mk h4
  have h4b : (((L 7).length : Int) != s) = false := bne_eq_false_iff_eq.mpr h4
  clear h4
  by_cases h5 : ((L 0).length : Int) < 1
  · have HF : Aside0 (¬ SlotsP s L) := ⟨fun hh => hh.1.2.2.2.2.1 h5⟩
    go_enter Try.func46, Try.ntmps46
    go_wp2_with (first | ((with_reducible refine gate_dst (N := 1) rfl ?_); refine box_event rfl (N := 1) rfl (cs := bkCells s A c L) (t := 27) (by first | (go_simp; done) | (go_simp; rfl)) ?_; intro gb hggb w1 hbox hb; have n0_ := Aside0.mk (below_step HB.out hb); have BKgb := Aside0.mk hbox; have HGgb := Aside0.mk (show w.heap.size ≤ gb by rw [hggb]; exact HB.out.size); clear HB; have HB := n0_; have fgbs0 : w1.cell? ⟨gb, 0, none⟩ = some (.int .i64 _) := (blk_cell BKgb.out 0).trans rfl; have fgb1 : w1.cell? ⟨gb, 1, none⟩ = some (.slice (A 0) (L 0).length (c 0)) := (blk_cell BKgb.out 1).trans rfl; have fgb2 : w1.cell? ⟨gb, 2, none⟩ = some (.slice (A 1) (L 1).length (c 1)) := (blk_cell BKgb.out 2).trans rfl; have fgb3 : w1.cell? ⟨gb, 3, none⟩ = some (.slice (A 2) (L 2).length (c 2)) := (blk_cell BKgb.out 3).trans rfl; have fgb4 : w1.cell? ⟨gb, 4, none⟩ = some (.slice (A 3) (L 3).length (c 3)) := (blk_cell BKgb.out 4).trans rfl; have fgb5 : w1.cell? ⟨gb, 5, none⟩ = some (.slice (A 4) (L 4).length (c 4)) := (blk_cell BKgb.out 5).trans rfl; have fgb6 : w1.cell? ⟨gb, 6, none⟩ = some (.slice (A 5) (L 5).length (c 5)) := (blk_cell BKgb.out 6).trans rfl; have fgb7 : w1.cell? ⟨gb, 7, none⟩ = some (.slice (A 6) (L 6).length (c 6)) := (blk_cell BKgb.out 7).trans rfl; have fgb8 : w1.cell? ⟨gb, 8, none⟩ = some (.slice (A 7) (L 7).length (c 7)) := (blk_cell BKgb.out 8).trans rfl; have fgbz0 := blk_frozen BKgb.out 0; have fgbz1 := blk_frozen BKgb.out 1; have fgbz2 := blk_frozen BKgb.out 2; have fgbz3 := blk_frozen BKgb.out 3; have fgbz4 := blk_frozen BKgb.out 4; have fgbz5 := blk_frozen BKgb.out 5; have fgbz6 := blk_frozen BKgb.out 6; have fgbz7 := blk_frozen BKgb.out 7; have fgbz8 := blk_frozen BKgb.out 8; clear n0_ hbox hb hggb))
    go_ret
    exact RetB.mk rfl (iff_f HF.out) HB.out
  have Hh5 := Aside0.mk h5
  by_cases h6 : ((L 0).length : Int) > 6
  · have HF : Aside0 (¬ SlotsP s L) := ⟨fun hh => hh.1.2.2.2.2.2.1 h6⟩
    go_enter Try.func46, Try.ntmps46
    go_wp2_with (first | ((with_reducible refine gate_dst (N := 1) rfl ?_); refine box_event rfl (N := 1) rfl (cs := bkCells s A c L) (t := 27) (by first | (go_simp; done) | (go_simp; rfl)) ?_; intro gb hggb w1 hbox hb; have n0_ := Aside0.mk (below_step HB.out hb); have BKgb := Aside0.mk hbox; have HGgb := Aside0.mk (show w.heap.size ≤ gb by rw [hggb]; exact HB.out.size); clear HB; have HB := n0_; have fgbs0 : w1.cell? ⟨gb, 0, none⟩ = some (.int .i64 _) := (blk_cell BKgb.out 0).trans rfl; have fgb1 : w1.cell? ⟨gb, 1, none⟩ = some (.slice (A 0) (L 0).length (c 0)) := (blk_cell BKgb.out 1).trans rfl; have fgb2 : w1.cell? ⟨gb, 2, none⟩ = some (.slice (A 1) (L 1).length (c 1)) := (blk_cell BKgb.out 2).trans rfl; have fgb3 : w1.cell? ⟨gb, 3, none⟩ = some (.slice (A 2) (L 2).length (c 2)) := (blk_cell BKgb.out 3).trans rfl; have fgb4 : w1.cell? ⟨gb, 4, none⟩ = some (.slice (A 3) (L 3).length (c 3)) := (blk_cell BKgb.out 4).trans rfl; have fgb5 : w1.cell? ⟨gb, 5, none⟩ = some (.slice (A 4) (L 4).length (c 4)) := (blk_cell BKgb.out 5).trans rfl; have fgb6 : w1.cell? ⟨gb, 6, none⟩ = some (.slice (A 5) (L 5).length (c 5)) := (blk_cell BKgb.out 6).trans rfl; have fgb7 : w1.cell? ⟨gb, 7, none⟩ = some (.slice (A 6) (L 6).length (c 6)) := (blk_cell BKgb.out 7).trans rfl; have fgb8 : w1.cell? ⟨gb, 8, none⟩ = some (.slice (A 7) (L 7).length (c 7)) := (blk_cell BKgb.out 8).trans rfl; have fgbz0 := blk_frozen BKgb.out 0; have fgbz1 := blk_frozen BKgb.out 1; have fgbz2 := blk_frozen BKgb.out 2; have fgbz3 := blk_frozen BKgb.out 3; have fgbz4 := blk_frozen BKgb.out 4; have fgbz5 := blk_frozen BKgb.out 5; have fgbz6 := blk_frozen BKgb.out 6; have fgbz7 := blk_frozen BKgb.out 7; have fgbz8 := blk_frozen BKgb.out 8; clear n0_ hbox hb hggb))
    go_ret
    exact RetB.mk rfl (iff_f HF.out) HB.out
  have Hh6 := Aside0.mk h6
  by_cases h7 : ((L 5).length : Int) = ((L 0).length : Int) * 8
  rotate_left
  · have HF : Aside0 (¬ SlotsP s L) := ⟨fun hh => h7 hh.1.2.2.2.2.2.2⟩
    have h7b : (((L 5).length : Int) != ((L 0).length : Int) * 8) = true := bne_iff_ne.mpr h7
    clear h7
    go_enter Try.func46, Try.ntmps46
    go_wp2_with (first | ((with_reducible refine gate_dst (N := 1) rfl ?_); refine box_event rfl (N := 1) rfl (cs := bkCells s A c L) (t := 27) (by first | (go_simp; done) | (go_simp; rfl)) ?_; intro gb hggb w1 hbox hb; have n0_ := Aside0.mk (below_step HB.out hb); have BKgb := Aside0.mk hbox; have HGgb := Aside0.mk (show w.heap.size ≤ gb by rw [hggb]; exact HB.out.size); clear HB; have HB := n0_; have fgbs0 : w1.cell? ⟨gb, 0, none⟩ = some (.int .i64 _) := (blk_cell BKgb.out 0).trans rfl; have fgb1 : w1.cell? ⟨gb, 1, none⟩ = some (.slice (A 0) (L 0).length (c 0)) := (blk_cell BKgb.out 1).trans rfl; have fgb2 : w1.cell? ⟨gb, 2, none⟩ = some (.slice (A 1) (L 1).length (c 1)) := (blk_cell BKgb.out 2).trans rfl; have fgb3 : w1.cell? ⟨gb, 3, none⟩ = some (.slice (A 2) (L 2).length (c 2)) := (blk_cell BKgb.out 3).trans rfl; have fgb4 : w1.cell? ⟨gb, 4, none⟩ = some (.slice (A 3) (L 3).length (c 3)) := (blk_cell BKgb.out 4).trans rfl; have fgb5 : w1.cell? ⟨gb, 5, none⟩ = some (.slice (A 4) (L 4).length (c 4)) := (blk_cell BKgb.out 5).trans rfl; have fgb6 : w1.cell? ⟨gb, 6, none⟩ = some (.slice (A 5) (L 5).length (c 5)) := (blk_cell BKgb.out 6).trans rfl; have fgb7 : w1.cell? ⟨gb, 7, none⟩ = some (.slice (A 6) (L 6).length (c 6)) := (blk_cell BKgb.out 7).trans rfl; have fgb8 : w1.cell? ⟨gb, 8, none⟩ = some (.slice (A 7) (L 7).length (c 7)) := (blk_cell BKgb.out 8).trans rfl; have fgbz0 := blk_frozen BKgb.out 0; have fgbz1 := blk_frozen BKgb.out 1; have fgbz2 := blk_frozen BKgb.out 2; have fgbz3 := blk_frozen BKgb.out 3; have fgbz4 := blk_frozen BKgb.out 4; have fgbz5 := blk_frozen BKgb.out 5; have fgbz6 := blk_frozen BKgb.out 6; have fgbz7 := blk_frozen BKgb.out 7; have fgbz8 := blk_frozen BKgb.out 8; clear n0_ hbox hb hggb))
    go_ret
    exact RetB.mk rfl (iff_f HF.out) HB.out
  have Hh7 := Aside0.mk h7
  have h7b : (((L 5).length : Int) != ((L 0).length : Int) * 8) = false := bne_eq_false_iff_eq.mpr h7
  clear h7
  have HS : Aside0 (SizesP s L) := ⟨⟨Hh1.out, Hh2.out, Hh3.out, Hh4.out, Hh5.out, Hh6.out, Hh7.out⟩⟩
  have s4 : s ≤ 4 := by omega
  go_enter Try.func46, Try.ntmps46
  go_wp2_with (first | ((with_reducible refine gate_dst (N := 1) rfl ?_); refine box_event rfl (N := 1) rfl (cs := bkCells s A c L) (t := 27) (by first | (go_simp; done) | (go_simp; rfl)) ?_; intro gb hggb w1 hbox hb; have n0_ := Aside0.mk (below_step HB.out hb); have BKgb := Aside0.mk hbox; have HGgb := Aside0.mk (show w.heap.size ≤ gb by rw [hggb]; exact HB.out.size); clear HB; have HB := n0_; have fgbs0 : w1.cell? ⟨gb, 0, none⟩ = some (.int .i64 _) := (blk_cell BKgb.out 0).trans rfl; have fgb1 : w1.cell? ⟨gb, 1, none⟩ = some (.slice (A 0) (L 0).length (c 0)) := (blk_cell BKgb.out 1).trans rfl; have fgb2 : w1.cell? ⟨gb, 2, none⟩ = some (.slice (A 1) (L 1).length (c 1)) := (blk_cell BKgb.out 2).trans rfl; have fgb3 : w1.cell? ⟨gb, 3, none⟩ = some (.slice (A 2) (L 2).length (c 2)) := (blk_cell BKgb.out 3).trans rfl; have fgb4 : w1.cell? ⟨gb, 4, none⟩ = some (.slice (A 3) (L 3).length (c 3)) := (blk_cell BKgb.out 4).trans rfl; have fgb5 : w1.cell? ⟨gb, 5, none⟩ = some (.slice (A 4) (L 4).length (c 4)) := (blk_cell BKgb.out 5).trans rfl; have fgb6 : w1.cell? ⟨gb, 6, none⟩ = some (.slice (A 5) (L 5).length (c 5)) := (blk_cell BKgb.out 6).trans rfl; have fgb7 : w1.cell? ⟨gb, 7, none⟩ = some (.slice (A 6) (L 6).length (c 6)) := (blk_cell BKgb.out 7).trans rfl; have fgb8 : w1.cell? ⟨gb, 8, none⟩ = some (.slice (A 7) (L 7).length (c 7)) := (blk_cell BKgb.out 8).trans rfl; have fgbz0 := blk_frozen BKgb.out 0; have fgbz1 := blk_frozen BKgb.out 1; have fgbz2 := blk_frozen BKgb.out 2; have fgbz3 := blk_frozen BKgb.out 3; have fgbz4 := blk_frozen BKgb.out 4; have fgbz5 := blk_frozen BKgb.out 5; have fgbz6 := blk_frozen BKgb.out 6; have fgbz7 := blk_frozen BKgb.out 7; have fgbz8 := blk_frozen BKgb.out 8; clear n0_ hbox hb hggb))
  clear h3b h4b h7b h1 h2 h5 h6
  go_loopg [3] 5 (fun kq v3 w' => ∃ k : Nat, k ≤ 4 ∧ kq = 5 - k ∧ v3 = .int .i64 k ∧ Aside0 ((k : Int) ≤ s) ∧ Aside0 (∀ j, j < k → SlotU (L 6) (L 7) j) ∧ Aside0 (w'.heap[gb]? = some (.cells (bkCells s A c L) 27 (0, 0))) ∧ Aside0 (Below w.heap.size w w'))
  case atStart => exact ⟨0, by omega, rfl, rfl, ⟨by have := Hh1.out; omega⟩, ⟨fun j hj => by omega⟩, BKgb, HB⟩
  case round =>
    clear HB BKgb fgbs0 fgbz0 fgb1 fgbz1 fgb2 fgbz2 fgb3 fgbz3 fgb4 fgbz4 fgb5 fgbz5 fgb6 fgbz6 fgb7 fgbz7 fgb8 fgbz8
    obtain ⟨k, hk4, rfl, rfl, HK, HU, BKgb, HB⟩ := hrel
    by_cases hlt : (k : Int) < s
    · have k0 : (0 : Int) ≤ (k : Int) := by omega
      have k6 : (k : Int) < ((L 6).length : Int) := by have := Hh3.out; omega
      have k7 : (k : Int) < ((L 7).length : Int) := by have := Hh4.out; omega
      obtain ⟨ad6, v, ea6, hx6, HV⟩ := at_v ((HR.out 6 (by omega)).below HB.out) k (by omega)
      obtain ⟨ad7, e, ea7, hx7, HE⟩ := at_v ((HR.out 7 (by omega)).below HB.out) k (by omega)
      have hc0 : wr.cell? ⟨gb, 0, none⟩ = some (.int .i64 s) := (blk_cell BKgb.out 0).trans rfl
      have hz0 := blk_frozen BKgb.out 0
      have hc7 : wr.cell? ⟨gb, 7, none⟩ = some (.slice (some ad6) (L 6).length (c 6)) := (blk_cell BKgb.out 7).trans (by rw [← ea6]; rfl)
      have hz7 := blk_frozen BKgb.out 7
      have hc8 : wr.cell? ⟨gb, 8, none⟩ = some (.slice (some ad7) (L 7).length (c 7)) := (blk_cell BKgb.out 8).trans (by rw [← ea7]; rfl)
      have hz8 := blk_frozen BKgb.out 8
      clear ea6 ea7
      have HSU : Aside0 (SlotU (L 6) (L 7) k ↔ (¬ v < 0 ∧ ¬ v > 2 ∧ ¬ e < 0 ∧ ¬ e > 4095 ∧ ¬ (e = 0 ∧ v > 0))) := ⟨by unfold SlotU; rw [HV.out, HE.out]⟩
      by_cases g1 : v < 0
      · skip
        have HF : Aside0 (¬ SlotsP s L) := ⟨fun hh => (HSU.out.mp (hh.2.1 k hlt)).1 g1⟩
        go_wp2
        go_ret
        exact RetB.mk rfl (iff_f HF.out) HB.out
      have Gg1 := Aside0.mk g1
      by_cases g2 : v > 2
      · skip
        have HF : Aside0 (¬ SlotsP s L) := ⟨fun hh => (HSU.out.mp (hh.2.1 k hlt)).2.1 g2⟩
        go_wp2
        go_ret
        exact RetB.mk rfl (iff_f HF.out) HB.out
      have Gg2 := Aside0.mk g2
      by_cases g3 : e < 0
      · skip
        have HF : Aside0 (¬ SlotsP s L) := ⟨fun hh => (HSU.out.mp (hh.2.1 k hlt)).2.2.1 g3⟩
        go_wp2
        go_ret
        exact RetB.mk rfl (iff_f HF.out) HB.out
      have Gg3 := Aside0.mk g3
      by_cases g4 : e > 4095
      · skip
        have HF : Aside0 (¬ SlotsP s L) := ⟨fun hh => (HSU.out.mp (hh.2.1 k hlt)).2.2.2.1 g4⟩
        go_wp2
        go_ret
        exact RetB.mk rfl (iff_f HF.out) HB.out
      have Gg4 := Aside0.mk g4
      by_cases g5 : e = 0
      · have G5 := Aside0.mk g5
        have g5b : (e == 0) = true := by rw [g5]; rfl
        clear g5
        by_cases g6 : v > 0
        · skip
          have HF : Aside0 (¬ SlotsP s L) := ⟨fun hh => (HSU.out.mp (hh.2.1 k hlt)).2.2.2.2 ⟨G5.out, g6⟩⟩
          go_wp2
          go_ret
          exact RetB.mk rfl (iff_f HF.out) HB.out
        · skip
          have HZ : Aside0 (∀ j, j < k + 1 → SlotU (L 6) (L 7) j) := ⟨fun j hj => if q : j < k then HU.out j q else (show k = j by omega) ▸ HSU.out.mpr ⟨Gg1.out, Gg2.out, Gg3.out, Gg4.out, fun q => g6 q.2⟩⟩
          go_wp2
          go_roundg (5 - (k + 1))
          case measure => omega
          case rel => exact ⟨k + 1, by omega, rfl, by go_num, ⟨by omega⟩, HZ, BKgb, HB⟩
      · have g5b : (e == 0) = false := beq_eq_false_iff_ne.mpr g5
        have G5 := Aside0.mk g5
        clear g5
        have HZ : Aside0 (∀ j, j < k + 1 → SlotU (L 6) (L 7) j) := ⟨fun j hj => if q : j < k then HU.out j q else (show k = j by omega) ▸ HSU.out.mpr ⟨Gg1.out, Gg2.out, Gg3.out, Gg4.out, fun q => G5.out q.1⟩⟩
        go_wp2
        go_roundg (5 - (k + 1))
        case measure => omega
        case rel => exact ⟨k + 1, by omega, rfl, by go_num, ⟨by omega⟩, HZ, BKgb, HB⟩
    · have HA : Aside0 (∀ i : Nat, (i : Int) < s → SlotU (L 6) (L 7) i) := ⟨fun i hi => HU.out i (by omega)⟩
      have hc0 : wr.cell? ⟨gb, 0, none⟩ = some (.int .i64 s) := (blk_cell BKgb.out 0).trans rfl
      have hz0 := blk_frozen BKgb.out 0
      clear HU HK
      go_wp2
      clear hc0 hz0
      obtain ⟨wo, rfl⟩ : ∃ wo : World, wo = wr := ⟨_, rfl⟩
      go_loopg [4] ((L 5).length + 1) (fun kq v4 w' => ∃ u : Nat, u ≤ (L 5).length ∧ kq = (L 5).length + 1 - u ∧ v4 = .int .i64 u ∧ Aside0 (∀ j, j < u → UnitU s (L 6) (L 5) j) ∧ Aside0 (w'.heap[gb]? = some (.cells (bkCells s A c L) 27 (0, 0))) ∧ Aside0 (Below w.heap.size w w'))
      case atStart => exact ⟨0, by omega, rfl, rfl, ⟨fun j hj => by omega⟩, BKgb, HB⟩
      case round =>
        clear HB BKgb
        obtain ⟨u, hu5, rfl, rfl, HU, BKgb, HB⟩ := hrel
        have hc0 : wr.cell? ⟨gb, 0, none⟩ = some (.int .i64 s) := (blk_cell BKgb.out 0).trans rfl
        have hz0 := blk_frozen BKgb.out 0
        by_cases hlt5 : u < (L 5).length
        · have u0 : (0 : Int) ≤ (u : Int) := by omega
          have u5 : (u : Int) < ((L 5).length : Int) := by omega
          obtain ⟨ad5, o, ea5, hx5, HO⟩ := at_v ((HR.out 5 (by omega)).below HB.out) u hlt5
          have hc6 : wr.cell? ⟨gb, 6, none⟩ = some (.slice (some ad5) (L 5).length (c 5)) := (blk_cell BKgb.out 6).trans (by rw [← ea5]; rfl)
          have hz6 := blk_frozen BKgb.out 6
          clear ea5
          have HUU : Aside0 (UnitU s (L 6) (L 5) u ↔ (¬ o < 0 ∧ ¬ o > s ∧ ¬ (o > 0 ∧ (L 6).getD (o - 1).toNat 0 = 0))) := ⟨by unfold UnitU; rw [HO.out]⟩
          by_cases g1 : o < 0
          · have g1b : decide (o < 0) = true := decide_eq_true g1
            have HF : Aside0 (¬ SlotsP s L) := ⟨fun hh => (HUU.out.mp (hh.2.2 u hlt5)).1 g1⟩
            go_wp2
            go_quiet (fail)
            go_wp2
            go_ret
            exact RetB.mk rfl (iff_f HF.out) (pw_below_drewN HB.out _)
          have Gg1 := Aside0.mk g1
          have g1b : decide (o < 0) = false := decide_eq_false g1
          by_cases g2 : o > s
          · have g2b : decide (o > s) = true := decide_eq_true g2
            have HF : Aside0 (¬ SlotsP s L) := ⟨fun hh => (HUU.out.mp (hh.2.2 u hlt5)).2.1 g2⟩
            go_wp2
            go_quiet (fail)
            go_wp2
            go_ret
            exact RetB.mk rfl (iff_f HF.out) (pw_below_drewN HB.out _)
          have Gg2 := Aside0.mk g2
          have g2b : decide (o > s) = false := decide_eq_false g2
          by_cases g3 : o > 0
          · have g3b : decide (o > 0) = true := decide_eq_true g3
            obtain ⟨t, ht⟩ : ∃ t, o - 1 = t := ⟨_, rfl⟩
            have HT := Aside0.mk ht
            have o0 : (0 : Int) ≤ t := by omega
            have o6 : t < ((L 6).length : Int) := by have := Hh3.out; omega
            obtain ⟨ad6, v, ea6, hx6, HV⟩ := at_v ((HR.out 6 (by omega)).below HB.out) t.toNat (by omega)
            have hc7 : wr.cell? ⟨gb, 7, none⟩ = some (.slice (some ad6) (L 6).length (c 6)) := (blk_cell BKgb.out 7).trans (by rw [← ea6]; rfl)
            have hz7 := blk_frozen BKgb.out 7
            clear ea6
            by_cases g4 : v = 0
            · have G4 := Aside0.mk g4
              have g4b : (v == 0) = true := by rw [g4]; rfl
              clear g4
              have HF : Aside0 (¬ SlotsP s L) := ⟨fun hh => (HUU.out.mp (hh.2.2 u hlt5)).2.2 ⟨g3, by rw [HT.out, HV.out]; exact G4.out⟩⟩
              go_wp2
              go_quiet (fail)
              go_wp2
              go_ret
              exact RetB.mk rfl (iff_f HF.out) (pw_below_drewN HB.out _)
            · have G4 := Aside0.mk g4
              have g4b : (v == 0) = false := beq_eq_false_iff_ne.mpr g4
              clear g4
              have HZ : Aside0 (∀ j, j < u + 1 → UnitU s (L 6) (L 5) j) := ⟨fun j hj => if q : j < u then HU.out j q else (show u = j by omega) ▸ HUU.out.mpr ⟨Gg1.out, Gg2.out, fun q => G4.out (by have h2 := q.2; rw [HT.out, HV.out] at h2; exact h2)⟩⟩
              go_wp2
              go_quiet (fail)
              go_wp2
              go_roundg ((L 5).length + 1 - (u + 1))
              case measure => omega
              case rel => exact ⟨u + 1, by omega, rfl, by go_num, HZ, ⟨blk_drewN BKgb.out _⟩, ⟨pw_below_drewN HB.out _⟩⟩
          · have g3b : decide (o > 0) = false := decide_eq_false g3
            have HZ : Aside0 (∀ j, j < u + 1 → UnitU s (L 6) (L 5) j) := ⟨fun j hj => if q : j < u then HU.out j q else (show u = j by omega) ▸ HUU.out.mpr ⟨Gg1.out, Gg2.out, fun q => g3 q.1⟩⟩
            go_wp2
            go_quiet (fail)
            go_wp2
            go_roundg ((L 5).length + 1 - (u + 1))
            case measure => omega
            case rel => exact ⟨u + 1, by omega, rfl, by go_num, HZ, ⟨blk_drewN BKgb.out _⟩, ⟨pw_below_drewN HB.out _⟩⟩
        · have HF : Aside0 (SlotsP s L) := ⟨⟨HS.out, HA.out, fun j hj => HU.out j (by omega)⟩⟩
          have hc6 : wr.cell? ⟨gb, 6, none⟩ = some (.slice (A 5) (L 5).length (c 5)) := (blk_cell BKgb.out 6).trans rfl
          have hz6 := blk_frozen BKgb.out 6
          go_wp2
          go_ret
          exact RetB.mk rfl (iff_t HF.out) HB.out
end Go.Proofs.Ytekneicikmaplaa.Bk

/- Books of a slab allocator: walks and plain laws, part 3. -/
import Derived.Test.YtekneicikmaplaaBm2
import Derived.Deep.RegionHeld3
set_option linter.unusedVariables false
set_option linter.unusedSimpArgs false
namespace Go.Proofs.Ytekneicikmaplaa.Bk
open Go.RowKit Go.Proofs.YtekneicikmaplaaW.PrintWords Go.Proofs.YtekneicikmaplaaW.PrintLast Go.Proofs.YtekneicikmaplaaW.PrintMore

def SlotU (I E : List Int) (i : Nat) : Prop := ¬ I.getD i 0 < 0 ∧ ¬ I.getD i 0 > 2 ∧ ¬ E.getD i 0 < 0 ∧ ¬ E.getD i 0 > 4095 ∧ ¬ (E.getD i 0 = 0 ∧ I.getD i 0 > 0)
def UnitU (s : Int) (I O : List Int) (u : Nat) : Prop := ¬ O.getD u 0 < 0 ∧ ¬ O.getD u 0 > s ∧ ¬ (O.getD u 0 > 0 ∧ I.getD (O.getD u 0 - 1).toNat 0 = 0)
def SizesP (s : Int) (L : Nat → List Int) : Prop := ¬ s < 1 ∧ ¬ s > 4 ∧ ((L 6).length : Int) = s ∧ ((L 7).length : Int) = s ∧ ¬ ((L 0).length : Int) < 1 ∧ ¬ ((L 0).length : Int) > 6 ∧ ((L 5).length : Int) = ((L 0).length : Int) * 8
def SlotsP (s : Int) (L : Nat → List Int) : Prop := SizesP s L ∧ (∀ i : Nat, (i : Int) < s → SlotU (L 6) (L 7) i) ∧ ∀ u, u < (L 5).length → UnitU s (L 6) (L 5) u
set_option maxHeartbeats 4000000 in
set_option maxRecDepth 100000 in
theorem l3Slots_calls (s : Int) (A : Nat → Option Addr) (c : Nat → Nat) (L : Nat → List Int) (w : World) (h : BkC w A c L) (hl : ∀ i, (L i).length ≤ 35184372088832) :
    Calls Try.prog 46 #[.agg (bkCells s A c L)] w (RetB (SlotsP s L) w) := by
  have HR := Aside0.mk h
  have HL := Aside0.mk hl
  have hl0 : ((L 0).length : Int) ≤ 35184372088832 := by have := hl 0; omega
  have hl5 : ((L 5).length : Int) ≤ 35184372088832 := by have := hl 5; omega
  clear h hl
  have HB := Aside0.mk (Below.refl w.heap.size w)
  by_cases h1 : s < 1
  · have HF : Aside0 (¬ SlotsP s L) := ⟨fun hh => hh.1.1 h1⟩
    go_enter Try.func46, Try.ntmps46
    go_wp2_with (first | ((with_reducible refine gate_dst (N := 1) rfl ?_); refine box_event rfl (N := 1) rfl (cs := bkCells s A c L) (t := 27) (by first | (go_simp; done) | (go_simp; rfl)) ?_; intro gb hggb w1 hbox hb; have n0_ := Aside0.mk (below_step HB.out hb); have BKgb := Aside0.mk hbox; have HGgb := Aside0.mk (show w.heap.size ≤ gb by rw [hggb]; exact HB.out.size); clear HB; have HB := n0_; have fgbs0 : w1.cell? ⟨gb, 0, none⟩ = some (.int .i64 _) := (blk_cell BKgb.out 0).trans rfl; have fgb1 : w1.cell? ⟨gb, 1, none⟩ = some (.slice (A 0) (L 0).length (c 0)) := (blk_cell BKgb.out 1).trans rfl; have fgb2 : w1.cell? ⟨gb, 2, none⟩ = some (.slice (A 1) (L 1).length (c 1)) := (blk_cell BKgb.out 2).trans rfl; have fgb3 : w1.cell? ⟨gb, 3, none⟩ = some (.slice (A 2) (L 2).length (c 2)) := (blk_cell BKgb.out 3).trans rfl; have fgb4 : w1.cell? ⟨gb, 4, none⟩ = some (.slice (A 3) (L 3).length (c 3)) := (blk_cell BKgb.out 4).trans rfl; have fgb5 : w1.cell? ⟨gb, 5, none⟩ = some (.slice (A 4) (L 4).length (c 4)) := (blk_cell BKgb.out 5).trans rfl; have fgb6 : w1.cell? ⟨gb, 6, none⟩ = some (.slice (A 5) (L 5).length (c 5)) := (blk_cell BKgb.out 6).trans rfl; have fgb7 : w1.cell? ⟨gb, 7, none⟩ = some (.slice (A 6) (L 6).length (c 6)) := (blk_cell BKgb.out 7).trans rfl; have fgb8 : w1.cell? ⟨gb, 8, none⟩ = some (.slice (A 7) (L 7).length (c 7)) := (blk_cell BKgb.out 8).trans rfl; have fgbz0 := blk_frozen BKgb.out 0; have fgbz1 := blk_frozen BKgb.out 1; have fgbz2 := blk_frozen BKgb.out 2; have fgbz3 := blk_frozen BKgb.out 3; have fgbz4 := blk_frozen BKgb.out 4; have fgbz5 := blk_frozen BKgb.out 5; have fgbz6 := blk_frozen BKgb.out 6; have fgbz7 := blk_frozen BKgb.out 7; have fgbz8 := blk_frozen BKgb.out 8; clear n0_ hbox hb hggb))
    go_ret
    exact RetB.mk rfl (iff_f HF.out) HB.out
  have Hh1 := Aside0.mk h1
  by_cases h2 : s > 4
  · have HF : Aside0 (¬ SlotsP s L) := ⟨fun hh => hh.1.2.1 h2⟩
    go_enter Try.func46, Try.ntmps46
    go_wp2_with (first | ((with_reducible refine gate_dst (N := 1) rfl ?_); refine box_event rfl (N := 1) rfl (cs := bkCells s A c L) (t := 27) (by first | (go_simp; done) | (go_simp; rfl)) ?_; intro gb hggb w1 hbox hb; have n0_ := Aside0.mk (below_step HB.out hb); have BKgb := Aside0.mk hbox; have HGgb := Aside0.mk (show w.heap.size ≤ gb by rw [hggb]; exact HB.out.size); clear HB; have HB := n0_; have fgbs0 : w1.cell? ⟨gb, 0, none⟩ = some (.int .i64 _) := (blk_cell BKgb.out 0).trans rfl; have fgb1 : w1.cell? ⟨gb, 1, none⟩ = some (.slice (A 0) (L 0).length (c 0)) := (blk_cell BKgb.out 1).trans rfl; have fgb2 : w1.cell? ⟨gb, 2, none⟩ = some (.slice (A 1) (L 1).length (c 1)) := (blk_cell BKgb.out 2).trans rfl; have fgb3 : w1.cell? ⟨gb, 3, none⟩ = some (.slice (A 2) (L 2).length (c 2)) := (blk_cell BKgb.out 3).trans rfl; have fgb4 : w1.cell? ⟨gb, 4, none⟩ = some (.slice (A 3) (L 3).length (c 3)) := (blk_cell BKgb.out 4).trans rfl; have fgb5 : w1.cell? ⟨gb, 5, none⟩ = some (.slice (A 4) (L 4).length (c 4)) := (blk_cell BKgb.out 5).trans rfl; have fgb6 : w1.cell? ⟨gb, 6, none⟩ = some (.slice (A 5) (L 5).length (c 5)) := (blk_cell BKgb.out 6).trans rfl; have fgb7 : w1.cell? ⟨gb, 7, none⟩ = some (.slice (A 6) (L 6).length (c 6)) := (blk_cell BKgb.out 7).trans rfl; have fgb8 : w1.cell? ⟨gb, 8, none⟩ = some (.slice (A 7) (L 7).length (c 7)) := (blk_cell BKgb.out 8).trans rfl; have fgbz0 := blk_frozen BKgb.out 0; have fgbz1 := blk_frozen BKgb.out 1; have fgbz2 := blk_frozen BKgb.out 2; have fgbz3 := blk_frozen BKgb.out 3; have fgbz4 := blk_frozen BKgb.out 4; have fgbz5 := blk_frozen BKgb.out 5; have fgbz6 := blk_frozen BKgb.out 6; have fgbz7 := blk_frozen BKgb.out 7; have fgbz8 := blk_frozen BKgb.out 8; clear n0_ hbox hb hggb))
    go_ret
    exact RetB.mk rfl (iff_f HF.out) HB.out
  have Hh2 := Aside0.mk h2
  by_cases h3 : ((L 6).length : Int) = s
  rotate_left
  · have HF : Aside0 (¬ SlotsP s L) := ⟨fun hh => h3 hh.1.2.2.1⟩
    have h3b : (((L 6).length : Int) != s) = true := bne_iff_ne.mpr h3
    clear h3
    go_enter Try.func46, Try.ntmps46
    go_wp2_with (first | ((with_reducible refine gate_dst (N := 1) rfl ?_); refine box_event rfl (N := 1) rfl (cs := bkCells s A c L) (t := 27) (by first | (go_simp; done) | (go_simp; rfl)) ?_; intro gb hggb w1 hbox hb; have n0_ := Aside0.mk (below_step HB.out hb); have BKgb := Aside0.mk hbox; have HGgb := Aside0.mk (show w.heap.size ≤ gb by rw [hggb]; exact HB.out.size); clear HB; have HB := n0_; have fgbs0 : w1.cell? ⟨gb, 0, none⟩ = some (.int .i64 _) := (blk_cell BKgb.out 0).trans rfl; have fgb1 : w1.cell? ⟨gb, 1, none⟩ = some (.slice (A 0) (L 0).length (c 0)) := (blk_cell BKgb.out 1).trans rfl; have fgb2 : w1.cell? ⟨gb, 2, none⟩ = some (.slice (A 1) (L 1).length (c 1)) := (blk_cell BKgb.out 2).trans rfl; have fgb3 : w1.cell? ⟨gb, 3, none⟩ = some (.slice (A 2) (L 2).length (c 2)) := (blk_cell BKgb.out 3).trans rfl; have fgb4 : w1.cell? ⟨gb, 4, none⟩ = some (.slice (A 3) (L 3).length (c 3)) := (blk_cell BKgb.out 4).trans rfl; have fgb5 : w1.cell? ⟨gb, 5, none⟩ = some (.slice (A 4) (L 4).length (c 4)) := (blk_cell BKgb.out 5).trans rfl; have fgb6 : w1.cell? ⟨gb, 6, none⟩ = some (.slice (A 5) (L 5).length (c 5)) := (blk_cell BKgb.out 6).trans rfl; have fgb7 : w1.cell? ⟨gb, 7, none⟩ = some (.slice (A 6) (L 6).length (c 6)) := (blk_cell BKgb.out 7).trans rfl; have fgb8 : w1.cell? ⟨gb, 8, none⟩ = some (.slice (A 7) (L 7).length (c 7)) := (blk_cell BKgb.out 8).trans rfl; have fgbz0 := blk_frozen BKgb.out 0; have fgbz1 := blk_frozen BKgb.out 1; have fgbz2 := blk_frozen BKgb.out 2; have fgbz3 := blk_frozen BKgb.out 3; have fgbz4 := blk_frozen BKgb.out 4; have fgbz5 := blk_frozen BKgb.out 5; have fgbz6 := blk_frozen BKgb.out 6; have fgbz7 := blk_frozen BKgb.out 7; have fgbz8 := blk_frozen BKgb.out 8; clear n0_ hbox hb hggb))
    go_ret
    exact RetB.mk rfl (iff_f HF.out) HB.out
  have Hh3 := Aside0.mk h3
  have h3b : (((L 6).length : Int) != s) = false := bne_eq_false_iff_eq.mpr h3
  clear h3
  by_cases h4 : ((L 7).length : Int) = s
  rotate_left
  · have HF : Aside0 (¬ SlotsP s L) := ⟨fun hh => h4 hh.1.2.2.2.1⟩
    have h4b : (((L 7).length : Int) != s) = true := bne_iff_ne.mpr h4
    clear h4
    go_enter Try.func46, Try.ntmps46
    go_wp2_with (first | ((with_reducible refine gate_dst (N := 1) rfl ?_); refine box_event rfl (N := 1) rfl (cs := bkCells s A c L) (t := 27) (by first | (go_simp; done) | (go_simp; rfl)) ?_; intro gb hggb w1 hbox hb; have n0_ := Aside0.mk (below_step HB.out hb); have BKgb := Aside0.mk hbox; have HGgb := Aside0.mk (show w.heap.size ≤ gb by rw [hggb]; exact HB.out.size); clear HB; have HB := n0_; have fgbs0 : w1.cell? ⟨gb, 0, none⟩ = some (.int .i64 _) := (blk_cell BKgb.out 0).trans rfl; have fgb1 : w1.cell? ⟨gb, 1, none⟩ = some (.slice (A 0) (L 0).length (c 0)) := (blk_cell BKgb.out 1).trans rfl; have fgb2 : w1.cell? ⟨gb, 2, none⟩ = some (.slice (A 1) (L 1).length (c 1)) := (blk_cell BKgb.out 2).trans rfl; have fgb3 : w1.cell? ⟨gb, 3, none⟩ = some (.slice (A 2) (L 2).length (c 2)) := (blk_cell BKgb.out 3).trans rfl; have fgb4 : w1.cell? ⟨gb, 4, none⟩ = some (.slice (A 3) (L 3).length (c 3)) := (blk_cell BKgb.out 4).trans rfl; have fgb5 : w1.cell? ⟨gb, 5, none⟩ = some (.slice (A 4) (L 4).length (c 4)) := (blk_cell BKgb.out 5).trans rfl; have fgb6 : w1.cell? ⟨gb, 6, none⟩ = some (.slice (A 5) (L 5).length (c 5)) := (blk_cell BKgb.out 6).trans rfl; have fgb7 : w1.cell? ⟨gb, 7, none⟩ = some (.slice (A 6) (L 6).length (c 6)) := (blk_cell BKgb.out 7).trans rfl; have fgb8 : w1.cell? ⟨gb, 8, none⟩ = some (.slice (A 7) (L 7).length (c 7)) := (blk_cell BKgb.out 8).trans rfl; have fgbz0 := blk_frozen BKgb.out 0; have fgbz1 := blk_frozen BKgb.out 1; have fgbz2 := blk_frozen BKgb.out 2; have fgbz3 := blk_frozen BKgb.out 3; have fgbz4 := blk_frozen BKgb.out 4; have fgbz5 := blk_frozen BKgb.out 5; have fgbz6 := blk_frozen BKgb.out 6; have fgbz7 := blk_frozen BKgb.out 7; have fgbz8 := blk_frozen BKgb.out 8; clear n0_ hbox hb hggb))
    go_ret
    exact RetB.mk rfl (iff_f HF.out) HB.out
  have Hh4 := Aside0.mk h4
  have h4b : (((L 7).length : Int) != s) = false := bne_eq_false_iff_eq.mpr h4
  clear h4
  by_cases h5 : ((L 0).length : Int) < 1
  · have HF : Aside0 (¬ SlotsP s L) := ⟨fun hh => hh.1.2.2.2.2.1 h5⟩
    go_enter Try.func46, Try.ntmps46
    go_wp2_with (first | ((with_reducible refine gate_dst (N := 1) rfl ?_); refine box_event rfl (N := 1) rfl (cs := bkCells s A c L) (t := 27) (by first | (go_simp; done) | (go_simp; rfl)) ?_; intro gb hggb w1 hbox hb; have n0_ := Aside0.mk (below_step HB.out hb); have BKgb := Aside0.mk hbox; have HGgb := Aside0.mk (show w.heap.size ≤ gb by rw [hggb]; exact HB.out.size); clear HB; have HB := n0_; have fgbs0 : w1.cell? ⟨gb, 0, none⟩ = some (.int .i64 _) := (blk_cell BKgb.out 0).trans rfl; have fgb1 : w1.cell? ⟨gb, 1, none⟩ = some (.slice (A 0) (L 0).length (c 0)) := (blk_cell BKgb.out 1).trans rfl; have fgb2 : w1.cell? ⟨gb, 2, none⟩ = some (.slice (A 1) (L 1).length (c 1)) := (blk_cell BKgb.out 2).trans rfl; have fgb3 : w1.cell? ⟨gb, 3, none⟩ = some (.slice (A 2) (L 2).length (c 2)) := (blk_cell BKgb.out 3).trans rfl; have fgb4 : w1.cell? ⟨gb, 4, none⟩ = some (.slice (A 3) (L 3).length (c 3)) := (blk_cell BKgb.out 4).trans rfl; have fgb5 : w1.cell? ⟨gb, 5, none⟩ = some (.slice (A 4) (L 4).length (c 4)) := (blk_cell BKgb.out 5).trans rfl; have fgb6 : w1.cell? ⟨gb, 6, none⟩ = some (.slice (A 5) (L 5).length (c 5)) := (blk_cell BKgb.out 6).trans rfl; have fgb7 : w1.cell? ⟨gb, 7, none⟩ = some (.slice (A 6) (L 6).length (c 6)) := (blk_cell BKgb.out 7).trans rfl; have fgb8 : w1.cell? ⟨gb, 8, none⟩ = some (.slice (A 7) (L 7).length (c 7)) := (blk_cell BKgb.out 8).trans rfl; have fgbz0 := blk_frozen BKgb.out 0; have fgbz1 := blk_frozen BKgb.out 1; have fgbz2 := blk_frozen BKgb.out 2; have fgbz3 := blk_frozen BKgb.out 3; have fgbz4 := blk_frozen BKgb.out 4; have fgbz5 := blk_frozen BKgb.out 5; have fgbz6 := blk_frozen BKgb.out 6; have fgbz7 := blk_frozen BKgb.out 7; have fgbz8 := blk_frozen BKgb.out 8; clear n0_ hbox hb hggb))
    go_ret
    exact RetB.mk rfl (iff_f HF.out) HB.out
  have Hh5 := Aside0.mk h5
  by_cases h6 : ((L 0).length : Int) > 6
  · have HF : Aside0 (¬ SlotsP s L) := ⟨fun hh => hh.1.2.2.2.2.2.1 h6⟩
    go_enter Try.func46, Try.ntmps46
    go_wp2_with (first | ((with_reducible refine gate_dst (N := 1) rfl ?_); refine box_event rfl (N := 1) rfl (cs := bkCells s A c L) (t := 27) (by first | (go_simp; done) | (go_simp; rfl)) ?_; intro gb hggb w1 hbox hb; have n0_ := Aside0.mk (below_step HB.out hb); have BKgb := Aside0.mk hbox; have HGgb := Aside0.mk (show w.heap.size ≤ gb by rw [hggb]; exact HB.out.size); clear HB; have HB := n0_; have fgbs0 : w1.cell? ⟨gb, 0, none⟩ = some (.int .i64 _) := (blk_cell BKgb.out 0).trans rfl; have fgb1 : w1.cell? ⟨gb, 1, none⟩ = some (.slice (A 0) (L 0).length (c 0)) := (blk_cell BKgb.out 1).trans rfl; have fgb2 : w1.cell? ⟨gb, 2, none⟩ = some (.slice (A 1) (L 1).length (c 1)) := (blk_cell BKgb.out 2).trans rfl; have fgb3 : w1.cell? ⟨gb, 3, none⟩ = some (.slice (A 2) (L 2).length (c 2)) := (blk_cell BKgb.out 3).trans rfl; have fgb4 : w1.cell? ⟨gb, 4, none⟩ = some (.slice (A 3) (L 3).length (c 3)) := (blk_cell BKgb.out 4).trans rfl; have fgb5 : w1.cell? ⟨gb, 5, none⟩ = some (.slice (A 4) (L 4).length (c 4)) := (blk_cell BKgb.out 5).trans rfl; have fgb6 : w1.cell? ⟨gb, 6, none⟩ = some (.slice (A 5) (L 5).length (c 5)) := (blk_cell BKgb.out 6).trans rfl; have fgb7 : w1.cell? ⟨gb, 7, none⟩ = some (.slice (A 6) (L 6).length (c 6)) := (blk_cell BKgb.out 7).trans rfl; have fgb8 : w1.cell? ⟨gb, 8, none⟩ = some (.slice (A 7) (L 7).length (c 7)) := (blk_cell BKgb.out 8).trans rfl; have fgbz0 := blk_frozen BKgb.out 0; have fgbz1 := blk_frozen BKgb.out 1; have fgbz2 := blk_frozen BKgb.out 2; have fgbz3 := blk_frozen BKgb.out 3; have fgbz4 := blk_frozen BKgb.out 4; have fgbz5 := blk_frozen BKgb.out 5; have fgbz6 := blk_frozen BKgb.out 6; have fgbz7 := blk_frozen BKgb.out 7; have fgbz8 := blk_frozen BKgb.out 8; clear n0_ hbox hb hggb))
    go_ret
    exact RetB.mk rfl (iff_f HF.out) HB.out
  have Hh6 := Aside0.mk h6
  by_cases h7 : ((L 5).length : Int) = ((L 0).length : Int) * 8
  rotate_left
  · have HF : Aside0 (¬ SlotsP s L) := ⟨fun hh => h7 hh.1.2.2.2.2.2.2⟩
    have h7b : (((L 5).length : Int) != ((L 0).length : Int) * 8) = true := bne_iff_ne.mpr h7
    clear h7
    go_enter Try.func46, Try.ntmps46
    go_wp2_with (first | ((with_reducible refine gate_dst (N := 1) rfl ?_); refine box_event rfl (N := 1) rfl (cs := bkCells s A c L) (t := 27) (by first | (go_simp; done) | (go_simp; rfl)) ?_; intro gb hggb w1 hbox hb; have n0_ := Aside0.mk (below_step HB.out hb); have BKgb := Aside0.mk hbox; have HGgb := Aside0.mk (show w.heap.size ≤ gb by rw [hggb]; exact HB.out.size); clear HB; have HB := n0_; have fgbs0 : w1.cell? ⟨gb, 0, none⟩ = some (.int .i64 _) := (blk_cell BKgb.out 0).trans rfl; have fgb1 : w1.cell? ⟨gb, 1, none⟩ = some (.slice (A 0) (L 0).length (c 0)) := (blk_cell BKgb.out 1).trans rfl; have fgb2 : w1.cell? ⟨gb, 2, none⟩ = some (.slice (A 1) (L 1).length (c 1)) := (blk_cell BKgb.out 2).trans rfl; have fgb3 : w1.cell? ⟨gb, 3, none⟩ = some (.slice (A 2) (L 2).length (c 2)) := (blk_cell BKgb.out 3).trans rfl; have fgb4 : w1.cell? ⟨gb, 4, none⟩ = some (.slice (A 3) (L 3).length (c 3)) := (blk_cell BKgb.out 4).trans rfl; have fgb5 : w1.cell? ⟨gb, 5, none⟩ = some (.slice (A 4) (L 4).length (c 4)) := (blk_cell BKgb.out 5).trans rfl; have fgb6 : w1.cell? ⟨gb, 6, none⟩ = some (.slice (A 5) (L 5).length (c 5)) := (blk_cell BKgb.out 6).trans rfl; have fgb7 : w1.cell? ⟨gb, 7, none⟩ = some (.slice (A 6) (L 6).length (c 6)) := (blk_cell BKgb.out 7).trans rfl; have fgb8 : w1.cell? ⟨gb, 8, none⟩ = some (.slice (A 7) (L 7).length (c 7)) := (blk_cell BKgb.out 8).trans rfl; have fgbz0 := blk_frozen BKgb.out 0; have fgbz1 := blk_frozen BKgb.out 1; have fgbz2 := blk_frozen BKgb.out 2; have fgbz3 := blk_frozen BKgb.out 3; have fgbz4 := blk_frozen BKgb.out 4; have fgbz5 := blk_frozen BKgb.out 5; have fgbz6 := blk_frozen BKgb.out 6; have fgbz7 := blk_frozen BKgb.out 7; have fgbz8 := blk_frozen BKgb.out 8; clear n0_ hbox hb hggb))
    go_ret
    exact RetB.mk rfl (iff_f HF.out) HB.out
  have Hh7 := Aside0.mk h7
  have h7b : (((L 5).length : Int) != ((L 0).length : Int) * 8) = false := bne_eq_false_iff_eq.mpr h7
  clear h7
  have HS : Aside0 (SizesP s L) := ⟨⟨Hh1.out, Hh2.out, Hh3.out, Hh4.out, Hh5.out, Hh6.out, Hh7.out⟩⟩
  have s4 : s ≤ 4 := by omega
  go_enter Try.func46, Try.ntmps46
  go_wp2_with (first | ((with_reducible refine gate_dst (N := 1) rfl ?_); refine box_event rfl (N := 1) rfl (cs := bkCells s A c L) (t := 27) (by first | (go_simp; done) | (go_simp; rfl)) ?_; intro gb hggb w1 hbox hb; have n0_ := Aside0.mk (below_step HB.out hb); have BKgb := Aside0.mk hbox; have HGgb := Aside0.mk (show w.heap.size ≤ gb by rw [hggb]; exact HB.out.size); clear HB; have HB := n0_; have fgbs0 : w1.cell? ⟨gb, 0, none⟩ = some (.int .i64 _) := (blk_cell BKgb.out 0).trans rfl; have fgb1 : w1.cell? ⟨gb, 1, none⟩ = some (.slice (A 0) (L 0).length (c 0)) := (blk_cell BKgb.out 1).trans rfl; have fgb2 : w1.cell? ⟨gb, 2, none⟩ = some (.slice (A 1) (L 1).length (c 1)) := (blk_cell BKgb.out 2).trans rfl; have fgb3 : w1.cell? ⟨gb, 3, none⟩ = some (.slice (A 2) (L 2).length (c 2)) := (blk_cell BKgb.out 3).trans rfl; have fgb4 : w1.cell? ⟨gb, 4, none⟩ = some (.slice (A 3) (L 3).length (c 3)) := (blk_cell BKgb.out 4).trans rfl; have fgb5 : w1.cell? ⟨gb, 5, none⟩ = some (.slice (A 4) (L 4).length (c 4)) := (blk_cell BKgb.out 5).trans rfl; have fgb6 : w1.cell? ⟨gb, 6, none⟩ = some (.slice (A 5) (L 5).length (c 5)) := (blk_cell BKgb.out 6).trans rfl; have fgb7 : w1.cell? ⟨gb, 7, none⟩ = some (.slice (A 6) (L 6).length (c 6)) := (blk_cell BKgb.out 7).trans rfl; have fgb8 : w1.cell? ⟨gb, 8, none⟩ = some (.slice (A 7) (L 7).length (c 7)) := (blk_cell BKgb.out 8).trans rfl; have fgbz0 := blk_frozen BKgb.out 0; have fgbz1 := blk_frozen BKgb.out 1; have fgbz2 := blk_frozen BKgb.out 2; have fgbz3 := blk_frozen BKgb.out 3; have fgbz4 := blk_frozen BKgb.out 4; have fgbz5 := blk_frozen BKgb.out 5; have fgbz6 := blk_frozen BKgb.out 6; have fgbz7 := blk_frozen BKgb.out 7; have fgbz8 := blk_frozen BKgb.out 8; clear n0_ hbox hb hggb))
  clear h3b h4b h7b h1 h2 h5 h6
  go_loopg [3] 5 (fun kq v3 w' => ∃ k : Nat, k ≤ 4 ∧ kq = 5 - k ∧ v3 = .int .i64 k ∧ Aside0 ((k : Int) ≤ s) ∧ Aside0 (∀ j, j < k → SlotU (L 6) (L 7) j) ∧ Aside0 (w'.heap[gb]? = some (.cells (bkCells s A c L) 27 (0, 0))) ∧ Aside0 (Below w.heap.size w w'))
  case atStart => exact ⟨0, by omega, rfl, rfl, ⟨by have := Hh1.out; omega⟩, ⟨fun j hj => by omega⟩, BKgb, HB⟩
  case round =>
    clear HB BKgb fgbs0 fgbz0 fgb1 fgbz1 fgb2 fgbz2 fgb3 fgbz3 fgb4 fgbz4 fgb5 fgbz5 fgb6 fgbz6 fgb7 fgbz7 fgb8 fgbz8
    obtain ⟨k, hk4, rfl, rfl, HK, HU, BKgb, HB⟩ := hrel
    by_cases hlt : (k : Int) < s
    · have k0 : (0 : Int) ≤ (k : Int) := by omega
      have k6 : (k : Int) < ((L 6).length : Int) := by have := Hh3.out; omega
      have k7 : (k : Int) < ((L 7).length : Int) := by have := Hh4.out; omega
      obtain ⟨ad6, v, ea6, hx6, HV⟩ := at_v ((HR.out 6 (by omega)).below HB.out) k (by omega)
      obtain ⟨ad7, e, ea7, hx7, HE⟩ := at_v ((HR.out 7 (by omega)).below HB.out) k (by omega)
      have hc0 : wr.cell? ⟨gb, 0, none⟩ = some (.int .i64 s) := (blk_cell BKgb.out 0).trans rfl
      have hz0 := blk_frozen BKgb.out 0
      have hc7 : wr.cell? ⟨gb, 7, none⟩ = some (.slice (some ad6) (L 6).length (c 6)) := (blk_cell BKgb.out 7).trans (by rw [← ea6]; rfl)
      have hz7 := blk_frozen BKgb.out 7
      have hc8 : wr.cell? ⟨gb, 8, none⟩ = some (.slice (some ad7) (L 7).length (c 7)) := (blk_cell BKgb.out 8).trans (by rw [← ea7]; rfl)
      have hz8 := blk_frozen BKgb.out 8
      clear ea6 ea7
      have HSU : Aside0 (SlotU (L 6) (L 7) k ↔ (¬ v < 0 ∧ ¬ v > 2 ∧ ¬ e < 0 ∧ ¬ e > 4095 ∧ ¬ (e = 0 ∧ v > 0))) := ⟨by unfold SlotU; rw [HV.out, HE.out]⟩
      by_cases g1 : v < 0
      · skip
        have HF : Aside0 (¬ SlotsP s L) := ⟨fun hh => (HSU.out.mp (hh.2.1 k hlt)).1 g1⟩
        go_wp2
        go_ret
        exact RetB.mk rfl (iff_f HF.out) HB.out
      have Gg1 := Aside0.mk g1
      by_cases g2 : v > 2
      · skip
        have HF : Aside0 (¬ SlotsP s L) := ⟨fun hh => (HSU.out.mp (hh.2.1 k hlt)).2.1 g2⟩
        go_wp2
        go_ret
        exact RetB.mk rfl (iff_f HF.out) HB.out
      have Gg2 := Aside0.mk g2
      by_cases g3 : e < 0
      · skip
        have HF : Aside0 (¬ SlotsP s L) := ⟨fun hh => (HSU.out.mp (hh.2.1 k hlt)).2.2.1 g3⟩
        go_wp2
        go_ret
        exact RetB.mk rfl (iff_f HF.out) HB.out
      have Gg3 := Aside0.mk g3
      by_cases g4 : e > 4095
      · skip
        have HF : Aside0 (¬ SlotsP s L) := ⟨fun hh => (HSU.out.mp (hh.2.1 k hlt)).2.2.2.1 g4⟩
        go_wp2
        go_ret
        exact RetB.mk rfl (iff_f HF.out) HB.out
      have Gg4 := Aside0.mk g4
      by_cases g5 : e = 0
      · have G5 := Aside0.mk g5
        have g5b : (e == 0) = true := by rw [g5]; rfl
        clear g5
        by_cases g6 : v > 0
        · skip
          have HF : Aside0 (¬ SlotsP s L) := ⟨fun hh => (HSU.out.mp (hh.2.1 k hlt)).2.2.2.2 ⟨G5.out, g6⟩⟩
          go_wp2
          go_ret
          exact RetB.mk rfl (iff_f HF.out) HB.out
        · skip
          have HZ : Aside0 (∀ j, j < k + 1 → SlotU (L 6) (L 7) j) := ⟨fun j hj => if q : j < k then HU.out j q else (show k = j by omega) ▸ HSU.out.mpr ⟨Gg1.out, Gg2.out, Gg3.out, Gg4.out, fun q => g6 q.2⟩⟩
          go_wp2
          go_roundg (5 - (k + 1))
          case measure => omega
          case rel => exact ⟨k + 1, by omega, rfl, by go_num, ⟨by omega⟩, HZ, BKgb, HB⟩
      · have g5b : (e == 0) = false := beq_eq_false_iff_ne.mpr g5
        have G5 := Aside0.mk g5
        clear g5
        have HZ : Aside0 (∀ j, j < k + 1 → SlotU (L 6) (L 7) j) := ⟨fun j hj => if q : j < k then HU.out j q else (show k = j by omega) ▸ HSU.out.mpr ⟨Gg1.out, Gg2.out, Gg3.out, Gg4.out, fun q => G5.out q.1⟩⟩
        go_wp2
        go_roundg (5 - (k + 1))
        case measure => omega
        case rel => exact ⟨k + 1, by omega, rfl, by go_num, ⟨by omega⟩, HZ, BKgb, HB⟩
    · have HA : Aside0 (∀ i : Nat, (i : Int) < s → SlotU (L 6) (L 7) i) := ⟨fun i hi => HU.out i (by omega)⟩
      have hc0 : wr.cell? ⟨gb, 0, none⟩ = some (.int .i64 s) := (blk_cell BKgb.out 0).trans rfl
      have hz0 := blk_frozen BKgb.out 0
      clear HU HK
      go_wp2
      clear hc0 hz0
      obtain ⟨wo, rfl⟩ : ∃ wo : World, wo = wr := ⟨_, rfl⟩
      go_loopg [4] ((L 5).length + 1) (fun kq v4 w' => ∃ u : Nat, u ≤ (L 5).length ∧ kq = (L 5).length + 1 - u ∧ v4 = .int .i64 u ∧ Aside0 (∀ j, j < u → UnitU s (L 6) (L 5) j) ∧ Aside0 (w'.heap[gb]? = some (.cells (bkCells s A c L) 27 (0, 0))) ∧ Aside0 (Below w.heap.size w w'))
      case atStart => exact ⟨0, by omega, rfl, rfl, ⟨fun j hj => by omega⟩, BKgb, HB⟩
      case round =>
        clear HB BKgb
        obtain ⟨u, hu5, rfl, rfl, HU, BKgb, HB⟩ := hrel
        have hc0 : wr.cell? ⟨gb, 0, none⟩ = some (.int .i64 s) := (blk_cell BKgb.out 0).trans rfl
        have hz0 := blk_frozen BKgb.out 0
        by_cases hlt5 : u < (L 5).length
        · have u0 : (0 : Int) ≤ (u : Int) := by omega
          have u5 : (u : Int) < ((L 5).length : Int) := by omega
          obtain ⟨ad5, o, ea5, hx5, HO⟩ := at_v ((HR.out 5 (by omega)).below HB.out) u hlt5
          have hc6 : wr.cell? ⟨gb, 6, none⟩ = some (.slice (some ad5) (L 5).length (c 5)) := (blk_cell BKgb.out 6).trans (by rw [← ea5]; rfl)
          have hz6 := blk_frozen BKgb.out 6
          clear ea5
          have HUU : Aside0 (UnitU s (L 6) (L 5) u ↔ (¬ o < 0 ∧ ¬ o > s ∧ ¬ (o > 0 ∧ (L 6).getD (o - 1).toNat 0 = 0))) := ⟨by unfold UnitU; rw [HO.out]⟩
          by_cases g1 : o < 0
          · have g1b : decide (o < 0) = true := decide_eq_true g1
            have HF : Aside0 (¬ SlotsP s L) := ⟨fun hh => (HUU.out.mp (hh.2.2 u hlt5)).1 g1⟩
            go_wp2
            go_quiet (fail)
            go_wp2
            go_ret
            exact RetB.mk rfl (iff_f HF.out) (pw_below_drewN HB.out _)
          have Gg1 := Aside0.mk g1
          have g1b : decide (o < 0) = false := decide_eq_false g1
          by_cases g2 : o > s
          · have g2b : decide (o > s) = true := decide_eq_true g2
            have HF : Aside0 (¬ SlotsP s L) := ⟨fun hh => (HUU.out.mp (hh.2.2 u hlt5)).2.1 g2⟩
            go_wp2
            go_quiet (fail)
            go_wp2
            go_ret
            exact RetB.mk rfl (iff_f HF.out) (pw_below_drewN HB.out _)
          have Gg2 := Aside0.mk g2
          have g2b : decide (o > s) = false := decide_eq_false g2
          by_cases g3 : o > 0
          · have g3b : decide (o > 0) = true := decide_eq_true g3
            obtain ⟨t, ht⟩ : ∃ t, o - 1 = t := ⟨_, rfl⟩
            have HT := Aside0.mk ht
            have o0 : (0 : Int) ≤ t := by omega
            have o6 : t < ((L 6).length : Int) := by have := Hh3.out; omega
            obtain ⟨ad6, v, ea6, hx6, HV⟩ := at_v ((HR.out 6 (by omega)).below HB.out) t.toNat (by omega)
            have hc7 : wr.cell? ⟨gb, 7, none⟩ = some (.slice (some ad6) (L 6).length (c 6)) := (blk_cell BKgb.out 7).trans (by rw [← ea6]; rfl)
            have hz7 := blk_frozen BKgb.out 7
            clear ea6
            by_cases g4 : v = 0
            · have G4 := Aside0.mk g4
              have g4b : (v == 0) = true := by rw [g4]; rfl
              clear g4
              have HF : Aside0 (¬ SlotsP s L) := ⟨fun hh => (HUU.out.mp (hh.2.2 u hlt5)).2.2 ⟨g3, by rw [HT.out, HV.out]; exact G4.out⟩⟩
              go_wp2
              go_quiet (fail)
              go_wp2
              go_ret
              exact RetB.mk rfl (iff_f HF.out) (pw_below_drewN HB.out _)
            · have G4 := Aside0.mk g4
              have g4b : (v == 0) = false := beq_eq_false_iff_ne.mpr g4
              clear g4
              have HZ : Aside0 (∀ j, j < u + 1 → UnitU s (L 6) (L 5) j) := ⟨fun j hj => if q : j < u then HU.out j q else (show u = j by omega) ▸ HUU.out.mpr ⟨Gg1.out, Gg2.out, fun q => G4.out (by have h2 := q.2; rw [HT.out, HV.out] at h2; exact h2)⟩⟩
              go_wp2
              go_quiet (fail)
              go_wp2
              go_roundg ((L 5).length + 1 - (u + 1))
              case measure => omega
              case rel => exact ⟨u + 1, by omega, rfl, by go_num, HZ, ⟨blk_drewN BKgb.out _⟩, ⟨pw_below_drewN HB.out _⟩⟩
          · have g3b : decide (o > 0) = false := decide_eq_false g3
            have HZ : Aside0 (∀ j, j < u + 1 → UnitU s (L 6) (L 5) j) := ⟨fun j hj => if q : j < u then HU.out j q else (show u = j by omega) ▸ HUU.out.mpr ⟨Gg1.out, Gg2.out, fun q => g3 q.1⟩⟩
            go_wp2
            go_quiet (fail)
            go_wp2
            go_roundg ((L 5).length + 1 - (u + 1))
            case measure => omega
            case rel => exact ⟨u + 1, by omega, rfl, by go_num, HZ, ⟨blk_drewN BKgb.out _⟩, ⟨pw_below_drewN HB.out _⟩⟩
        · have HF : Aside0 (SlotsP s L) := ⟨⟨HS.out, HA.out, fun j hj => HU.out j (by omega)⟩⟩
          have hc6 : wr.cell? ⟨gb, 6, none⟩ = some (.slice (A 5) (L 5).length (c 5)) := (blk_cell BKgb.out 6).trans rfl
          have hz6 := blk_frozen BKgb.out 6
          go_wp2
          go_ret
          exact RetB.mk rfl (iff_t HF.out) HB.out


/-- Entry i of list k is a room of its kind. -/
def EntryU (P O H : List Int) (k i : Nat) : Prop := ¬ H.getD i 0 < 0 ∧ ¬ H.getD i 0 ≥ (O.length : Int) ∧ kindN (P.getD (H.getD i 0 / 8).toNat 0) = (k : Int) ∧ ¬ (H.getD i 0 % (sizeN k : Int) > 0)
def ListP (P O H : List Int) (k : Nat) : Prop := H.length ≤ O.length ∧ ∀ i, i < H.length → EntryU P O H k i
def ListsP (L : Nat → List Int) : Prop := ∀ k, k < 4 → ListP (L 0) (L 5) (L (k + 1)) k
theorem sizeN_pos' (k : Nat) : 0 < (sizeN k : Int) := by have := sizeN_pos k; omega
set_option maxHeartbeats 4000000 in
set_option maxRecDepth 100000 in
theorem l3Lists_calls (s : Int) (A : Nat → Option Addr) (c : Nat → Nat) (L : Nat → List Int) (w : World) (h : BkC w A c L) (hl : ∀ i, (L i).length ≤ 35184372088832) (h05 : (L 5).length = (L 0).length * 8) :
    Calls Try.prog 47 #[.agg (bkCells s A c L)] w (RetB (ListsP L) w) := by
  have HR := Aside0.mk h
  have HL := Aside0.mk hl
  have H05 := Aside0.mk h05
  clear h hl h05
  have HB := Aside0.mk (Below.refl w.heap.size w)
  go_enter Try.func47, Try.ntmps47
  go_wp2_with (first | ((with_reducible refine gate_dst (N := 1) rfl ?_); refine box_event rfl (N := 1) rfl (cs := bkCells s A c L) (t := 27) (by first | (go_simp; done) | (go_simp; rfl)) ?_; intro gb hggb w1 hbox hb; have n0_ := Aside0.mk (below_step HB.out hb); have BKgb := Aside0.mk hbox; have HGgb := Aside0.mk (show w.heap.size ≤ gb by rw [hggb]; exact HB.out.size); clear HB; have HB := n0_; clear n0_ hbox hb hggb))
  go_loopg [3] 5 (fun kq v3 w' => ∃ k : Nat, k ≤ 4 ∧ kq = 5 - k ∧ v3 = .int .i64 k ∧ Aside0 (∀ j, j < k → ListP (L 0) (L 5) (L (j + 1)) j) ∧ Aside0 (w'.heap[gb]? = some (.cells (bkCells s A c L) 27 (0, 0))) ∧ Aside0 (Below w.heap.size w w'))
  case atStart => exact ⟨0, by omega, rfl, rfl, ⟨fun j hj => by omega⟩, BKgb, HB⟩
  case round =>
    clear HB BKgb
    obtain ⟨k, hk4, rfl, rfl, HU, BKgb, HB⟩ := hrel
    by_cases hlt : k < 4
    · have hi4 : (k : Int) < 4 := by omega
      have k0 : (0 : Int) ≤ (k : Int) := by omega
      have hck : wr.cell? ⟨gb, 2 + k, none⟩ = some (.slice (A (k + 1)) (L (k + 1)).length (c (k + 1))) := (blk_cell BKgb.out (2 + k)).trans (by match k, hlt with | 0, _ => rfl | 1, _ => rfl | 2, _ => rfl | 3, _ => rfl)
      have hzk := blk_frozen BKgb.out (2 + k)
      have hc6 : wr.cell? ⟨gb, 6, none⟩ = some (.slice (A 5) (L 5).length (c 5)) := (blk_cell BKgb.out 6).trans rfl
      have hz6 := blk_frozen BKgb.out 6
      by_cases hlen : (L (k + 1)).length > (L 5).length
      · have HF : Aside0 (¬ ListsP L) := ⟨fun hh => by have := (hh k hlt).1; omega⟩
        have hlen' : ((L 5).length : Int) < ((L (k + 1)).length : Int) := by omega
        go_wp2
        go_quiet (fail)
        go_wp2
        go_ret
        exact RetB.mk rfl (iff_f HF.out) (pw_below_drewN HB.out _)
      · have hlen' : ¬ ((L 5).length : Int) < ((L (k + 1)).length : Int) := by omega
        have HLE : Aside0 ((L (k + 1)).length ≤ (L 5).length) := ⟨by omega⟩
        go_wp2
        go_quiet (fail)
        go_wp2
        have HB2 := Aside0.mk (pw_below_drewN HB.out nq)
        have BK2 := Aside0.mk (blk_drewN BKgb.out nq)
        clear hck hzk hc6 hz6 HB BKgb hlen hlen'
        obtain ⟨wo, hwo⟩ : ∃ wo : World, wo = wr.drewN nq := ⟨_, rfl⟩
        rw [← hwo] at HB2 BK2 ⊢
        clear hwo
        go_loopg [4] ((L (k + 1)).length + 1) (fun kq v4 w' => ∃ i : Nat, i ≤ (L (k + 1)).length ∧ kq = (L (k + 1)).length + 1 - i ∧ v4 = .int .i64 i ∧ Aside0 (∀ j, j < i → EntryU (L 0) (L 5) (L (k + 1)) k j) ∧ Aside0 (w'.heap[gb]? = some (.cells (bkCells s A c L) 27 (0, 0))) ∧ Aside0 (Below w.heap.size w w'))
        case atStart => exact ⟨0, by omega, rfl, rfl, ⟨fun j hj => by omega⟩, BK2, HB2⟩
        case round =>
          clear HB2 BK2
          obtain ⟨i, hil, rfl, rfl, HI, BKgb, HB⟩ := hrel
          have hck : wr.cell? ⟨gb, 2 + k, none⟩ = some (.slice (A (k + 1)) (L (k + 1)).length (c (k + 1))) := (blk_cell BKgb.out (2 + k)).trans (by match k, hlt with | 0, _ => rfl | 1, _ => rfl | 2, _ => rfl | 3, _ => rfl)
          have hzk := blk_frozen BKgb.out (2 + k)
          have hl64 : ((L (k + 1)).length : Int) ≤ 35184372088832 := by have := HL.out (k + 1); omega
          by_cases hlti : i < (L (k + 1)).length
          · have i0 : (0 : Int) ≤ (i : Int) := by omega
            have i1 : (i : Int) < ((L (k + 1)).length : Int) := by omega
            obtain ⟨adk, a, eak, hxk, HA⟩ := at_v ((HR.out (k + 1) (by omega)).below HB.out) i hlti
            rw [eak] at hck
            clear eak
            have hc6 : wr.cell? ⟨gb, 6, none⟩ = some (.slice (A 5) (L 5).length (c 5)) := (blk_cell BKgb.out 6).trans rfl
            have hz6 := blk_frozen BKgb.out 6
            have HE : Aside0 (EntryU (L 0) (L 5) (L (k + 1)) k i ↔ (¬ a < 0 ∧ ¬ a ≥ ((L 5).length : Int) ∧ kindN ((L 0).getD (a / 8).toNat 0) = (k : Int) ∧ ¬ (a % (sizeN k : Int) > 0))) := ⟨by unfold EntryU; rw [HA.out]⟩
            by_cases g1 : a < 0
            · have HF : Aside0 (¬ ListsP L) := ⟨fun hh => (HE.out.mp ((hh k hlt).2 i hlti)).1 g1⟩
              go_wp2
              go_ret
              exact RetB.mk rfl (iff_f HF.out) HB.out
            by_cases g2 : a ≥ ((L 5).length : Int)
            · have HF : Aside0 (¬ ListsP L) := ⟨fun hh => (HE.out.mp ((hh k hlt).2 i hlti)).2.1 g2⟩
              go_wp2
              go_ret
              exact RetB.mk rfl (iff_f HF.out) HB.out
            have G12 := Aside0.mk (And.intro g1 g2)
            have a0 : (0 : Int) ≤ a := by omega
            have aM : a ≤ 35184372088832 := by have := HL.out 5; omega
            have hdv : wrap64 (a.tdiv 8) = a / 8 := by rw [Int.tdiv_eq_ediv_of_nonneg a0]; unfold wrap64; omega
            have a8 : (0 : Int) ≤ a / 8 := by omega
            have a9 : a / 8 < ((L 0).length : Int) := by have := H05.out; omega
            obtain ⟨ad0, q, ea0, hx0, HQ⟩ := at_v ((HR.out 0 (by omega)).below HB.out) (a / 8).toNat (by omega)
            have hc1 : wr.cell? ⟨gb, 1, none⟩ = some (.slice (some ad0) (L 0).length (c 0)) := (blk_cell BKgb.out 1).trans (by rw [← ea0]; rfl)
            have hz1 := blk_frozen BKgb.out 1
            clear ea0
            obtain ⟨d, hd⟩ : ∃ d, kindN q = d := ⟨_, rfl⟩
            have HD := Aside0.mk hd
            clear hd
            go_wp2_with fail
            refine (l3Kind_calls _ _).mono ?_
            rintro e w2 ⟨rfl, rfl⟩
            rw [HD.out]
            by_cases g3 : d = (k : Int)
            · have G3 := Aside0.mk g3
              have g3b : (d != (k : Int)) = false := bne_eq_false_iff_eq.mpr g3
              clear g3
              go_wp2_with fail
              refine (l3Size_calls k hlt _).mono ?_
              rintro e w3 ⟨rfl, hb⟩
              have HB3 := Aside0.mk (below_step HB.out hb)
              have BK3 := Aside0.mk (blk_below BKgb.out hb)
              clear hb hc1 hz1 hc6 hz6 hck hzk hx0 hxk HB BKgb
              obtain ⟨z, hz⟩ : ∃ z : Nat, sizeN k = z := ⟨_, rfl⟩
              have HZ := Aside0.mk hz
              have z0 : (0 : Int) < (z : Int) := by have := sizeN_pos k; omega
              rw [hz]
              clear hz
              have hzb : ((z : Int) == 0) = false := by rw [beq_eq_false_iff_ne]; omega
              by_cases g4 : a % (z : Int) > 0
              · have HF : Aside0 (¬ ListsP L) := ⟨fun hh => by have h4 := (HE.out.mp ((hh k hlt).2 i hlti)).2.2.2; rw [HZ.out] at h4; omega⟩
                go_wp2
                go_ret
                exact RetB.mk rfl (iff_f HF.out) HB3.out
              · have HI2 : Aside0 (∀ j, j < i + 1 → EntryU (L 0) (L 5) (L (k + 1)) k j) := ⟨fun j hj => if p : j < i then HI.out j p else (show i = j by omega) ▸ HE.out.mpr ⟨G12.out.1, G12.out.2, by rw [HQ.out, HD.out]; exact G3.out, by rw [HZ.out]; omega⟩⟩
                go_wp2
                go_roundg ((L (k + 1)).length + 1 - (i + 1))
                case measure => omega
                case rel => exact ⟨i + 1, by omega, rfl, by go_num, HI2, BK3, HB3⟩
            · have HF : Aside0 (¬ ListsP L) := ⟨fun hh => g3 (by rw [← HD.out, ← HQ.out]; exact (HE.out.mp ((hh k hlt).2 i hlti)).2.2.1)⟩
              have g3b : (d != (k : Int)) = true := bne_iff_ne.mpr g3
              clear g3
              go_wp2
              go_ret
              exact RetB.mk rfl (iff_f HF.out) HB.out
          · have HU2 : Aside0 (∀ j, j < k + 1 → ListP (L 0) (L 5) (L (j + 1)) j) := ⟨fun j hj => if p : j < k then HU.out j p else (show k = j by omega) ▸ ⟨HLE.out, fun x hx => HI.out x (by omega)⟩⟩
            have hni : ¬ (i : Int) < ((L (k + 1)).length : Int) := by omega
            go_wp2
            go_roundg (5 - (k + 1))
            case measure => omega
            case rel => exact ⟨k + 1, by omega, rfl, by go_num, HU2, BKgb, HB⟩
    · have HF : Aside0 (ListsP L) := ⟨fun j hj => HU.out j (by omega)⟩
      go_wp2
      go_ret
      exact RetB.mk rfl (iff_t HF.out) HB.out


def BookP (s : Int) (L : Nat → List Int) : Prop := SlotsP s L ∧ ListsP L ∧ ∀ p, p < (L 0).length → PageP L p
set_option maxHeartbeats 1000000 in
set_option maxRecDepth 100000 in
theorem specBookOk_calls (s : Int) (A : Nat → Option Addr) (c : Nat → Nat) (L : Nat → List Int) (w : World) (h : BkC w A c L) (hl : ∀ i, (L i).length ≤ 35184372088832) (hw : Wf64 (L 0)) :
    Calls Try.prog 21 #[.agg (bkCells s A c L)] w (RetB (BookP s L) w) := by
  have HR := Aside0.mk h
  have HL := Aside0.mk hl
  have HW := Aside0.mk hw
  have hl0 : ((L 0).length : Int) ≤ 35184372088832 := by have := hl 0; omega
  clear h hl hw
  have HB := Aside0.mk (Below.refl w.heap.size w)
  go_enter Try.func21, Try.ntmps21
  go_wp2_with (first | ((with_reducible refine gate_dst (N := 1) rfl ?_); refine box_event rfl (N := 1) rfl (cs := bkCells s A c L) (t := 27) (by first | (go_simp; done) | (go_simp; rfl)) ?_; intro gb hggb w1 hbox hb; have n0_ := Aside0.mk (below_step HB.out hb); have BKgb := Aside0.mk hbox; have HGgb := Aside0.mk (show w.heap.size ≤ gb by rw [hggb]; exact HB.out.size); clear HB; have HB := n0_; have fgbs0 : w1.cell? ⟨gb, 0, none⟩ = some (.int .i64 _) := (blk_cell BKgb.out 0).trans rfl; have fgb1 : w1.cell? ⟨gb, 1, none⟩ = some (.slice (A 0) (L 0).length (c 0)) := (blk_cell BKgb.out 1).trans rfl; have fgb2 : w1.cell? ⟨gb, 2, none⟩ = some (.slice (A 1) (L 1).length (c 1)) := (blk_cell BKgb.out 2).trans rfl; have fgb3 : w1.cell? ⟨gb, 3, none⟩ = some (.slice (A 2) (L 2).length (c 2)) := (blk_cell BKgb.out 3).trans rfl; have fgb4 : w1.cell? ⟨gb, 4, none⟩ = some (.slice (A 3) (L 3).length (c 3)) := (blk_cell BKgb.out 4).trans rfl; have fgb5 : w1.cell? ⟨gb, 5, none⟩ = some (.slice (A 4) (L 4).length (c 4)) := (blk_cell BKgb.out 5).trans rfl; have fgb6 : w1.cell? ⟨gb, 6, none⟩ = some (.slice (A 5) (L 5).length (c 5)) := (blk_cell BKgb.out 6).trans rfl; have fgb7 : w1.cell? ⟨gb, 7, none⟩ = some (.slice (A 6) (L 6).length (c 6)) := (blk_cell BKgb.out 7).trans rfl; have fgb8 : w1.cell? ⟨gb, 8, none⟩ = some (.slice (A 7) (L 7).length (c 7)) := (blk_cell BKgb.out 8).trans rfl; have fgbz0 := blk_frozen BKgb.out 0; have fgbz1 := blk_frozen BKgb.out 1; have fgbz2 := blk_frozen BKgb.out 2; have fgbz3 := blk_frozen BKgb.out 3; have fgbz4 := blk_frozen BKgb.out 4; have fgbz5 := blk_frozen BKgb.out 5; have fgbz6 := blk_frozen BKgb.out 6; have fgbz7 := blk_frozen BKgb.out 7; have fgbz8 := blk_frozen BKgb.out 8; clear n0_ hbox hb hggb))
  refine (l3Slots_calls s A c L _ (HR.out.below HB.out) HL.out).mono ?_
  rintro e w3 ⟨r, rfl, hr, hb⟩
  have HB3 := Aside0.mk (below_step HB.out hb)
  have BK3 := Aside0.mk (blk_below BKgb.out hb)
  clear HB BKgb fgbs0 fgbz0 fgb1 fgbz1 fgb2 fgbz2 fgb3 fgbz3 fgb4 fgbz4 fgb5 fgbz5 fgb6 fgbz6 fgb7 fgbz7 fgb8 fgbz8 hb
  cases r with
  | false =>
    have HF : Aside0 (¬ BookP s L) := ⟨fun hh => by have := hr.mpr hh.1; cases this⟩
    clear hr
    go_wp2
    go_ret
    exact RetB.mk rfl (iff_f HF.out) HB3.out
  | true =>
    have HS := Aside0.mk (hr.mp rfl)
    clear hr
    have fgbs0 : w3.cell? ⟨gb, 0, none⟩ = some (.int .i64 _) := (blk_cell BK3.out 0).trans rfl; have fgb1 : w3.cell? ⟨gb, 1, none⟩ = some (.slice (A 0) (L 0).length (c 0)) := (blk_cell BK3.out 1).trans rfl; have fgb2 : w3.cell? ⟨gb, 2, none⟩ = some (.slice (A 1) (L 1).length (c 1)) := (blk_cell BK3.out 2).trans rfl; have fgb3 : w3.cell? ⟨gb, 3, none⟩ = some (.slice (A 2) (L 2).length (c 2)) := (blk_cell BK3.out 3).trans rfl; have fgb4 : w3.cell? ⟨gb, 4, none⟩ = some (.slice (A 3) (L 3).length (c 3)) := (blk_cell BK3.out 4).trans rfl; have fgb5 : w3.cell? ⟨gb, 5, none⟩ = some (.slice (A 4) (L 4).length (c 4)) := (blk_cell BK3.out 5).trans rfl; have fgb6 : w3.cell? ⟨gb, 6, none⟩ = some (.slice (A 5) (L 5).length (c 5)) := (blk_cell BK3.out 6).trans rfl; have fgb7 : w3.cell? ⟨gb, 7, none⟩ = some (.slice (A 6) (L 6).length (c 6)) := (blk_cell BK3.out 7).trans rfl; have fgb8 : w3.cell? ⟨gb, 8, none⟩ = some (.slice (A 7) (L 7).length (c 7)) := (blk_cell BK3.out 8).trans rfl; have fgbz0 := blk_frozen BK3.out 0; have fgbz1 := blk_frozen BK3.out 1; have fgbz2 := blk_frozen BK3.out 2; have fgbz3 := blk_frozen BK3.out 3; have fgbz4 := blk_frozen BK3.out 4; have fgbz5 := blk_frozen BK3.out 5; have fgbz6 := blk_frozen BK3.out 6; have fgbz7 := blk_frozen BK3.out 7; have fgbz8 := blk_frozen BK3.out 8
    go_wp2_with fail
    refine (l3Lists_calls s A c L _ (HR.out.below HB3.out) HL.out (by have := HS.out.1.2.2.2.2.2.2; omega)).mono ?_
    rintro e w4 ⟨r, rfl, hr, hb⟩
    have HB4 := Aside0.mk (below_step HB3.out hb)
    have BK4 := Aside0.mk (blk_below BK3.out hb)
    clear HB3 BK3 fgbs0 fgbz0 fgb1 fgbz1 fgb2 fgbz2 fgb3 fgbz3 fgb4 fgbz4 fgb5 fgbz5 fgb6 fgbz6 fgb7 fgbz7 fgb8 fgbz8 hb
    cases r with
    | false =>
      have HF : Aside0 (¬ BookP s L) := ⟨fun hh => by have := hr.mpr hh.2.1; cases this⟩
      clear hr
      go_wp2
      go_ret
      exact RetB.mk rfl (iff_f HF.out) HB4.out
    | true =>
      have HLs := Aside0.mk (hr.mp rfl)
      clear hr
      go_wp2
      go_loopg [3] ((L 0).length + 1) (fun kq v3 w' => ∃ p : Nat, p ≤ (L 0).length ∧ kq = (L 0).length + 1 - p ∧ v3 = .int .i64 p ∧ Aside0 (∀ j, j < p → PageP L j) ∧ Aside0 (w'.heap[gb]? = some (.cells (bkCells s A c L) 27 (0, 0))) ∧ Aside0 (Below w.heap.size w w'))
      case atStart => exact ⟨0, by omega, rfl, rfl, ⟨fun j hj => by omega⟩, BK4, HB4⟩
      case round =>
        clear HB4 BK4
        obtain ⟨p, hp, rfl, rfl, HU, BKgb, HB⟩ := hrel
        have fgbs0 : wr.cell? ⟨gb, 0, none⟩ = some (.int .i64 _) := (blk_cell BKgb.out 0).trans rfl; have fgb1 : wr.cell? ⟨gb, 1, none⟩ = some (.slice (A 0) (L 0).length (c 0)) := (blk_cell BKgb.out 1).trans rfl; have fgb2 : wr.cell? ⟨gb, 2, none⟩ = some (.slice (A 1) (L 1).length (c 1)) := (blk_cell BKgb.out 2).trans rfl; have fgb3 : wr.cell? ⟨gb, 3, none⟩ = some (.slice (A 2) (L 2).length (c 2)) := (blk_cell BKgb.out 3).trans rfl; have fgb4 : wr.cell? ⟨gb, 4, none⟩ = some (.slice (A 3) (L 3).length (c 3)) := (blk_cell BKgb.out 4).trans rfl; have fgb5 : wr.cell? ⟨gb, 5, none⟩ = some (.slice (A 4) (L 4).length (c 4)) := (blk_cell BKgb.out 5).trans rfl; have fgb6 : wr.cell? ⟨gb, 6, none⟩ = some (.slice (A 5) (L 5).length (c 5)) := (blk_cell BKgb.out 6).trans rfl; have fgb7 : wr.cell? ⟨gb, 7, none⟩ = some (.slice (A 6) (L 6).length (c 6)) := (blk_cell BKgb.out 7).trans rfl; have fgb8 : wr.cell? ⟨gb, 8, none⟩ = some (.slice (A 7) (L 7).length (c 7)) := (blk_cell BKgb.out 8).trans rfl; have fgbz0 := blk_frozen BKgb.out 0; have fgbz1 := blk_frozen BKgb.out 1; have fgbz2 := blk_frozen BKgb.out 2; have fgbz3 := blk_frozen BKgb.out 3; have fgbz4 := blk_frozen BKgb.out 4; have fgbz5 := blk_frozen BKgb.out 5; have fgbz6 := blk_frozen BKgb.out 6; have fgbz7 := blk_frozen BKgb.out 7; have fgbz8 := blk_frozen BKgb.out 8
        by_cases hlt : p < (L 0).length
        · have p1 : (p : Int) < ((L 0).length : Int) := by omega
          go_wp2_with fail
          refine (l3Page_calls s A c L p _ (HR.out.below HB.out) hlt (by have := HS.out.1.2.2.2.2.2.2; omega) HL.out HW.out).mono ?_
          rintro e w3 ⟨r, rfl, hr, hb⟩
          have HB3 := Aside0.mk (below_step HB.out hb)
          have BK3 := Aside0.mk (blk_below BKgb.out hb)
          clear HB BKgb fgbs0 fgbz0 fgb1 fgbz1 fgb2 fgbz2 fgb3 fgbz3 fgb4 fgbz4 fgb5 fgbz5 fgb6 fgbz6 fgb7 fgbz7 fgb8 fgbz8 hb
          cases r with
          | false =>
            have HF : Aside0 (¬ BookP s L) := ⟨fun hh => by have := hr.mpr (hh.2.2 p hlt); cases this⟩
            clear hr
            go_wp2
            go_ret
            exact RetB.mk rfl (iff_f HF.out) HB3.out
          | true =>
            have HU2 : Aside0 (∀ j, j < p + 1 → PageP L j) := ⟨fun j hj => if q : j < p then HU.out j q else (show p = j by omega) ▸ hr.mp rfl⟩
            clear hr
            go_wp2
            go_roundg ((L 0).length + 1 - (p + 1))
            case measure => omega
            case rel => exact ⟨p + 1, by omega, rfl, by go_num, HU2, BK3, HB3⟩
        · have HF : Aside0 (BookP s L) := ⟨⟨HS.out, HLs.out, fun j hj => HU.out j (by omega)⟩⟩
          go_wp2
          go_ret
          exact RetB.mk rfl (iff_t HF.out) HB.out


/-- Unit u of a page of size class k, as the program asks of it. -/
def KindU (O H : List Int) (z u : Nat) : Prop :=
  ¬ ((u % z = 0 ∧ (O.getD u 0 ≠ 0 ↔ cnt H (u : Int) > 0)) ∨ cnt H (u : Int) > 1 ∨ (¬ u % z = 0 ∧ O.getD u 0 ≠ 0))
def KindP (O H : List Int) (z p : Nat) : Prop := (∀ u, u < 8 → KindU O H z (p * 8 + u)) ∧ NzN O (p * 8) 8 > 0
set_option maxHeartbeats 4000000 in
set_option maxRecDepth 100000 in
theorem kindOk_calls (s : Int) (A : Nat → Option Addr) (c : Nat → Nat) (L : Nat → List Int) (p k : Nat) (w : World) (h : BkC w A c L) (hk : k < 4) (hv : (L 0).getD p 0 = (k : Int) + 1) (hp0 : p < (L 0).length) (hp : p * 8 + 8 ≤ (L 5).length) (hl : ∀ i, (L i).length ≤ 35184372088832) :
    Calls Try.prog 52 #[.agg (bkCells s A c L), .int .i64 (p : Int)] w (RetB (KindP (L 5) (L (k + 1)) (sizeN k) p) w) := by
  have HR := Aside0.mk h
  have HP := Aside0.mk hp
  have HLn := Aside0.mk hl
  have HB := Aside0.mk (Below.refl w.heap.size w)
  obtain ⟨ad0, v, ea0, hx0, HV⟩ := at_v (h 0 (by omega)) p hp0
  have p0 : (0 : Int) ≤ (p : Int) := by omega
  have p1 : (p : Int) < ((L 0).length : Int) := by omega
  have hp6 : (p : Int) ≤ 35184372088832 := by have := hl 5; omega
  obtain rfl : v = (k : Int) + 1 := by rw [← HV.out, hv]
  have hk4 : (k : Int) < 4 := by omega
  have hk0 : (0 : Int) ≤ (k : Int) := by omega
  clear h hl hp hp0 hv
  go_enter Try.func52, Try.ntmps52
  go_wp2_with (first | ((with_reducible refine gate_dst (N := 2) rfl ?_); refine box_event rfl (N := 2) rfl (cs := bkCells s A c L) (t := 27) (by first | (go_simp; done) | (go_simp; rfl)) ?_; intro gb hggb w1 hbox hb; have n0_ := Aside0.mk (below_step HB.out hb); have BKgb := Aside0.mk hbox; have HGgb := Aside0.mk (show w.heap.size ≤ gb by rw [hggb]; exact HB.out.size); clear HB; have HB := n0_; have hx1 := (hb.cell (World.block_lt_of_cell? _ _ hx0)).trans hx0; have fgbs0 : w1.cell? ⟨gb, 0, none⟩ = some (.int .i64 _) := (blk_cell BKgb.out 0).trans rfl; have fgb1 : w1.cell? ⟨gb, 1, none⟩ = some (.slice (A 0) (L 0).length (c 0)) := (blk_cell BKgb.out 1).trans rfl; have fgb2 : w1.cell? ⟨gb, 2, none⟩ = some (.slice (A 1) (L 1).length (c 1)) := (blk_cell BKgb.out 2).trans rfl; have fgb3 : w1.cell? ⟨gb, 3, none⟩ = some (.slice (A 2) (L 2).length (c 2)) := (blk_cell BKgb.out 3).trans rfl; have fgb4 : w1.cell? ⟨gb, 4, none⟩ = some (.slice (A 3) (L 3).length (c 3)) := (blk_cell BKgb.out 4).trans rfl; have fgb5 : w1.cell? ⟨gb, 5, none⟩ = some (.slice (A 4) (L 4).length (c 4)) := (blk_cell BKgb.out 5).trans rfl; have fgb6 : w1.cell? ⟨gb, 6, none⟩ = some (.slice (A 5) (L 5).length (c 5)) := (blk_cell BKgb.out 6).trans rfl; have fgb7 : w1.cell? ⟨gb, 7, none⟩ = some (.slice (A 6) (L 6).length (c 6)) := (blk_cell BKgb.out 7).trans rfl; have fgb8 : w1.cell? ⟨gb, 8, none⟩ = some (.slice (A 7) (L 7).length (c 7)) := (blk_cell BKgb.out 8).trans rfl; have fgbz0 := blk_frozen BKgb.out 0; have fgbz1 := blk_frozen BKgb.out 1; have fgbz2 := blk_frozen BKgb.out 2; have fgbz3 := blk_frozen BKgb.out 3; have fgbz4 := blk_frozen BKgb.out 4; have fgbz5 := blk_frozen BKgb.out 5; have fgbz6 := blk_frozen BKgb.out 6; have fgbz7 := blk_frozen BKgb.out 7; have fgbz8 := blk_frozen BKgb.out 8; rw [ea0] at fgb1; clear ea0; clear n0_ hbox hb hggb))
  go_loopg [7, 8] 9 (fun kq v7 v8 w' => ∃ u : Nat, u ≤ 8 ∧ kq = 9 - u ∧ v7 = .int .i64 ((p : Int) * 8 + (u : Int)) ∧ Aside0 (∀ j, j < u → KindU (L 5) (L (k + 1)) (sizeN k) (p * 8 + j)) ∧ Aside0 (w'.heap[gb]? = some (.cells (bkCells s A c L) 27 (0, 0))) ∧ Aside0 (Below w.heap.size w w'))
  case atStart => exact ⟨0, by omega, rfl, by simp, ⟨fun j h1 => by omega⟩, BKgb, HB⟩
  case round =>
    clear HB BKgb fgbs0 fgbz0 fgb1 fgbz1 fgb2 fgbz2 fgb3 fgbz3 fgb4 fgbz4 fgb5 fgbz5 fgb6 fgbz6 fgb7 fgbz7 fgb8 fgbz8 hx0 hx1
    obtain ⟨u, hu, rfl, rfl, HU, BKgb, HB⟩ := hrel
    by_cases hlt : u < 8
    · have hi : (p : Int) * 8 + (u : Int) < (p : Int) * 8 + 8 := by omega
      have hck : wr.cell? ⟨gb, 2 + k, none⟩ = some (.slice (A (k + 1)) (L (k + 1)).length (c (k + 1))) := (blk_cell BKgb.out (2 + k)).trans (by match k, hk with | 0, _ => rfl | 1, _ => rfl | 2, _ => rfl | 3, _ => rfl)
      have hzk := blk_frozen BKgb.out (2 + k)
      go_wp2
      obtain ⟨wo, rfl⟩ : ∃ wo : World, wo = wr := ⟨_, rfl⟩
      have hlk : ((L (k + 1)).length : Int) ≤ 35184372088832 := by have := HLn.out (k + 1); omega
      go_loopg [8, 32] ((L (k + 1)).length + 1) (fun kq v8 v32 w' => ∃ i n : Nat, i ≤ (L (k + 1)).length ∧ kq = (L (k + 1)).length + 1 - i ∧ n ≤ i ∧ v8 = .int .i64 n ∧ v32 = .int .i64 i ∧ Aside0 (n = cnt ((L (k + 1)).take i) ((p : Int) * 8 + (u : Int))) ∧ wo = w')
      case atStart => exact ⟨0, 0, by omega, rfl, by omega, rfl, rfl, ⟨by simp [cnt]⟩, rfl⟩
      case round =>
        obtain ⟨i, n, hil, rfl, hni, rfl, rfl, HN, rfl⟩ := hrel
        have hn64 : (n : Int) ≤ 35184372088832 := by omega
        by_cases hlti : i < (L (k + 1)).length
        · have i0 : (0 : Int) ≤ (i : Int) := by omega
          have i1 : (i : Int) < ((L (k + 1)).length : Int) := by omega
          obtain ⟨adk, a, eak, hxk, HA⟩ := at_v ((HR.out (k + 1) (by omega)).below HB.out) i hlti
          have HS := Aside0.mk (cnt_succ (L (k + 1)) ((p : Int) * 8 + (u : Int)) i hlti)
          by_cases e : a = (p : Int) * 8 + (u : Int)
          · have HS2 : Aside0 (n + 1 = cnt ((L (k + 1)).take (i + 1)) ((p : Int) * 8 + (u : Int))) := ⟨by rw [HS.out, HN.out, HA.out, if_pos e]⟩
            have eb : (a == (p : Int) * 8 + (u : Int)) = true := beq_iff_eq.mpr e
            clear e
            go_wp2
            go_roundg ((L (k + 1)).length + 1 - (i + 1))
            case measure => omega
            case rel => exact ⟨i + 1, n + 1, by omega, rfl, by omega, by go_num, by go_num, HS2, rfl⟩
          · have HS2 : Aside0 (n = cnt ((L (k + 1)).take (i + 1)) ((p : Int) * 8 + (u : Int))) := ⟨by rw [HS.out, HN.out, HA.out, if_neg e]; rfl⟩
            have eb : (a == (p : Int) * 8 + (u : Int)) = false := beq_eq_false_iff_ne.mpr e
            clear e
            go_wp2
            go_roundg ((L (k + 1)).length + 1 - (i + 1))
            case measure => omega
            case rel => exact ⟨i + 1, n, by omega, rfl, by omega, rfl, by go_num, HS2, rfl⟩
        · have HC : Aside0 (cnt (L (k + 1)) ((p : Int) * 8 + (u : Int)) = n) := ⟨by rw [HN.out, show i = (L (k + 1)).length by omega, List.take_length]⟩
          have hni' : ¬ (i : Int) < ((L (k + 1)).length : Int) := by omega
          have U0 : (0 : Int) ≤ (p : Int) * 8 + (u : Int) := by omega
          have U1 : (p : Int) * 8 + (u : Int) < ((L 5).length : Int) := by have := HP.out; omega
          obtain ⟨ad5, o, ea5, hx5, HO⟩ := at_v ((HR.out 5 (by omega)).below HB.out) (p * 8 + u) (by have := HP.out; omega)
          have hc6 : wo.cell? ⟨gb, 6, none⟩ = some (.slice (some ad5) (L 5).length (c 5)) := (blk_cell BKgb.out 6).trans (by rw [← ea5]; rfl)
          have hz6 := blk_frozen BKgb.out 6
          clear ea5 HN
          go_wp2_with fail
          refine (unitsOf_calls k hk _).mono ?_
          rintro e w2 ⟨rfl, rfl⟩
          obtain ⟨z, hz⟩ : ∃ z : Nat, sizeN k = z := ⟨_, rfl⟩
          have HZ := Aside0.mk hz
          have z0 : (0 : Int) < (z : Int) := by have := sizeN_pos k; omega
          rw [hz]
          clear hz
          have hzb : ((z : Int) == 0) = false := by rw [beq_eq_false_iff_ne]; omega
          have HKU : Aside0 (KindU (L 5) (L (k + 1)) (sizeN k) (p * 8 + u) ↔ ¬ (((p * 8 + u) % z = 0 ∧ (o ≠ 0 ↔ n > 0)) ∨ n > 1 ∨ (¬ (p * 8 + u) % z = 0 ∧ o ≠ 0))) := ⟨by unfold KindU; rw [HZ.out, HO.out, show ((p * 8 + u : Nat) : Int) = (p : Int) * 8 + (u : Int) by omega, HC.out]⟩
          by_cases hm : (p * 8 + u) % z = 0
          · have HM := Aside0.mk hm
            have hmb : (((p : Int) * 8 + (u : Int)) % (z : Int) == 0) = true := by
              rw [beq_iff_eq, show (p : Int) * 8 + (u : Int) = ((p * 8 + u : Nat) : Int) by omega, show ((p * 8 + u : Nat) : Int) % (z : Int) = (((p * 8 + u) % z : Nat) : Int) from rfl, hm]
              rfl
            clear hm
            by_cases ho : o = 0
            · have HO0 := Aside0.mk ho
              have hob : (o != 0) = false := by rw [ho]; rfl
              clear ho
              by_cases hn : 0 < n
              · have hn' : (0 : Int) < (n : Int) := by omega
                by_cases hn1 : 1 < n
                · have hn1' : (1 : Int) < (n : Int) := by omega
                  have HF : Aside0 (¬ KindP (L 5) (L (k + 1)) (sizeN k) p) := ⟨fun hh => (HKU.out.mp (hh.1 u hlt)) (Or.inr (Or.inl hn1))⟩
                  go_wp2
                  go_ret
                  exact RetB.mk rfl (iff_f HF.out) HB.out
                · have hn1' : ¬ (1 : Int) < (n : Int) := by omega
                  have HU2 : Aside0 (∀ j, j < u + 1 → KindU (L 5) (L (k + 1)) (sizeN k) (p * 8 + j)) := ⟨fun j hj => if q : j < u then HU.out j q else (show u = j by omega) ▸ HKU.out.mpr (fun q => q.elim (fun q => absurd (q.2.mpr hn) (by simp [HO0.out])) (fun q => q.elim (fun q => by omega) (fun q => q.1 HM.out)))⟩
                  go_wp2
                  go_roundg (9 - (u + 1))
                  case measure => omega
                  case rel => exact ⟨u + 1, by omega, rfl, by (rw [show ((u + 1 : Nat) : Int) = (u : Int) + 1 by omega, ← Int.add_assoc]), HU2, BKgb, HB⟩
              · have hn' : ¬ (0 : Int) < (n : Int) := by omega
                have HF : Aside0 (¬ KindP (L 5) (L (k + 1)) (sizeN k) p) := ⟨fun hh => (HKU.out.mp (hh.1 u hlt)) (Or.inl ⟨HM.out, ⟨fun q => absurd HO0.out q, fun q => absurd q (by omega)⟩⟩)⟩
                go_wp2
                go_ret
                exact RetB.mk rfl (iff_f HF.out) HB.out
            · have HO0 := Aside0.mk ho
              have hob : (o != 0) = true := bne_iff_ne.mpr ho
              clear ho
              by_cases hn : 0 < n
              · have hn' : (0 : Int) < (n : Int) := by omega
                have HF : Aside0 (¬ KindP (L 5) (L (k + 1)) (sizeN k) p) := ⟨fun hh => (HKU.out.mp (hh.1 u hlt)) (Or.inl ⟨HM.out, ⟨fun _ => hn, fun _ => HO0.out⟩⟩)⟩
                go_wp2
                go_ret
                exact RetB.mk rfl (iff_f HF.out) HB.out
              · have hn' : ¬ (0 : Int) < (n : Int) := by omega
                have hn1' : ¬ (1 : Int) < (n : Int) := by omega
                have hn1 : ¬ 1 < n := by omega
                have HU2 : Aside0 (∀ j, j < u + 1 → KindU (L 5) (L (k + 1)) (sizeN k) (p * 8 + j)) := ⟨fun j hj => if q : j < u then HU.out j q else (show u = j by omega) ▸ HKU.out.mpr (fun q => q.elim (fun q => by have := q.2.mp HO0.out; omega) (fun q => q.elim (fun q => by omega) (fun q => q.1 HM.out)))⟩
                go_wp2
                go_roundg (9 - (u + 1))
                case measure => omega
                case rel => exact ⟨u + 1, by omega, rfl, by (rw [show ((u + 1 : Nat) : Int) = (u : Int) + 1 by omega, ← Int.add_assoc]), HU2, BKgb, HB⟩
          · have HM := Aside0.mk hm
            have hmb : (((p : Int) * 8 + (u : Int)) % (z : Int) == 0) = false := by
              rw [beq_eq_false_iff_ne]
              intro hh
              have h3 : (((p * 8 + u) % z : Nat) : Int) = 0 := by
                rw [show (((p * 8 + u) % z : Nat) : Int) = ((p * 8 + u : Nat) : Int) % (z : Int) from rfl, show ((p * 8 + u : Nat) : Int) = (p : Int) * 8 + (u : Int) by omega]
                exact hh
              omega
            clear hm
            by_cases hn1 : 1 < n
            · have hn1' : (1 : Int) < (n : Int) := by omega
              have HF : Aside0 (¬ KindP (L 5) (L (k + 1)) (sizeN k) p) := ⟨fun hh => (HKU.out.mp (hh.1 u hlt)) (Or.inr (Or.inl hn1))⟩
              go_wp2
              go_ret
              exact RetB.mk rfl (iff_f HF.out) HB.out
            · have hn1' : ¬ (1 : Int) < (n : Int) := by omega
              by_cases ho : o = 0
              · have HO0 := Aside0.mk ho
                have hob : (o != 0) = false := by rw [ho]; rfl
                clear ho
                have HU2 : Aside0 (∀ j, j < u + 1 → KindU (L 5) (L (k + 1)) (sizeN k) (p * 8 + j)) := ⟨fun j hj => if q : j < u then HU.out j q else (show u = j by omega) ▸ HKU.out.mpr (fun q => q.elim (fun q => HM.out q.1) (fun q => q.elim (fun q => by omega) (fun q => q.2 HO0.out)))⟩
                go_wp2
                go_roundg (9 - (u + 1))
                case measure => omega
                case rel => exact ⟨u + 1, by omega, rfl, by (rw [show ((u + 1 : Nat) : Int) = (u : Int) + 1 by omega, ← Int.add_assoc]), HU2, BKgb, HB⟩
              · have HO0 := Aside0.mk ho
                have hob : (o != 0) = true := bne_iff_ne.mpr ho
                clear ho
                have HF : Aside0 (¬ KindP (L 5) (L (k + 1)) (sizeN k) p) := ⟨fun hh => (HKU.out.mp (hh.1 u hlt)) (Or.inr (Or.inr ⟨HM.out, HO0.out⟩))⟩
                go_wp2
                go_ret
                exact RetB.mk rfl (iff_f HF.out) HB.out
    · have hi : ¬ (p : Int) * 8 + (u : Int) < (p : Int) * 8 + 8 := by omega
      have fgbs0 : wr.cell? ⟨gb, 0, none⟩ = some (.int .i64 _) := (blk_cell BKgb.out 0).trans rfl; have fgb1 : wr.cell? ⟨gb, 1, none⟩ = some (.slice (A 0) (L 0).length (c 0)) := (blk_cell BKgb.out 1).trans rfl; have fgb2 : wr.cell? ⟨gb, 2, none⟩ = some (.slice (A 1) (L 1).length (c 1)) := (blk_cell BKgb.out 2).trans rfl; have fgb3 : wr.cell? ⟨gb, 3, none⟩ = some (.slice (A 2) (L 2).length (c 2)) := (blk_cell BKgb.out 3).trans rfl; have fgb4 : wr.cell? ⟨gb, 4, none⟩ = some (.slice (A 3) (L 3).length (c 3)) := (blk_cell BKgb.out 4).trans rfl; have fgb5 : wr.cell? ⟨gb, 5, none⟩ = some (.slice (A 4) (L 4).length (c 4)) := (blk_cell BKgb.out 5).trans rfl; have fgb6 : wr.cell? ⟨gb, 6, none⟩ = some (.slice (A 5) (L 5).length (c 5)) := (blk_cell BKgb.out 6).trans rfl; have fgb7 : wr.cell? ⟨gb, 7, none⟩ = some (.slice (A 6) (L 6).length (c 6)) := (blk_cell BKgb.out 7).trans rfl; have fgb8 : wr.cell? ⟨gb, 8, none⟩ = some (.slice (A 7) (L 7).length (c 7)) := (blk_cell BKgb.out 8).trans rfl; have fgbz0 := blk_frozen BKgb.out 0; have fgbz1 := blk_frozen BKgb.out 1; have fgbz2 := blk_frozen BKgb.out 2; have fgbz3 := blk_frozen BKgb.out 3; have fgbz4 := blk_frozen BKgb.out 4; have fgbz5 := blk_frozen BKgb.out 5; have fgbz6 := blk_frozen BKgb.out 6; have fgbz7 := blk_frozen BKgb.out 7; have fgbz8 := blk_frozen BKgb.out 8
      go_wp2_with fail
      refine (owned_calls s A c L _ _ (p * 8) 8 _ (HR.out.below HB.out) (by omega) (by omega) (by omega) HP.out (HLn.out 5)).mono ?_
      rintro e w3 ⟨rfl, hb⟩
      obtain ⟨m, hm⟩ : ∃ m, NzN (L 5) (p * 8) 8 = m := ⟨_, rfl⟩
      have HM := Aside0.mk hm
      rw [hm]
      have HB3 := Aside0.mk (below_step HB.out hb)
      clear hm hb
      by_cases h0 : 0 < m
      · have h0' : (0 : Int) < (m : Int) := by omega
        have HF : Aside0 (KindP (L 5) (L (k + 1)) (sizeN k) p) := ⟨⟨fun j hj => HU.out j (by omega), by rw [HM.out]; exact h0⟩⟩
        go_wp2
        go_ret
        exact RetB.mk rfl (iff_t HF.out) HB3.out
      · have h0' : ¬ (0 : Int) < (m : Int) := by omega
        have HF : Aside0 (¬ KindP (L 5) (L (k + 1)) (sizeN k) p) := ⟨fun hh => by have := hh.2; rw [HM.out] at this; omega⟩
        go_wp2
        go_ret
        exact RetB.mk rfl (iff_f HF.out) HB3.out


theorem index4 (A : Nat → Option Addr) (c : Nat → Nat) (L : Nat → List Int) (k : Nat) (hk : k < 4) (W : World) : (Instr.index 25 (.agg #[.slice (A 1) (L 1).length (c 1), .slice (A 2) (L 2).length (c 2), .slice (A 3) (L 3).length (c 3), .slice (A 4) (L 4).length (c 4)]) (.int .i64 (k : Int))).run Try.prog W = .ok (.slice (A (k + 1)) (L (k + 1)).length (c (k + 1))) W := by
  match k, hk with
  | 0, _ => rfl
  | 1, _ => rfl
  | 2, _ => rfl
  | 3, _ => rfl
theorem within_f {n lo hi : Int} (h : ¬ (lo ≤ n ∧ n ≤ hi)) : withinB n lo hi = false := by
  cases e : withinB n lo hi with
  | false => rfl
  | true => exact absurd (within_t.mp e) h
theorem slot_iff {v e : Int} : (¬ v < 0 ∧ ¬ v > 2 ∧ ¬ e < 0 ∧ ¬ e > 4095 ∧ ¬ (e = 0 ∧ v > 0)) ↔ ((0 ≤ v ∧ v ≤ 2) ∧ (0 ≤ e ∧ e ≤ 4095) ∧ ¬ (v ≠ 0 ∧ e = 0)) := by omega
theorem kind_iff {q : Int} {k : Nat} : kindN q = (k : Int) ↔ (k < 4 ∧ q = (k : Int) + 1) := by
  unfold kindN
  by_cases h1 : q < 1
  · rw [if_pos h1]; omega
  · rw [if_neg h1]
    by_cases h2 : q > 4
    · rw [if_pos h2]; omega
    · rw [if_neg h2]; omega
theorem inP_wrap {s o : Int} {I : List Int} (h0 : -9223372036854775808 ≤ o) (h1 : o ≤ 9223372036854775807) (h4 : s ≤ 4) : InP s I (wrap64 (o - 1)) ↔ InP s I (o - 1) := by
  by_cases e : o = -9223372036854775808
  · subst e
    have e1 : wrap64 (-9223372036854775808 - 1) = 9223372036854775807 := by unfold wrap64; omega
    rw [e1]
    unfold InP
    constructor
    · rintro ⟨a, b, _⟩; omega
    · rintro ⟨a, b, _⟩; omega
  · have e1 : wrap64 (o - 1) = o - 1 := by unfold wrap64; omega
    rw [e1]
set_option maxHeartbeats 8000000 in
set_option maxRecDepth 100000 in
theorem shapeOk_calls (s : Int) (A : Nat → Option Addr) (c : Nat → Nat) (L : Nat → List Int) (w : World) (h : BkC w A c L) (hl : ∀ i, (L i).length ≤ 35184372088832) (hw5 : Wf64 (L 5)) :
    Calls Try.prog 49 #[.agg (bkCells s A c L)] w (RetB (SlotsP s L ∧ ListsP L) w) := by
  have HR := Aside0.mk h
  have HL := Aside0.mk hl
  have hl0 : ((L 0).length : Int) ≤ 35184372088832 := by have := hl 0; omega
  have hl5 : ((L 5).length : Int) ≤ 35184372088832 := by have := hl 5; omega
  have hl6 : ((L 6).length : Int) ≤ 35184372088832 := by have := hl 6; omega
  have HW5 := Aside0.mk hw5
  clear h hl hw5
  have HB := Aside0.mk (Below.refl w.heap.size w)
  by_cases h1 : 1 ≤ s ∧ s ≤ 4
  rotate_left
  · have HF : Aside0 (¬ (SlotsP s L ∧ ListsP L)) := ⟨fun hh => by obtain ⟨a1, a2, a3, a4, a5, a6, a7⟩ := hh.1.1; omega⟩
    have h1b : withinB s 1 4 = false := within_f h1
    clear h1
    go_enter Try.func49, Try.ntmps49
    go_wp2_with (first | ((with_reducible refine gate_dst (N := 1) rfl ?_); refine box_event rfl (N := 1) rfl (cs := bkCells s A c L) (t := 27) (by first | (go_simp; done) | (go_simp; rfl)) ?_; intro gb hggb w1 hbox hb; have n0_ := Aside0.mk (below_step HB.out hb); have BKgb := Aside0.mk hbox; have HGgb := Aside0.mk (show w.heap.size ≤ gb by rw [hggb]; exact HB.out.size); clear HB; have HB := n0_; have fgbs0 : w1.cell? ⟨gb, 0, none⟩ = some (.int .i64 _) := (blk_cell BKgb.out 0).trans rfl; have fgb1 : w1.cell? ⟨gb, 1, none⟩ = some (.slice (A 0) (L 0).length (c 0)) := (blk_cell BKgb.out 1).trans rfl; have fgb2 : w1.cell? ⟨gb, 2, none⟩ = some (.slice (A 1) (L 1).length (c 1)) := (blk_cell BKgb.out 2).trans rfl; have fgb3 : w1.cell? ⟨gb, 3, none⟩ = some (.slice (A 2) (L 2).length (c 2)) := (blk_cell BKgb.out 3).trans rfl; have fgb4 : w1.cell? ⟨gb, 4, none⟩ = some (.slice (A 3) (L 3).length (c 3)) := (blk_cell BKgb.out 4).trans rfl; have fgb5 : w1.cell? ⟨gb, 5, none⟩ = some (.slice (A 4) (L 4).length (c 4)) := (blk_cell BKgb.out 5).trans rfl; have fgb6 : w1.cell? ⟨gb, 6, none⟩ = some (.slice (A 5) (L 5).length (c 5)) := (blk_cell BKgb.out 6).trans rfl; have fgb7 : w1.cell? ⟨gb, 7, none⟩ = some (.slice (A 6) (L 6).length (c 6)) := (blk_cell BKgb.out 7).trans rfl; have fgb8 : w1.cell? ⟨gb, 8, none⟩ = some (.slice (A 7) (L 7).length (c 7)) := (blk_cell BKgb.out 8).trans rfl; have fgbz0 := blk_frozen BKgb.out 0; have fgbz1 := blk_frozen BKgb.out 1; have fgbz2 := blk_frozen BKgb.out 2; have fgbz3 := blk_frozen BKgb.out 3; have fgbz4 := blk_frozen BKgb.out 4; have fgbz5 := blk_frozen BKgb.out 5; have fgbz6 := blk_frozen BKgb.out 6; have fgbz7 := blk_frozen BKgb.out 7; have fgbz8 := blk_frozen BKgb.out 8; clear n0_ hbox hb hggb) | (go_at_call 53; refine (within_calls _ _ _ _).mono ?_; rintro e w' ⟨rfl, rfl⟩))
    go_ret
    exact RetB.mk rfl (iff_f HF.out) HB.out
  obtain ⟨h11, h12⟩ := h1
  have h1b : withinB s 1 4 = true := within_t.mpr ⟨h11, h12⟩
  by_cases h2 : 1 ≤ ((L 0).length : Int) ∧ ((L 0).length : Int) ≤ 6
  rotate_left
  · have HF : Aside0 (¬ (SlotsP s L ∧ ListsP L)) := ⟨fun hh => by obtain ⟨a1, a2, a3, a4, a5, a6, a7⟩ := hh.1.1; omega⟩
    have h2b : withinB ((L 0).length : Int) 1 6 = false := within_f h2
    clear h2
    go_enter Try.func49, Try.ntmps49
    go_wp2_with (first | ((with_reducible refine gate_dst (N := 1) rfl ?_); refine box_event rfl (N := 1) rfl (cs := bkCells s A c L) (t := 27) (by first | (go_simp; done) | (go_simp; rfl)) ?_; intro gb hggb w1 hbox hb; have n0_ := Aside0.mk (below_step HB.out hb); have BKgb := Aside0.mk hbox; have HGgb := Aside0.mk (show w.heap.size ≤ gb by rw [hggb]; exact HB.out.size); clear HB; have HB := n0_; have fgbs0 : w1.cell? ⟨gb, 0, none⟩ = some (.int .i64 _) := (blk_cell BKgb.out 0).trans rfl; have fgb1 : w1.cell? ⟨gb, 1, none⟩ = some (.slice (A 0) (L 0).length (c 0)) := (blk_cell BKgb.out 1).trans rfl; have fgb2 : w1.cell? ⟨gb, 2, none⟩ = some (.slice (A 1) (L 1).length (c 1)) := (blk_cell BKgb.out 2).trans rfl; have fgb3 : w1.cell? ⟨gb, 3, none⟩ = some (.slice (A 2) (L 2).length (c 2)) := (blk_cell BKgb.out 3).trans rfl; have fgb4 : w1.cell? ⟨gb, 4, none⟩ = some (.slice (A 3) (L 3).length (c 3)) := (blk_cell BKgb.out 4).trans rfl; have fgb5 : w1.cell? ⟨gb, 5, none⟩ = some (.slice (A 4) (L 4).length (c 4)) := (blk_cell BKgb.out 5).trans rfl; have fgb6 : w1.cell? ⟨gb, 6, none⟩ = some (.slice (A 5) (L 5).length (c 5)) := (blk_cell BKgb.out 6).trans rfl; have fgb7 : w1.cell? ⟨gb, 7, none⟩ = some (.slice (A 6) (L 6).length (c 6)) := (blk_cell BKgb.out 7).trans rfl; have fgb8 : w1.cell? ⟨gb, 8, none⟩ = some (.slice (A 7) (L 7).length (c 7)) := (blk_cell BKgb.out 8).trans rfl; have fgbz0 := blk_frozen BKgb.out 0; have fgbz1 := blk_frozen BKgb.out 1; have fgbz2 := blk_frozen BKgb.out 2; have fgbz3 := blk_frozen BKgb.out 3; have fgbz4 := blk_frozen BKgb.out 4; have fgbz5 := blk_frozen BKgb.out 5; have fgbz6 := blk_frozen BKgb.out 6; have fgbz7 := blk_frozen BKgb.out 7; have fgbz8 := blk_frozen BKgb.out 8; clear n0_ hbox hb hggb) | (go_at_call 53; refine (within_calls _ _ _ _).mono ?_; rintro e w' ⟨rfl, rfl⟩))
    go_ret
    exact RetB.mk rfl (iff_f HF.out) HB.out
  obtain ⟨h21, h22⟩ := h2
  have h2b : withinB ((L 0).length : Int) 1 6 = true := within_t.mpr ⟨h21, h22⟩
  by_cases h3 : ((L 5).length : Int) = 8 * ((L 0).length : Int)
  rotate_left
  · have HF : Aside0 (¬ (SlotsP s L ∧ ListsP L)) := ⟨fun hh => by obtain ⟨a1, a2, a3, a4, a5, a6, a7⟩ := hh.1.1; omega⟩
    have h3b : (((L 5).length : Int) != 8 * ((L 0).length : Int)) = true := bne_iff_ne.mpr h3
    clear h3
    go_enter Try.func49, Try.ntmps49
    go_wp2_with (first | ((with_reducible refine gate_dst (N := 1) rfl ?_); refine box_event rfl (N := 1) rfl (cs := bkCells s A c L) (t := 27) (by first | (go_simp; done) | (go_simp; rfl)) ?_; intro gb hggb w1 hbox hb; have n0_ := Aside0.mk (below_step HB.out hb); have BKgb := Aside0.mk hbox; have HGgb := Aside0.mk (show w.heap.size ≤ gb by rw [hggb]; exact HB.out.size); clear HB; have HB := n0_; have fgbs0 : w1.cell? ⟨gb, 0, none⟩ = some (.int .i64 _) := (blk_cell BKgb.out 0).trans rfl; have fgb1 : w1.cell? ⟨gb, 1, none⟩ = some (.slice (A 0) (L 0).length (c 0)) := (blk_cell BKgb.out 1).trans rfl; have fgb2 : w1.cell? ⟨gb, 2, none⟩ = some (.slice (A 1) (L 1).length (c 1)) := (blk_cell BKgb.out 2).trans rfl; have fgb3 : w1.cell? ⟨gb, 3, none⟩ = some (.slice (A 2) (L 2).length (c 2)) := (blk_cell BKgb.out 3).trans rfl; have fgb4 : w1.cell? ⟨gb, 4, none⟩ = some (.slice (A 3) (L 3).length (c 3)) := (blk_cell BKgb.out 4).trans rfl; have fgb5 : w1.cell? ⟨gb, 5, none⟩ = some (.slice (A 4) (L 4).length (c 4)) := (blk_cell BKgb.out 5).trans rfl; have fgb6 : w1.cell? ⟨gb, 6, none⟩ = some (.slice (A 5) (L 5).length (c 5)) := (blk_cell BKgb.out 6).trans rfl; have fgb7 : w1.cell? ⟨gb, 7, none⟩ = some (.slice (A 6) (L 6).length (c 6)) := (blk_cell BKgb.out 7).trans rfl; have fgb8 : w1.cell? ⟨gb, 8, none⟩ = some (.slice (A 7) (L 7).length (c 7)) := (blk_cell BKgb.out 8).trans rfl; have fgbz0 := blk_frozen BKgb.out 0; have fgbz1 := blk_frozen BKgb.out 1; have fgbz2 := blk_frozen BKgb.out 2; have fgbz3 := blk_frozen BKgb.out 3; have fgbz4 := blk_frozen BKgb.out 4; have fgbz5 := blk_frozen BKgb.out 5; have fgbz6 := blk_frozen BKgb.out 6; have fgbz7 := blk_frozen BKgb.out 7; have fgbz8 := blk_frozen BKgb.out 8; clear n0_ hbox hb hggb) | (go_at_call 53; refine (within_calls _ _ _ _).mono ?_; rintro e w' ⟨rfl, rfl⟩))
    go_ret
    exact RetB.mk rfl (iff_f HF.out) HB.out
  have Hh3 := Aside0.mk h3
  have h3b : (((L 5).length : Int) != 8 * ((L 0).length : Int)) = false := bne_eq_false_iff_eq.mpr h3
  clear h3
  by_cases h4 : ((L 6).length : Int) = s
  rotate_left
  · have HF : Aside0 (¬ (SlotsP s L ∧ ListsP L)) := ⟨fun hh => by obtain ⟨a1, a2, a3, a4, a5, a6, a7⟩ := hh.1.1; exact h4 a3⟩
    have h4b : (((L 6).length : Int) != s) = true := bne_iff_ne.mpr h4
    clear h4
    go_enter Try.func49, Try.ntmps49
    go_wp2_with (first | ((with_reducible refine gate_dst (N := 1) rfl ?_); refine box_event rfl (N := 1) rfl (cs := bkCells s A c L) (t := 27) (by first | (go_simp; done) | (go_simp; rfl)) ?_; intro gb hggb w1 hbox hb; have n0_ := Aside0.mk (below_step HB.out hb); have BKgb := Aside0.mk hbox; have HGgb := Aside0.mk (show w.heap.size ≤ gb by rw [hggb]; exact HB.out.size); clear HB; have HB := n0_; have fgbs0 : w1.cell? ⟨gb, 0, none⟩ = some (.int .i64 _) := (blk_cell BKgb.out 0).trans rfl; have fgb1 : w1.cell? ⟨gb, 1, none⟩ = some (.slice (A 0) (L 0).length (c 0)) := (blk_cell BKgb.out 1).trans rfl; have fgb2 : w1.cell? ⟨gb, 2, none⟩ = some (.slice (A 1) (L 1).length (c 1)) := (blk_cell BKgb.out 2).trans rfl; have fgb3 : w1.cell? ⟨gb, 3, none⟩ = some (.slice (A 2) (L 2).length (c 2)) := (blk_cell BKgb.out 3).trans rfl; have fgb4 : w1.cell? ⟨gb, 4, none⟩ = some (.slice (A 3) (L 3).length (c 3)) := (blk_cell BKgb.out 4).trans rfl; have fgb5 : w1.cell? ⟨gb, 5, none⟩ = some (.slice (A 4) (L 4).length (c 4)) := (blk_cell BKgb.out 5).trans rfl; have fgb6 : w1.cell? ⟨gb, 6, none⟩ = some (.slice (A 5) (L 5).length (c 5)) := (blk_cell BKgb.out 6).trans rfl; have fgb7 : w1.cell? ⟨gb, 7, none⟩ = some (.slice (A 6) (L 6).length (c 6)) := (blk_cell BKgb.out 7).trans rfl; have fgb8 : w1.cell? ⟨gb, 8, none⟩ = some (.slice (A 7) (L 7).length (c 7)) := (blk_cell BKgb.out 8).trans rfl; have fgbz0 := blk_frozen BKgb.out 0; have fgbz1 := blk_frozen BKgb.out 1; have fgbz2 := blk_frozen BKgb.out 2; have fgbz3 := blk_frozen BKgb.out 3; have fgbz4 := blk_frozen BKgb.out 4; have fgbz5 := blk_frozen BKgb.out 5; have fgbz6 := blk_frozen BKgb.out 6; have fgbz7 := blk_frozen BKgb.out 7; have fgbz8 := blk_frozen BKgb.out 8; clear n0_ hbox hb hggb) | (go_at_call 53; refine (within_calls _ _ _ _).mono ?_; rintro e w' ⟨rfl, rfl⟩))
    go_ret
    exact RetB.mk rfl (iff_f HF.out) HB.out
  have Hh4 := Aside0.mk h4
  have h4b : (((L 6).length : Int) != s) = false := bne_eq_false_iff_eq.mpr h4
  clear h4
  by_cases h5 : ((L 7).length : Int) = s
  rotate_left
  · have HF : Aside0 (¬ (SlotsP s L ∧ ListsP L)) := ⟨fun hh => by obtain ⟨a1, a2, a3, a4, a5, a6, a7⟩ := hh.1.1; exact h5 a4⟩
    have h5b : (((L 7).length : Int) != s) = true := bne_iff_ne.mpr h5
    clear h5
    go_enter Try.func49, Try.ntmps49
    go_wp2_with (first | ((with_reducible refine gate_dst (N := 1) rfl ?_); refine box_event rfl (N := 1) rfl (cs := bkCells s A c L) (t := 27) (by first | (go_simp; done) | (go_simp; rfl)) ?_; intro gb hggb w1 hbox hb; have n0_ := Aside0.mk (below_step HB.out hb); have BKgb := Aside0.mk hbox; have HGgb := Aside0.mk (show w.heap.size ≤ gb by rw [hggb]; exact HB.out.size); clear HB; have HB := n0_; have fgbs0 : w1.cell? ⟨gb, 0, none⟩ = some (.int .i64 _) := (blk_cell BKgb.out 0).trans rfl; have fgb1 : w1.cell? ⟨gb, 1, none⟩ = some (.slice (A 0) (L 0).length (c 0)) := (blk_cell BKgb.out 1).trans rfl; have fgb2 : w1.cell? ⟨gb, 2, none⟩ = some (.slice (A 1) (L 1).length (c 1)) := (blk_cell BKgb.out 2).trans rfl; have fgb3 : w1.cell? ⟨gb, 3, none⟩ = some (.slice (A 2) (L 2).length (c 2)) := (blk_cell BKgb.out 3).trans rfl; have fgb4 : w1.cell? ⟨gb, 4, none⟩ = some (.slice (A 3) (L 3).length (c 3)) := (blk_cell BKgb.out 4).trans rfl; have fgb5 : w1.cell? ⟨gb, 5, none⟩ = some (.slice (A 4) (L 4).length (c 4)) := (blk_cell BKgb.out 5).trans rfl; have fgb6 : w1.cell? ⟨gb, 6, none⟩ = some (.slice (A 5) (L 5).length (c 5)) := (blk_cell BKgb.out 6).trans rfl; have fgb7 : w1.cell? ⟨gb, 7, none⟩ = some (.slice (A 6) (L 6).length (c 6)) := (blk_cell BKgb.out 7).trans rfl; have fgb8 : w1.cell? ⟨gb, 8, none⟩ = some (.slice (A 7) (L 7).length (c 7)) := (blk_cell BKgb.out 8).trans rfl; have fgbz0 := blk_frozen BKgb.out 0; have fgbz1 := blk_frozen BKgb.out 1; have fgbz2 := blk_frozen BKgb.out 2; have fgbz3 := blk_frozen BKgb.out 3; have fgbz4 := blk_frozen BKgb.out 4; have fgbz5 := blk_frozen BKgb.out 5; have fgbz6 := blk_frozen BKgb.out 6; have fgbz7 := blk_frozen BKgb.out 7; have fgbz8 := blk_frozen BKgb.out 8; clear n0_ hbox hb hggb) | (go_at_call 53; refine (within_calls _ _ _ _).mono ?_; rintro e w' ⟨rfl, rfl⟩))
    go_ret
    exact RetB.mk rfl (iff_f HF.out) HB.out
  have Hh5 := Aside0.mk h5
  have h5b : (((L 7).length : Int) != s) = false := bne_eq_false_iff_eq.mpr h5
  clear h5
  have HS : Aside0 (SizesP s L) := ⟨⟨by omega, by omega, Hh4.out, Hh5.out, by omega, by omega, by have := Hh3.out; omega⟩⟩
  go_enter Try.func49, Try.ntmps49
  go_wp2_with (first | ((with_reducible refine gate_dst (N := 1) rfl ?_); refine box_event rfl (N := 1) rfl (cs := bkCells s A c L) (t := 27) (by first | (go_simp; done) | (go_simp; rfl)) ?_; intro gb hggb w1 hbox hb; have n0_ := Aside0.mk (below_step HB.out hb); have BKgb := Aside0.mk hbox; have HGgb := Aside0.mk (show w.heap.size ≤ gb by rw [hggb]; exact HB.out.size); clear HB; have HB := n0_; have fgbs0 : w1.cell? ⟨gb, 0, none⟩ = some (.int .i64 _) := (blk_cell BKgb.out 0).trans rfl; have fgb1 : w1.cell? ⟨gb, 1, none⟩ = some (.slice (A 0) (L 0).length (c 0)) := (blk_cell BKgb.out 1).trans rfl; have fgb2 : w1.cell? ⟨gb, 2, none⟩ = some (.slice (A 1) (L 1).length (c 1)) := (blk_cell BKgb.out 2).trans rfl; have fgb3 : w1.cell? ⟨gb, 3, none⟩ = some (.slice (A 2) (L 2).length (c 2)) := (blk_cell BKgb.out 3).trans rfl; have fgb4 : w1.cell? ⟨gb, 4, none⟩ = some (.slice (A 3) (L 3).length (c 3)) := (blk_cell BKgb.out 4).trans rfl; have fgb5 : w1.cell? ⟨gb, 5, none⟩ = some (.slice (A 4) (L 4).length (c 4)) := (blk_cell BKgb.out 5).trans rfl; have fgb6 : w1.cell? ⟨gb, 6, none⟩ = some (.slice (A 5) (L 5).length (c 5)) := (blk_cell BKgb.out 6).trans rfl; have fgb7 : w1.cell? ⟨gb, 7, none⟩ = some (.slice (A 6) (L 6).length (c 6)) := (blk_cell BKgb.out 7).trans rfl; have fgb8 : w1.cell? ⟨gb, 8, none⟩ = some (.slice (A 7) (L 7).length (c 7)) := (blk_cell BKgb.out 8).trans rfl; have fgbz0 := blk_frozen BKgb.out 0; have fgbz1 := blk_frozen BKgb.out 1; have fgbz2 := blk_frozen BKgb.out 2; have fgbz3 := blk_frozen BKgb.out 3; have fgbz4 := blk_frozen BKgb.out 4; have fgbz5 := blk_frozen BKgb.out 5; have fgbz6 := blk_frozen BKgb.out 6; have fgbz7 := blk_frozen BKgb.out 7; have fgbz8 := blk_frozen BKgb.out 8; clear n0_ hbox hb hggb) | (go_at_call 53; refine (within_calls _ _ _ _).mono ?_; rintro e w' ⟨rfl, rfl⟩))
  clear h3b h4b h5b h1b h2b
  go_loopg [51] 5 (fun kq v51 w' => ∃ k : Nat, k ≤ 4 ∧ kq = 5 - k ∧ v51 = .int .i64 k ∧ Aside0 ((k : Int) ≤ s) ∧ Aside0 (∀ j, j < k → SlotU (L 6) (L 7) j) ∧ Aside0 (w'.heap[gb]? = some (.cells (bkCells s A c L) 27 (0, 0))) ∧ Aside0 (Below w.heap.size w w'))
  case atStart => exact ⟨0, by omega, rfl, rfl, ⟨by omega⟩, ⟨fun j hj => by omega⟩, BKgb, HB⟩
  case round =>
    clear HB BKgb
    clear fgbs0 fgbz0 fgb1 fgbz1 fgb2 fgbz2 fgb3 fgbz3 fgb4 fgbz4 fgb5 fgbz5 fgb6 fgbz6 fgb7 fgbz7 fgb8 fgbz8
    obtain ⟨k, hk4, rfl, rfl, HK, HU, BKgb, HB⟩ := hrel
    by_cases hlt : (k : Int) < s
    · have k0 : (0 : Int) ≤ (k : Int) := by omega
      have k6 : (k : Int) < ((L 6).length : Int) := by have := Hh4.out; omega
      have k6n : k < (L 6).length := by omega
      have k7 : (k : Int) < ((L 7).length : Int) := by have := Hh5.out; omega
      obtain ⟨ad6, v, ea6, hx6, HV⟩ := at_v ((HR.out 6 (by omega)).below HB.out) k (by omega)
      obtain ⟨ad7, e, ea7, hx7, HE⟩ := at_v ((HR.out 7 (by omega)).below HB.out) k (by omega)
      have hc8 : wr.cell? ⟨gb, 8, none⟩ = some (.slice (some ad7) (L 7).length (c 7)) := (blk_cell BKgb.out 8).trans (by rw [← ea7]; rfl)
      have hz8 := blk_frozen BKgb.out 8
      clear ea7
      have HE6 := Aside0.mk ea6
      have HSU : Aside0 (SlotU (L 6) (L 7) k ↔ ((0 ≤ v ∧ v ≤ 2) ∧ (0 ≤ e ∧ e ≤ 4095) ∧ ¬ (v ≠ 0 ∧ e = 0))) := ⟨by unfold SlotU; rw [HV.out, HE.out]; exact slot_iff⟩
      by_cases g1 : 0 ≤ v ∧ v ≤ 2
      rotate_left
      · have g1b : withinB v 0 2 = false := within_f g1
        have G1 := Aside0.mk g1
        clear g1
        have HF : Aside0 (¬ (SlotsP s L ∧ ListsP L)) := ⟨fun hh => (fun q => G1.out q.1) (HSU.out.mp (hh.1.2.1 k hlt))⟩
        go_wp2_with (first | (go_at_call 53; refine (within_calls _ _ _ _).mono ?_; rintro e w' ⟨rfl, rfl⟩))
        go_ret
        exact RetB.mk rfl (iff_f HF.out) HB.out
      have G1 := Aside0.mk g1
      have g1b : withinB v 0 2 = true := within_t.mpr g1
      clear g1
      by_cases g2 : 0 ≤ e ∧ e ≤ 4095
      rotate_left
      · have g2b : withinB e 0 4095 = false := within_f g2
        have G2 := Aside0.mk g2
        clear g2
        have HF : Aside0 (¬ (SlotsP s L ∧ ListsP L)) := ⟨fun hh => (fun q => G2.out q.2.1) (HSU.out.mp (hh.1.2.1 k hlt))⟩
        go_wp2_with (first | (go_at_call 53; refine (within_calls _ _ _ _).mono ?_; rintro e w' ⟨rfl, rfl⟩))
        go_ret
        exact RetB.mk rfl (iff_f HF.out) HB.out
      have G2 := Aside0.mk g2
      have g2b : withinB e 0 4095 = true := within_t.mpr g2
      clear g2
      by_cases g3 : v = 0
      · have G3 := Aside0.mk g3
        have g3b : (v != 0) = false := by rw [g3]; rfl
        clear g3
        have HZ : Aside0 (∀ j, j < k + 1 → SlotU (L 6) (L 7) j) := ⟨fun j hj => if q : j < k then HU.out j q else (show k = j by omega) ▸ HSU.out.mpr ⟨G1.out, G2.out, fun q => q.1 G3.out⟩⟩
        go_wp2_with (first | (go_at_call 53; refine (within_calls _ _ _ _).mono ?_; rintro e w' ⟨rfl, rfl⟩))
        try rw [← HE6.out]
        go_roundg (5 - (k + 1))
        case measure => omega
        case rel => exact ⟨k + 1, by omega, rfl, by go_num, ⟨by omega⟩, HZ, BKgb, HB⟩
      have G3 := Aside0.mk g3
      have g3b : (v != 0) = true := bne_iff_ne.mpr g3
      clear g3
      by_cases g4 : e = 0
      · have G4 := Aside0.mk g4
        have g4b : (e == 0) = true := by rw [g4]; rfl
        clear g4
        have HF : Aside0 (¬ (SlotsP s L ∧ ListsP L)) := ⟨fun hh => (fun q => q.2.2 ⟨G3.out, G4.out⟩) (HSU.out.mp (hh.1.2.1 k hlt))⟩
        go_wp2_with (first | (go_at_call 53; refine (within_calls _ _ _ _).mono ?_; rintro e w' ⟨rfl, rfl⟩))
        go_ret
        exact RetB.mk rfl (iff_f HF.out) HB.out
      have G4 := Aside0.mk g4
      have g4b : (e == 0) = false := beq_eq_false_iff_ne.mpr g4
      clear g4
      have HZ : Aside0 (∀ j, j < k + 1 → SlotU (L 6) (L 7) j) := ⟨fun j hj => if q : j < k then HU.out j q else (show k = j by omega) ▸ HSU.out.mpr ⟨G1.out, G2.out, fun q => G4.out q.2⟩⟩
      go_wp2_with (first | (go_at_call 53; refine (within_calls _ _ _ _).mono ?_; rintro e w' ⟨rfl, rfl⟩))
      try rw [← HE6.out]
      go_roundg (5 - (k + 1))
      case measure => omega
      case rel => exact ⟨k + 1, by omega, rfl, by go_num, ⟨by omega⟩, HZ, BKgb, HB⟩
    · have HA : Aside0 (∀ i : Nat, (i : Int) < s → SlotU (L 6) (L 7) i) := ⟨fun i hi => HU.out i (by omega)⟩
      have hnl : ¬ (k : Int) < ((L 6).length : Int) := by have := Hh4.out; omega
      have hnk : ¬ k < (L 6).length := by omega
      have fgbs0 : wr.cell? ⟨gb, 0, none⟩ = some (.int .i64 _) := (blk_cell BKgb.out 0).trans rfl; have fgb1 : wr.cell? ⟨gb, 1, none⟩ = some (.slice (A 0) (L 0).length (c 0)) := (blk_cell BKgb.out 1).trans rfl; have fgb2 : wr.cell? ⟨gb, 2, none⟩ = some (.slice (A 1) (L 1).length (c 1)) := (blk_cell BKgb.out 2).trans rfl; have fgb3 : wr.cell? ⟨gb, 3, none⟩ = some (.slice (A 2) (L 2).length (c 2)) := (blk_cell BKgb.out 3).trans rfl; have fgb4 : wr.cell? ⟨gb, 4, none⟩ = some (.slice (A 3) (L 3).length (c 3)) := (blk_cell BKgb.out 4).trans rfl; have fgb5 : wr.cell? ⟨gb, 5, none⟩ = some (.slice (A 4) (L 4).length (c 4)) := (blk_cell BKgb.out 5).trans rfl; have fgb6 : wr.cell? ⟨gb, 6, none⟩ = some (.slice (A 5) (L 5).length (c 5)) := (blk_cell BKgb.out 6).trans rfl; have fgb7 : wr.cell? ⟨gb, 7, none⟩ = some (.slice (A 6) (L 6).length (c 6)) := (blk_cell BKgb.out 7).trans rfl; have fgb8 : wr.cell? ⟨gb, 8, none⟩ = some (.slice (A 7) (L 7).length (c 7)) := (blk_cell BKgb.out 8).trans rfl; have fgbz0 := blk_frozen BKgb.out 0; have fgbz1 := blk_frozen BKgb.out 1; have fgbz2 := blk_frozen BKgb.out 2; have fgbz3 := blk_frozen BKgb.out 3; have fgbz4 := blk_frozen BKgb.out 4; have fgbz5 := blk_frozen BKgb.out 5; have fgbz6 := blk_frozen BKgb.out 6; have fgbz7 := blk_frozen BKgb.out 7; have fgbz8 := blk_frozen BKgb.out 8
      clear HU HK
      go_wp2
      clear fgbs0 fgbz0 fgb1 fgbz1 fgb2 fgbz2 fgb3 fgbz3 fgb4 fgbz4 fgb5 fgbz5 fgb6 fgbz6 fgb7 fgbz7 fgb8 fgbz8
      obtain ⟨wo, rfl⟩ : ∃ wo : World, wo = wr := ⟨_, rfl⟩
      go_loopg [84] ((L 5).length + 1) (fun kq v84 w' => ∃ u : Nat, u ≤ (L 5).length ∧ kq = (L 5).length + 1 - u ∧ v84 = .int .i64 u ∧ Aside0 (∀ j, j < u → UnitU s (L 6) (L 5) j) ∧ Aside0 (w'.heap[gb]? = some (.cells (bkCells s A c L) 27 (0, 0))) ∧ Aside0 (Below w.heap.size w w'))
      case atStart => exact ⟨0, by omega, rfl, rfl, ⟨fun j hj => by omega⟩, BKgb, HB⟩
      case round =>
        clear HB BKgb
        obtain ⟨u, hu5, rfl, rfl, HU, BKgb, HB⟩ := hrel
        by_cases hlt5 : u < (L 5).length
        · have u0 : (0 : Int) ≤ (u : Int) := by omega
          have u5 : (u : Int) < ((L 5).length : Int) := by omega
          obtain ⟨ad5, o, ea5, hx5, HO⟩ := at_v ((HR.out 5 (by omega)).below HB.out) u hlt5
          have HUU : Aside0 (UnitU s (L 6) (L 5) u ↔ (o = 0 ∨ InP s (L 6) (o - 1))) := ⟨by
            unfold UnitU InP
            rw [HO.out]
            by_cases e0 : o = 0
            · subst e0; simp; omega
            · constructor
              · rintro ⟨q1, q2, q3⟩; exact Or.inr ⟨by omega, by omega, fun q => q3 ⟨by omega, q⟩⟩
              · rintro (q | ⟨q1, q2, q3⟩)
                · exact absurd q e0
                · exact ⟨by omega, by omega, fun q => q3 q.2⟩⟩
          have HE5 := Aside0.mk ea5
          by_cases g1 : o = 0
          · have HZ : Aside0 (∀ j, j < u + 1 → UnitU s (L 6) (L 5) j) := ⟨fun j hj => if q : j < u then HU.out j q else (show u = j by omega) ▸ HUU.out.mpr (Or.inl g1)⟩
            have g1b : (o != 0) = false := by rw [g1]; rfl
            clear g1
            go_wp2
            try rw [← HE5.out]
            go_roundg ((L 5).length + 1 - (u + 1))
            case measure => omega
            case rel => exact ⟨u + 1, by omega, rfl, by go_num, HZ, BKgb, HB⟩
          · have G1 := Aside0.mk g1
            have g1b : (o != 0) = true := bne_iff_ne.mpr g1
            clear g1
            have fgbs0 : wr.cell? ⟨gb, 0, none⟩ = some (.int .i64 _) := (blk_cell BKgb.out 0).trans rfl; have fgb1 : wr.cell? ⟨gb, 1, none⟩ = some (.slice (A 0) (L 0).length (c 0)) := (blk_cell BKgb.out 1).trans rfl; have fgb2 : wr.cell? ⟨gb, 2, none⟩ = some (.slice (A 1) (L 1).length (c 1)) := (blk_cell BKgb.out 2).trans rfl; have fgb3 : wr.cell? ⟨gb, 3, none⟩ = some (.slice (A 2) (L 2).length (c 2)) := (blk_cell BKgb.out 3).trans rfl; have fgb4 : wr.cell? ⟨gb, 4, none⟩ = some (.slice (A 3) (L 3).length (c 3)) := (blk_cell BKgb.out 4).trans rfl; have fgb5 : wr.cell? ⟨gb, 5, none⟩ = some (.slice (A 4) (L 4).length (c 4)) := (blk_cell BKgb.out 5).trans rfl; have fgb6 : wr.cell? ⟨gb, 6, none⟩ = some (.slice (A 5) (L 5).length (c 5)) := (blk_cell BKgb.out 6).trans rfl; have fgb7 : wr.cell? ⟨gb, 7, none⟩ = some (.slice (A 6) (L 6).length (c 6)) := (blk_cell BKgb.out 7).trans rfl; have fgb8 : wr.cell? ⟨gb, 8, none⟩ = some (.slice (A 7) (L 7).length (c 7)) := (blk_cell BKgb.out 8).trans rfl; have fgbz0 := blk_frozen BKgb.out 0; have fgbz1 := blk_frozen BKgb.out 1; have fgbz2 := blk_frozen BKgb.out 2; have fgbz3 := blk_frozen BKgb.out 3; have fgbz4 := blk_frozen BKgb.out 4; have fgbz5 := blk_frozen BKgb.out 5; have fgbz6 := blk_frozen BKgb.out 6; have fgbz7 := blk_frozen BKgb.out 7; have fgbz8 := blk_frozen BKgb.out 8
            clear fgb6 fgbz6
            have fgb6 : wr.cell? ⟨gb, 6, none⟩ = some (.slice (A 5) (L 5).length (c 5)) := (blk_cell BKgb.out 6).trans rfl
            have fgbz6 := blk_frozen BKgb.out 6
            go_wp2_with fail
            try rw [← HE5.out]
            refine (isIn_calls s A c L (wrap64 (o - 1)) _ (HR.out.below HB.out) (by omega) (by omega) Hh4.out).mono ?_
            rintro e w3 ⟨r, rfl, hr, hb⟩
            have HRR : Aside0 (r = true ↔ InP s (L 6) (o - 1)) := ⟨hr.trans (inP_wrap (by rw [← HO.out]; exact (HW5.out u).1) (by rw [← HO.out]; exact (HW5.out u).2) (by omega))⟩
            have HB3 := Aside0.mk (below_step HB.out hb)
            have BK3 := Aside0.mk (blk_below BKgb.out hb)
            clear hr hb HB BKgb hx5 ea5
            clear fgbs0 fgbz0 fgb1 fgbz1 fgb2 fgbz2 fgb3 fgbz3 fgb4 fgbz4 fgb5 fgbz5 fgb6 fgbz6 fgb7 fgbz7 fgb8 fgbz8
            cases r with
            | false =>
              have HF : Aside0 (¬ (SlotsP s L ∧ ListsP L)) := ⟨fun hh => by
                rcases HUU.out.mp (hh.1.2.2 u hlt5) with q | q
                · exact G1.out q
                · have := HRR.out.mpr q; cases this⟩
              go_wp2
              go_ret
              exact RetB.mk rfl (iff_f HF.out) HB3.out
            | true =>
              have HZ : Aside0 (∀ j, j < u + 1 → UnitU s (L 6) (L 5) j) := ⟨fun j hj => if q : j < u then HU.out j q else (show u = j by omega) ▸ HUU.out.mpr (Or.inr (HRR.out.mp rfl))⟩
              go_wp2
              try rw [← HE5.out]
              go_roundg ((L 5).length + 1 - (u + 1))
              case measure => omega
              case rel => exact ⟨u + 1, by omega, rfl, by go_num, HZ, BK3, HB3⟩
        · have HSP : Aside0 (SlotsP s L) := ⟨⟨HS.out, HA.out, fun j hj => HU.out j (by omega)⟩⟩
          have fgbs0 : wr.cell? ⟨gb, 0, none⟩ = some (.int .i64 _) := (blk_cell BKgb.out 0).trans rfl; have fgb1 : wr.cell? ⟨gb, 1, none⟩ = some (.slice (A 0) (L 0).length (c 0)) := (blk_cell BKgb.out 1).trans rfl; have fgb2 : wr.cell? ⟨gb, 2, none⟩ = some (.slice (A 1) (L 1).length (c 1)) := (blk_cell BKgb.out 2).trans rfl; have fgb3 : wr.cell? ⟨gb, 3, none⟩ = some (.slice (A 2) (L 2).length (c 2)) := (blk_cell BKgb.out 3).trans rfl; have fgb4 : wr.cell? ⟨gb, 4, none⟩ = some (.slice (A 3) (L 3).length (c 3)) := (blk_cell BKgb.out 4).trans rfl; have fgb5 : wr.cell? ⟨gb, 5, none⟩ = some (.slice (A 4) (L 4).length (c 4)) := (blk_cell BKgb.out 5).trans rfl; have fgb6 : wr.cell? ⟨gb, 6, none⟩ = some (.slice (A 5) (L 5).length (c 5)) := (blk_cell BKgb.out 6).trans rfl; have fgb7 : wr.cell? ⟨gb, 7, none⟩ = some (.slice (A 6) (L 6).length (c 6)) := (blk_cell BKgb.out 7).trans rfl; have fgb8 : wr.cell? ⟨gb, 8, none⟩ = some (.slice (A 7) (L 7).length (c 7)) := (blk_cell BKgb.out 8).trans rfl; have fgbz0 := blk_frozen BKgb.out 0; have fgbz1 := blk_frozen BKgb.out 1; have fgbz2 := blk_frozen BKgb.out 2; have fgbz3 := blk_frozen BKgb.out 3; have fgbz4 := blk_frozen BKgb.out 4; have fgbz5 := blk_frozen BKgb.out 5; have fgbz6 := blk_frozen BKgb.out 6; have fgbz7 := blk_frozen BKgb.out 7; have fgbz8 := blk_frozen BKgb.out 8
          clear HU
          go_wp2
          clear fgbs0 fgbz0 fgb1 fgbz1 fgb2 fgbz2 fgb3 fgbz3 fgb4 fgbz4 fgb5 fgbz5 fgb6 fgbz6 fgb7 fgbz7 fgb8 fgbz8
          obtain ⟨wp, rfl⟩ : ∃ wp : World, wp = wr := ⟨_, rfl⟩
          go_loopg [100] 5 (fun kq v100 w' => ∃ k : Nat, k ≤ 4 ∧ kq = 5 - k ∧ v100 = .int .i64 k ∧ Aside0 (∀ j, j < k → ListP (L 0) (L 5) (L (j + 1)) j) ∧ Aside0 (w'.heap[gb]? = some (.cells (bkCells s A c L) 27 (0, 0))) ∧ Aside0 (Below w.heap.size w w'))
          case atStart => exact ⟨0, by omega, rfl, rfl, ⟨fun j hj => by omega⟩, BKgb, HB⟩
          case round =>
            clear HB BKgb
            obtain ⟨k, hk4, rfl, rfl, HU, BKgb, HB⟩ := hrel
            by_cases hltk : k < 4
            · have hi4 : (k : Int) < 4 := by omega
              have hax := index4 A c L k hltk
              have hc6 : wr.cell? ⟨gb, 6, none⟩ = some (.slice (A 5) (L 5).length (c 5)) := (blk_cell BKgb.out 6).trans rfl
              have hz6 := blk_frozen BKgb.out 6
              by_cases hlen : (L (k + 1)).length > (L 5).length
              · have HF : Aside0 (¬ (SlotsP s L ∧ ListsP L)) := ⟨fun hh => by have := (hh.2 k hltk).1; omega⟩
                have hlen' : ((L 5).length : Int) < ((L (k + 1)).length : Int) := by omega
                go_wp2
                go_ret
                exact RetB.mk rfl (iff_f HF.out) HB.out
              · have hlen' : ¬ ((L 5).length : Int) < ((L (k + 1)).length : Int) := by omega
                have HLE : Aside0 ((L (k + 1)).length ≤ (L 5).length) := ⟨by omega⟩
                have hlk : ((L (k + 1)).length : Int) ≤ 35184372088832 := by have := HL.out (k + 1); omega
                go_wp2
                clear hlen hlen' hc6 hz6
                obtain ⟨wq, rfl⟩ : ∃ wq : World, wq = wr := ⟨_, rfl⟩
                go_loopg [112] ((L (k + 1)).length + 1) (fun kq v112 w' => ∃ i : Nat, i ≤ (L (k + 1)).length ∧ kq = (L (k + 1)).length + 1 - i ∧ v112 = .int .i64 i ∧ Aside0 (∀ j, j < i → EntryU (L 0) (L 5) (L (k + 1)) k j) ∧ Aside0 (w'.heap[gb]? = some (.cells (bkCells s A c L) 27 (0, 0))) ∧ Aside0 (Below w.heap.size w w'))
                case atStart => exact ⟨0, by omega, rfl, rfl, ⟨fun j hj => by omega⟩, BKgb, HB⟩
                case round =>
                  clear HB BKgb hax
                  obtain ⟨i, hil, rfl, rfl, HI, BKgb, HB⟩ := hrel
                  by_cases hlti : i < (L (k + 1)).length
                  · have i0 : (0 : Int) ≤ (i : Int) := by omega
                    have i1 : (i : Int) < ((L (k + 1)).length : Int) := by omega
                    obtain ⟨adk, a, eak, hxk, HAk⟩ := at_v ((HR.out (k + 1) (by omega)).below HB.out) i hlti
                    have HEK := Aside0.mk eak
                    have hc6 : wr.cell? ⟨gb, 6, none⟩ = some (.slice (A 5) (L 5).length (c 5)) := (blk_cell BKgb.out 6).trans rfl
                    have hz6 := blk_frozen BKgb.out 6
                    have HE : Aside0 (EntryU (L 0) (L 5) (L (k + 1)) k i ↔ ((0 ≤ a ∧ a ≤ ((L 5).length : Int) - 1) ∧ a % (sizeN k : Int) = 0 ∧ (L 0).getD (a / 8).toNat 0 = (k : Int) + 1)) := ⟨by
                      unfold EntryU
                      rw [HAk.out, kind_iff]
                      have hz := sizeN_pos' k
                      have hm := Int.emod_nonneg a (show (sizeN k : Int) ≠ 0 by omega)
                      constructor
                      · rintro ⟨q1, q2, q3, q4⟩; exact ⟨⟨by omega, by omega⟩, by omega, q3.2⟩
                      · rintro ⟨q1, q2, q3⟩; exact ⟨by omega, by omega, ⟨hltk, q3⟩, by omega⟩⟩
                    by_cases g1 : 0 ≤ a ∧ a ≤ ((L 5).length : Int) - 1
                    rotate_left
                    · have HF : Aside0 (¬ (SlotsP s L ∧ ListsP L)) := ⟨fun hh => g1 (HE.out.mp ((hh.2 k hltk).2 i hlti)).1⟩
                      have g1b : withinB a 0 (((L 5).length : Int) - 1) = false := within_f g1
                      clear g1
                      go_wp2_with (first | (go_at_call 53; refine (within_calls _ _ _ _).mono ?_; rintro e w' ⟨rfl, rfl⟩))
                      go_ret
                      exact RetB.mk rfl (iff_f HF.out) HB.out
                    have g1b : withinB a 0 (((L 5).length : Int) - 1) = true := within_t.mpr g1
                    have G1 := Aside0.mk g1
                    obtain ⟨a0, a1⟩ := g1
                    have aM : a ≤ 35184372088832 := by omega
                    have hdv : wrap64 (a.tdiv 8) = a / 8 := by rw [Int.tdiv_eq_ediv_of_nonneg a0]; unfold wrap64; omega
                    have a8 : (0 : Int) ≤ a / 8 := by omega
                    have a9 : a / 8 < ((L 0).length : Int) := by have := Hh3.out; omega
                    obtain ⟨ad0, q, ea0, hx0, HQ⟩ := at_v ((HR.out 0 (by omega)).below HB.out) (a / 8).toNat (by omega)
                    have hc1 : wr.cell? ⟨gb, 1, none⟩ = some (.slice (some ad0) (L 0).length (c 0)) := (blk_cell BKgb.out 1).trans (by rw [← ea0]; rfl)
                    have hz1 := blk_frozen BKgb.out 1
                    clear ea0
                    go_wp2_with (first | (go_at_call 53; refine (within_calls _ _ _ _).mono ?_; rintro e w' ⟨rfl, rfl⟩))
                    refine (unitsOf_calls k hltk _).mono ?_
                    rintro e w2 ⟨rfl, rfl⟩
                    obtain ⟨z, hz⟩ : ∃ z : Nat, sizeN k = z := ⟨_, rfl⟩
                    have HZ := Aside0.mk hz
                    have z0 : (0 : Int) < (z : Int) := by have := sizeN_pos k; omega
                    rw [hz]
                    clear hz
                    have hzb : ((z : Int) == 0) = false := by rw [beq_eq_false_iff_ne]; omega
                    by_cases g2 : a % (z : Int) = 0
                    rotate_left
                    · have HF : Aside0 (¬ (SlotsP s L ∧ ListsP L)) := ⟨fun hh => g2 (by rw [← HZ.out]; exact (HE.out.mp ((hh.2 k hltk).2 i hlti)).2.1)⟩
                      have g2b : (a % (z : Int) != 0) = true := bne_iff_ne.mpr g2
                      clear g2
                      go_wp2
                      go_ret
                      exact RetB.mk rfl (iff_f HF.out) HB.out
                    have G2 := Aside0.mk g2
                    have g2b : (a % (z : Int) != 0) = false := bne_eq_false_iff_eq.mpr g2
                    clear g2
                    by_cases g3 : q = (k : Int) + 1
                    rotate_left
                    · have HF : Aside0 (¬ (SlotsP s L ∧ ListsP L)) := ⟨fun hh => g3 (by rw [← HQ.out]; exact (HE.out.mp ((hh.2 k hltk).2 i hlti)).2.2)⟩
                      have g3b : (q != (k : Int) + 1) = true := bne_iff_ne.mpr g3
                      clear g3
                      go_wp2
                      go_ret
                      exact RetB.mk rfl (iff_f HF.out) HB.out
                    have G3 := Aside0.mk g3
                    have g3b : (q != (k : Int) + 1) = false := bne_eq_false_iff_eq.mpr g3
                    clear g3
                    have HI2 : Aside0 (∀ j, j < i + 1 → EntryU (L 0) (L 5) (L (k + 1)) k j) := ⟨fun j hj => if p : j < i then HI.out j p else (show i = j by omega) ▸ HE.out.mpr ⟨G1.out, by rw [HZ.out]; exact G2.out, by rw [HQ.out]; exact G3.out⟩⟩
                    go_wp2
                    try rw [← HEK.out]
                    go_roundg ((L (k + 1)).length + 1 - (i + 1))
                    case measure => omega
                    case rel => exact ⟨i + 1, by omega, rfl, by go_num, HI2, BKgb, HB⟩
                  · have HU2 : Aside0 (∀ j, j < k + 1 → ListP (L 0) (L 5) (L (j + 1)) j) := ⟨fun j hj => if p : j < k then HU.out j p else (show k = j by omega) ▸ ⟨HLE.out, fun x hx => HI.out x (by omega)⟩⟩
                    have hni : ¬ (i : Int) < ((L (k + 1)).length : Int) := by omega
                    go_wp2
                    go_roundg (5 - (k + 1))
                    case measure => omega
                    case rel => exact ⟨k + 1, by omega, rfl, by go_num, HU2, BKgb, HB⟩
            · have HF : Aside0 (SlotsP s L ∧ ListsP L) := ⟨⟨HSP.out, fun j hj => HU.out j (by omega)⟩⟩
              go_wp2
              go_ret
              exact RetB.mk rfl (iff_t HF.out) HB.out


/-- From page p on the pages are right, as the program looks at them. -/
inductive PF (L : Nat → List Int) : Nat → Prop
  | done {p : Nat} (hp : (L 0).length ≤ p) : PF L p
  | empty {p : Nat} (hp : p < (L 0).length) (hv : (L 0).getD p 0 = 0) (hz : NzN (L 5) (p * 8) 8 = 0) (next : PF L (p + 1)) : PF L p
  | kind {p : Nat} (k : Nat) (hp : p < (L 0).length) (hk : k < 4) (hv : (L 0).getD p 0 = (k : Int) + 1) (hK : KindP (L 5) (L (k + 1)) (sizeN k) p) (next : PF L (p + 1)) : PF L p
  | wide {p : Nat} (n : Nat) (hp : p < (L 0).length) (hn : 2 ≤ n ∧ n ≤ 4) (hv : (L 0).getD p 0 = (n : Int) + 8) (hl : p + n ≤ (L 0).length) (h0 : (L 5).getD (p * 8) 0 ≠ 0) (h1 : NzN (L 5) (p * 8) (n * 8) = 1) (hr : ∀ i, 1 ≤ i → i < n → (L 0).getD (p + i) 0 = 7) (next : PF L (p + n)) : PF L p
theorem PF_empty {L : Nat → List Int} {p : Nat} (hp : p < (L 0).length) (hv : (L 0).getD p 0 = 0) : PF L p ↔ (NzN (L 5) (p * 8) 8 = 0 ∧ PF L (p + 1)) := by
  constructor
  · intro h
    cases h with
    | done h => omega
    | empty _ _ hz nx => exact ⟨hz, nx⟩
    | kind k _ hk hv' _ _ => omega
    | wide n _ hn hv' _ _ _ _ _ => omega
  · rintro ⟨a, b⟩; exact .empty hp hv a b
theorem PF_kind {L : Nat → List Int} {p k : Nat} (hp : p < (L 0).length) (hk : k < 4) (hv : (L 0).getD p 0 = (k : Int) + 1) : PF L p ↔ (KindP (L 5) (L (k + 1)) (sizeN k) p ∧ PF L (p + 1)) := by
  constructor
  · intro h
    cases h with
    | done h => omega
    | empty _ hv' _ _ => omega
    | kind k' _ hk' hv' hK nx => obtain rfl : k' = k := by omega
                                 exact ⟨hK, nx⟩
    | wide n _ hn hv' _ _ _ _ _ => omega
  · rintro ⟨a, b⟩; exact .kind k hp hk hv a b
theorem PF_wide {L : Nat → List Int} {p : Nat} (hp : p < (L 0).length) (h0 : ¬ (L 0).getD p 0 = 0) (h4 : ¬ (1 ≤ (L 0).getD p 0 ∧ (L 0).getD p 0 ≤ 4)) : PF L p ↔ ∃ n : Nat, (2 ≤ n ∧ n ≤ 4) ∧ (L 0).getD p 0 = (n : Int) + 8 ∧ p + n ≤ (L 0).length ∧ (L 5).getD (p * 8) 0 ≠ 0 ∧ NzN (L 5) (p * 8) (n * 8) = 1 ∧ (∀ i, 1 ≤ i → i < n → (L 0).getD (p + i) 0 = 7) ∧ PF L (p + n) := by
  constructor
  · intro h
    cases h with
    | done h => omega
    | empty _ hv' _ _ => exact absurd hv' h0
    | kind k' _ hk' hv' hK nx => omega
    | wide n _ hn hv' a b c d nx => exact ⟨n, hn, hv', a, b, c, d, nx⟩
  · rintro ⟨n, hn, hv', a, b, c, d, nx⟩; exact .wide n hp hn hv' a b c d nx
set_option maxHeartbeats 8000000 in
set_option maxRecDepth 100000 in
theorem implBookOk_calls (s : Int) (A : Nat → Option Addr) (c : Nat → Nat) (L : Nat → List Int) (w : World) (h : BkC w A c L) (hl : ∀ i, (L i).length ≤ 35184372088832) (hw0 : Wf64 (L 0)) (hw5 : Wf64 (L 5)) :
    Calls Try.prog 22 #[.agg (bkCells s A c L)] w (RetB ((SlotsP s L ∧ ListsP L) ∧ PF L 0) w) := by
  have HR := Aside0.mk h
  have HL := Aside0.mk hl
  have HW0 := Aside0.mk hw0
  have HW5 := Aside0.mk hw5
  have hl0 : ((L 0).length : Int) ≤ 35184372088832 := by have := hl 0; omega
  have hl5 : ((L 5).length : Int) ≤ 35184372088832 := by have := hl 5; omega
  clear h hl hw0 hw5
  have HB := Aside0.mk (Below.refl w.heap.size w)
  go_enter Try.func22, Try.ntmps22
  go_wp2_with (first | ((with_reducible refine gate_dst (N := 1) rfl ?_); refine box_event rfl (N := 1) rfl (cs := bkCells s A c L) (t := 27) (by first | (go_simp; done) | (go_simp; rfl)) ?_; intro gb hggb w1 hbox hb; have n0_ := Aside0.mk (below_step HB.out hb); have BKgb := Aside0.mk hbox; have HGgb := Aside0.mk (show w.heap.size ≤ gb by rw [hggb]; exact HB.out.size); clear HB; have HB := n0_; have fgbs0 : w1.cell? ⟨gb, 0, none⟩ = some (.int .i64 _) := (blk_cell BKgb.out 0).trans rfl; have fgb1 : w1.cell? ⟨gb, 1, none⟩ = some (.slice (A 0) (L 0).length (c 0)) := (blk_cell BKgb.out 1).trans rfl; have fgb2 : w1.cell? ⟨gb, 2, none⟩ = some (.slice (A 1) (L 1).length (c 1)) := (blk_cell BKgb.out 2).trans rfl; have fgb3 : w1.cell? ⟨gb, 3, none⟩ = some (.slice (A 2) (L 2).length (c 2)) := (blk_cell BKgb.out 3).trans rfl; have fgb4 : w1.cell? ⟨gb, 4, none⟩ = some (.slice (A 3) (L 3).length (c 3)) := (blk_cell BKgb.out 4).trans rfl; have fgb5 : w1.cell? ⟨gb, 5, none⟩ = some (.slice (A 4) (L 4).length (c 4)) := (blk_cell BKgb.out 5).trans rfl; have fgb6 : w1.cell? ⟨gb, 6, none⟩ = some (.slice (A 5) (L 5).length (c 5)) := (blk_cell BKgb.out 6).trans rfl; have fgb7 : w1.cell? ⟨gb, 7, none⟩ = some (.slice (A 6) (L 6).length (c 6)) := (blk_cell BKgb.out 7).trans rfl; have fgb8 : w1.cell? ⟨gb, 8, none⟩ = some (.slice (A 7) (L 7).length (c 7)) := (blk_cell BKgb.out 8).trans rfl; have fgbz0 := blk_frozen BKgb.out 0; have fgbz1 := blk_frozen BKgb.out 1; have fgbz2 := blk_frozen BKgb.out 2; have fgbz3 := blk_frozen BKgb.out 3; have fgbz4 := blk_frozen BKgb.out 4; have fgbz5 := blk_frozen BKgb.out 5; have fgbz6 := blk_frozen BKgb.out 6; have fgbz7 := blk_frozen BKgb.out 7; have fgbz8 := blk_frozen BKgb.out 8; clear n0_ hbox hb hggb))
  refine (shapeOk_calls s A c L _ (HR.out.below HB.out) HL.out HW5.out).mono ?_
  rintro e w3 ⟨r, rfl, hr, hb⟩
  have HB3 := Aside0.mk (below_step HB.out hb)
  have BK3 := Aside0.mk (blk_below BKgb.out hb)
  clear HB BKgb hb
  clear fgbs0 fgbz0 fgb1 fgbz1 fgb2 fgbz2 fgb3 fgbz3 fgb4 fgbz4 fgb5 fgbz5 fgb6 fgbz6 fgb7 fgbz7 fgb8 fgbz8
  cases r with
  | false =>
    have HF : Aside0 (¬ ((SlotsP s L ∧ ListsP L) ∧ PF L 0)) := ⟨fun hh => by have := hr.mpr hh.1; cases this⟩
    clear hr
    go_wp2
    go_ret
    exact RetB.mk rfl (iff_f HF.out) HB3.out
  | true =>
    have HS := Aside0.mk (hr.mp rfl)
    have H05 : Aside0 ((L 5).length = (L 0).length * 8) := ⟨by have := HS.out.1.1.2.2.2.2.2.2; omega⟩
    clear hr
    go_wp2
    go_loopg [3] ((L 0).length + 1) (fun kq v3 w' => ∃ p : Nat, p ≤ (L 0).length ∧ kq = (L 0).length + 1 - p ∧ v3 = .int .i64 p ∧ Aside0 (PF L 0 ↔ PF L p) ∧ Aside0 (w'.heap[gb]? = some (.cells (bkCells s A c L) 27 (0, 0))) ∧ Aside0 (Below w.heap.size w w'))
    case atStart => exact ⟨0, by omega, rfl, rfl, ⟨Iff.rfl⟩, BK3, HB3⟩
    case round =>
      clear HB3 BK3
      obtain ⟨p, hp, rfl, rfl, HU, BKgb, HB⟩ := hrel
      by_cases hlt : p < (L 0).length
      · have p0 : (0 : Int) ≤ (p : Int) := by omega
        have p1 : (p : Int) < ((L 0).length : Int) := by omega
        have hp8 : p * 8 + 8 ≤ (L 5).length := by have := H05.out; omega
        obtain ⟨ad0, v, ea0, hx0, HV⟩ := at_v ((HR.out 0 (by omega)).below HB.out) p hlt
        have HE0 := Aside0.mk ea0
        have fgbs0 : wr.cell? ⟨gb, 0, none⟩ = some (.int .i64 _) := (blk_cell BKgb.out 0).trans rfl; have fgb1 : wr.cell? ⟨gb, 1, none⟩ = some (.slice (A 0) (L 0).length (c 0)) := (blk_cell BKgb.out 1).trans rfl; have fgb2 : wr.cell? ⟨gb, 2, none⟩ = some (.slice (A 1) (L 1).length (c 1)) := (blk_cell BKgb.out 2).trans rfl; have fgb3 : wr.cell? ⟨gb, 3, none⟩ = some (.slice (A 2) (L 2).length (c 2)) := (blk_cell BKgb.out 3).trans rfl; have fgb4 : wr.cell? ⟨gb, 4, none⟩ = some (.slice (A 3) (L 3).length (c 3)) := (blk_cell BKgb.out 4).trans rfl; have fgb5 : wr.cell? ⟨gb, 5, none⟩ = some (.slice (A 4) (L 4).length (c 4)) := (blk_cell BKgb.out 5).trans rfl; have fgb6 : wr.cell? ⟨gb, 6, none⟩ = some (.slice (A 5) (L 5).length (c 5)) := (blk_cell BKgb.out 6).trans rfl; have fgb7 : wr.cell? ⟨gb, 7, none⟩ = some (.slice (A 6) (L 6).length (c 6)) := (blk_cell BKgb.out 7).trans rfl; have fgb8 : wr.cell? ⟨gb, 8, none⟩ = some (.slice (A 7) (L 7).length (c 7)) := (blk_cell BKgb.out 8).trans rfl; have fgbz0 := blk_frozen BKgb.out 0; have fgbz1 := blk_frozen BKgb.out 1; have fgbz2 := blk_frozen BKgb.out 2; have fgbz3 := blk_frozen BKgb.out 3; have fgbz4 := blk_frozen BKgb.out 4; have fgbz5 := blk_frozen BKgb.out 5; have fgbz6 := blk_frozen BKgb.out 6; have fgbz7 := blk_frozen BKgb.out 7; have fgbz8 := blk_frozen BKgb.out 8
        rw [ea0] at fgb1
        clear ea0
        by_cases h0 : v = 0
        · have HP := Aside0.mk (PF_empty hlt (by rw [HV.out]; exact h0))
          have h0b : (v == 0) = true := by rw [h0]; rfl
          clear h0
          go_wp2_with fail
          rw [← HE0.out]
          refine (owned_calls s A c L _ _ (p * 8) 8 _ (HR.out.below HB.out) (by omega) (by omega) (by omega) hp8 (HL.out 5)).mono ?_
          rintro e w4 ⟨rfl, hb⟩
          obtain ⟨m, hm⟩ : ∃ m, NzN (L 5) (p * 8) 8 = m := ⟨_, rfl⟩
          have HM := Aside0.mk hm
          rw [hm]
          have HB4 := Aside0.mk (below_step HB.out hb)
          have BK4 := Aside0.mk (blk_below BKgb.out hb)
          clear hm hb HB BKgb hx0
          clear fgbs0 fgbz0 fgb1 fgbz1 fgb2 fgbz2 fgb3 fgbz3 fgb4 fgbz4 fgb5 fgbz5 fgb6 fgbz6 fgb7 fgbz7 fgb8 fgbz8
          by_cases g : 0 < m
          · have g' : (0 : Int) < (m : Int) := by omega
            have HF : Aside0 (¬ ((SlotsP s L ∧ ListsP L) ∧ PF L 0)) := ⟨fun hh => by have := (HP.out.mp (HU.out.mp hh.2)).1; rw [HM.out] at this; omega⟩
            go_wp2
            go_ret
            exact RetB.mk rfl (iff_f HF.out) HB4.out
          · have g' : ¬ (0 : Int) < (m : Int) := by omega
            have HU2 : Aside0 (PF L 0 ↔ PF L (p + 1)) := ⟨HU.out.trans (HP.out.trans ⟨fun q => q.2, fun q => ⟨by rw [HM.out]; omega, q⟩⟩)⟩
            go_wp2
            go_roundg ((L 0).length + 1 - (p + 1))
            case measure => omega
            case rel => exact ⟨p + 1, by omega, rfl, by go_num, HU2, BK4, HB4⟩
        have H0 := Aside0.mk h0
        have h0b : (v == 0) = false := beq_eq_false_iff_ne.mpr h0
        clear h0
        by_cases h4 : 1 ≤ v ∧ v ≤ 4
        · have h4b : withinB v 1 4 = true := within_t.mpr h4
          obtain ⟨k, hk⟩ : ∃ k : Nat, v = (k : Int) + 1 := ⟨(v - 1).toNat, by omega⟩
          have hk4 : k < 4 := by omega
          have HK := Aside0.mk hk
          have HP := Aside0.mk (PF_kind (L := L) (k := k) hlt hk4 (by rw [HV.out]; exact hk))
          clear h4 hk
          go_wp2_with (first | (go_at_call 51; refine (isKind_calls _ _).mono ?_; rintro e w' ⟨rfl, rfl⟩))
          rw [← HE0.out]
          refine (kindOk_calls s A c L p k _ (HR.out.below HB.out) hk4 (by rw [HV.out]; exact HK.out) hlt hp8 HL.out).mono ?_
          rintro e w4 ⟨r, rfl, hr, hb⟩
          have HB4 := Aside0.mk (below_step HB.out hb)
          have BK4 := Aside0.mk (blk_below BKgb.out hb)
          clear hb HB BKgb hx0
          clear fgbs0 fgbz0 fgb1 fgbz1 fgb2 fgbz2 fgb3 fgbz3 fgb4 fgbz4 fgb5 fgbz5 fgb6 fgbz6 fgb7 fgbz7 fgb8 fgbz8
          cases r with
          | false =>
            have HF : Aside0 (¬ ((SlotsP s L ∧ ListsP L) ∧ PF L 0)) := ⟨fun hh => by have := hr.mpr (HP.out.mp (HU.out.mp hh.2)).1; cases this⟩
            clear hr
            go_wp2
            go_ret
            exact RetB.mk rfl (iff_f HF.out) HB4.out
          | true =>
            have HU2 : Aside0 (PF L 0 ↔ PF L (p + 1)) := ⟨HU.out.trans (HP.out.trans ⟨fun q => q.2, fun q => ⟨hr.mp rfl, q⟩⟩)⟩
            clear hr
            go_wp2
            go_roundg ((L 0).length + 1 - (p + 1))
            case measure => omega
            case rel => exact ⟨p + 1, by omega, rfl, by go_num, HU2, BK4, HB4⟩
        have h4b : withinB v 1 4 = false := within_f h4
        have HP := Aside0.mk (PF_wide (L := L) hlt (by rw [HV.out]; exact H0.out) (by rw [HV.out]; exact h4))
        clear h4
        obtain ⟨n, hn⟩ : ∃ n, wrap64 (v - 8) = n := ⟨_, rfl⟩
        have HN : Aside0 (n = v - 8 ∨ (v - 8 < 2 ∧ 4 < n)) := ⟨wrap_sub8 (by rw [← HV.out]; exact (HW0.out p).1) (by rw [← HV.out]; exact (HW0.out p).2) hn⟩
        by_cases g1 : 2 ≤ n ∧ n ≤ 4
        rotate_left
        · have HF : Aside0 (¬ ((SlotsP s L ∧ ListsP L) ∧ PF L 0)) := ⟨fun hh => by
            obtain ⟨m, hm, hv, _⟩ := HP.out.mp (HU.out.mp hh.2)
            rw [HV.out] at hv
            have := HN.out
            omega⟩
          have g1b : withinB n 2 4 = false := within_f g1
          clear g1
          go_wp2_with (first | (go_at_call 51; refine (isKind_calls _ _).mono ?_; rintro e w' ⟨rfl, rfl⟩) | (go_at_call 53; refine (within_calls _ _ _ _).mono ?_; rintro e w' ⟨rfl, rfl⟩))
          go_ret
          exact RetB.mk rfl (iff_f HF.out) HB.out
        have g1b : withinB n 2 4 = true := within_t.mpr g1
        obtain ⟨g11, g12⟩ := g1
        have HVN : Aside0 (v = n + 8) := ⟨by have := HN.out; omega⟩
        obtain ⟨m, hm⟩ : ∃ m : Nat, n = (m : Int) := ⟨n.toNat, by omega⟩
        have HM := Aside0.mk hm
        clear HN hm
        have HPW : Aside0 (PF L p ↔ (p + m ≤ (L 0).length ∧ (L 5).getD (p * 8) 0 ≠ 0 ∧ NzN (L 5) (p * 8) (m * 8) = 1 ∧ (∀ i, 1 ≤ i → i < m → (L 0).getD (p + i) 0 = 7) ∧ PF L (p + m))) := ⟨by
          rw [HP.out, HV.out]
          have := HVN.out
          have := HM.out
          constructor
          · rintro ⟨m', _, hv, q⟩
            obtain rfl : m' = m := by omega
            exact q
          · intro q
            exact ⟨m, by omega, by omega, q⟩⟩
        clear HP
        by_cases g2 : n > ((L 0).length : Int) - (p : Int)
        · have HF : Aside0 (¬ ((SlotsP s L ∧ ListsP L) ∧ PF L 0)) := ⟨fun hh => by have := (HPW.out.mp (HU.out.mp hh.2)).1; have := HM.out; omega⟩
          go_wp2_with (first | (go_at_call 51; refine (isKind_calls _ _).mono ?_; rintro e w' ⟨rfl, rfl⟩) | (go_at_call 53; refine (within_calls _ _ _ _).mono ?_; rintro e w' ⟨rfl, rfl⟩))
          go_ret
          exact RetB.mk rfl (iff_f HF.out) HB.out
        have G2 : Aside0 (p + m ≤ (L 0).length) := ⟨by have := HM.out; omega⟩
        have g2b : (((L 0).length : Int) - (p : Int) < n) = False := eq_false (by omega)
        clear g2
        obtain ⟨ad5, o, ea5, hx5, HO⟩ := at_v ((HR.out 5 (by omega)).below HB.out) (p * 8) (by omega)
        have HE5 := Aside0.mk ea5
        have q5 : (p : Int) * 8 < ((L 5).length : Int) := by omega
        rw [ea5] at fgb6
        clear ea5
        by_cases g3 : o = 0
        · have G3 := Aside0.mk g3
          have g3b : (o == 0) = true := by rw [g3]; rfl
          clear g3
          have HF : Aside0 (¬ ((SlotsP s L ∧ ListsP L) ∧ PF L 0)) := ⟨fun hh => (HPW.out.mp (HU.out.mp hh.2)).2.1 (by rw [HO.out]; exact G3.out)⟩
          go_wp2_with (first | (go_at_call 51; refine (isKind_calls _ _).mono ?_; rintro e w' ⟨rfl, rfl⟩) | (go_at_call 53; refine (within_calls _ _ _ _).mono ?_; rintro e w' ⟨rfl, rfl⟩))
          go_ret
          exact RetB.mk rfl (iff_f HF.out) HB.out
        have G3 := Aside0.mk g3
        have g3b : (o == 0) = false := beq_eq_false_iff_ne.mpr g3
        clear g3
        go_wp2_with (first | (go_at_call 51; refine (isKind_calls _ _).mono ?_; rintro e w' ⟨rfl, rfl⟩) | (go_at_call 53; refine (within_calls _ _ _ _).mono ?_; rintro e w' ⟨rfl, rfl⟩))
        rw [← HE0.out, ← HE5.out]
        refine (owned_calls s A c L _ _ (p * 8) (m * 8) _ (HR.out.below HB.out) (by omega) (by have := HM.out; omega) (by have := HM.out; omega) (by have := G2.out; have := H05.out; omega) (HL.out 5)).mono ?_
        rintro e w4 ⟨rfl, hb⟩
        obtain ⟨z, hz⟩ : ∃ z, NzN (L 5) (p * 8) (m * 8) = z := ⟨_, rfl⟩
        have HZ := Aside0.mk hz
        rw [hz]
        have HB4 := Aside0.mk (below_step HB.out hb)
        have BK4 := Aside0.mk (blk_below BKgb.out hb)
        clear hz hb HB BKgb hx0 hx5
        clear fgbs0 fgbz0 fgb1 fgbz1 fgb2 fgbz2 fgb3 fgbz3 fgb4 fgbz4 fgb5 fgbz5 fgb6 fgbz6 fgb7 fgbz7 fgb8 fgbz8
        by_cases g4 : (z : Int) = 1
        rotate_left
        · have HF : Aside0 (¬ ((SlotsP s L ∧ ListsP L) ∧ PF L 0)) := ⟨fun hh => g4 (by have := (HPW.out.mp (HU.out.mp hh.2)).2.2.1; rw [HZ.out] at this; omega)⟩
          have g4b : ((z : Int) != 1) = true := bne_iff_ne.mpr g4
          clear g4
          go_wp2
          go_ret
          exact RetB.mk rfl (iff_f HF.out) HB4.out
        have G4 : Aside0 (z = 1) := ⟨by omega⟩
        have g4b : ((z : Int) != 1) = false := bne_eq_false_iff_eq.mpr g4
        clear g4 g2b
        have HME := Aside0.mk (show n = (m : Int) from HM.out)
        go_wp2
        obtain ⟨wo, rfl⟩ : ∃ wo : World, wo = w4 := ⟨_, rfl⟩
        go_loopg [3, 58] (m - 1) (fun kq v3 v58 w' => ∃ i : Nat, i + 1 ≤ m ∧ kq = m - 1 - i ∧ v58 = .int .i64 i ∧ v3 = .int .i64 ((p : Int) + (i : Int)) ∧ Aside0 (∀ j, 1 ≤ j → j < i + 1 → (L 0).getD (p + j) 0 = 7) ∧ Aside0 (w'.heap[gb]? = some (.cells (bkCells s A c L) 27 (0, 0))) ∧ Aside0 (Below w.heap.size w w'))
        case atStart => exact ⟨0, by have := HME.out; omega, by omega, rfl, by simp, ⟨fun j h1 h2 => by omega⟩, BK4, HB4⟩
        case round =>
          clear HB4 BK4
          obtain ⟨i, hi, rfl, rfl, rfl, HI, BKgb, HB⟩ := hrel
          have nm := HME.out
          by_cases hlti : i + 1 < m
          · have l1 : (i : Int) < n - 1 := by omega
            have l2 : (0 : Int) ≤ (p : Int) + (i : Int) + 1 := by omega
            have l3 : (p : Int) + (i : Int) + 1 < ((L 0).length : Int) := by have := G2.out; omega
            clear nm
            obtain ⟨adi, vi, eai, hxi, HVi⟩ := at_v ((HR.out 0 (by omega)).below HB.out) (p + i + 1) (by have := G2.out; omega)
            have hc1 : wr.cell? ⟨gb, 1, none⟩ = some (.slice (some adi) (L 0).length (c 0)) := (blk_cell BKgb.out 1).trans (by rw [← eai]; rfl)
            have hz1 := blk_frozen BKgb.out 1
            clear eai
            have hxj : wr.cell? ⟨adi.block, adi.off + (p + i + 1), none⟩ = some (.int .i64 vi) := by have h := hxi; unfold Addr.add at h; rw [if_neg (by omega)] at h; exact h
            by_cases hv : vi = 7
            · have HZi : Aside0 (∀ j, 1 ≤ j → j < i + 1 + 1 → (L 0).getD (p + j) 0 = 7) := ⟨fun j h1 h2 => if e : j < i + 1 then HI.out j h1 e else (show i + 1 = j by omega) ▸ (by rw [← Nat.add_assoc, HVi.out, hv])⟩
              have hv' : (vi != 7) = false := by rw [hv]; rfl
              clear hv
              go_wp2
              go_roundg (m - 1 - (i + 1))
              case measure => omega
              case rel => exact ⟨i + 1, by omega, rfl, by go_num, by (rw [show ((i + 1 : Nat) : Int) = (i : Int) + 1 by omega, Int.add_assoc]), HZi, BKgb, HB⟩
            · have HF : Aside0 (¬ ((SlotsP s L ∧ ListsP L) ∧ PF L 0)) := ⟨fun hh => hv (by rw [← HVi.out]; have := (HPW.out.mp (HU.out.mp hh.2)).2.2.2.1 (i + 1) (by omega) hlti; rw [← Nat.add_assoc] at this; exact this)⟩
              have hv' : (vi != 7) = true := bne_iff_ne.mpr hv
              clear hv
              go_wp2
              go_ret
              exact RetB.mk rfl (iff_f HF.out) HB.out
          · have l1 : ¬ (i : Int) < n - 1 := by omega
            have HU2 : Aside0 (PF L 0 ↔ PF L (p + m)) := ⟨HU.out.trans (HPW.out.trans ⟨fun q => q.2.2.2.2, fun q => ⟨G2.out, by rw [HO.out]; exact G3.out, by rw [HZ.out]; exact G4.out, fun j h1 h2 => HI.out j h1 (by omega), q⟩⟩)⟩
            have him : i + 1 = m := by omega
            have lp : (p : Int) + (i : Int) ≤ 35184372088832 := by have := G2.out; omega
            clear nm l1
            have HIM := Aside0.mk him
            have l1 : ¬ (i : Int) < n - 1 := by have := HME.out; have := HIM.out; omega
            clear him
            go_wp2
            go_roundg ((L 0).length + 1 - (p + m))
            case measure => have := HIM.out; have := G2.out; omega
            case rel => exact ⟨p + m, G2.out, rfl, by (rw [← HIM.out]; first | done | rfl | (congr 1; omega)), HU2, BKgb, HB⟩
      · have HF : Aside0 ((SlotsP s L ∧ ListsP L) ∧ PF L 0) := ⟨⟨HS.out, HU.out.mpr (.done (by omega))⟩⟩
        have fgbs0 : wr.cell? ⟨gb, 0, none⟩ = some (.int .i64 _) := (blk_cell BKgb.out 0).trans rfl; have fgb1 : wr.cell? ⟨gb, 1, none⟩ = some (.slice (A 0) (L 0).length (c 0)) := (blk_cell BKgb.out 1).trans rfl; have fgb2 : wr.cell? ⟨gb, 2, none⟩ = some (.slice (A 1) (L 1).length (c 1)) := (blk_cell BKgb.out 2).trans rfl; have fgb3 : wr.cell? ⟨gb, 3, none⟩ = some (.slice (A 2) (L 2).length (c 2)) := (blk_cell BKgb.out 3).trans rfl; have fgb4 : wr.cell? ⟨gb, 4, none⟩ = some (.slice (A 3) (L 3).length (c 3)) := (blk_cell BKgb.out 4).trans rfl; have fgb5 : wr.cell? ⟨gb, 5, none⟩ = some (.slice (A 4) (L 4).length (c 4)) := (blk_cell BKgb.out 5).trans rfl; have fgb6 : wr.cell? ⟨gb, 6, none⟩ = some (.slice (A 5) (L 5).length (c 5)) := (blk_cell BKgb.out 6).trans rfl; have fgb7 : wr.cell? ⟨gb, 7, none⟩ = some (.slice (A 6) (L 6).length (c 6)) := (blk_cell BKgb.out 7).trans rfl; have fgb8 : wr.cell? ⟨gb, 8, none⟩ = some (.slice (A 7) (L 7).length (c 7)) := (blk_cell BKgb.out 8).trans rfl; have fgbz0 := blk_frozen BKgb.out 0; have fgbz1 := blk_frozen BKgb.out 1; have fgbz2 := blk_frozen BKgb.out 2; have fgbz3 := blk_frozen BKgb.out 3; have fgbz4 := blk_frozen BKgb.out 4; have fgbz5 := blk_frozen BKgb.out 5; have fgbz6 := blk_frozen BKgb.out 6; have fgbz7 := blk_frozen BKgb.out 7; have fgbz8 := blk_frozen BKgb.out 8
        go_wp2
        go_ret
        exact RetB.mk rfl (iff_t HF.out) HB.out


theorem getD_over (l : List Int) (u : Nat) (h : ¬ u < l.length) : l.getD u 0 = 0 := by simp [List.getD, List.getElem?_eq_none (by omega : l.length ≤ u)]
theorem NzN_zero (O : List Int) (f n : Nat) : NzN O f n = 0 ↔ ∀ u, u < n → O.getD (f + u) 0 = 0 := by
  induction n with
  | zero => simp [NzN]
  | succ n ih =>
    unfold NzN
    by_cases h : O.getD (f + n) 0 ≠ 0
    · rw [if_pos h]
      exact ⟨fun q => by omega, fun q => absurd (q n (by omega)) h⟩
    · rw [if_neg h, Nat.add_zero, ih]
      have h' : O.getD (f + n) 0 = 0 := by simpa using h
      exact ⟨fun q u hu => if e : u < n then q u e else (show n = u by omega) ▸ h', fun q u hu => q u (by omega)⟩
theorem NzN_one (O : List Int) (f n : Nat) (h0 : O.getD f 0 ≠ 0) : NzN O f (n + 1) = 1 ↔ ∀ u, 1 ≤ u → u < n + 1 → O.getD (f + u) 0 = 0 := by
  induction n with
  | zero =>
    have : NzN O f 1 = 1 := by unfold NzN; rw [if_pos (by simpa using h0)]; rfl
    exact ⟨fun _ u h1 h2 => by omega, fun _ => this⟩
  | succ n ih =>
    have hpos : ∀ m, 1 ≤ NzN O f (m + 1) := by
      intro m
      induction m with
      | zero => have : NzN O f 1 = 1 := by unfold NzN; rw [if_pos (by simpa using h0)]; rfl
                show 1 ≤ NzN O f 1
                omega
      | succ m ih => rw [show NzN O f (m + 1 + 1) = NzN O f (m + 1) + if O.getD (f + (m + 1)) 0 ≠ 0 then 1 else 0 from rfl]; omega
    rw [show NzN O f (n + 1 + 1) = NzN O f (n + 1) + if O.getD (f + (n + 1)) 0 ≠ 0 then 1 else 0 from rfl]
    by_cases h : O.getD (f + (n + 1)) 0 ≠ 0
    · rw [if_pos h]
      have := hpos n
      exact ⟨fun q => by omega, fun q => absurd (q (n + 1) (by omega) (by omega)) h⟩
    · rw [if_neg h, Nat.add_zero, ih]
      have h' : O.getD (f + (n + 1)) 0 = 0 := by simpa using h
      exact ⟨fun q u h1 hu => if e : u < n + 1 then q u h1 e else (show n + 1 = u by omega) ▸ h', fun q u h1 hu => q u h1 (by omega)⟩
theorem own_nn {s : Int} {L : Nat → List Int} (h : SlotsP s L) (u : Nat) : 0 ≤ (L 5).getD u 0 := by
  by_cases hu : u < (L 5).length
  · have := (h.2.2 u hu).1; omega
  · rw [getD_over _ _ hu]; omega
theorem free_iff {s : Int} {L : Nat → List Int} (h : SlotsP s L) (p : Nat) : FreeP (L 5) p 0 ↔ NzN (L 5) (p * 8) 8 = 0 := by
  rw [NzN_zero]
  exact ⟨fun q u hu => by have := q u (by omega) hu; have := own_nn h (p * 8 + u); omega, fun q u _ hu => by rw [q u hu]; omega⟩
theorem free1_iff {s : Int} {L : Nat → List Int} (h : SlotsP s L) (p : Nat) : FreeP (L 5) p 1 ↔ ∀ u, 1 ≤ u → u < 8 → (L 5).getD (p * 8 + u) 0 = 0 :=
  ⟨fun q u h1 hu => by have := q u h1 hu; have := own_nn h (p * 8 + u); omega, fun q u h1 hu => by rw [q u h1 hu]; omega⟩
theorem cnt_pos {l : List Int} {x : Int} (h : 0 < cnt l x) : ∃ i, i < l.length ∧ l.getD i 0 = x := by
  unfold cnt at h
  rw [List.count_pos_iff] at h
  obtain ⟨i, hi, he⟩ := List.getElem_of_mem h
  exact ⟨i, hi, by simp [List.getD, List.getElem?_eq_getElem hi, he]⟩
theorem sizeN_dvd (k : Nat) : ∃ m, 8 = m * sizeN k := by
  unfold sizeN
  split
  · exact ⟨8, rfl⟩
  · exact ⟨4, rfl⟩
  · exact ⟨2, rfl⟩
  · exact ⟨1, rfl⟩
theorem mod_page (k p u : Nat) : (p * 8 + u) % sizeN k = u % sizeN k := by
  obtain ⟨m, hm⟩ := sizeN_dvd k
  rw [show p * 8 = sizeN k * (p * m) by rw [hm, ← Nat.mul_assoc, Nat.mul_comm], Nat.mul_add_mod]
theorem rooms_iff {s : Int} {L : Nat → List Int} (hS : SlotsP s L) (hL : ListsP L) (p k : Nat) (hk : k < 4) : RoomsP (L 5) (L (k + 1)) (sizeN k) p ↔ KindP (L 5) (L (k + 1)) (sizeN k) p := by
  have hn : ∀ u, ¬ u % sizeN k = 0 → cnt (L (k + 1)) ((p : Int) * 8 + (u : Int)) = 0 := by
    intro u hu
    by_cases h0 : 0 < cnt (L (k + 1)) ((p : Int) * 8 + (u : Int))
    · obtain ⟨i, hi, he⟩ := cnt_pos h0
      have h4 := ((hL k hk).2 i hi).2.2.2
      rw [he] at h4
      have h5 : ((p : Int) * 8 + (u : Int)) % (sizeN k : Int) = (((p * 8 + u) % sizeN k : Nat) : Int) := by
        rw [show (p : Int) * 8 + (u : Int) = ((p * 8 + u : Nat) : Int) by omega]; rfl
      rw [h5, mod_page] at h4
      omega
    · omega
  have hu : ∀ u, RoomU (L 5) (L (k + 1)) (sizeN k) p u ↔ KindU (L 5) (L (k + 1)) (sizeN k) (p * 8 + u) := by
    intro u
    unfold RoomU KindU
    rw [mod_page, show ((p * 8 + u : Nat) : Int) = (p : Int) * 8 + (u : Int) by omega]
    have h0 := own_nn hS (p * 8 + u)
    by_cases hz : u % sizeN k = 0
    · rw [if_neg (by omega)]
      generalize (L 5).getD (p * 8 + u) 0 = o at *
      generalize cnt (L (k + 1)) ((p : Int) * 8 + (u : Int)) = n at *
      omega
    · rw [if_pos (by omega), hn u hz]
      generalize (L 5).getD (p * 8 + u) 0 = o at *
      omega
  unfold RoomsP KindP
  constructor
  · rintro ⟨h1, u, hu8, _, ho⟩
    refine ⟨fun u h => (hu u).mp (h1 u h), ?_⟩
    by_cases e : NzN (L 5) (p * 8) 8 = 0
    · have := (NzN_zero _ _ _).mp e u hu8; omega
    · omega
  · rintro ⟨h1, h2⟩
    have h1' : ∀ u, u < 8 → RoomU (L 5) (L (k + 1)) (sizeN k) p u := fun u h => (hu u).mpr (h1 u h)
    refine ⟨h1', ?_⟩
    by_cases e : ∃ u, u < 8 ∧ u % sizeN k = 0 ∧ (L 5).getD (p * 8 + u) 0 > 0
    · exact e
    · have : NzN (L 5) (p * 8) 8 = 0 := (NzN_zero _ _ _).mpr fun u h8 => by
        have h0 := own_nn hS (p * 8 + u)
        by_cases hz : u % sizeN k = 0
        · by_cases ho : (L 5).getD (p * 8 + u) 0 > 0
          · exact absurd ⟨u, h8, hz, ho⟩ e
          · omega
        · have h3 := h1' u h8
          unfold RoomU at h3
          rw [if_pos (by omega)] at h3
          by_cases ho : (L 5).getD (p * 8 + u) 0 > 0
          · exact absurd (Or.inl ho) h3
          · omega
      omega
/-- No wide room that begins ahead of p goes beyond p. -/
def InvP (L : Nat → List Int) (p : Nat) : Prop := ∀ q : Nat, q < p → (L 0).getD q 0 > 8 → (q : Int) + ((L 0).getD q 0 - 8) ≤ (p : Int)
theorem page_0 {L : Nat → List Int} {p : Nat} (h : (L 0).getD p 0 = 0) : PageP L p ↔ FreeP (L 5) p 0 := by unfold PageP; rw [if_pos h]
theorem page_k {L : Nat → List Int} {p k : Nat} (hk : k < 4) (h : (L 0).getD p 0 = (k : Int) + 1) : PageP L p ↔ RoomsP (L 5) (L (k + 1)) (sizeN k) p := by
  unfold PageP
  rw [h, if_neg (by omega), if_pos (by omega), show ((k : Int) + 1 - 1).toNat = k by omega]
theorem page_7 {L : Nat → List Int} {p : Nat} (h : (L 0).getD p 0 = 7) : PageP L p ↔ RestP (L 0) (L 5) p := by
  unfold PageP
  rw [h, if_neg (by omega), if_neg (by omega), if_pos rfl]
theorem page_w {L : Nat → List Int} {p : Nat} (h0 : ¬ (L 0).getD p 0 = 0) (h4 : ¬ (1 ≤ (L 0).getD p 0 ∧ (L 0).getD p 0 ≤ 4)) (h7 : ¬ (L 0).getD p 0 = 7) : PageP L p ↔ WideP (L 0) (L 5) p := by
  unfold PageP
  rw [if_neg h0, if_neg h4, if_neg h7]
theorem wrap_small {q v : Int} (h0 : 0 ≤ q) (h1 : q ≤ 100) (h2 : 0 ≤ v) (h3 : v ≤ 100) : wrap64 (wrap64 (q + v) - 8) = q + v - 8 := by unfold wrap64; omega
theorem pf_of {s : Int} {L : Nat → List Int} (hS : SlotsP s L) (hL : ListsP L) (h : ∀ p, p < (L 0).length → PageP L p) : ∀ d p, (L 0).length - p = d → p ≤ (L 0).length → InvP L p → PF L p := by
  have h6 := hS.1.2.2.2.2.2.1
  intro d
  induction d using Nat.strongRecOn with
  | _ d ih =>
    intro p hd hp hI
    by_cases hlt : p < (L 0).length
    · have hP := h p hlt
      by_cases h0 : (L 0).getD p 0 = 0
      · refine .empty hlt h0 ((free_iff hS p).mp ((page_0 h0).mp hP)) (ih ((L 0).length - (p + 1)) (by omega) (p + 1) rfl (by omega) fun q hq hv => ?_)
        by_cases e : q < p
        · have := hI q e hv; omega
        · obtain rfl : q = p := by omega
          omega
      · by_cases h4 : 1 ≤ (L 0).getD p 0 ∧ (L 0).getD p 0 ≤ 4
        · obtain ⟨k, hk⟩ : ∃ k : Nat, (L 0).getD p 0 = (k : Int) + 1 := ⟨((L 0).getD p 0 - 1).toNat, by omega⟩
          have hk4 : k < 4 := by omega
          refine .kind k hlt hk4 hk ((rooms_iff hS hL p k hk4).mp ((page_k hk4 hk).mp hP)) (ih ((L 0).length - (p + 1)) (by omega) (p + 1) rfl (by omega) fun q hq hv => ?_)
          by_cases e : q < p
          · have := hI q e hv; omega
          · obtain rfl : q = p := by omega
            omega
        · by_cases h7 : (L 0).getD p 0 = 7
          · obtain ⟨q, hQ, hv, hw, _⟩ := (page_7 h7).mp hP
            obtain ⟨hqp, _, _⟩ := hQ
            by_cases e : q < p
            · have hq := h q (by omega)
              obtain ⟨a, b, _⟩ := (page_w (by omega) (by omega) (by omega)).mp hq
              rw [wrap_small (by omega) (by omega) (by omega) (by omega)] at hw
              have := hI q e hv
              omega
            · obtain rfl : q = p := by omega
              omega
          · obtain ⟨a, b, hlen, ho, hF, hr⟩ := (page_w h0 h4 h7).mp hP
            obtain ⟨m, hm⟩ : ∃ m : Nat, (L 0).getD p 0 = (m : Int) + 8 := ⟨((L 0).getD p 0 - 8).toNat, by omega⟩
            rw [hm] at a b hlen hr
            have hr' : ∀ i, 1 ≤ i → i < m → (L 0).getD (p + i) 0 = 7 := fun i h1 h2 => hr i h1 (by omega)
            have hone : NzN (L 5) (p * 8) (m * 8) = 1 := by
              obtain ⟨m', hm'⟩ : ∃ m', m * 8 = m' + 1 := ⟨m * 8 - 1, by omega⟩
              rw [hm', NzN_one _ _ _ ho]
              intro u h1 h2
              have hf1 := (free1_iff hS p).mp hF
              by_cases e8 : u < 8
              · exact hf1 u h1 e8
              · have h7' := hr' (u / 8) (by omega) (by omega)
                obtain ⟨_, _, _, _, hfr⟩ := (page_7 h7').mp (h (p + u / 8) (by omega))
                have hz := (NzN_zero _ _ _).mp ((free_iff hS (p + u / 8)).mp hfr) (u % 8) (by omega)
                rw [show (p + u / 8) * 8 + u % 8 = p * 8 + u by omega] at hz
                exact hz
            refine .wide m hlt (by omega) hm (by omega) ho hone hr' (ih ((L 0).length - (p + m)) (by omega) (p + m) rfl (by omega) fun q hq hv => ?_)
            by_cases e : q < p
            · have := hI q e hv; omega
            · by_cases e2 : q = p
              · subst e2; omega
              · have := hr' (q - p) (by omega) (by omega)
                rw [show p + (q - p) = q by omega] at this
                omega
    · exact .done (by omega)
theorem pages_of {s : Int} {L : Nat → List Int} (hS : SlotsP s L) (hL : ListsP L) {p : Nat} (h : PF L p) : ∀ r, p ≤ r → r < (L 0).length → PageP L r := by
  have h6 := hS.1.2.2.2.2.2.1
  induction h with
  | done h => intro r h1 h2; omega
  | @empty p hp hv hz _ ih =>
    intro r h1 h2
    by_cases e : r = p
    · subst e; exact (page_0 hv).mpr ((free_iff hS _).mpr hz)
    · exact ih r (by omega) h2
  | @kind p k hp hk hv hK _ ih =>
    intro r h1 h2
    by_cases e : r = p
    · subst e; exact (page_k hk hv).mpr ((rooms_iff hS hL _ k hk).mpr hK)
    · exact ih r (by omega) h2
  | @wide p n hp hn hv hl h0 h1 hr _ ih =>
    intro r hr1 hr2
    obtain ⟨m', hm'⟩ : ∃ m', n * 8 = m' + 1 := ⟨n * 8 - 1, by omega⟩
    rw [hm', NzN_one _ _ _ h0] at h1
    by_cases e : r = p
    · subst e
      refine (page_w (by omega) (by omega) (by omega)).mpr ⟨by omega, by omega, by omega, h0, (free1_iff hS _).mpr fun u a b => h1 u a (by omega), fun i a b => hr i a (by omega)⟩
    · by_cases e2 : r < p + n
      · have h7 := hr (r - p) (by omega) (by omega)
        rw [show p + (r - p) = r by omega] at h7
        refine (page_7 h7).mpr ⟨p, ⟨by omega, fun j a b => ?_, by omega⟩, by omega, ?_, (free_iff hS r).mpr ((NzN_zero _ _ _).mpr fun u hu => ?_)⟩
        · have := hr (j - p) (by omega) (by omega)
          rw [show p + (j - p) = j by omega] at this
          exact this
        · rw [wrap_small (by omega) (by omega) (by omega) (by omega)]; omega
        · have := h1 ((r - p) * 8 + u) (by omega) (by omega)
          rw [show p * 8 + ((r - p) * 8 + u) = r * 8 + u by omega] at this
          exact this
      · exact ih r (by omega) hr2
theorem book_iff (s : Int) (L : Nat → List Int) : BookP s L ↔ ((SlotsP s L ∧ ListsP L) ∧ PF L 0) := by
  constructor
  · rintro ⟨hS, hL, hP⟩
    exact ⟨⟨hS, hL⟩, pf_of hS hL hP _ 0 rfl (by omega) fun q hq => by omega⟩
  · rintro ⟨⟨hS, hL⟩, hF⟩
    exact ⟨hS, hL, fun p hp => pages_of hS hL hF p (by omega) hp⟩


theorem szR_nn {l : List Int} {left : Int} (h : 0 ≤ szR l left) : (l.length : Int) ≤ left ∧ szR l left = left - l.length := by
  unfold szR at *
  by_cases e : left - (l.length : Int) < 0
  · rw [if_pos e] at h; omega
  · rw [if_neg e] at h ⊢; omega
theorem szA_nn (L : Nat → List Int) : ∀ (n j : Nat) (left : Int), left ≤ 1048576 → 0 ≤ szA L j n left → (∀ i, j ≤ i → i < j + n → ((L i).length : Int) ≤ 1048576) ∧ szA L j n left ≤ 1048576
  | 0, j, left, h1, h => ⟨fun i a b => by omega, h1⟩
  | n + 1, j, left, h1, h => by
    rw [szA_step] at h ⊢
    by_cases e : szR (L j) left < 0
    · rw [if_pos e] at h; omega
    · rw [if_neg e] at h ⊢
      obtain ⟨a, b⟩ := szR_nn (show 0 ≤ szR (L j) left by omega)
      obtain ⟨p, q⟩ := szA_nn L n (j + 1) _ (by omega) h
      exact ⟨fun i h1 h2 => if e : i = j then e ▸ (by omega) else p i (by omega) (by omega), q⟩
theorem szB_nn (L : Nat → List Int) (left : Int) (h1 : left ≤ 1048576) (h8 : ∀ i, 8 ≤ i → L i = []) (h : 0 ≤ szB L left) : (∀ i, (L i).length ≤ 1048576) ∧ szB L left ≤ 1048576 := by
  unfold szB at h ⊢
  by_cases e0 : szR (L 0) left < 0
  · rw [if_pos e0] at h; omega
  rw [if_neg e0] at h ⊢
  obtain ⟨a0, b0⟩ := szR_nn (show 0 ≤ szR (L 0) left by omega)
  by_cases e1 : szA (fun i => L (i + 1)) 0 4 (szR (L 0) left) < 0
  · rw [if_pos e1] at h; omega
  rw [if_neg e1] at h ⊢
  obtain ⟨a1, b1⟩ := szA_nn (fun i => L (i + 1)) 4 0 _ (show szR (L 0) left ≤ 1048576 by omega) (by omega)
  generalize szA (fun i => L (i + 1)) 0 4 (szR (L 0) left) = y at *
  by_cases e5 : szR (L 5) y < 0
  · rw [if_pos e5] at h; omega
  rw [if_neg e5] at h ⊢
  obtain ⟨a5, b5⟩ := szR_nn (show 0 ≤ szR (L 5) y by omega)
  generalize szR (L 5) y = y5 at *
  by_cases e6 : szR (L 6) y5 < 0
  · rw [if_pos e6] at h; omega
  rw [if_neg e6] at h ⊢
  obtain ⟨a6, b6⟩ := szR_nn (show 0 ≤ szR (L 6) y5 by omega)
  generalize szR (L 6) y5 = y6 at *
  by_cases e7 : szR (L 7) y6 < 0
  · rw [if_pos e7] at h; omega
  rw [if_neg e7] at h ⊢
  obtain ⟨a7, b7⟩ := szR_nn (show 0 ≤ szR (L 7) y6 by omega)
  refine ⟨fun i => ?_, by omega⟩
  have c1 := a1 0 (by omega) (by omega)
  have c2 := a1 1 (by omega) (by omega)
  have c3 := a1 2 (by omega) (by omega)
  have c4 := a1 3 (by omega) (by omega)
  match i with
  | 0 => omega
  | 1 => simpa using (by omega : ((L (0 + 1)).length) ≤ 1048576)
  | 2 => simpa using (by omega : ((L (1 + 1)).length) ≤ 1048576)
  | 3 => simpa using (by omega : ((L (2 + 1)).length) ≤ 1048576)
  | 4 => simpa using (by omega : ((L (3 + 1)).length) ≤ 1048576)
  | 5 => omega
  | 6 => omega
  | 7 => omega
  | i + 8 => rw [h8 (i + 8) (by omega)]; simp
set_option maxHeartbeats 4000000 in
set_option maxRecDepth 100000 in
theorem lawBookOk_calls (s : Int) (A : Nat → Option Addr) (c : Nat → Nat) (L : Nat → List Int) (w : World) (h : BkC w A c L) (hl : ∀ i, (L i).length ≤ 9223372036854775807) (h8 : ∀ i, 8 ≤ i → L i = []) (hw : ∀ i, Wf64 (L i)) :
    Calls Try.prog 5 #[.agg (bkCells s A c L)] w fun e w' => e = .returned (.bool true) ∧ Below w.heap.size w w' := by
  have HR := Aside0.mk h
  have HL := Aside0.mk hl
  have HW := Aside0.mk hw
  have HN : Aside0 (0 ≤ szB L 1048576 → ∀ i, (L i).length ≤ 1048576) := ⟨fun q => (szB_nn L 1048576 (by omega) h8 q).1⟩
  obtain ⟨z, hz⟩ : ∃ z, szB L 1048576 = z := ⟨_, rfl⟩
  rw [hz] at HN
  have HZ := Aside0.mk hz
  clear h hl h8 hw hz
  have HB := Aside0.mk (Below.refl w.heap.size w)
  by_cases hz0 : z < 0
  · go_enter Try.func5, Try.ntmps5
    go_wp2_with (first | ((with_reducible refine gate_dst (N := 1) rfl ?_); refine box_event rfl (N := 1) rfl (cs := bkCells s A c L) (t := 34) (by first | (go_simp; done) | (go_simp; rfl)) ?_; intro gb hggb w1 hbox hb; have n0_ := Aside0.mk (below_step HB.out hb); have BKgb := Aside0.mk hbox; have HGgb := Aside0.mk (show w.heap.size ≤ gb by rw [hggb]; exact HB.out.size); clear HB; have HB := n0_; have fgbs0 : w1.cell? ⟨gb, 0, none⟩ = some (.int .i64 _) := (blk_cell BKgb.out 0).trans rfl; have fgb1 : w1.cell? ⟨gb, 1, none⟩ = some (.slice (A 0) (L 0).length (c 0)) := (blk_cell BKgb.out 1).trans rfl; have fgb2 : w1.cell? ⟨gb, 2, none⟩ = some (.slice (A 1) (L 1).length (c 1)) := (blk_cell BKgb.out 2).trans rfl; have fgb3 : w1.cell? ⟨gb, 3, none⟩ = some (.slice (A 2) (L 2).length (c 2)) := (blk_cell BKgb.out 3).trans rfl; have fgb4 : w1.cell? ⟨gb, 4, none⟩ = some (.slice (A 3) (L 3).length (c 3)) := (blk_cell BKgb.out 4).trans rfl; have fgb5 : w1.cell? ⟨gb, 5, none⟩ = some (.slice (A 4) (L 4).length (c 4)) := (blk_cell BKgb.out 5).trans rfl; have fgb6 : w1.cell? ⟨gb, 6, none⟩ = some (.slice (A 5) (L 5).length (c 5)) := (blk_cell BKgb.out 6).trans rfl; have fgb7 : w1.cell? ⟨gb, 7, none⟩ = some (.slice (A 6) (L 6).length (c 6)) := (blk_cell BKgb.out 7).trans rfl; have fgb8 : w1.cell? ⟨gb, 8, none⟩ = some (.slice (A 7) (L 7).length (c 7)) := (blk_cell BKgb.out 8).trans rfl; have fgbz0 := blk_frozen BKgb.out 0; have fgbz1 := blk_frozen BKgb.out 1; have fgbz2 := blk_frozen BKgb.out 2; have fgbz3 := blk_frozen BKgb.out 3; have fgbz4 := blk_frozen BKgb.out 4; have fgbz5 := blk_frozen BKgb.out 5; have fgbz6 := blk_frozen BKgb.out 6; have fgbz7 := blk_frozen BKgb.out 7; have fgbz8 := blk_frozen BKgb.out 8; clear n0_ hbox hb hggb) | (go_at_call 17; refine (szBook_calls s A c L 1048576 _ (by omega) (by omega) HL.out).mono ?_; rintro e w2 ⟨rfl, hb⟩; rw [HZ.out]; have HB2 := Aside0.mk (below_step HB.out hb); clear hb HB; have HB := HB2; clear HB2))
    go_ret
    exact ⟨rfl, HB.out⟩
  have hz1 := nn_of hz0
  have HM : Aside0 (∀ i, (L i).length ≤ 1048576) := ⟨HN.out hz1⟩
  have HM2 : Aside0 (∀ i, (L i).length ≤ 35184372088832) := ⟨fun i => by have := HM.out i; omega⟩
  clear HN hz0
  go_enter Try.func5, Try.ntmps5
  go_wp2_with (first | ((with_reducible refine gate_dst (N := 1) rfl ?_); refine box_event rfl (N := 1) rfl (cs := bkCells s A c L) (t := 34) (by first | (go_simp; done) | (go_simp; rfl)) ?_; intro gb hggb w1 hbox hb; have n0_ := Aside0.mk (below_step HB.out hb); have BKgb := Aside0.mk hbox; have HGgb := Aside0.mk (show w.heap.size ≤ gb by rw [hggb]; exact HB.out.size); clear HB; have HB := n0_; have fgbs0 : w1.cell? ⟨gb, 0, none⟩ = some (.int .i64 _) := (blk_cell BKgb.out 0).trans rfl; have fgb1 : w1.cell? ⟨gb, 1, none⟩ = some (.slice (A 0) (L 0).length (c 0)) := (blk_cell BKgb.out 1).trans rfl; have fgb2 : w1.cell? ⟨gb, 2, none⟩ = some (.slice (A 1) (L 1).length (c 1)) := (blk_cell BKgb.out 2).trans rfl; have fgb3 : w1.cell? ⟨gb, 3, none⟩ = some (.slice (A 2) (L 2).length (c 2)) := (blk_cell BKgb.out 3).trans rfl; have fgb4 : w1.cell? ⟨gb, 4, none⟩ = some (.slice (A 3) (L 3).length (c 3)) := (blk_cell BKgb.out 4).trans rfl; have fgb5 : w1.cell? ⟨gb, 5, none⟩ = some (.slice (A 4) (L 4).length (c 4)) := (blk_cell BKgb.out 5).trans rfl; have fgb6 : w1.cell? ⟨gb, 6, none⟩ = some (.slice (A 5) (L 5).length (c 5)) := (blk_cell BKgb.out 6).trans rfl; have fgb7 : w1.cell? ⟨gb, 7, none⟩ = some (.slice (A 6) (L 6).length (c 6)) := (blk_cell BKgb.out 7).trans rfl; have fgb8 : w1.cell? ⟨gb, 8, none⟩ = some (.slice (A 7) (L 7).length (c 7)) := (blk_cell BKgb.out 8).trans rfl; have fgbz0 := blk_frozen BKgb.out 0; have fgbz1 := blk_frozen BKgb.out 1; have fgbz2 := blk_frozen BKgb.out 2; have fgbz3 := blk_frozen BKgb.out 3; have fgbz4 := blk_frozen BKgb.out 4; have fgbz5 := blk_frozen BKgb.out 5; have fgbz6 := blk_frozen BKgb.out 6; have fgbz7 := blk_frozen BKgb.out 7; have fgbz8 := blk_frozen BKgb.out 8; clear n0_ hbox hb hggb))
  refine (szBook_calls s A c L 1048576 _ (by omega) (by omega) HL.out).mono ?_
  rintro e w2 ⟨rfl, hb⟩
  rw [HZ.out]
  have HB2 := Aside0.mk (below_step HB.out hb)
  have BK2 := Aside0.mk (blk_below BKgb.out hb)
  clear hb HB BKgb
  clear fgbs0 fgbz0 fgb1 fgbz1 fgb2 fgbz2 fgb3 fgbz3 fgb4 fgbz4 fgb5 fgbz5 fgb6 fgbz6 fgb7 fgbz7 fgb8 fgbz8
  have fgbs0 : w2.cell? ⟨gb, 0, none⟩ = some (.int .i64 _) := (blk_cell BK2.out 0).trans rfl; have fgb1 : w2.cell? ⟨gb, 1, none⟩ = some (.slice (A 0) (L 0).length (c 0)) := (blk_cell BK2.out 1).trans rfl; have fgb2 : w2.cell? ⟨gb, 2, none⟩ = some (.slice (A 1) (L 1).length (c 1)) := (blk_cell BK2.out 2).trans rfl; have fgb3 : w2.cell? ⟨gb, 3, none⟩ = some (.slice (A 2) (L 2).length (c 2)) := (blk_cell BK2.out 3).trans rfl; have fgb4 : w2.cell? ⟨gb, 4, none⟩ = some (.slice (A 3) (L 3).length (c 3)) := (blk_cell BK2.out 4).trans rfl; have fgb5 : w2.cell? ⟨gb, 5, none⟩ = some (.slice (A 4) (L 4).length (c 4)) := (blk_cell BK2.out 5).trans rfl; have fgb6 : w2.cell? ⟨gb, 6, none⟩ = some (.slice (A 5) (L 5).length (c 5)) := (blk_cell BK2.out 6).trans rfl; have fgb7 : w2.cell? ⟨gb, 7, none⟩ = some (.slice (A 6) (L 6).length (c 6)) := (blk_cell BK2.out 7).trans rfl; have fgb8 : w2.cell? ⟨gb, 8, none⟩ = some (.slice (A 7) (L 7).length (c 7)) := (blk_cell BK2.out 8).trans rfl; have fgbz0 := blk_frozen BK2.out 0; have fgbz1 := blk_frozen BK2.out 1; have fgbz2 := blk_frozen BK2.out 2; have fgbz3 := blk_frozen BK2.out 3; have fgbz4 := blk_frozen BK2.out 4; have fgbz5 := blk_frozen BK2.out 5; have fgbz6 := blk_frozen BK2.out 6; have fgbz7 := blk_frozen BK2.out 7; have fgbz8 := blk_frozen BK2.out 8
  go_wp2_with fail
  refine (toBook_calls s A c L _ (HR.out.below HB2.out) HM2.out).mono ?_
  rintro e w3 ⟨A1, c1, rfl, ho, hb⟩
  have HB3 := Aside0.mk (below_step HB2.out hb)
  have BK3 := Aside0.mk (blk_below BK2.out hb)
  have HO1 := Aside0.mk ho.c
  clear hb ho HB2 BK2
  clear fgbs0 fgbz0 fgb1 fgbz1 fgb2 fgbz2 fgb3 fgbz3 fgb4 fgbz4 fgb5 fgbz5 fgb6 fgbz6 fgb7 fgbz7 fgb8 fgbz8
  go_wp2_with fail
  refine (specBookOk_calls s A1 c1 L _ HO1.out HM2.out (HW.out 0)).mono ?_
  rintro e w4 ⟨r0, rfl, hr0, hb⟩
  have HR0 := Aside0.mk hr0
  have HB4 := Aside0.mk (below_step HB3.out hb)
  have BK4 := Aside0.mk (blk_below BK3.out hb)
  clear hb hr0 HB3 BK3 HO1
  have fgbs0 : w4.cell? ⟨gb, 0, none⟩ = some (.int .i64 _) := (blk_cell BK4.out 0).trans rfl; have fgb1 : w4.cell? ⟨gb, 1, none⟩ = some (.slice (A 0) (L 0).length (c 0)) := (blk_cell BK4.out 1).trans rfl; have fgb2 : w4.cell? ⟨gb, 2, none⟩ = some (.slice (A 1) (L 1).length (c 1)) := (blk_cell BK4.out 2).trans rfl; have fgb3 : w4.cell? ⟨gb, 3, none⟩ = some (.slice (A 2) (L 2).length (c 2)) := (blk_cell BK4.out 3).trans rfl; have fgb4 : w4.cell? ⟨gb, 4, none⟩ = some (.slice (A 3) (L 3).length (c 3)) := (blk_cell BK4.out 4).trans rfl; have fgb5 : w4.cell? ⟨gb, 5, none⟩ = some (.slice (A 4) (L 4).length (c 4)) := (blk_cell BK4.out 5).trans rfl; have fgb6 : w4.cell? ⟨gb, 6, none⟩ = some (.slice (A 5) (L 5).length (c 5)) := (blk_cell BK4.out 6).trans rfl; have fgb7 : w4.cell? ⟨gb, 7, none⟩ = some (.slice (A 6) (L 6).length (c 6)) := (blk_cell BK4.out 7).trans rfl; have fgb8 : w4.cell? ⟨gb, 8, none⟩ = some (.slice (A 7) (L 7).length (c 7)) := (blk_cell BK4.out 8).trans rfl; have fgbz0 := blk_frozen BK4.out 0; have fgbz1 := blk_frozen BK4.out 1; have fgbz2 := blk_frozen BK4.out 2; have fgbz3 := blk_frozen BK4.out 3; have fgbz4 := blk_frozen BK4.out 4; have fgbz5 := blk_frozen BK4.out 5; have fgbz6 := blk_frozen BK4.out 6; have fgbz7 := blk_frozen BK4.out 7; have fgbz8 := blk_frozen BK4.out 8
  go_wp2_with fail
  refine (toBook_calls s A c L _ (HR.out.below HB4.out) HM2.out).mono ?_
  rintro e w5 ⟨A2, c2, rfl, ho, hb⟩
  have HB := Aside0.mk (below_step HB4.out hb)
  have BK5 := Aside0.mk (blk_below BK4.out hb)
  have HO2 := Aside0.mk ho
  clear hb ho HB4 BK4
  clear fgbs0 fgbz0 fgb1 fgbz1 fgb2 fgbz2 fgb3 fgbz3 fgb4 fgbz4 fgb5 fgbz5 fgb6 fgbz6 fgb7 fgbz7 fgb8 fgbz8
  go_wp2_with (first | ((with_reducible refine gate_dst (N := 5) rfl ?_); refine box_event rfl (N := 5) rfl (cs := #[.int .i64 0, .slice none 0 0, .slice none 0 0, .slice none 0 0, .slice none 0 0, .slice none 0 0, .slice none 0 0, .slice none 0 0, .slice none 0 0]) (t := 27) (by first | (go_simp; done) | (go_simp; rfl)) ?_; intro gx hggx w6 hbox hb; have n0_ := Aside0.mk (below_step HB.out hb); have BKgx := Aside0.mk hbox; have HGgx := Aside0.mk (show w.heap.size ≤ gx by rw [hggx]; exact HB.out.size); clear HB; have HB := n0_; have BK6 := Aside0.mk (blk_below BK5.out hb); have HO6 := Aside0.mk (HO2.out.below hb); have NE := Aside0.mk (show gb ≠ gx by have := blk_lt BK5.out; omega); clear BK5 HO2; clear n0_ hbox hb hggx) | ((with_reducible refine gate_store (t := 27) (p := 5) rfl ?_); refine store_event (t := 27) (p := 5) (v := ?vo_1) (w1 := w6.setRow gx (bkCells s A2 c2 L)) ?hg ?ho ?hn ?hr ?_; (case ho => rfl); (case hg => rfl); (case hn => rfl); (case hr => exact (Row.store_row_run (g := gx) (cells := bkCells s A2 c2 L) (t := 27) (old := #[.int .i64 0, .slice none 0 0, .slice none 0 0, .slice none 0 0, .slice none 0 0, .slice none 0 0, .slice none 0 0, .slice none 0 0, .slice none 0 0]) rfl (by rfl) (by rfl) BKgx.out (by kernel_rfl) rfl (by simp [Value.oneCell']))); intro w7 hw; have HB7 := Aside0.mk (Row.row_below hw HB.out HGgx.out); have BKx7 := Aside0.mk (Row.row_here hw BKgx.out); have BK7 := Aside0.mk (Row.row_there hw BK6.out NE.out); have HO7 := Aside0.mk (show BkC w7 A2 c2 L by rw [hw]; exact BkO.c (VO.row HO6.out BKgx.out (by decide) _)); clear HB BKgx BK6 HO6; have fgxs0 : w7.cell? ⟨gx, 0, none⟩ = some (.int .i64 _) := (blk_cell BKx7.out 0).trans rfl; have fgx1 : w7.cell? ⟨gx, 1, none⟩ = some (.slice (A2 0) (L 0).length (c2 0)) := (blk_cell BKx7.out 1).trans rfl; have fgx2 : w7.cell? ⟨gx, 2, none⟩ = some (.slice (A2 1) (L 1).length (c2 1)) := (blk_cell BKx7.out 2).trans rfl; have fgx3 : w7.cell? ⟨gx, 3, none⟩ = some (.slice (A2 2) (L 2).length (c2 2)) := (blk_cell BKx7.out 3).trans rfl; have fgx4 : w7.cell? ⟨gx, 4, none⟩ = some (.slice (A2 3) (L 3).length (c2 3)) := (blk_cell BKx7.out 4).trans rfl; have fgx5 : w7.cell? ⟨gx, 5, none⟩ = some (.slice (A2 4) (L 4).length (c2 4)) := (blk_cell BKx7.out 5).trans rfl; have fgx6 : w7.cell? ⟨gx, 6, none⟩ = some (.slice (A2 5) (L 5).length (c2 5)) := (blk_cell BKx7.out 6).trans rfl; have fgx7 : w7.cell? ⟨gx, 7, none⟩ = some (.slice (A2 6) (L 6).length (c2 6)) := (blk_cell BKx7.out 7).trans rfl; have fgx8 : w7.cell? ⟨gx, 8, none⟩ = some (.slice (A2 7) (L 7).length (c2 7)) := (blk_cell BKx7.out 8).trans rfl; have fgxz0 := blk_frozen BKx7.out 0; have fgxz1 := blk_frozen BKx7.out 1; have fgxz2 := blk_frozen BKx7.out 2; have fgxz3 := blk_frozen BKx7.out 3; have fgxz4 := blk_frozen BKx7.out 4; have fgxz5 := blk_frozen BKx7.out 5; have fgxz6 := blk_frozen BKx7.out 6; have fgxz7 := blk_frozen BKx7.out 7; have fgxz8 := blk_frozen BKx7.out 8; clear hw))
  refine (implBookOk_calls s A2 c2 L _ HO7.out HM2.out (HW.out 0) (HW.out 5)).mono ?_
  rintro e w8 ⟨r1, rfl, hr1, hb⟩
  have hrr : r1 = r0 := by
    have h1 := HR0.out
    rw [book_iff] at h1
    rw [Bool.eq_iff_iff]
    exact hr1.trans h1.symm
  have HB8 := Aside0.mk (below_step HB7.out hb)
  have BKx8 := Aside0.mk (blk_below BKx7.out hb)
  have BK8 := Aside0.mk (blk_below BK7.out hb)
  have HO8 := Aside0.mk (HO7.out.below hb)
  have HR8 := Aside0.mk (HR.out.below HB8.out)
  clear hb hr1 HB7 BKx7 BK7 HO7 HR0
  clear fgxs0 fgxz0 fgx1 fgxz1 fgx2 fgxz2 fgx3 fgxz3 fgx4 fgxz4 fgx5 fgxz5 fgx6 fgxz6 fgx7 fgxz7 fgx8 fgxz8
  subst hrr
  have hne : (r1 != r1) = false := by cases r1 <;> rfl
  have fgbs0 : w8.cell? ⟨gb, 0, none⟩ = some (.int .i64 _) := (blk_cell BK8.out 0).trans rfl; have fgb1 : w8.cell? ⟨gb, 1, none⟩ = some (.slice (A 0) (L 0).length (c 0)) := (blk_cell BK8.out 1).trans rfl; have fgb2 : w8.cell? ⟨gb, 2, none⟩ = some (.slice (A 1) (L 1).length (c 1)) := (blk_cell BK8.out 2).trans rfl; have fgb3 : w8.cell? ⟨gb, 3, none⟩ = some (.slice (A 2) (L 2).length (c 2)) := (blk_cell BK8.out 3).trans rfl; have fgb4 : w8.cell? ⟨gb, 4, none⟩ = some (.slice (A 3) (L 3).length (c 3)) := (blk_cell BK8.out 4).trans rfl; have fgb5 : w8.cell? ⟨gb, 5, none⟩ = some (.slice (A 4) (L 4).length (c 4)) := (blk_cell BK8.out 5).trans rfl; have fgb6 : w8.cell? ⟨gb, 6, none⟩ = some (.slice (A 5) (L 5).length (c 5)) := (blk_cell BK8.out 6).trans rfl; have fgb7 : w8.cell? ⟨gb, 7, none⟩ = some (.slice (A 6) (L 6).length (c 6)) := (blk_cell BK8.out 7).trans rfl; have fgb8 : w8.cell? ⟨gb, 8, none⟩ = some (.slice (A 7) (L 7).length (c 7)) := (blk_cell BK8.out 8).trans rfl; have fgbz0 := blk_frozen BK8.out 0; have fgbz1 := blk_frozen BK8.out 1; have fgbz2 := blk_frozen BK8.out 2; have fgbz3 := blk_frozen BK8.out 3; have fgbz4 := blk_frozen BK8.out 4; have fgbz5 := blk_frozen BK8.out 5; have fgbz6 := blk_frozen BK8.out 6; have fgbz7 := blk_frozen BK8.out 7; have fgbz8 := blk_frozen BK8.out 8
  have fgxs0 : w8.cell? ⟨gx, 0, none⟩ = some (.int .i64 _) := (blk_cell BKx8.out 0).trans rfl; have fgx1 : w8.cell? ⟨gx, 1, none⟩ = some (.slice (A2 0) (L 0).length (c2 0)) := (blk_cell BKx8.out 1).trans rfl; have fgx2 : w8.cell? ⟨gx, 2, none⟩ = some (.slice (A2 1) (L 1).length (c2 1)) := (blk_cell BKx8.out 2).trans rfl; have fgx3 : w8.cell? ⟨gx, 3, none⟩ = some (.slice (A2 2) (L 2).length (c2 2)) := (blk_cell BKx8.out 3).trans rfl; have fgx4 : w8.cell? ⟨gx, 4, none⟩ = some (.slice (A2 3) (L 3).length (c2 3)) := (blk_cell BKx8.out 4).trans rfl; have fgx5 : w8.cell? ⟨gx, 5, none⟩ = some (.slice (A2 4) (L 4).length (c2 4)) := (blk_cell BKx8.out 5).trans rfl; have fgx6 : w8.cell? ⟨gx, 6, none⟩ = some (.slice (A2 5) (L 5).length (c2 5)) := (blk_cell BKx8.out 6).trans rfl; have fgx7 : w8.cell? ⟨gx, 7, none⟩ = some (.slice (A2 6) (L 6).length (c2 6)) := (blk_cell BKx8.out 7).trans rfl; have fgx8 : w8.cell? ⟨gx, 8, none⟩ = some (.slice (A2 7) (L 7).length (c2 7)) := (blk_cell BKx8.out 8).trans rfl; have fgxz0 := blk_frozen BKx8.out 0; have fgxz1 := blk_frozen BKx8.out 1; have fgxz2 := blk_frozen BKx8.out 2; have fgxz3 := blk_frozen BKx8.out 3; have fgxz4 := blk_frozen BKx8.out 4; have fgxz5 := blk_frozen BKx8.out 5; have fgxz6 := blk_frozen BKx8.out 6; have fgxz7 := blk_frozen BKx8.out 7; have fgxz8 := blk_frozen BKx8.out 8
  go_wp2_with fail
  go_region_held3 (fun w' => w'.cell? ⟨gx, 0, none⟩ = some (.int .i64 s) ∧ w'.cell? ⟨gx, 1, none⟩ = some (.slice (A2 0) (L 0).length (c2 0)) ∧ w'.cell? ⟨gx, 2, none⟩ = some (.slice (A2 1) (L 1).length (c2 1)) ∧ w'.cell? ⟨gx, 3, none⟩ = some (.slice (A2 2) (L 2).length (c2 2)) ∧ w'.cell? ⟨gx, 4, none⟩ = some (.slice (A2 3) (L 3).length (c2 3)) ∧ w'.cell? ⟨gx, 5, none⟩ = some (.slice (A2 4) (L 4).length (c2 4)) ∧ w'.cell? ⟨gx, 6, none⟩ = some (.slice (A2 5) (L 5).length (c2 5)) ∧ w'.cell? ⟨gx, 7, none⟩ = some (.slice (A2 6) (L 6).length (c2 6)) ∧ w'.cell? ⟨gx, 8, none⟩ = some (.slice (A2 7) (L 7).length (c2 7)) ∧ w'.cell? ⟨gb, 0, none⟩ = some (.int .i64 s) ∧ w'.cell? ⟨gb, 1, none⟩ = some (.slice (A 0) (L 0).length (c 0)) ∧ w'.cell? ⟨gb, 2, none⟩ = some (.slice (A 1) (L 1).length (c 1)) ∧ w'.cell? ⟨gb, 3, none⟩ = some (.slice (A 2) (L 2).length (c 2)) ∧ w'.cell? ⟨gb, 4, none⟩ = some (.slice (A 3) (L 3).length (c 3)) ∧ w'.cell? ⟨gb, 5, none⟩ = some (.slice (A 4) (L 4).length (c 4)) ∧ w'.cell? ⟨gb, 6, none⟩ = some (.slice (A 5) (L 5).length (c 5)) ∧ w'.cell? ⟨gb, 7, none⟩ = some (.slice (A 6) (L 6).length (c 6)) ∧ w'.cell? ⟨gb, 8, none⟩ = some (.slice (A 7) (L 7).length (c 7)))
    (first
      | go_keep
      | (refine ⟨?_, ?_, ?_, ?_, ?_, ?_, ?_, ?_, ?_, ?_, ?_, ?_, ?_, ?_, ?_, ?_, ?_, ?_⟩ <;> (rw [hb9.cell (by simp only [World.drew]; first | exact blk_lt BK8.out | exact blk_lt BKx8.out)]; assumption))
      | (refine ⟨?_, ?_, ?_, ?_, ?_, ?_, ?_, ?_, ?_, ?_, ?_, ?_, ?_, ?_, ?_, ?_, ?_, ?_⟩ <;> (rw [hb10.cell (by first | exact Nat.lt_of_lt_of_le (blk_lt BK8.out) hb9.size | exact Nat.lt_of_lt_of_le (blk_lt BKx8.out) hb9.size), hb9.cell (by simp only [World.drew]; first | exact blk_lt BK8.out | exact blk_lt BKx8.out)]; assumption)))
    (first
      | (go_at_call 19; refine (toBook_calls s A c L _ (HR8.out.below (below_drew (Below.refl _ _))) HM2.out).mono ?_; rintro e w9 ⟨A3, c3, rfl, ho9, hb9⟩)
      | (go_at_call 14; refine (eqBook_same s A2 c2 A3 c3 L _ (BkC.below (show BkC w8.drew A2 c2 L from HO8.out) hb9) ho9.c HL.out).mono ?_; rintro e w10 ⟨rfl, hb10⟩))
  all_goals
    have HBf := Aside0.mk (below_step (below_step (below_drew HB8.out) hb9) hb10)
    clear hb9 hb10 ho9
    go_wp2
    go_ret
    exact ⟨rfl, HBf.out⟩
end Go.Proofs.Ytekneicikmaplaa.Bk

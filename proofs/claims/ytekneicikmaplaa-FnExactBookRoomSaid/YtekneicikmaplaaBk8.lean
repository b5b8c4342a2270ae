/- The reference's looks at wide pages: walks. -/
import Derived.Test.YtekneicikmaplaaBk7
set_option linter.unusedVariables false
set_option linter.unusedSimpArgs false
namespace Go.Proofs.Ytekneicikmaplaa.Bk
open Go.RowKit Go.Proofs.YtekneicikmaplaaW.PrintWords Go.Proofs.YtekneicikmaplaaW.PrintLast Go.Proofs.YtekneicikmaplaaW.PrintMore

/-- A list of 64-bit numbers. -/
def Wf64 (l : List Int) : Prop := ∀ k, -9223372036854775808 ≤ l.getD k 0 ∧ l.getD k 0 ≤ 9223372036854775807
def WideP (P O : List Int) (p : Nat) : Prop :=
  2 ≤ P.getD p 0 - 8 ∧ P.getD p 0 - 8 ≤ 4 ∧ (p : Int) + (P.getD p 0 - 8) ≤ P.length ∧ O.getD (p * 8) 0 ≠ 0 ∧ FreeP O p 1 ∧ ∀ i : Nat, 1 ≤ i → (i : Int) < P.getD p 0 - 8 → P.getD (p + i) 0 = 7
theorem wrap_sub8 {v n : Int} (h0 : -9223372036854775808 ≤ v) (h1 : v ≤ 9223372036854775807) (hn : wrap64 (v - 8) = n) : (n = v - 8) ∨ (v - 8 < 2 ∧ 4 < n) := by
  unfold wrap64 at hn
  omega
set_option maxHeartbeats 1000000 in
set_option maxRecDepth 100000 in
theorem l3Wide_calls (s : Int) (A : Nat → Option Addr) (c : Nat → Nat) (L : Nat → List Int) (p : Nat) (w : World) (h : BkC w A c L) (hp0 : p < (L 0).length) (hp : p * 8 + 8 ≤ (L 5).length) (hl : ∀ i, (L i).length ≤ 35184372088832) (hw : Wf64 (L 0)) :
    Calls Try.prog 71 #[.agg (bkCells s A c L), .int .i64 (p : Int)] w (RetB (WideP (L 0) (L 5) p) w) := by
  have HR := Aside0.mk h
  have HP := Aside0.mk hp
  have HP0 := Aside0.mk hp0
  have HLn := Aside0.mk hl
  clear h hl hp hp0
  have HB := Aside0.mk (Below.refl w.heap.size w)
  have hp6 : (p : Int) ≤ 35184372088832 := by have := HP.out; have := HLn.out 5; omega
  obtain ⟨ad, v, ea, hx, HV⟩ := at_v (HR.out 0 (by omega)) p HP0.out
  obtain ⟨n, hn⟩ : ∃ n, wrap64 (v - 8) = n := ⟨_, rfl⟩
  have HN : Aside0 (n = v - 8 ∨ (v - 8 < 2 ∧ 4 < n)) := ⟨wrap_sub8 (by rw [← HV.out]; exact (hw p).1) (by rw [← HV.out]; exact (hw p).2) hn⟩
  obtain ⟨ad5, o, ea5, hx5, HO⟩ := at_v (HR.out 5 (by omega)) (p * 8) (by have := HP.out; omega)
  have p0 : (0 : Int) ≤ (p : Int) := by omega
  have p1 : (p : Int) < ((L 0).length : Int) := by have := HP0.out; omega
  have p5 : (p : Int) * 8 < ((L 5).length : Int) := by have := HP.out; omega
  clear hw
  by_cases hA : n < 2
  · have HF : Aside0 (¬ WideP (L 0) (L 5) p) := ⟨fun hh => by obtain ⟨h1, h2, h3, h4, h5, h6⟩ := hh; rw [HV.out] at h1 h2; have := HN.out; omega⟩
    go_enter Try.func71, Try.ntmps71
    go_wp2_with (first | ((with_reducible refine gate_dst (N := 2) rfl ?_); refine box_event rfl (N := 2) rfl (cs := bkCells s A c L) (t := 27) (by first | (go_simp; done) | (go_simp; rfl)) ?_; intro gb hggb w1 hbox hb; have n0_ := Aside0.mk (below_step HB.out hb); have BKgb := Aside0.mk hbox; have HGgb := Aside0.mk (show w.heap.size ≤ gb by rw [hggb]; exact HB.out.size); clear HB; have HB := n0_; have hx1 := (hb.cell (World.block_lt_of_cell? _ _ hx)).trans hx; have hx51 := (hb.cell (World.block_lt_of_cell? _ _ hx5)).trans hx5; have fgbs0 : w1.cell? ⟨gb, 0, none⟩ = some (.int .i64 _) := (blk_cell BKgb.out 0).trans rfl; have fgb1 : w1.cell? ⟨gb, 1, none⟩ = some (.slice (A 0) (L 0).length (c 0)) := (blk_cell BKgb.out 1).trans rfl; have fgb2 : w1.cell? ⟨gb, 2, none⟩ = some (.slice (A 1) (L 1).length (c 1)) := (blk_cell BKgb.out 2).trans rfl; have fgb3 : w1.cell? ⟨gb, 3, none⟩ = some (.slice (A 2) (L 2).length (c 2)) := (blk_cell BKgb.out 3).trans rfl; have fgb4 : w1.cell? ⟨gb, 4, none⟩ = some (.slice (A 3) (L 3).length (c 3)) := (blk_cell BKgb.out 4).trans rfl; have fgb5 : w1.cell? ⟨gb, 5, none⟩ = some (.slice (A 4) (L 4).length (c 4)) := (blk_cell BKgb.out 5).trans rfl; have fgb6 : w1.cell? ⟨gb, 6, none⟩ = some (.slice (A 5) (L 5).length (c 5)) := (blk_cell BKgb.out 6).trans rfl; have fgb7 : w1.cell? ⟨gb, 7, none⟩ = some (.slice (A 6) (L 6).length (c 6)) := (blk_cell BKgb.out 7).trans rfl; have fgb8 : w1.cell? ⟨gb, 8, none⟩ = some (.slice (A 7) (L 7).length (c 7)) := (blk_cell BKgb.out 8).trans rfl; have fgbz0 := blk_frozen BKgb.out 0; have fgbz1 := blk_frozen BKgb.out 1; have fgbz2 := blk_frozen BKgb.out 2; have fgbz3 := blk_frozen BKgb.out 3; have fgbz4 := blk_frozen BKgb.out 4; have fgbz5 := blk_frozen BKgb.out 5; have fgbz6 := blk_frozen BKgb.out 6; have fgbz7 := blk_frozen BKgb.out 7; have fgbz8 := blk_frozen BKgb.out 8; rw [ea] at fgb1; rw [ea5] at fgb6; clear n0_ hbox hb hggb))
    go_ret
    exact RetB.mk rfl (iff_f HF.out) HB.out
  by_cases hB : n > 4
  · have HF : Aside0 (¬ WideP (L 0) (L 5) p) := ⟨fun hh => by obtain ⟨h1, h2, h3, h4, h5, h6⟩ := hh; rw [HV.out] at h1 h2; have := HN.out; omega⟩
    go_enter Try.func71, Try.ntmps71
    go_wp2_with (first | ((with_reducible refine gate_dst (N := 2) rfl ?_); refine box_event rfl (N := 2) rfl (cs := bkCells s A c L) (t := 27) (by first | (go_simp; done) | (go_simp; rfl)) ?_; intro gb hggb w1 hbox hb; have n0_ := Aside0.mk (below_step HB.out hb); have BKgb := Aside0.mk hbox; have HGgb := Aside0.mk (show w.heap.size ≤ gb by rw [hggb]; exact HB.out.size); clear HB; have HB := n0_; have hx1 := (hb.cell (World.block_lt_of_cell? _ _ hx)).trans hx; have hx51 := (hb.cell (World.block_lt_of_cell? _ _ hx5)).trans hx5; have fgbs0 : w1.cell? ⟨gb, 0, none⟩ = some (.int .i64 _) := (blk_cell BKgb.out 0).trans rfl; have fgb1 : w1.cell? ⟨gb, 1, none⟩ = some (.slice (A 0) (L 0).length (c 0)) := (blk_cell BKgb.out 1).trans rfl; have fgb2 : w1.cell? ⟨gb, 2, none⟩ = some (.slice (A 1) (L 1).length (c 1)) := (blk_cell BKgb.out 2).trans rfl; have fgb3 : w1.cell? ⟨gb, 3, none⟩ = some (.slice (A 2) (L 2).length (c 2)) := (blk_cell BKgb.out 3).trans rfl; have fgb4 : w1.cell? ⟨gb, 4, none⟩ = some (.slice (A 3) (L 3).length (c 3)) := (blk_cell BKgb.out 4).trans rfl; have fgb5 : w1.cell? ⟨gb, 5, none⟩ = some (.slice (A 4) (L 4).length (c 4)) := (blk_cell BKgb.out 5).trans rfl; have fgb6 : w1.cell? ⟨gb, 6, none⟩ = some (.slice (A 5) (L 5).length (c 5)) := (blk_cell BKgb.out 6).trans rfl; have fgb7 : w1.cell? ⟨gb, 7, none⟩ = some (.slice (A 6) (L 6).length (c 6)) := (blk_cell BKgb.out 7).trans rfl; have fgb8 : w1.cell? ⟨gb, 8, none⟩ = some (.slice (A 7) (L 7).length (c 7)) := (blk_cell BKgb.out 8).trans rfl; have fgbz0 := blk_frozen BKgb.out 0; have fgbz1 := blk_frozen BKgb.out 1; have fgbz2 := blk_frozen BKgb.out 2; have fgbz3 := blk_frozen BKgb.out 3; have fgbz4 := blk_frozen BKgb.out 4; have fgbz5 := blk_frozen BKgb.out 5; have fgbz6 := blk_frozen BKgb.out 6; have fgbz7 := blk_frozen BKgb.out 7; have fgbz8 := blk_frozen BKgb.out 8; rw [ea] at fgb1; rw [ea5] at fgb6; clear n0_ hbox hb hggb))
    go_ret
    exact RetB.mk rfl (iff_f HF.out) HB.out
  have HN2 : Aside0 (v - 8 = n) := ⟨by have := HN.out; omega⟩
  have hA' : 2 ≤ n := by omega
  have hB' : n ≤ 4 := by omega
  clear HN hA hB
  by_cases hC : (p : Int) + n > ((L 0).length : Int)
  · have HF : Aside0 (¬ WideP (L 0) (L 5) p) := ⟨fun hh => by obtain ⟨h1, h2, h3, h4, h5, h6⟩ := hh; rw [HV.out, HN2.out] at h3; omega⟩
    go_enter Try.func71, Try.ntmps71
    go_wp2_with (first | ((with_reducible refine gate_dst (N := 2) rfl ?_); refine box_event rfl (N := 2) rfl (cs := bkCells s A c L) (t := 27) (by first | (go_simp; done) | (go_simp; rfl)) ?_; intro gb hggb w1 hbox hb; have n0_ := Aside0.mk (below_step HB.out hb); have BKgb := Aside0.mk hbox; have HGgb := Aside0.mk (show w.heap.size ≤ gb by rw [hggb]; exact HB.out.size); clear HB; have HB := n0_; have hx1 := (hb.cell (World.block_lt_of_cell? _ _ hx)).trans hx; have hx51 := (hb.cell (World.block_lt_of_cell? _ _ hx5)).trans hx5; have fgbs0 : w1.cell? ⟨gb, 0, none⟩ = some (.int .i64 _) := (blk_cell BKgb.out 0).trans rfl; have fgb1 : w1.cell? ⟨gb, 1, none⟩ = some (.slice (A 0) (L 0).length (c 0)) := (blk_cell BKgb.out 1).trans rfl; have fgb2 : w1.cell? ⟨gb, 2, none⟩ = some (.slice (A 1) (L 1).length (c 1)) := (blk_cell BKgb.out 2).trans rfl; have fgb3 : w1.cell? ⟨gb, 3, none⟩ = some (.slice (A 2) (L 2).length (c 2)) := (blk_cell BKgb.out 3).trans rfl; have fgb4 : w1.cell? ⟨gb, 4, none⟩ = some (.slice (A 3) (L 3).length (c 3)) := (blk_cell BKgb.out 4).trans rfl; have fgb5 : w1.cell? ⟨gb, 5, none⟩ = some (.slice (A 4) (L 4).length (c 4)) := (blk_cell BKgb.out 5).trans rfl; have fgb6 : w1.cell? ⟨gb, 6, none⟩ = some (.slice (A 5) (L 5).length (c 5)) := (blk_cell BKgb.out 6).trans rfl; have fgb7 : w1.cell? ⟨gb, 7, none⟩ = some (.slice (A 6) (L 6).length (c 6)) := (blk_cell BKgb.out 7).trans rfl; have fgb8 : w1.cell? ⟨gb, 8, none⟩ = some (.slice (A 7) (L 7).length (c 7)) := (blk_cell BKgb.out 8).trans rfl; have fgbz0 := blk_frozen BKgb.out 0; have fgbz1 := blk_frozen BKgb.out 1; have fgbz2 := blk_frozen BKgb.out 2; have fgbz3 := blk_frozen BKgb.out 3; have fgbz4 := blk_frozen BKgb.out 4; have fgbz5 := blk_frozen BKgb.out 5; have fgbz6 := blk_frozen BKgb.out 6; have fgbz7 := blk_frozen BKgb.out 7; have fgbz8 := blk_frozen BKgb.out 8; rw [ea] at fgb1; rw [ea5] at fgb6; clear n0_ hbox hb hggb))
    go_ret
    exact RetB.mk rfl (iff_f HF.out) HB.out
  by_cases hD : o = 0
  · have HD := Aside0.mk hD
    have hD' : (o == 0) = true := by rw [hD]; rfl
    clear hD
    have HF : Aside0 (¬ WideP (L 0) (L 5) p) := ⟨fun hh => by obtain ⟨h1, h2, h3, h4, h5, h6⟩ := hh; exact h4 (by rw [HO.out, HD.out])⟩
    go_enter Try.func71, Try.ntmps71
    go_wp2_with (first | ((with_reducible refine gate_dst (N := 2) rfl ?_); refine box_event rfl (N := 2) rfl (cs := bkCells s A c L) (t := 27) (by first | (go_simp; done) | (go_simp; rfl)) ?_; intro gb hggb w1 hbox hb; have n0_ := Aside0.mk (below_step HB.out hb); have BKgb := Aside0.mk hbox; have HGgb := Aside0.mk (show w.heap.size ≤ gb by rw [hggb]; exact HB.out.size); clear HB; have HB := n0_; have hx1 := (hb.cell (World.block_lt_of_cell? _ _ hx)).trans hx; have hx51 := (hb.cell (World.block_lt_of_cell? _ _ hx5)).trans hx5; have fgbs0 : w1.cell? ⟨gb, 0, none⟩ = some (.int .i64 _) := (blk_cell BKgb.out 0).trans rfl; have fgb1 : w1.cell? ⟨gb, 1, none⟩ = some (.slice (A 0) (L 0).length (c 0)) := (blk_cell BKgb.out 1).trans rfl; have fgb2 : w1.cell? ⟨gb, 2, none⟩ = some (.slice (A 1) (L 1).length (c 1)) := (blk_cell BKgb.out 2).trans rfl; have fgb3 : w1.cell? ⟨gb, 3, none⟩ = some (.slice (A 2) (L 2).length (c 2)) := (blk_cell BKgb.out 3).trans rfl; have fgb4 : w1.cell? ⟨gb, 4, none⟩ = some (.slice (A 3) (L 3).length (c 3)) := (blk_cell BKgb.out 4).trans rfl; have fgb5 : w1.cell? ⟨gb, 5, none⟩ = some (.slice (A 4) (L 4).length (c 4)) := (blk_cell BKgb.out 5).trans rfl; have fgb6 : w1.cell? ⟨gb, 6, none⟩ = some (.slice (A 5) (L 5).length (c 5)) := (blk_cell BKgb.out 6).trans rfl; have fgb7 : w1.cell? ⟨gb, 7, none⟩ = some (.slice (A 6) (L 6).length (c 6)) := (blk_cell BKgb.out 7).trans rfl; have fgb8 : w1.cell? ⟨gb, 8, none⟩ = some (.slice (A 7) (L 7).length (c 7)) := (blk_cell BKgb.out 8).trans rfl; have fgbz0 := blk_frozen BKgb.out 0; have fgbz1 := blk_frozen BKgb.out 1; have fgbz2 := blk_frozen BKgb.out 2; have fgbz3 := blk_frozen BKgb.out 3; have fgbz4 := blk_frozen BKgb.out 4; have fgbz5 := blk_frozen BKgb.out 5; have fgbz6 := blk_frozen BKgb.out 6; have fgbz7 := blk_frozen BKgb.out 7; have fgbz8 := blk_frozen BKgb.out 8; rw [ea] at fgb1; rw [ea5] at fgb6; clear n0_ hbox hb hggb))
    go_ret
    exact RetB.mk rfl (iff_f HF.out) HB.out
  have HD := Aside0.mk hD
  have hD' : (o == 0) = false := beq_eq_false_iff_ne.mpr hD
  have HC := Aside0.mk (show (p : Int) + n ≤ ((L 0).length : Int) by omega)
  clear hD
  go_enter Try.func71, Try.ntmps71
  go_wp2_with (first | ((with_reducible refine gate_dst (N := 2) rfl ?_); refine box_event rfl (N := 2) rfl (cs := bkCells s A c L) (t := 27) (by first | (go_simp; done) | (go_simp; rfl)) ?_; intro gb hggb w1 hbox hb; have n0_ := Aside0.mk (below_step HB.out hb); have BKgb := Aside0.mk hbox; have HGgb := Aside0.mk (show w.heap.size ≤ gb by rw [hggb]; exact HB.out.size); clear HB; have HB := n0_; have hx1 := (hb.cell (World.block_lt_of_cell? _ _ hx)).trans hx; have hx51 := (hb.cell (World.block_lt_of_cell? _ _ hx5)).trans hx5; have fgbs0 : w1.cell? ⟨gb, 0, none⟩ = some (.int .i64 _) := (blk_cell BKgb.out 0).trans rfl; have fgb1 : w1.cell? ⟨gb, 1, none⟩ = some (.slice (A 0) (L 0).length (c 0)) := (blk_cell BKgb.out 1).trans rfl; have fgb2 : w1.cell? ⟨gb, 2, none⟩ = some (.slice (A 1) (L 1).length (c 1)) := (blk_cell BKgb.out 2).trans rfl; have fgb3 : w1.cell? ⟨gb, 3, none⟩ = some (.slice (A 2) (L 2).length (c 2)) := (blk_cell BKgb.out 3).trans rfl; have fgb4 : w1.cell? ⟨gb, 4, none⟩ = some (.slice (A 3) (L 3).length (c 3)) := (blk_cell BKgb.out 4).trans rfl; have fgb5 : w1.cell? ⟨gb, 5, none⟩ = some (.slice (A 4) (L 4).length (c 4)) := (blk_cell BKgb.out 5).trans rfl; have fgb6 : w1.cell? ⟨gb, 6, none⟩ = some (.slice (A 5) (L 5).length (c 5)) := (blk_cell BKgb.out 6).trans rfl; have fgb7 : w1.cell? ⟨gb, 7, none⟩ = some (.slice (A 6) (L 6).length (c 6)) := (blk_cell BKgb.out 7).trans rfl; have fgb8 : w1.cell? ⟨gb, 8, none⟩ = some (.slice (A 7) (L 7).length (c 7)) := (blk_cell BKgb.out 8).trans rfl; have fgbz0 := blk_frozen BKgb.out 0; have fgbz1 := blk_frozen BKgb.out 1; have fgbz2 := blk_frozen BKgb.out 2; have fgbz3 := blk_frozen BKgb.out 3; have fgbz4 := blk_frozen BKgb.out 4; have fgbz5 := blk_frozen BKgb.out 5; have fgbz6 := blk_frozen BKgb.out 6; have fgbz7 := blk_frozen BKgb.out 7; have fgbz8 := blk_frozen BKgb.out 8; rw [ea] at fgb1; rw [ea5] at fgb6; clear n0_ hbox hb hggb))
  have HW : Aside0 (WideP (L 0) (L 5) p ↔ (FreeP (L 5) p 1 ∧ ∀ i : Nat, 1 ≤ i → (i : Int) < n → (L 0).getD (p + i) 0 = 7)) := ⟨by
    unfold WideP
    rw [HV.out, HN2.out, HO.out]
    exact ⟨fun hh => ⟨hh.2.2.2.2.1, hh.2.2.2.2.2⟩, fun hh => ⟨hA', hB', HC.out, HD.out, hh.1, hh.2⟩⟩⟩
  rw [← ea, ← ea5]
  refine (l3Free_calls s A c L p 1 _ (HR.out.below HB.out) HP.out (HLn.out 5) (by omega)).mono ?_
  rintro e w3 ⟨r, rfl, hr, hb⟩
  have HB3 := Aside0.mk (below_step HB.out hb)
  have BK3 := Aside0.mk (blk_below BKgb.out hb)
  clear HB BKgb fgbs0 fgbz0 fgb1 fgbz1 fgb2 fgbz2 fgb3 fgbz3 fgb4 fgbz4 fgb5 fgbz5 fgb6 fgbz6 fgb7 fgbz7 fgb8 fgbz8 hx hx1 hx5 hx51 hb
  cases r with
  | false =>
    have HF : Aside0 (¬ WideP (L 0) (L 5) p) := ⟨fun hh => by have := hr.mpr (HW.out.mp hh).1; cases this⟩
    clear hr
    go_wp2
    go_ret
    exact RetB.mk rfl (iff_f HF.out) HB3.out
  | true =>
    have HFr := Aside0.mk (hr.mp rfl)
    clear hr
    go_wp2
    go_loopg [6] 4 (fun kq v6 w' => ∃ i : Nat, i ≤ 4 ∧ kq = 5 - i ∧ v6 = .int .i64 i ∧ Aside0 ((i : Int) ≤ n ∧ 1 ≤ i) ∧ Aside0 (∀ j : Nat, 1 ≤ j → j < i → (L 0).getD (p + j) 0 = 7) ∧ Aside0 (w'.heap[gb]? = some (.cells (bkCells s A c L) 27 (0, 0))) ∧ Aside0 (Below w.heap.size w w'))
    case atStart => exact ⟨1, by omega, rfl, rfl, ⟨by omega, by omega⟩, ⟨fun j h1 h2 => by omega⟩, BK3, HB3⟩
    case round =>
      clear HB3 BK3
      obtain ⟨i, hi4, rfl, rfl, HI, HU, BKgb, HB⟩ := hrel
      by_cases hlt : (i : Int) < n
      · have q0 : (0 : Int) ≤ (p : Int) + (i : Int) := by omega
        have q1 : (p : Int) + (i : Int) < ((L 0).length : Int) := by have := HC.out; omega
        obtain ⟨adi, vi, eai, hxi, HVi⟩ := at_v ((HR.out 0 (by omega)).below HB.out) (p + i) (by omega)
        have hc1 : wr.cell? ⟨gb, 1, none⟩ = some (.slice (some adi) (L 0).length (c 0)) := (blk_cell BKgb.out 1).trans (by rw [← eai]; rfl)
        have hz1 := blk_frozen BKgb.out 1
        clear eai
        by_cases hv : vi = 7
        · have HZ : Aside0 (∀ j : Nat, 1 ≤ j → j < i + 1 → (L 0).getD (p + j) 0 = 7) := ⟨fun j h1 h2 => if e : j < i then HU.out j h1 e else (show i = j by omega) ▸ (by rw [HVi.out, hv])⟩
          have hv' : (vi != 7) = false := by rw [hv]; rfl
          clear hv
          go_wp2
          go_roundg (5 - (i + 1))
          case measure => omega
          case rel => exact ⟨i + 1, by omega, rfl, by go_num, ⟨by omega, by omega⟩, HZ, BKgb, HB⟩
        · have HF : Aside0 (¬ WideP (L 0) (L 5) p) := ⟨fun hh => hv (by rw [← HVi.out]; exact (HW.out.mp hh).2 i HI.out.2 hlt)⟩
          have hv' : (vi != 7) = true := bne_iff_ne.mpr hv
          clear hv
          go_wp2
          go_ret
          exact RetB.mk rfl (iff_f HF.out) HB.out
      · have HF : Aside0 (WideP (L 0) (L 5) p) := ⟨HW.out.mpr ⟨HFr.out, fun j h1 h2 => HU.out j h1 (by have := HI.out; omega)⟩⟩
        go_wp2
        go_ret
        exact RetB.mk rfl (iff_t HF.out) HB.out
end Go.Proofs.Ytekneicikmaplaa.Bk

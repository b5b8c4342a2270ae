/- FnExactBookOk: the law's own walk. -/
import Derived.Test.YtekneicikmaplaaBk25
import Derived.Deep.RegionHeld3
set_option linter.unusedVariables false
set_option linter.unusedSimpArgs false
namespace Go.Proofs.Ytekneicikmaplaa.Bk
open Go.RowKit Go.Proofs.YtekneicikmaplaaW.PrintWords Go.Proofs.YtekneicikmaplaaW.PrintLast Go.Proofs.YtekneicikmaplaaW.PrintMore

theorem szR_nn {l : List Int} {left : Int} (h : 0 ≤ szR l left) : (l.length : Int) ≤ left ∧ szR l left = left - l.length := by
  unfold szR at *
  by_cases e : left - (l.length : Int) < 0
  · rw [if_pos e] at h; omega
  · rw [if_neg e] at h ⊢; omega
theorem szA_nn (L : Nat → List Int) : ∀ (n j : Nat) (left : Int), left ≤ 1048576 → 0 ≤ szA L j n left → (∀ i, j ≤ i → i < j + n → ((L i).length : Int) ≤ 1048576) ∧ szA L j n left ≤ 1048576
  | 0, j, left, h1, h => ⟨fun i a b => by omega, h1⟩
  | n + 1, j, left, h1, h => by
    rw [szA_step] at h ⊢
    by_cases e : szR (L j) left < 0
    · rw [if_pos e] at h; omega
    · rw [if_neg e] at h ⊢
      obtain ⟨a, b⟩ := szR_nn (show 0 ≤ szR (L j) left by omega)
      obtain ⟨p, q⟩ := szA_nn L n (j + 1) _ (by omega) h
      exact ⟨fun i h1 h2 => if e : i = j then e ▸ (by omega) else p i (by omega) (by omega), q⟩
theorem szB_nn (L : Nat → List Int) (left : Int) (h1 : left ≤ 1048576) (h8 : ∀ i, 8 ≤ i → L i = []) (h : 0 ≤ szB L left) : (∀ i, (L i).length ≤ 1048576) ∧ szB L left ≤ 1048576 := by
  unfold szB at h ⊢
  by_cases e0 : szR (L 0) left < 0
  · rw [if_pos e0] at h; omega
  rw [if_neg e0] at h ⊢
  obtain ⟨a0, b0⟩ := szR_nn (show 0 ≤ szR (L 0) left by omega)
  by_cases e1 : szA (fun i => L (i + 1)) 0 4 (szR (L 0) left) < 0
  · rw [if_pos e1] at h; omega
  rw [if_neg e1] at h ⊢
  obtain ⟨a1, b1⟩ := szA_nn (fun i => L (i + 1)) 4 0 _ (show szR (L 0) left ≤ 1048576 by omega) (by omega)
  generalize szA (fun i => L (i + 1)) 0 4 (szR (L 0) left) = y at *
  by_cases e5 : szR (L 5) y < 0
  · rw [if_pos e5] at h; omega
  rw [if_neg e5] at h ⊢
  obtain ⟨a5, b5⟩ := szR_nn (show 0 ≤ szR (L 5) y by omega)
  generalize szR (L 5) y = y5 at *
  by_cases e6 : szR (L 6) y5 < 0
  · rw [if_pos e6] at h; omega
  rw [if_neg e6] at h ⊢
  obtain ⟨a6, b6⟩ := szR_nn (show 0 ≤ szR (L 6) y5 by omega)
  generalize szR (L 6) y5 = y6 at *
  by_cases e7 : szR (L 7) y6 < 0
  · rw [if_pos e7] at h; omega
  rw [if_neg e7] at h ⊢
  obtain ⟨a7, b7⟩ := szR_nn (show 0 ≤ szR (L 7) y6 by omega)
  refine ⟨fun i => ?_, by omega⟩
  have c1 := a1 0 (by omega) (by omega)
  have c2 := a1 1 (by omega) (by omega)
  have c3 := a1 2 (by omega) (by omega)
  have c4 := a1 3 (by omega) (by omega)
  match i with
  | 0 => omega
  | 1 => simpa using (by omega : ((L (0 + 1)).length) ≤ 1048576)
  | 2 => simpa using (by omega : ((L (1 + 1)).length) ≤ 1048576)
  | 3 => simpa using (by omega : ((L (2 + 1)).length) ≤ 1048576)
  | 4 => simpa using (by omega : ((L (3 + 1)).length) ≤ 1048576)
  | 5 => omega
  | 6 => omega
  | 7 => omega
  | i + 8 => rw [h8 (i + 8) (by omega)]; simp
set_option maxHeartbeats 4000000 in
set_option maxRecDepth 100000 in
theorem lawBookOk_calls (s : Int) (A : Nat → Option Addr) (c : Nat → Nat) (L : Nat → List Int) (w : World) (h : BkC w A c L) (hl : ∀ i, (L i).length ≤ 9223372036854775807) (h8 : ∀ i, 8 ≤ i → L i = []) (hw : ∀ i, Wf64 (L i)) :
    Calls Try.prog 5 #[.agg (bkCells s A c L)] w fun e w' => e = .returned (.bool true) ∧ Below w.heap.size w w' := by
  have HR := Aside0.mk h
  have HL := Aside0.mk hl
  have HW := Aside0.mk hw
  have HN : Aside0 (0 ≤ szB L 1048576 → ∀ i, (L i).length ≤ 1048576) := ⟨fun q => (szB_nn L 1048576 (by omega) h8 q).1⟩
  obtain ⟨z, hz⟩ : ∃ z, szB L 1048576 = z := ⟨_, rfl⟩
  rw [hz] at HN
  have HZ := Aside0.mk hz
  clear h hl h8 hw hz
  have HB := Aside0.mk (Below.refl w.heap.size w)
  by_cases hz0 : z < 0
  · go_enter Try.func5, Try.ntmps5
    go_wp2_with (first | ((with_reducible refine gate_dst (N := 1) rfl ?_); refine box_event rfl (N := 1) rfl (cs := bkCells s A c L) (t := 34) (by first | (go_simp; done) | (go_simp; rfl)) ?_; intro gb hggb w1 hbox hb; have n0_ := Aside0.mk (below_step HB.out hb); have BKgb := Aside0.mk hbox; have HGgb := Aside0.mk (show w.heap.size ≤ gb by rw [hggb]; exact HB.out.size); clear HB; have HB := n0_; have fgbs0 : w1.cell? ⟨gb, 0, none⟩ = some (.int .i64 _) := (blk_cell BKgb.out 0).trans rfl; have fgb1 : w1.cell? ⟨gb, 1, none⟩ = some (.slice (A 0) (L 0).length (c 0)) := (blk_cell BKgb.out 1).trans rfl; have fgb2 : w1.cell? ⟨gb, 2, none⟩ = some (.slice (A 1) (L 1).length (c 1)) := (blk_cell BKgb.out 2).trans rfl; have fgb3 : w1.cell? ⟨gb, 3, none⟩ = some (.slice (A 2) (L 2).length (c 2)) := (blk_cell BKgb.out 3).trans rfl; have fgb4 : w1.cell? ⟨gb, 4, none⟩ = some (.slice (A 3) (L 3).length (c 3)) := (blk_cell BKgb.out 4).trans rfl; have fgb5 : w1.cell? ⟨gb, 5, none⟩ = some (.slice (A 4) (L 4).length (c 4)) := (blk_cell BKgb.out 5).trans rfl; have fgb6 : w1.cell? ⟨gb, 6, none⟩ = some (.slice (A 5) (L 5).length (c 5)) := (blk_cell BKgb.out 6).trans rfl; have fgb7 : w1.cell? ⟨gb, 7, none⟩ = some (.slice (A 6) (L 6).length (c 6)) := (blk_cell BKgb.out 7).trans rfl; have fgb8 : w1.cell? ⟨gb, 8, none⟩ = some (.slice (A 7) (L 7).length (c 7)) := (blk_cell BKgb.out 8).trans rfl; have fgbz0 := blk_frozen BKgb.out 0; have fgbz1 := blk_frozen BKgb.out 1; have fgbz2 := blk_frozen BKgb.out 2; have fgbz3 := blk_frozen BKgb.out 3; have fgbz4 := blk_frozen BKgb.out 4; have fgbz5 := blk_frozen BKgb.out 5; have fgbz6 := blk_frozen BKgb.out 6; have fgbz7 := blk_frozen BKgb.out 7; have fgbz8 := blk_frozen BKgb.out 8; clear n0_ hbox hb hggb) | (go_at_call 17; refine (szBook_calls s A c L 1048576 _ (by omega) (by omega) HL.out).mono ?_; rintro e w2 ⟨rfl, hb⟩; rw [HZ.out]; have HB2 := Aside0.mk (below_step HB.out hb); clear hb HB; have HB := HB2; clear HB2))
    go_ret
    exact ⟨rfl, HB.out⟩
  have hz1 := nn_of hz0
  have HM : Aside0 (∀ i, (L i).length ≤ 1048576) := ⟨HN.out hz1⟩
  have HM2 : Aside0 (∀ i, (L i).length ≤ 35184372088832) := ⟨fun i => by have := HM.out i; omega⟩
  clear HN hz0
  go_enter Try.func5, Try.ntmps5
  go_wp2_with (first | ((with_reducible refine gate_dst (N := 1) rfl ?_); refine box_event rfl (N := 1) rfl (cs := bkCells s A c L) (t := 34) (by first | (go_simp; done) | (go_simp; rfl)) ?_; intro gb hggb w1 hbox hb; have n0_ := Aside0.mk (below_step HB.out hb); have BKgb := Aside0.mk hbox; have HGgb := Aside0.mk (show w.heap.size ≤ gb by rw [hggb]; exact HB.out.size); clear HB; have HB := n0_; have fgbs0 : w1.cell? ⟨gb, 0, none⟩ = some (.int .i64 _) := (blk_cell BKgb.out 0).trans rfl; have fgb1 : w1.cell? ⟨gb, 1, none⟩ = some (.slice (A 0) (L 0).length (c 0)) := (blk_cell BKgb.out 1).trans rfl; have fgb2 : w1.cell? ⟨gb, 2, none⟩ = some (.slice (A 1) (L 1).length (c 1)) := (blk_cell BKgb.out 2).trans rfl; have fgb3 : w1.cell? ⟨gb, 3, none⟩ = some (.slice (A 2) (L 2).length (c 2)) := (blk_cell BKgb.out 3).trans rfl; have fgb4 : w1.cell? ⟨gb, 4, none⟩ = some (.slice (A 3) (L 3).length (c 3)) := (blk_cell BKgb.out 4).trans rfl; have fgb5 : w1.cell? ⟨gb, 5, none⟩ = some (.slice (A 4) (L 4).length (c 4)) := (blk_cell BKgb.out 5).trans rfl; have fgb6 : w1.cell? ⟨gb, 6, none⟩ = some (.slice (A 5) (L 5).length (c 5)) := (blk_cell BKgb.out 6).trans rfl; have fgb7 : w1.cell? ⟨gb, 7, none⟩ = some (.slice (A 6) (L 6).length (c 6)) := (blk_cell BKgb.out 7).trans rfl; have fgb8 : w1.cell? ⟨gb, 8, none⟩ = some (.slice (A 7) (L 7).length (c 7)) := (blk_cell BKgb.out 8).trans rfl; have fgbz0 := blk_frozen BKgb.out 0; have fgbz1 := blk_frozen BKgb.out 1; have fgbz2 := blk_frozen BKgb.out 2; have fgbz3 := blk_frozen BKgb.out 3; have fgbz4 := blk_frozen BKgb.out 4; have fgbz5 := blk_frozen BKgb.out 5; have fgbz6 := blk_frozen BKgb.out 6; have fgbz7 := blk_frozen BKgb.out 7; have fgbz8 := blk_frozen BKgb.out 8; clear n0_ hbox hb hggb))
  refine (szBook_calls s A c L 1048576 _ (by omega) (by omega) HL.out).mono ?_
  rintro e w2 ⟨rfl, hb⟩
  rw [HZ.out]
  have HB2 := Aside0.mk (below_step HB.out hb)
  have BK2 := Aside0.mk (blk_below BKgb.out hb)
  clear hb HB BKgb
  clear fgbs0 fgbz0 fgb1 fgbz1 fgb2 fgbz2 fgb3 fgbz3 fgb4 fgbz4 fgb5 fgbz5 fgb6 fgbz6 fgb7 fgbz7 fgb8 fgbz8
  have fgbs0 : w2.cell? ⟨gb, 0, none⟩ = some (.int .i64 _) := (blk_cell BK2.out 0).trans rfl; have fgb1 : w2.cell? ⟨gb, 1, none⟩ = some (.slice (A 0) (L 0).length (c 0)) := (blk_cell BK2.out 1).trans rfl; have fgb2 : w2.cell? ⟨gb, 2, none⟩ = some (.slice (A 1) (L 1).length (c 1)) := (blk_cell BK2.out 2).trans rfl; have fgb3 : w2.cell? ⟨gb, 3, none⟩ = some (.slice (A 2) (L 2).length (c 2)) := (blk_cell BK2.out 3).trans rfl; have fgb4 : w2.cell? ⟨gb, 4, none⟩ = some (.slice (A 3) (L 3).length (c 3)) := (blk_cell BK2.out 4).trans rfl; have fgb5 : w2.cell? ⟨gb, 5, none⟩ = some (.slice (A 4) (L 4).length (c 4)) := (blk_cell BK2.out 5).trans rfl; have fgb6 : w2.cell? ⟨gb, 6, none⟩ = some (.slice (A 5) (L 5).length (c 5)) := (blk_cell BK2.out 6).trans rfl; have fgb7 : w2.cell? ⟨gb, 7, none⟩ = some (.slice (A 6) (L 6).length (c 6)) := (blk_cell BK2.out 7).trans rfl; have fgb8 : w2.cell? ⟨gb, 8, none⟩ = some (.slice (A 7) (L 7).length (c 7)) := (blk_cell BK2.out 8).trans rfl; have fgbz0 := blk_frozen BK2.out 0; have fgbz1 := blk_frozen BK2.out 1; have fgbz2 := blk_frozen BK2.out 2; have fgbz3 := blk_frozen BK2.out 3; have fgbz4 := blk_frozen BK2.out 4; have fgbz5 := blk_frozen BK2.out 5; have fgbz6 := blk_frozen BK2.out 6; have fgbz7 := blk_frozen BK2.out 7; have fgbz8 := blk_frozen BK2.out 8
  go_wp2_with fail
  refine (toBook_calls s A c L _ (HR.out.below HB2.out) HM2.out).mono ?_
  rintro e w3 ⟨A1, c1, rfl, ho, hb⟩
  have HB3 := Aside0.mk (below_step HB2.out hb)
  have BK3 := Aside0.mk (blk_below BK2.out hb)
  have HO1 := Aside0.mk ho.c
  clear hb ho HB2 BK2
  clear fgbs0 fgbz0 fgb1 fgbz1 fgb2 fgbz2 fgb3 fgbz3 fgb4 fgbz4 fgb5 fgbz5 fgb6 fgbz6 fgb7 fgbz7 fgb8 fgbz8
  go_wp2_with fail
  refine (specBookOk_calls s A1 c1 L _ HO1.out HM2.out (HW.out 0)).mono ?_
  rintro e w4 ⟨r0, rfl, hr0, hb⟩
  have HR0 := Aside0.mk hr0
  have HB4 := Aside0.mk (below_step HB3.out hb)
  have BK4 := Aside0.mk (blk_below BK3.out hb)
  clear hb hr0 HB3 BK3 HO1
  have fgbs0 : w4.cell? ⟨gb, 0, none⟩ = some (.int .i64 _) := (blk_cell BK4.out 0).trans rfl; have fgb1 : w4.cell? ⟨gb, 1, none⟩ = some (.slice (A 0) (L 0).length (c 0)) := (blk_cell BK4.out 1).trans rfl; have fgb2 : w4.cell? ⟨gb, 2, none⟩ = some (.slice (A 1) (L 1).length (c 1)) := (blk_cell BK4.out 2).trans rfl; have fgb3 : w4.cell? ⟨gb, 3, none⟩ = some (.slice (A 2) (L 2).length (c 2)) := (blk_cell BK4.out 3).trans rfl; have fgb4 : w4.cell? ⟨gb, 4, none⟩ = some (.slice (A 3) (L 3).length (c 3)) := (blk_cell BK4.out 4).trans rfl; have fgb5 : w4.cell? ⟨gb, 5, none⟩ = some (.slice (A 4) (L 4).length (c 4)) := (blk_cell BK4.out 5).trans rfl; have fgb6 : w4.cell? ⟨gb, 6, none⟩ = some (.slice (A 5) (L 5).length (c 5)) := (blk_cell BK4.out 6).trans rfl; have fgb7 : w4.cell? ⟨gb, 7, none⟩ = some (.slice (A 6) (L 6).length (c 6)) := (blk_cell BK4.out 7).trans rfl; have fgb8 : w4.cell? ⟨gb, 8, none⟩ = some (.slice (A 7) (L 7).length (c 7)) := (blk_cell BK4.out 8).trans rfl; have fgbz0 := blk_frozen BK4.out 0; have fgbz1 := blk_frozen BK4.out 1; have fgbz2 := blk_frozen BK4.out 2; have fgbz3 := blk_frozen BK4.out 3; have fgbz4 := blk_frozen BK4.out 4; have fgbz5 := blk_frozen BK4.out 5; have fgbz6 := blk_frozen BK4.out 6; have fgbz7 := blk_frozen BK4.out 7; have fgbz8 := blk_frozen BK4.out 8
  go_wp2_with fail
  refine (toBook_calls s A c L _ (HR.out.below HB4.out) HM2.out).mono ?_
  rintro e w5 ⟨A2, c2, rfl, ho, hb⟩
  have HB := Aside0.mk (below_step HB4.out hb)
  have BK5 := Aside0.mk (blk_below BK4.out hb)
  have HO2 := Aside0.mk ho
  clear hb ho HB4 BK4
  clear fgbs0 fgbz0 fgb1 fgbz1 fgb2 fgbz2 fgb3 fgbz3 fgb4 fgbz4 fgb5 fgbz5 fgb6 fgbz6 fgb7 fgbz7 fgb8 fgbz8
  go_wp2_with (first | ((with_reducible refine gate_dst (N := 5) rfl ?_); refine box_event rfl (N := 5) rfl (cs := #[.int .i64 0, .slice none 0 0, .slice none 0 0, .slice none 0 0, .slice none 0 0, .slice none 0 0, .slice none 0 0, .slice none 0 0, .slice none 0 0]) (t := 27) (by first | (go_simp; done) | (go_simp; rfl)) ?_; intro gx hggx w6 hbox hb; have n0_ := Aside0.mk (below_step HB.out hb); have BKgx := Aside0.mk hbox; have HGgx := Aside0.mk (show w.heap.size ≤ gx by rw [hggx]; exact HB.out.size); clear HB; have HB := n0_; have BK6 := Aside0.mk (blk_below BK5.out hb); have HO6 := Aside0.mk (HO2.out.below hb); have NE := Aside0.mk (show gb ≠ gx by have := blk_lt BK5.out; omega); clear BK5 HO2; clear n0_ hbox hb hggx) | ((with_reducible refine gate_store (t := 27) (p := 5) rfl ?_); refine store_event (t := 27) (p := 5) (v := ?vo_1) (w1 := w6.setRow gx (bkCells s A2 c2 L)) ?hg ?ho ?hn ?hr ?_; (case ho => rfl); (case hg => rfl); (case hn => rfl); (case hr => exact (Row.store_row_run (g := gx) (cells := bkCells s A2 c2 L) (t := 27) (old := #[.int .i64 0, .slice none 0 0, .slice none 0 0, .slice none 0 0, .slice none 0 0, .slice none 0 0, .slice none 0 0, .slice none 0 0, .slice none 0 0]) rfl (by rfl) (by rfl) BKgx.out (by kernel_rfl) rfl (by simp [Value.oneCell']))); intro w7 hw; have HB7 := Aside0.mk (Row.row_below hw HB.out HGgx.out); have BKx7 := Aside0.mk (Row.row_here hw BKgx.out); have BK7 := Aside0.mk (Row.row_there hw BK6.out NE.out); have HO7 := Aside0.mk (show BkC w7 A2 c2 L by rw [hw]; exact BkO.c (VO.row HO6.out BKgx.out (by decide) _)); clear HB BKgx BK6 HO6; have fgxs0 : w7.cell? ⟨gx, 0, none⟩ = some (.int .i64 _) := (blk_cell BKx7.out 0).trans rfl; have fgx1 : w7.cell? ⟨gx, 1, none⟩ = some (.slice (A2 0) (L 0).length (c2 0)) := (blk_cell BKx7.out 1).trans rfl; have fgx2 : w7.cell? ⟨gx, 2, none⟩ = some (.slice (A2 1) (L 1).length (c2 1)) := (blk_cell BKx7.out 2).trans rfl; have fgx3 : w7.cell? ⟨gx, 3, none⟩ = some (.slice (A2 2) (L 2).length (c2 2)) := (blk_cell BKx7.out 3).trans rfl; have fgx4 : w7.cell? ⟨gx, 4, none⟩ = some (.slice (A2 3) (L 3).length (c2 3)) := (blk_cell BKx7.out 4).trans rfl; have fgx5 : w7.cell? ⟨gx, 5, none⟩ = some (.slice (A2 4) (L 4).length (c2 4)) := (blk_cell BKx7.out 5).trans rfl; have fgx6 : w7.cell? ⟨gx, 6, none⟩ = some (.slice (A2 5) (L 5).length (c2 5)) := (blk_cell BKx7.out 6).trans rfl; have fgx7 : w7.cell? ⟨gx, 7, none⟩ = some (.slice (A2 6) (L 6).length (c2 6)) := (blk_cell BKx7.out 7).trans rfl; have fgx8 : w7.cell? ⟨gx, 8, none⟩ = some (.slice (A2 7) (L 7).length (c2 7)) := (blk_cell BKx7.out 8).trans rfl; have fgxz0 := blk_frozen BKx7.out 0; have fgxz1 := blk_frozen BKx7.out 1; have fgxz2 := blk_frozen BKx7.out 2; have fgxz3 := blk_frozen BKx7.out 3; have fgxz4 := blk_frozen BKx7.out 4; have fgxz5 := blk_frozen BKx7.out 5; have fgxz6 := blk_frozen BKx7.out 6; have fgxz7 := blk_frozen BKx7.out 7; have fgxz8 := blk_frozen BKx7.out 8; clear hw))
  refine (implBookOk_calls s A2 c2 L _ HO7.out HM2.out (HW.out 0) (HW.out 5)).mono ?_
  rintro e w8 ⟨r1, rfl, hr1, hb⟩
  have hrr : r1 = r0 := by
    have h1 := HR0.out
    rw [book_iff] at h1
    rw [Bool.eq_iff_iff]
    exact hr1.trans h1.symm
  have HB8 := Aside0.mk (below_step HB7.out hb)
  have BKx8 := Aside0.mk (blk_below BKx7.out hb)
  have BK8 := Aside0.mk (blk_below BK7.out hb)
  have HO8 := Aside0.mk (HO7.out.below hb)
  have HR8 := Aside0.mk (HR.out.below HB8.out)
  clear hb hr1 HB7 BKx7 BK7 HO7 HR0
  clear fgxs0 fgxz0 fgx1 fgxz1 fgx2 fgxz2 fgx3 fgxz3 fgx4 fgxz4 fgx5 fgxz5 fgx6 fgxz6 fgx7 fgxz7 fgx8 fgxz8
  subst hrr
  have hne : (r1 != r1) = false := by cases r1 <;> rfl
  have fgbs0 : w8.cell? ⟨gb, 0, none⟩ = some (.int .i64 _) := (blk_cell BK8.out 0).trans rfl; have fgb1 : w8.cell? ⟨gb, 1, none⟩ = some (.slice (A 0) (L 0).length (c 0)) := (blk_cell BK8.out 1).trans rfl; have fgb2 : w8.cell? ⟨gb, 2, none⟩ = some (.slice (A 1) (L 1).length (c 1)) := (blk_cell BK8.out 2).trans rfl; have fgb3 : w8.cell? ⟨gb, 3, none⟩ = some (.slice (A 2) (L 2).length (c 2)) := (blk_cell BK8.out 3).trans rfl; have fgb4 : w8.cell? ⟨gb, 4, none⟩ = some (.slice (A 3) (L 3).length (c 3)) := (blk_cell BK8.out 4).trans rfl; have fgb5 : w8.cell? ⟨gb, 5, none⟩ = some (.slice (A 4) (L 4).length (c 4)) := (blk_cell BK8.out 5).trans rfl; have fgb6 : w8.cell? ⟨gb, 6, none⟩ = some (.slice (A 5) (L 5).length (c 5)) := (blk_cell BK8.out 6).trans rfl; have fgb7 : w8.cell? ⟨gb, 7, none⟩ = some (.slice (A 6) (L 6).length (c 6)) := (blk_cell BK8.out 7).trans rfl; have fgb8 : w8.cell? ⟨gb, 8, none⟩ = some (.slice (A 7) (L 7).length (c 7)) := (blk_cell BK8.out 8).trans rfl; have fgbz0 := blk_frozen BK8.out 0; have fgbz1 := blk_frozen BK8.out 1; have fgbz2 := blk_frozen BK8.out 2; have fgbz3 := blk_frozen BK8.out 3; have fgbz4 := blk_frozen BK8.out 4; have fgbz5 := blk_frozen BK8.out 5; have fgbz6 := blk_frozen BK8.out 6; have fgbz7 := blk_frozen BK8.out 7; have fgbz8 := blk_frozen BK8.out 8
  have fgxs0 : w8.cell? ⟨gx, 0, none⟩ = some (.int .i64 _) := (blk_cell BKx8.out 0).trans rfl; have fgx1 : w8.cell? ⟨gx, 1, none⟩ = some (.slice (A2 0) (L 0).length (c2 0)) := (blk_cell BKx8.out 1).trans rfl; have fgx2 : w8.cell? ⟨gx, 2, none⟩ = some (.slice (A2 1) (L 1).length (c2 1)) := (blk_cell BKx8.out 2).trans rfl; have fgx3 : w8.cell? ⟨gx, 3, none⟩ = some (.slice (A2 2) (L 2).length (c2 2)) := (blk_cell BKx8.out 3).trans rfl; have fgx4 : w8.cell? ⟨gx, 4, none⟩ = some (.slice (A2 3) (L 3).length (c2 3)) := (blk_cell BKx8.out 4).trans rfl; have fgx5 : w8.cell? ⟨gx, 5, none⟩ = some (.slice (A2 4) (L 4).length (c2 4)) := (blk_cell BKx8.out 5).trans rfl; have fgx6 : w8.cell? ⟨gx, 6, none⟩ = some (.slice (A2 5) (L 5).length (c2 5)) := (blk_cell BKx8.out 6).trans rfl; have fgx7 : w8.cell? ⟨gx, 7, none⟩ = some (.slice (A2 6) (L 6).length (c2 6)) := (blk_cell BKx8.out 7).trans rfl; have fgx8 : w8.cell? ⟨gx, 8, none⟩ = some (.slice (A2 7) (L 7).length (c2 7)) := (blk_cell BKx8.out 8).trans rfl; have fgxz0 := blk_frozen BKx8.out 0; have fgxz1 := blk_frozen BKx8.out 1; have fgxz2 := blk_frozen BKx8.out 2; have fgxz3 := blk_frozen BKx8.out 3; have fgxz4 := blk_frozen BKx8.out 4; have fgxz5 := blk_frozen BKx8.out 5; have fgxz6 := blk_frozen BKx8.out 6; have fgxz7 := blk_frozen BKx8.out 7; have fgxz8 := blk_frozen BKx8.out 8
  go_wp2_with fail
  go_region_held3 (fun w' => w'.cell? ⟨gx, 0, none⟩ = some (.int .i64 s) ∧ w'.cell? ⟨gx, 1, none⟩ = some (.slice (A2 0) (L 0).length (c2 0)) ∧ w'.cell? ⟨gx, 2, none⟩ = some (.slice (A2 1) (L 1).length (c2 1)) ∧ w'.cell? ⟨gx, 3, none⟩ = some (.slice (A2 2) (L 2).length (c2 2)) ∧ w'.cell? ⟨gx, 4, none⟩ = some (.slice (A2 3) (L 3).length (c2 3)) ∧ w'.cell? ⟨gx, 5, none⟩ = some (.slice (A2 4) (L 4).length (c2 4)) ∧ w'.cell? ⟨gx, 6, none⟩ = some (.slice (A2 5) (L 5).length (c2 5)) ∧ w'.cell? ⟨gx, 7, none⟩ = some (.slice (A2 6) (L 6).length (c2 6)) ∧ w'.cell? ⟨gx, 8, none⟩ = some (.slice (A2 7) (L 7).length (c2 7)) ∧ w'.cell? ⟨gb, 0, none⟩ = some (.int .i64 s) ∧ w'.cell? ⟨gb, 1, none⟩ = some (.slice (A 0) (L 0).length (c 0)) ∧ w'.cell? ⟨gb, 2, none⟩ = some (.slice (A 1) (L 1).length (c 1)) ∧ w'.cell? ⟨gb, 3, none⟩ = some (.slice (A 2) (L 2).length (c 2)) ∧ w'.cell? ⟨gb, 4, none⟩ = some (.slice (A 3) (L 3).length (c 3)) ∧ w'.cell? ⟨gb, 5, none⟩ = some (.slice (A 4) (L 4).length (c 4)) ∧ w'.cell? ⟨gb, 6, none⟩ = some (.slice (A 5) (L 5).length (c 5)) ∧ w'.cell? ⟨gb, 7, none⟩ = some (.slice (A 6) (L 6).length (c 6)) ∧ w'.cell? ⟨gb, 8, none⟩ = some (.slice (A 7) (L 7).length (c 7)))
    (first
      | go_keep
      | (refine ⟨?_, ?_, ?_, ?_, ?_, ?_, ?_, ?_, ?_, ?_, ?_, ?_, ?_, ?_, ?_, ?_, ?_, ?_⟩ <;> (rw [hb9.cell (by simp only [World.drew]; first | exact blk_lt BK8.out | exact blk_lt BKx8.out)]; assumption))
      | (refine ⟨?_, ?_, ?_, ?_, ?_, ?_, ?_, ?_, ?_, ?_, ?_, ?_, ?_, ?_, ?_, ?_, ?_, ?_⟩ <;> (rw [hb10.cell (by first | exact Nat.lt_of_lt_of_le (blk_lt BK8.out) hb9.size | exact Nat.lt_of_lt_of_le (blk_lt BKx8.out) hb9.size), hb9.cell (by simp only [World.drew]; first | exact blk_lt BK8.out | exact blk_lt BKx8.out)]; assumption)))
    (first
      | (go_at_call 19; refine (toBook_calls s A c L _ (HR8.out.below (below_drew (Below.refl _ _))) HM2.out).mono ?_; rintro e w9 ⟨A3, c3, rfl, ho9, hb9⟩)
      | (go_at_call 14; refine (eqBook_same s A2 c2 A3 c3 L _ (BkC.below (show BkC w8.drew A2 c2 L from HO8.out) hb9) ho9.c HL.out).mono ?_; rintro e w10 ⟨rfl, hb10⟩))
  all_goals
    have HBf := Aside0.mk (below_step (below_step (below_drew HB8.out) hb9) hb10)
    clear hb9 hb10 ho9
    go_wp2
    go_ret
    exact ⟨rfl, HBf.out⟩
end Go.Proofs.Ytekneicikmaplaa.Bk

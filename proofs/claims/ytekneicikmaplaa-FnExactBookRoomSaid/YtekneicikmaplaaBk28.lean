/- The size of the owned block at a unit: walks. -/
import Derived.Test.YtekneicikmaplaaBk26
set_option linter.unusedVariables false
set_option linter.unusedSimpArgs false
namespace Go.Proofs.Ytekneicikmaplaa.Bk
open Go.RowKit Go.Proofs.YtekneicikmaplaaW.PrintWords Go.Proofs.YtekneicikmaplaaW.PrintLast Go.Proofs.YtekneicikmaplaaW.PrintMore

def RoomV (L : Nat → List Int) (x : Int) : Int :=
  if x < 0 then 0 else if x ≥ ((L 5).length : Int) then 0 else if (L 5).getD x.toNat 0 = 0 then 0
  else if 1 ≤ (L 0).getD (x / 8).toNat 0 ∧ (L 0).getD (x / 8).toNat 0 ≤ 4 then (sizeN ((L 0).getD (x / 8).toNat 0 - 1).toNat : Int) else ((L 0).getD (x / 8).toNat 0 - 8) * 8
theorem pages_bd {s : Int} {L : Nat → List Int} (h : BookP s L) (p : Nat) (hp : p < (L 0).length) : 0 ≤ (L 0).getD p 0 ∧ (L 0).getD p 0 ≤ 12 := by
  have hP := h.2.2 p hp
  by_cases h0 : (L 0).getD p 0 = 0
  · omega
  by_cases h4 : 1 ≤ (L 0).getD p 0 ∧ (L 0).getD p 0 ≤ 4
  · omega
  by_cases h7 : (L 0).getD p 0 = 7
  · omega
  obtain ⟨a, b, _⟩ := (page_w h0 h4 h7).mp hP
  omega
set_option maxHeartbeats 2000000 in
set_option maxRecDepth 100000 in
theorem l3Room_calls (s : Int) (A : Nat → Option Addr) (c : Nat → Nat) (L : Nat → List Int) (x : Int) (w : World) (h : BkC w A c L) (hl : ∀ i, (L i).length ≤ 35184372088832) (h05 : (L 5).length = (L 0).length * 8) (hv : ∀ p, p < (L 0).length → 0 ≤ (L 0).getD p 0 ∧ (L 0).getD p 0 ≤ 12) :
    Calls Try.prog 54 #[.agg (bkCells s A c L), .int .i64 x] w fun e w' => e = .returned (.int .i64 (RoomV L x)) ∧ Below w.heap.size w w' := by
  have HR := Aside0.mk h
  have HPB := Aside0.mk hv
  have hl5 : ((L 5).length : Int) ≤ 35184372088832 := by have := hl 5; omega
  have H05 := Aside0.mk h05
  clear h hl hv h05
  have HB := Aside0.mk (Below.refl w.heap.size w)
  by_cases h1 : x < 0
  · have HF : Aside0 (RoomV L x = 0) := ⟨if_pos h1⟩
    go_enter Try.func54, Try.ntmps54
    go_wp2_with (first | ((with_reducible refine gate_dst (N := 2) rfl ?_); refine box_event rfl (N := 2) rfl (cs := bkCells s A c L) (t := 27) (by first | (go_simp; done) | (go_simp; rfl)) ?_; intro gb hggb w1 hbox hb; have n0_ := Aside0.mk (below_step HB.out hb); have BKgb := Aside0.mk hbox; have HGgb := Aside0.mk (show w.heap.size ≤ gb by rw [hggb]; exact HB.out.size); clear HB; have HB := n0_; have fgbs0 : w1.cell? ⟨gb, 0, none⟩ = some (.int .i64 _) := (blk_cell BKgb.out 0).trans rfl; have fgb1 : w1.cell? ⟨gb, 1, none⟩ = some (.slice (A 0) (L 0).length (c 0)) := (blk_cell BKgb.out 1).trans rfl; have fgb2 : w1.cell? ⟨gb, 2, none⟩ = some (.slice (A 1) (L 1).length (c 1)) := (blk_cell BKgb.out 2).trans rfl; have fgb3 : w1.cell? ⟨gb, 3, none⟩ = some (.slice (A 2) (L 2).length (c 2)) := (blk_cell BKgb.out 3).trans rfl; have fgb4 : w1.cell? ⟨gb, 4, none⟩ = some (.slice (A 3) (L 3).length (c 3)) := (blk_cell BKgb.out 4).trans rfl; have fgb5 : w1.cell? ⟨gb, 5, none⟩ = some (.slice (A 4) (L 4).length (c 4)) := (blk_cell BKgb.out 5).trans rfl; have fgb6 : w1.cell? ⟨gb, 6, none⟩ = some (.slice (A 5) (L 5).length (c 5)) := (blk_cell BKgb.out 6).trans rfl; have fgb7 : w1.cell? ⟨gb, 7, none⟩ = some (.slice (A 6) (L 6).length (c 6)) := (blk_cell BKgb.out 7).trans rfl; have fgb8 : w1.cell? ⟨gb, 8, none⟩ = some (.slice (A 7) (L 7).length (c 7)) := (blk_cell BKgb.out 8).trans rfl; have fgbz0 := blk_frozen BKgb.out 0; have fgbz1 := blk_frozen BKgb.out 1; have fgbz2 := blk_frozen BKgb.out 2; have fgbz3 := blk_frozen BKgb.out 3; have fgbz4 := blk_frozen BKgb.out 4; have fgbz5 := blk_frozen BKgb.out 5; have fgbz6 := blk_frozen BKgb.out 6; have fgbz7 := blk_frozen BKgb.out 7; have fgbz8 := blk_frozen BKgb.out 8; clear n0_ hbox hb hggb))
    go_ret
    exact ⟨by rw [HF.out]; rfl, HB.out⟩
  by_cases h2 : x ≥ ((L 5).length : Int)
  · have HF : Aside0 (RoomV L x = 0) := ⟨by unfold RoomV; rw [if_neg h1, if_pos h2]⟩
    go_enter Try.func54, Try.ntmps54
    go_wp2_with (first | ((with_reducible refine gate_dst (N := 2) rfl ?_); refine box_event rfl (N := 2) rfl (cs := bkCells s A c L) (t := 27) (by first | (go_simp; done) | (go_simp; rfl)) ?_; intro gb hggb w1 hbox hb; have n0_ := Aside0.mk (below_step HB.out hb); have BKgb := Aside0.mk hbox; have HGgb := Aside0.mk (show w.heap.size ≤ gb by rw [hggb]; exact HB.out.size); clear HB; have HB := n0_; have fgbs0 : w1.cell? ⟨gb, 0, none⟩ = some (.int .i64 _) := (blk_cell BKgb.out 0).trans rfl; have fgb1 : w1.cell? ⟨gb, 1, none⟩ = some (.slice (A 0) (L 0).length (c 0)) := (blk_cell BKgb.out 1).trans rfl; have fgb2 : w1.cell? ⟨gb, 2, none⟩ = some (.slice (A 1) (L 1).length (c 1)) := (blk_cell BKgb.out 2).trans rfl; have fgb3 : w1.cell? ⟨gb, 3, none⟩ = some (.slice (A 2) (L 2).length (c 2)) := (blk_cell BKgb.out 3).trans rfl; have fgb4 : w1.cell? ⟨gb, 4, none⟩ = some (.slice (A 3) (L 3).length (c 3)) := (blk_cell BKgb.out 4).trans rfl; have fgb5 : w1.cell? ⟨gb, 5, none⟩ = some (.slice (A 4) (L 4).length (c 4)) := (blk_cell BKgb.out 5).trans rfl; have fgb6 : w1.cell? ⟨gb, 6, none⟩ = some (.slice (A 5) (L 5).length (c 5)) := (blk_cell BKgb.out 6).trans rfl; have fgb7 : w1.cell? ⟨gb, 7, none⟩ = some (.slice (A 6) (L 6).length (c 6)) := (blk_cell BKgb.out 7).trans rfl; have fgb8 : w1.cell? ⟨gb, 8, none⟩ = some (.slice (A 7) (L 7).length (c 7)) := (blk_cell BKgb.out 8).trans rfl; have fgbz0 := blk_frozen BKgb.out 0; have fgbz1 := blk_frozen BKgb.out 1; have fgbz2 := blk_frozen BKgb.out 2; have fgbz3 := blk_frozen BKgb.out 3; have fgbz4 := blk_frozen BKgb.out 4; have fgbz5 := blk_frozen BKgb.out 5; have fgbz6 := blk_frozen BKgb.out 6; have fgbz7 := blk_frozen BKgb.out 7; have fgbz8 := blk_frozen BKgb.out 8; clear n0_ hbox hb hggb))
    go_ret
    exact ⟨by rw [HF.out]; rfl, HB.out⟩
  have x0 : 0 ≤ x := by omega
  have x1 : x < ((L 5).length : Int) := by omega
  have xM : x ≤ 35184372088832 := by omega
  obtain ⟨ad5, o, ea5, hx5, HO⟩ := at_v (HR.out 5 (by omega)) x.toNat (by omega)
  have hq := show RoomV L x = if o = 0 then 0 else if 1 ≤ (L 0).getD (x / 8).toNat 0 ∧ (L 0).getD (x / 8).toNat 0 ≤ 4 then (sizeN ((L 0).getD (x / 8).toNat 0 - 1).toNat : Int) else ((L 0).getD (x / 8).toNat 0 - 8) * 8 by unfold RoomV; rw [if_neg h1, if_neg h2, HO.out]
  have HQ := Aside0.mk hq
  clear hq h1 h2
  by_cases h3 : o = 0
  · have HF : Aside0 (RoomV L x = 0) := ⟨by rw [HQ.out, if_pos h3]⟩
    have h3b : (o == 0) = true := by rw [h3]; rfl
    clear h3
    go_enter Try.func54, Try.ntmps54
    go_wp2_with (first | ((with_reducible refine gate_dst (N := 2) rfl ?_); refine box_event rfl (N := 2) rfl (cs := bkCells s A c L) (t := 27) (by first | (go_simp; done) | (go_simp; rfl)) ?_; intro gb hggb w1 hbox hb; have n0_ := Aside0.mk (below_step HB.out hb); have BKgb := Aside0.mk hbox; have HGgb := Aside0.mk (show w.heap.size ≤ gb by rw [hggb]; exact HB.out.size); clear HB; have HB := n0_; have hx51 := (hb.cell (World.block_lt_of_cell? _ _ hx5)).trans hx5; have fgbs0 : w1.cell? ⟨gb, 0, none⟩ = some (.int .i64 _) := (blk_cell BKgb.out 0).trans rfl; have fgb1 : w1.cell? ⟨gb, 1, none⟩ = some (.slice (A 0) (L 0).length (c 0)) := (blk_cell BKgb.out 1).trans rfl; have fgb2 : w1.cell? ⟨gb, 2, none⟩ = some (.slice (A 1) (L 1).length (c 1)) := (blk_cell BKgb.out 2).trans rfl; have fgb3 : w1.cell? ⟨gb, 3, none⟩ = some (.slice (A 2) (L 2).length (c 2)) := (blk_cell BKgb.out 3).trans rfl; have fgb4 : w1.cell? ⟨gb, 4, none⟩ = some (.slice (A 3) (L 3).length (c 3)) := (blk_cell BKgb.out 4).trans rfl; have fgb5 : w1.cell? ⟨gb, 5, none⟩ = some (.slice (A 4) (L 4).length (c 4)) := (blk_cell BKgb.out 5).trans rfl; have fgb6 : w1.cell? ⟨gb, 6, none⟩ = some (.slice (A 5) (L 5).length (c 5)) := (blk_cell BKgb.out 6).trans rfl; have fgb7 : w1.cell? ⟨gb, 7, none⟩ = some (.slice (A 6) (L 6).length (c 6)) := (blk_cell BKgb.out 7).trans rfl; have fgb8 : w1.cell? ⟨gb, 8, none⟩ = some (.slice (A 7) (L 7).length (c 7)) := (blk_cell BKgb.out 8).trans rfl; have fgbz0 := blk_frozen BKgb.out 0; have fgbz1 := blk_frozen BKgb.out 1; have fgbz2 := blk_frozen BKgb.out 2; have fgbz3 := blk_frozen BKgb.out 3; have fgbz4 := blk_frozen BKgb.out 4; have fgbz5 := blk_frozen BKgb.out 5; have fgbz6 := blk_frozen BKgb.out 6; have fgbz7 := blk_frozen BKgb.out 7; have fgbz8 := blk_frozen BKgb.out 8; rw [ea5] at fgb6; clear n0_ hbox hb hggb))
    go_ret
    exact ⟨by rw [HF.out]; rfl, HB.out⟩
  have HQ3 := Aside0.mk (HQ.out.trans (if_neg h3))
  have h3b : (o == 0) = false := beq_eq_false_iff_ne.mpr h3
  clear h3 HQ
  have hdv : wrap64 (x.tdiv 8) = x / 8 := by rw [Int.tdiv_eq_ediv_of_nonneg x0]; unfold wrap64; omega
  have x8 : (0 : Int) ≤ x / 8 := by omega
  have x9 : x / 8 < ((L 0).length : Int) := by have := H05.out; omega
  obtain ⟨ad0, v, ea0, hx0, HV⟩ := at_v (HR.out 0 (by omega)) (x / 8).toNat (by omega)
  have hvb := HPB.out (x / 8).toNat (by omega)
  rw [HV.out] at HQ3 hvb
  obtain ⟨v0, v12⟩ := hvb
  by_cases h4 : 1 ≤ v ∧ v ≤ 4
  · have HF : Aside0 (RoomV L x = (sizeN (v - 1).toNat : Int)) := ⟨by rw [HQ3.out, if_pos h4]⟩
    obtain ⟨h41, h42⟩ := h4
    obtain ⟨k, hk⟩ : ∃ k : Nat, v - 1 = (k : Int) := ⟨(v - 1).toNat, by omega⟩
    have hk4 : k < 4 := by omega
    rw [show (v - 1).toNat = k by omega] at HF
    have HK : Aside0 (kindN v = v - 1) := ⟨by unfold kindN; rw [if_neg (by omega), if_neg (by omega)]⟩
    go_enter Try.func54, Try.ntmps54
    go_wp2_with (first | ((with_reducible refine gate_dst (N := 2) rfl ?_); refine box_event rfl (N := 2) rfl (cs := bkCells s A c L) (t := 27) (by first | (go_simp; done) | (go_simp; rfl)) ?_; intro gb hggb w1 hbox hb; have n0_ := Aside0.mk (below_step HB.out hb); have BKgb := Aside0.mk hbox; have HGgb := Aside0.mk (show w.heap.size ≤ gb by rw [hggb]; exact HB.out.size); clear HB; have HB := n0_; have hx51 := (hb.cell (World.block_lt_of_cell? _ _ hx5)).trans hx5; have hx01 := (hb.cell (World.block_lt_of_cell? _ _ hx0)).trans hx0; have fgbs0 : w1.cell? ⟨gb, 0, none⟩ = some (.int .i64 _) := (blk_cell BKgb.out 0).trans rfl; have fgb1 : w1.cell? ⟨gb, 1, none⟩ = some (.slice (A 0) (L 0).length (c 0)) := (blk_cell BKgb.out 1).trans rfl; have fgb2 : w1.cell? ⟨gb, 2, none⟩ = some (.slice (A 1) (L 1).length (c 1)) := (blk_cell BKgb.out 2).trans rfl; have fgb3 : w1.cell? ⟨gb, 3, none⟩ = some (.slice (A 2) (L 2).length (c 2)) := (blk_cell BKgb.out 3).trans rfl; have fgb4 : w1.cell? ⟨gb, 4, none⟩ = some (.slice (A 3) (L 3).length (c 3)) := (blk_cell BKgb.out 4).trans rfl; have fgb5 : w1.cell? ⟨gb, 5, none⟩ = some (.slice (A 4) (L 4).length (c 4)) := (blk_cell BKgb.out 5).trans rfl; have fgb6 : w1.cell? ⟨gb, 6, none⟩ = some (.slice (A 5) (L 5).length (c 5)) := (blk_cell BKgb.out 6).trans rfl; have fgb7 : w1.cell? ⟨gb, 7, none⟩ = some (.slice (A 6) (L 6).length (c 6)) := (blk_cell BKgb.out 7).trans rfl; have fgb8 : w1.cell? ⟨gb, 8, none⟩ = some (.slice (A 7) (L 7).length (c 7)) := (blk_cell BKgb.out 8).trans rfl; have fgbz0 := blk_frozen BKgb.out 0; have fgbz1 := blk_frozen BKgb.out 1; have fgbz2 := blk_frozen BKgb.out 2; have fgbz3 := blk_frozen BKgb.out 3; have fgbz4 := blk_frozen BKgb.out 4; have fgbz5 := blk_frozen BKgb.out 5; have fgbz6 := blk_frozen BKgb.out 6; have fgbz7 := blk_frozen BKgb.out 7; have fgbz8 := blk_frozen BKgb.out 8; rw [ea5] at fgb6; rw [ea0] at fgb1; clear n0_ hbox hb hggb) | (go_at_call 66; refine (l3Kind_calls _ _).mono ?_; rintro e w' ⟨rfl, rfl⟩; rw [HK.out]))
    refine (l3Size_calls k hk4 _).mono ?_
    rintro e w3 ⟨rfl, hb⟩
    have HB3 := Aside0.mk (below_step HB.out hb)
    go_wp2
    go_ret
    exact ⟨by rw [HF.out]; rfl, HB3.out⟩
  · have HF : Aside0 (RoomV L x = (v - 8) * 8) := ⟨by rw [HQ3.out, if_neg h4]⟩
    have HK : Aside0 (kindN v = -1) := ⟨by unfold kindN; by_cases e : v < 1; exact if_pos e; rw [if_neg e, if_pos (by omega)]⟩
    clear h4
    go_enter Try.func54, Try.ntmps54
    go_wp2_with (first | ((with_reducible refine gate_dst (N := 2) rfl ?_); refine box_event rfl (N := 2) rfl (cs := bkCells s A c L) (t := 27) (by first | (go_simp; done) | (go_simp; rfl)) ?_; intro gb hggb w1 hbox hb; have n0_ := Aside0.mk (below_step HB.out hb); have BKgb := Aside0.mk hbox; have HGgb := Aside0.mk (show w.heap.size ≤ gb by rw [hggb]; exact HB.out.size); clear HB; have HB := n0_; have hx51 := (hb.cell (World.block_lt_of_cell? _ _ hx5)).trans hx5; have hx01 := (hb.cell (World.block_lt_of_cell? _ _ hx0)).trans hx0; have fgbs0 : w1.cell? ⟨gb, 0, none⟩ = some (.int .i64 _) := (blk_cell BKgb.out 0).trans rfl; have fgb1 : w1.cell? ⟨gb, 1, none⟩ = some (.slice (A 0) (L 0).length (c 0)) := (blk_cell BKgb.out 1).trans rfl; have fgb2 : w1.cell? ⟨gb, 2, none⟩ = some (.slice (A 1) (L 1).length (c 1)) := (blk_cell BKgb.out 2).trans rfl; have fgb3 : w1.cell? ⟨gb, 3, none⟩ = some (.slice (A 2) (L 2).length (c 2)) := (blk_cell BKgb.out 3).trans rfl; have fgb4 : w1.cell? ⟨gb, 4, none⟩ = some (.slice (A 3) (L 3).length (c 3)) := (blk_cell BKgb.out 4).trans rfl; have fgb5 : w1.cell? ⟨gb, 5, none⟩ = some (.slice (A 4) (L 4).length (c 4)) := (blk_cell BKgb.out 5).trans rfl; have fgb6 : w1.cell? ⟨gb, 6, none⟩ = some (.slice (A 5) (L 5).length (c 5)) := (blk_cell BKgb.out 6).trans rfl; have fgb7 : w1.cell? ⟨gb, 7, none⟩ = some (.slice (A 6) (L 6).length (c 6)) := (blk_cell BKgb.out 7).trans rfl; have fgb8 : w1.cell? ⟨gb, 8, none⟩ = some (.slice (A 7) (L 7).length (c 7)) := (blk_cell BKgb.out 8).trans rfl; have fgbz0 := blk_frozen BKgb.out 0; have fgbz1 := blk_frozen BKgb.out 1; have fgbz2 := blk_frozen BKgb.out 2; have fgbz3 := blk_frozen BKgb.out 3; have fgbz4 := blk_frozen BKgb.out 4; have fgbz5 := blk_frozen BKgb.out 5; have fgbz6 := blk_frozen BKgb.out 6; have fgbz7 := blk_frozen BKgb.out 7; have fgbz8 := blk_frozen BKgb.out 8; rw [ea5] at fgb6; rw [ea0] at fgb1; clear n0_ hbox hb hggb) | (go_at_call 66; refine (l3Kind_calls _ _).mono ?_; rintro e w' ⟨rfl, rfl⟩; rw [HK.out]))
    go_ret
    exact ⟨by rw [HF.out]; rfl, HB.out⟩
set_option maxHeartbeats 2000000 in
set_option maxRecDepth 100000 in
theorem room_calls (s : Int) (A : Nat → Option Addr) (c : Nat → Nat) (L : Nat → List Int) (x : Int) (w : World) (h : BkC w A c L) (hl : ∀ i, (L i).length ≤ 35184372088832) (h05 : (L 5).length = (L 0).length * 8) (hv : ∀ p, p < (L 0).length → 0 ≤ (L 0).getD p 0 ∧ (L 0).getD p 0 ≤ 12) :
    Calls Try.prog 55 #[.agg (bkCells s A c L), .int .i64 x] w fun e w' => e = .returned (.int .i64 (RoomV L x)) ∧ Below w.heap.size w w' := by
  have HR := Aside0.mk h
  have HPB := Aside0.mk hv
  have hl5 : ((L 5).length : Int) ≤ 35184372088832 := by have := hl 5; omega
  have H05 := Aside0.mk h05
  clear h hl hv h05
  have HB := Aside0.mk (Below.refl w.heap.size w)
  by_cases h1 : x < 0
  · have HF : Aside0 (RoomV L x = 0) := ⟨if_pos h1⟩
    have hwb : withinB x 0 (((L 5).length : Int) - 1) = false := within_f (by omega)
    go_enter Try.func55, Try.ntmps55
    go_wp2_with (first | ((with_reducible refine gate_dst (N := 2) rfl ?_); refine box_event rfl (N := 2) rfl (cs := bkCells s A c L) (t := 27) (by first | (go_simp; done) | (go_simp; rfl)) ?_; intro gb hggb w1 hbox hb; have n0_ := Aside0.mk (below_step HB.out hb); have BKgb := Aside0.mk hbox; have HGgb := Aside0.mk (show w.heap.size ≤ gb by rw [hggb]; exact HB.out.size); clear HB; have HB := n0_; have fgbs0 : w1.cell? ⟨gb, 0, none⟩ = some (.int .i64 _) := (blk_cell BKgb.out 0).trans rfl; have fgb1 : w1.cell? ⟨gb, 1, none⟩ = some (.slice (A 0) (L 0).length (c 0)) := (blk_cell BKgb.out 1).trans rfl; have fgb2 : w1.cell? ⟨gb, 2, none⟩ = some (.slice (A 1) (L 1).length (c 1)) := (blk_cell BKgb.out 2).trans rfl; have fgb3 : w1.cell? ⟨gb, 3, none⟩ = some (.slice (A 2) (L 2).length (c 2)) := (blk_cell BKgb.out 3).trans rfl; have fgb4 : w1.cell? ⟨gb, 4, none⟩ = some (.slice (A 3) (L 3).length (c 3)) := (blk_cell BKgb.out 4).trans rfl; have fgb5 : w1.cell? ⟨gb, 5, none⟩ = some (.slice (A 4) (L 4).length (c 4)) := (blk_cell BKgb.out 5).trans rfl; have fgb6 : w1.cell? ⟨gb, 6, none⟩ = some (.slice (A 5) (L 5).length (c 5)) := (blk_cell BKgb.out 6).trans rfl; have fgb7 : w1.cell? ⟨gb, 7, none⟩ = some (.slice (A 6) (L 6).length (c 6)) := (blk_cell BKgb.out 7).trans rfl; have fgb8 : w1.cell? ⟨gb, 8, none⟩ = some (.slice (A 7) (L 7).length (c 7)) := (blk_cell BKgb.out 8).trans rfl; have fgbz0 := blk_frozen BKgb.out 0; have fgbz1 := blk_frozen BKgb.out 1; have fgbz2 := blk_frozen BKgb.out 2; have fgbz3 := blk_frozen BKgb.out 3; have fgbz4 := blk_frozen BKgb.out 4; have fgbz5 := blk_frozen BKgb.out 5; have fgbz6 := blk_frozen BKgb.out 6; have fgbz7 := blk_frozen BKgb.out 7; have fgbz8 := blk_frozen BKgb.out 8; clear n0_ hbox hb hggb) | (go_at_call 53; refine (within_calls _ _ _ _).mono ?_; rintro e w' ⟨rfl, rfl⟩))
    go_ret
    exact ⟨by rw [HF.out]; rfl, HB.out⟩
  by_cases h2 : x ≥ ((L 5).length : Int)
  · have HF : Aside0 (RoomV L x = 0) := ⟨by unfold RoomV; rw [if_neg h1, if_pos h2]⟩
    have hwb : withinB x 0 (((L 5).length : Int) - 1) = false := within_f (by omega)
    go_enter Try.func55, Try.ntmps55
    go_wp2_with (first | ((with_reducible refine gate_dst (N := 2) rfl ?_); refine box_event rfl (N := 2) rfl (cs := bkCells s A c L) (t := 27) (by first | (go_simp; done) | (go_simp; rfl)) ?_; intro gb hggb w1 hbox hb; have n0_ := Aside0.mk (below_step HB.out hb); have BKgb := Aside0.mk hbox; have HGgb := Aside0.mk (show w.heap.size ≤ gb by rw [hggb]; exact HB.out.size); clear HB; have HB := n0_; have fgbs0 : w1.cell? ⟨gb, 0, none⟩ = some (.int .i64 _) := (blk_cell BKgb.out 0).trans rfl; have fgb1 : w1.cell? ⟨gb, 1, none⟩ = some (.slice (A 0) (L 0).length (c 0)) := (blk_cell BKgb.out 1).trans rfl; have fgb2 : w1.cell? ⟨gb, 2, none⟩ = some (.slice (A 1) (L 1).length (c 1)) := (blk_cell BKgb.out 2).trans rfl; have fgb3 : w1.cell? ⟨gb, 3, none⟩ = some (.slice (A 2) (L 2).length (c 2)) := (blk_cell BKgb.out 3).trans rfl; have fgb4 : w1.cell? ⟨gb, 4, none⟩ = some (.slice (A 3) (L 3).length (c 3)) := (blk_cell BKgb.out 4).trans rfl; have fgb5 : w1.cell? ⟨gb, 5, none⟩ = some (.slice (A 4) (L 4).length (c 4)) := (blk_cell BKgb.out 5).trans rfl; have fgb6 : w1.cell? ⟨gb, 6, none⟩ = some (.slice (A 5) (L 5).length (c 5)) := (blk_cell BKgb.out 6).trans rfl; have fgb7 : w1.cell? ⟨gb, 7, none⟩ = some (.slice (A 6) (L 6).length (c 6)) := (blk_cell BKgb.out 7).trans rfl; have fgb8 : w1.cell? ⟨gb, 8, none⟩ = some (.slice (A 7) (L 7).length (c 7)) := (blk_cell BKgb.out 8).trans rfl; have fgbz0 := blk_frozen BKgb.out 0; have fgbz1 := blk_frozen BKgb.out 1; have fgbz2 := blk_frozen BKgb.out 2; have fgbz3 := blk_frozen BKgb.out 3; have fgbz4 := blk_frozen BKgb.out 4; have fgbz5 := blk_frozen BKgb.out 5; have fgbz6 := blk_frozen BKgb.out 6; have fgbz7 := blk_frozen BKgb.out 7; have fgbz8 := blk_frozen BKgb.out 8; clear n0_ hbox hb hggb) | (go_at_call 53; refine (within_calls _ _ _ _).mono ?_; rintro e w' ⟨rfl, rfl⟩))
    go_ret
    exact ⟨by rw [HF.out]; rfl, HB.out⟩
  have x0 : 0 ≤ x := by omega
  have x1 : x < ((L 5).length : Int) := by omega
  have xM : x ≤ 35184372088832 := by omega
  have hwb : withinB x 0 (((L 5).length : Int) - 1) = true := within_t.mpr ⟨by omega, by omega⟩
  obtain ⟨ad5, o, ea5, hx5, HO⟩ := at_v (HR.out 5 (by omega)) x.toNat (by omega)
  have hq := show RoomV L x = if o = 0 then 0 else if 1 ≤ (L 0).getD (x / 8).toNat 0 ∧ (L 0).getD (x / 8).toNat 0 ≤ 4 then (sizeN ((L 0).getD (x / 8).toNat 0 - 1).toNat : Int) else ((L 0).getD (x / 8).toNat 0 - 8) * 8 by unfold RoomV; rw [if_neg h1, if_neg h2, HO.out]
  have HQ := Aside0.mk hq
  clear hq h1 h2
  by_cases h3 : o = 0
  · have HF : Aside0 (RoomV L x = 0) := ⟨by rw [HQ.out, if_pos h3]⟩
    have h3b : (o == 0) = true := by rw [h3]; rfl
    clear h3
    go_enter Try.func55, Try.ntmps55
    go_wp2_with (first | ((with_reducible refine gate_dst (N := 2) rfl ?_); refine box_event rfl (N := 2) rfl (cs := bkCells s A c L) (t := 27) (by first | (go_simp; done) | (go_simp; rfl)) ?_; intro gb hggb w1 hbox hb; have n0_ := Aside0.mk (below_step HB.out hb); have BKgb := Aside0.mk hbox; have HGgb := Aside0.mk (show w.heap.size ≤ gb by rw [hggb]; exact HB.out.size); clear HB; have HB := n0_; have hx51 := (hb.cell (World.block_lt_of_cell? _ _ hx5)).trans hx5; have fgbs0 : w1.cell? ⟨gb, 0, none⟩ = some (.int .i64 _) := (blk_cell BKgb.out 0).trans rfl; have fgb1 : w1.cell? ⟨gb, 1, none⟩ = some (.slice (A 0) (L 0).length (c 0)) := (blk_cell BKgb.out 1).trans rfl; have fgb2 : w1.cell? ⟨gb, 2, none⟩ = some (.slice (A 1) (L 1).length (c 1)) := (blk_cell BKgb.out 2).trans rfl; have fgb3 : w1.cell? ⟨gb, 3, none⟩ = some (.slice (A 2) (L 2).length (c 2)) := (blk_cell BKgb.out 3).trans rfl; have fgb4 : w1.cell? ⟨gb, 4, none⟩ = some (.slice (A 3) (L 3).length (c 3)) := (blk_cell BKgb.out 4).trans rfl; have fgb5 : w1.cell? ⟨gb, 5, none⟩ = some (.slice (A 4) (L 4).length (c 4)) := (blk_cell BKgb.out 5).trans rfl; have fgb6 : w1.cell? ⟨gb, 6, none⟩ = some (.slice (A 5) (L 5).length (c 5)) := (blk_cell BKgb.out 6).trans rfl; have fgb7 : w1.cell? ⟨gb, 7, none⟩ = some (.slice (A 6) (L 6).length (c 6)) := (blk_cell BKgb.out 7).trans rfl; have fgb8 : w1.cell? ⟨gb, 8, none⟩ = some (.slice (A 7) (L 7).length (c 7)) := (blk_cell BKgb.out 8).trans rfl; have fgbz0 := blk_frozen BKgb.out 0; have fgbz1 := blk_frozen BKgb.out 1; have fgbz2 := blk_frozen BKgb.out 2; have fgbz3 := blk_frozen BKgb.out 3; have fgbz4 := blk_frozen BKgb.out 4; have fgbz5 := blk_frozen BKgb.out 5; have fgbz6 := blk_frozen BKgb.out 6; have fgbz7 := blk_frozen BKgb.out 7; have fgbz8 := blk_frozen BKgb.out 8; rw [ea5] at fgb6; clear n0_ hbox hb hggb) | (go_at_call 53; refine (within_calls _ _ _ _).mono ?_; rintro e w' ⟨rfl, rfl⟩))
    go_ret
    exact ⟨by rw [HF.out]; rfl, HB.out⟩
  have HQ3 := Aside0.mk (HQ.out.trans (if_neg h3))
  have h3b : (o == 0) = false := beq_eq_false_iff_ne.mpr h3
  clear h3 HQ
  have hdv : wrap64 (x.tdiv 8) = x / 8 := by rw [Int.tdiv_eq_ediv_of_nonneg x0]; unfold wrap64; omega
  have x8 : (0 : Int) ≤ x / 8 := by omega
  have x9 : x / 8 < ((L 0).length : Int) := by have := H05.out; omega
  obtain ⟨ad0, v, ea0, hx0, HV⟩ := at_v (HR.out 0 (by omega)) (x / 8).toNat (by omega)
  have hvb := HPB.out (x / 8).toNat (by omega)
  rw [HV.out] at HQ3 hvb
  obtain ⟨v0, v12⟩ := hvb
  by_cases h4 : 1 ≤ v ∧ v ≤ 4
  · have HF : Aside0 (RoomV L x = (sizeN (v - 1).toNat : Int)) := ⟨by rw [HQ3.out, if_pos h4]⟩
    obtain ⟨h41, h42⟩ := h4
    obtain ⟨k, hk⟩ : ∃ k : Nat, v - 1 = (k : Int) := ⟨(v - 1).toNat, by omega⟩
    have hk4 : k < 4 := by omega
    rw [show (v - 1).toNat = k by omega] at HF
    have hkb : withinB v 1 4 = true := within_t.mpr ⟨h41, h42⟩
    go_enter Try.func55, Try.ntmps55
    go_wp2_with (first | ((with_reducible refine gate_dst (N := 2) rfl ?_); refine box_event rfl (N := 2) rfl (cs := bkCells s A c L) (t := 27) (by first | (go_simp; done) | (go_simp; rfl)) ?_; intro gb hggb w1 hbox hb; have n0_ := Aside0.mk (below_step HB.out hb); have BKgb := Aside0.mk hbox; have HGgb := Aside0.mk (show w.heap.size ≤ gb by rw [hggb]; exact HB.out.size); clear HB; have HB := n0_; have hx51 := (hb.cell (World.block_lt_of_cell? _ _ hx5)).trans hx5; have hx01 := (hb.cell (World.block_lt_of_cell? _ _ hx0)).trans hx0; have fgbs0 : w1.cell? ⟨gb, 0, none⟩ = some (.int .i64 _) := (blk_cell BKgb.out 0).trans rfl; have fgb1 : w1.cell? ⟨gb, 1, none⟩ = some (.slice (A 0) (L 0).length (c 0)) := (blk_cell BKgb.out 1).trans rfl; have fgb2 : w1.cell? ⟨gb, 2, none⟩ = some (.slice (A 1) (L 1).length (c 1)) := (blk_cell BKgb.out 2).trans rfl; have fgb3 : w1.cell? ⟨gb, 3, none⟩ = some (.slice (A 2) (L 2).length (c 2)) := (blk_cell BKgb.out 3).trans rfl; have fgb4 : w1.cell? ⟨gb, 4, none⟩ = some (.slice (A 3) (L 3).length (c 3)) := (blk_cell BKgb.out 4).trans rfl; have fgb5 : w1.cell? ⟨gb, 5, none⟩ = some (.slice (A 4) (L 4).length (c 4)) := (blk_cell BKgb.out 5).trans rfl; have fgb6 : w1.cell? ⟨gb, 6, none⟩ = some (.slice (A 5) (L 5).length (c 5)) := (blk_cell BKgb.out 6).trans rfl; have fgb7 : w1.cell? ⟨gb, 7, none⟩ = some (.slice (A 6) (L 6).length (c 6)) := (blk_cell BKgb.out 7).trans rfl; have fgb8 : w1.cell? ⟨gb, 8, none⟩ = some (.slice (A 7) (L 7).length (c 7)) := (blk_cell BKgb.out 8).trans rfl; have fgbz0 := blk_frozen BKgb.out 0; have fgbz1 := blk_frozen BKgb.out 1; have fgbz2 := blk_frozen BKgb.out 2; have fgbz3 := blk_frozen BKgb.out 3; have fgbz4 := blk_frozen BKgb.out 4; have fgbz5 := blk_frozen BKgb.out 5; have fgbz6 := blk_frozen BKgb.out 6; have fgbz7 := blk_frozen BKgb.out 7; have fgbz8 := blk_frozen BKgb.out 8; rw [ea5] at fgb6; rw [ea0] at fgb1; clear n0_ hbox hb hggb) | (go_at_call 53; refine (within_calls _ _ _ _).mono ?_; rintro e w' ⟨rfl, rfl⟩) | (go_at_call 51; refine (isKind_calls _ _).mono ?_; rintro e w' ⟨rfl, rfl⟩))
    refine (unitsOf_calls k hk4 _).mono ?_
    rintro e w3 ⟨rfl, rfl⟩
    have HB3 := HB
    go_wp2
    go_ret
    exact ⟨by rw [HF.out]; rfl, HB3.out⟩
  · have HF : Aside0 (RoomV L x = (v - 8) * 8) := ⟨by rw [HQ3.out, if_neg h4]⟩
    have hkb : withinB v 1 4 = false := within_f h4
    clear h4
    go_enter Try.func55, Try.ntmps55
    go_wp2_with (first | ((with_reducible refine gate_dst (N := 2) rfl ?_); refine box_event rfl (N := 2) rfl (cs := bkCells s A c L) (t := 27) (by first | (go_simp; done) | (go_simp; rfl)) ?_; intro gb hggb w1 hbox hb; have n0_ := Aside0.mk (below_step HB.out hb); have BKgb := Aside0.mk hbox; have HGgb := Aside0.mk (show w.heap.size ≤ gb by rw [hggb]; exact HB.out.size); clear HB; have HB := n0_; have hx51 := (hb.cell (World.block_lt_of_cell? _ _ hx5)).trans hx5; have hx01 := (hb.cell (World.block_lt_of_cell? _ _ hx0)).trans hx0; have fgbs0 : w1.cell? ⟨gb, 0, none⟩ = some (.int .i64 _) := (blk_cell BKgb.out 0).trans rfl; have fgb1 : w1.cell? ⟨gb, 1, none⟩ = some (.slice (A 0) (L 0).length (c 0)) := (blk_cell BKgb.out 1).trans rfl; have fgb2 : w1.cell? ⟨gb, 2, none⟩ = some (.slice (A 1) (L 1).length (c 1)) := (blk_cell BKgb.out 2).trans rfl; have fgb3 : w1.cell? ⟨gb, 3, none⟩ = some (.slice (A 2) (L 2).length (c 2)) := (blk_cell BKgb.out 3).trans rfl; have fgb4 : w1.cell? ⟨gb, 4, none⟩ = some (.slice (A 3) (L 3).length (c 3)) := (blk_cell BKgb.out 4).trans rfl; have fgb5 : w1.cell? ⟨gb, 5, none⟩ = some (.slice (A 4) (L 4).length (c 4)) := (blk_cell BKgb.out 5).trans rfl; have fgb6 : w1.cell? ⟨gb, 6, none⟩ = some (.slice (A 5) (L 5).length (c 5)) := (blk_cell BKgb.out 6).trans rfl; have fgb7 : w1.cell? ⟨gb, 7, none⟩ = some (.slice (A 6) (L 6).length (c 6)) := (blk_cell BKgb.out 7).trans rfl; have fgb8 : w1.cell? ⟨gb, 8, none⟩ = some (.slice (A 7) (L 7).length (c 7)) := (blk_cell BKgb.out 8).trans rfl; have fgbz0 := blk_frozen BKgb.out 0; have fgbz1 := blk_frozen BKgb.out 1; have fgbz2 := blk_frozen BKgb.out 2; have fgbz3 := blk_frozen BKgb.out 3; have fgbz4 := blk_frozen BKgb.out 4; have fgbz5 := blk_frozen BKgb.out 5; have fgbz6 := blk_frozen BKgb.out 6; have fgbz7 := blk_frozen BKgb.out 7; have fgbz8 := blk_frozen BKgb.out 8; rw [ea5] at fgb6; rw [ea0] at fgb1; clear n0_ hbox hb hggb) | (go_at_call 53; refine (within_calls _ _ _ _).mono ?_; rintro e w' ⟨rfl, rfl⟩) | (go_at_call 51; refine (isKind_calls _ _).mono ?_; rintro e w' ⟨rfl, rfl⟩))
    go_ret
    exact ⟨by rw [HF.out]; rfl, HB.out⟩
def specBookRoomV (s : Int) (L : Nat → List Int) (x v : Int) : Prop := (BookP s L → v = RoomV L x) ∧ (¬ BookP s L → v = 0)
set_option maxHeartbeats 1000000 in
set_option maxRecDepth 100000 in
theorem specBookRoom_calls (s : Int) (A : Nat → Option Addr) (c : Nat → Nat) (L : Nat → List Int) (x : Int) (w : World) (h : BkC w A c L) (hl : ∀ i, (L i).length ≤ 35184372088832) (hw : ∀ i, Wf64 (L i)) :
    Calls Try.prog 23 #[.agg (bkCells s A c L), .int .i64 x] w fun e w' => ∃ v : Int, e = .returned (.int .i64 v) ∧ ((BookP s L → v = RoomV L x) ∧ (¬ BookP s L → v = 0)) ∧ Below w.heap.size w w' := by
  have HR := Aside0.mk h
  have HL := Aside0.mk hl
  have HW := Aside0.mk hw
  clear h hl hw
  have HB := Aside0.mk (Below.refl w.heap.size w)
  go_enter Try.func23, Try.ntmps23
  go_wp2_with (first | ((with_reducible refine gate_dst (N := 2) rfl ?_); refine box_event rfl (N := 2) rfl (cs := bkCells s A c L) (t := 27) (by first | (go_simp; done) | (go_simp; rfl)) ?_; intro gb hggb w1 hbox hb; have n0_ := Aside0.mk (below_step HB.out hb); have BKgb := Aside0.mk hbox; have HGgb := Aside0.mk (show w.heap.size ≤ gb by rw [hggb]; exact HB.out.size); clear HB; have HB := n0_; have fgbs0 : w1.cell? ⟨gb, 0, none⟩ = some (.int .i64 _) := (blk_cell BKgb.out 0).trans rfl; have fgb1 : w1.cell? ⟨gb, 1, none⟩ = some (.slice (A 0) (L 0).length (c 0)) := (blk_cell BKgb.out 1).trans rfl; have fgb2 : w1.cell? ⟨gb, 2, none⟩ = some (.slice (A 1) (L 1).length (c 1)) := (blk_cell BKgb.out 2).trans rfl; have fgb3 : w1.cell? ⟨gb, 3, none⟩ = some (.slice (A 2) (L 2).length (c 2)) := (blk_cell BKgb.out 3).trans rfl; have fgb4 : w1.cell? ⟨gb, 4, none⟩ = some (.slice (A 3) (L 3).length (c 3)) := (blk_cell BKgb.out 4).trans rfl; have fgb5 : w1.cell? ⟨gb, 5, none⟩ = some (.slice (A 4) (L 4).length (c 4)) := (blk_cell BKgb.out 5).trans rfl; have fgb6 : w1.cell? ⟨gb, 6, none⟩ = some (.slice (A 5) (L 5).length (c 5)) := (blk_cell BKgb.out 6).trans rfl; have fgb7 : w1.cell? ⟨gb, 7, none⟩ = some (.slice (A 6) (L 6).length (c 6)) := (blk_cell BKgb.out 7).trans rfl; have fgb8 : w1.cell? ⟨gb, 8, none⟩ = some (.slice (A 7) (L 7).length (c 7)) := (blk_cell BKgb.out 8).trans rfl; have fgbz0 := blk_frozen BKgb.out 0; have fgbz1 := blk_frozen BKgb.out 1; have fgbz2 := blk_frozen BKgb.out 2; have fgbz3 := blk_frozen BKgb.out 3; have fgbz4 := blk_frozen BKgb.out 4; have fgbz5 := blk_frozen BKgb.out 5; have fgbz6 := blk_frozen BKgb.out 6; have fgbz7 := blk_frozen BKgb.out 7; have fgbz8 := blk_frozen BKgb.out 8; clear n0_ hbox hb hggb))
  refine (specBookOk_calls s A c L _ (HR.out.below HB.out) HL.out (HW.out 0)).mono ?_
  rintro e w3 ⟨r, rfl, hr, hb⟩
  have HRR : Aside0 (r = true ↔ BookP s L) := ⟨hr⟩
  have HB3 := Aside0.mk (below_step HB.out hb)
  have BK3 := Aside0.mk (blk_below BKgb.out hb)
  clear HB BKgb hb hr
  clear fgbs0 fgbz0 fgb1 fgbz1 fgb2 fgbz2 fgb3 fgbz3 fgb4 fgbz4 fgb5 fgbz5 fgb6 fgbz6 fgb7 fgbz7 fgb8 fgbz8
  cases r with
  | false =>
    have HN : Aside0 (¬ BookP s L) := ⟨fun q => by have := HRR.out.mpr q; cases this⟩
    go_wp2
    go_ret
    exact ⟨0, rfl, ⟨fun q => absurd q HN.out, fun _ => rfl⟩, HB3.out⟩
  | true =>
    have HY : Aside0 (BookP s L) := ⟨HRR.out.mp rfl⟩
    have fgbs0 : w3.cell? ⟨gb, 0, none⟩ = some (.int .i64 _) := (blk_cell BK3.out 0).trans rfl; have fgb1 : w3.cell? ⟨gb, 1, none⟩ = some (.slice (A 0) (L 0).length (c 0)) := (blk_cell BK3.out 1).trans rfl; have fgb2 : w3.cell? ⟨gb, 2, none⟩ = some (.slice (A 1) (L 1).length (c 1)) := (blk_cell BK3.out 2).trans rfl; have fgb3 : w3.cell? ⟨gb, 3, none⟩ = some (.slice (A 2) (L 2).length (c 2)) := (blk_cell BK3.out 3).trans rfl; have fgb4 : w3.cell? ⟨gb, 4, none⟩ = some (.slice (A 3) (L 3).length (c 3)) := (blk_cell BK3.out 4).trans rfl; have fgb5 : w3.cell? ⟨gb, 5, none⟩ = some (.slice (A 4) (L 4).length (c 4)) := (blk_cell BK3.out 5).trans rfl; have fgb6 : w3.cell? ⟨gb, 6, none⟩ = some (.slice (A 5) (L 5).length (c 5)) := (blk_cell BK3.out 6).trans rfl; have fgb7 : w3.cell? ⟨gb, 7, none⟩ = some (.slice (A 6) (L 6).length (c 6)) := (blk_cell BK3.out 7).trans rfl; have fgb8 : w3.cell? ⟨gb, 8, none⟩ = some (.slice (A 7) (L 7).length (c 7)) := (blk_cell BK3.out 8).trans rfl; have fgbz0 := blk_frozen BK3.out 0; have fgbz1 := blk_frozen BK3.out 1; have fgbz2 := blk_frozen BK3.out 2; have fgbz3 := blk_frozen BK3.out 3; have fgbz4 := blk_frozen BK3.out 4; have fgbz5 := blk_frozen BK3.out 5; have fgbz6 := blk_frozen BK3.out 6; have fgbz7 := blk_frozen BK3.out 7; have fgbz8 := blk_frozen BK3.out 8
    go_wp2_with fail
    refine (l3Room_calls s A c L x _ (HR.out.below HB3.out) HL.out (by have := HY.out.1.1.2.2.2.2.2.2; omega) (fun p hp => pages_bd HY.out p hp)).mono ?_
    rintro e w4 ⟨rfl, hb⟩
    have HB4 := Aside0.mk (below_step HB3.out hb)
    clear hb
    go_wp2
    go_ret
    exact ⟨_, rfl, ⟨fun _ => rfl, fun q => absurd HY.out q⟩, HB4.out⟩
def implBookRoomV (s : Int) (L : Nat → List Int) (x v : Int) : Prop := (BookP s L → v = RoomV L x) ∧ (¬ BookP s L → v = 0)
set_option maxHeartbeats 1000000 in
set_option maxRecDepth 100000 in
theorem implBookRoom_calls (s : Int) (A : Nat → Option Addr) (c : Nat → Nat) (L : Nat → List Int) (x : Int) (w : World) (h : BkC w A c L) (hl : ∀ i, (L i).length ≤ 35184372088832) (hw : ∀ i, Wf64 (L i)) :
    Calls Try.prog 24 #[.agg (bkCells s A c L), .int .i64 x] w fun e w' => ∃ v : Int, e = .returned (.int .i64 v) ∧ ((BookP s L → v = RoomV L x) ∧ (¬ BookP s L → v = 0)) ∧ Below w.heap.size w w' := by
  have HR := Aside0.mk h
  have HL := Aside0.mk hl
  have HW := Aside0.mk hw
  clear h hl hw
  have HB := Aside0.mk (Below.refl w.heap.size w)
  go_enter Try.func24, Try.ntmps24
  go_wp2_with (first | ((with_reducible refine gate_dst (N := 2) rfl ?_); refine box_event rfl (N := 2) rfl (cs := bkCells s A c L) (t := 27) (by first | (go_simp; done) | (go_simp; rfl)) ?_; intro gb hggb w1 hbox hb; have n0_ := Aside0.mk (below_step HB.out hb); have BKgb := Aside0.mk hbox; have HGgb := Aside0.mk (show w.heap.size ≤ gb by rw [hggb]; exact HB.out.size); clear HB; have HB := n0_; have fgbs0 : w1.cell? ⟨gb, 0, none⟩ = some (.int .i64 _) := (blk_cell BKgb.out 0).trans rfl; have fgb1 : w1.cell? ⟨gb, 1, none⟩ = some (.slice (A 0) (L 0).length (c 0)) := (blk_cell BKgb.out 1).trans rfl; have fgb2 : w1.cell? ⟨gb, 2, none⟩ = some (.slice (A 1) (L 1).length (c 1)) := (blk_cell BKgb.out 2).trans rfl; have fgb3 : w1.cell? ⟨gb, 3, none⟩ = some (.slice (A 2) (L 2).length (c 2)) := (blk_cell BKgb.out 3).trans rfl; have fgb4 : w1.cell? ⟨gb, 4, none⟩ = some (.slice (A 3) (L 3).length (c 3)) := (blk_cell BKgb.out 4).trans rfl; have fgb5 : w1.cell? ⟨gb, 5, none⟩ = some (.slice (A 4) (L 4).length (c 4)) := (blk_cell BKgb.out 5).trans rfl; have fgb6 : w1.cell? ⟨gb, 6, none⟩ = some (.slice (A 5) (L 5).length (c 5)) := (blk_cell BKgb.out 6).trans rfl; have fgb7 : w1.cell? ⟨gb, 7, none⟩ = some (.slice (A 6) (L 6).length (c 6)) := (blk_cell BKgb.out 7).trans rfl; have fgb8 : w1.cell? ⟨gb, 8, none⟩ = some (.slice (A 7) (L 7).length (c 7)) := (blk_cell BKgb.out 8).trans rfl; have fgbz0 := blk_frozen BKgb.out 0; have fgbz1 := blk_frozen BKgb.out 1; have fgbz2 := blk_frozen BKgb.out 2; have fgbz3 := blk_frozen BKgb.out 3; have fgbz4 := blk_frozen BKgb.out 4; have fgbz5 := blk_frozen BKgb.out 5; have fgbz6 := blk_frozen BKgb.out 6; have fgbz7 := blk_frozen BKgb.out 7; have fgbz8 := blk_frozen BKgb.out 8; clear n0_ hbox hb hggb))
  refine (implBookOk_calls s A c L _ (HR.out.below HB.out) HL.out (HW.out 0) (HW.out 5)).mono ?_
  rintro e w3 ⟨r, rfl, hr, hb⟩
  have HRR : Aside0 (r = true ↔ BookP s L) := ⟨hr.trans (book_iff s L).symm⟩
  have HB3 := Aside0.mk (below_step HB.out hb)
  have BK3 := Aside0.mk (blk_below BKgb.out hb)
  clear HB BKgb hb hr
  clear fgbs0 fgbz0 fgb1 fgbz1 fgb2 fgbz2 fgb3 fgbz3 fgb4 fgbz4 fgb5 fgbz5 fgb6 fgbz6 fgb7 fgbz7 fgb8 fgbz8
  cases r with
  | false =>
    have HN : Aside0 (¬ BookP s L) := ⟨fun q => by have := HRR.out.mpr q; cases this⟩
    go_wp2
    go_ret
    exact ⟨0, rfl, ⟨fun q => absurd q HN.out, fun _ => rfl⟩, HB3.out⟩
  | true =>
    have HY : Aside0 (BookP s L) := ⟨HRR.out.mp rfl⟩
    have fgbs0 : w3.cell? ⟨gb, 0, none⟩ = some (.int .i64 _) := (blk_cell BK3.out 0).trans rfl; have fgb1 : w3.cell? ⟨gb, 1, none⟩ = some (.slice (A 0) (L 0).length (c 0)) := (blk_cell BK3.out 1).trans rfl; have fgb2 : w3.cell? ⟨gb, 2, none⟩ = some (.slice (A 1) (L 1).length (c 1)) := (blk_cell BK3.out 2).trans rfl; have fgb3 : w3.cell? ⟨gb, 3, none⟩ = some (.slice (A 2) (L 2).length (c 2)) := (blk_cell BK3.out 3).trans rfl; have fgb4 : w3.cell? ⟨gb, 4, none⟩ = some (.slice (A 3) (L 3).length (c 3)) := (blk_cell BK3.out 4).trans rfl; have fgb5 : w3.cell? ⟨gb, 5, none⟩ = some (.slice (A 4) (L 4).length (c 4)) := (blk_cell BK3.out 5).trans rfl; have fgb6 : w3.cell? ⟨gb, 6, none⟩ = some (.slice (A 5) (L 5).length (c 5)) := (blk_cell BK3.out 6).trans rfl; have fgb7 : w3.cell? ⟨gb, 7, none⟩ = some (.slice (A 6) (L 6).length (c 6)) := (blk_cell BK3.out 7).trans rfl; have fgb8 : w3.cell? ⟨gb, 8, none⟩ = some (.slice (A 7) (L 7).length (c 7)) := (blk_cell BK3.out 8).trans rfl; have fgbz0 := blk_frozen BK3.out 0; have fgbz1 := blk_frozen BK3.out 1; have fgbz2 := blk_frozen BK3.out 2; have fgbz3 := blk_frozen BK3.out 3; have fgbz4 := blk_frozen BK3.out 4; have fgbz5 := blk_frozen BK3.out 5; have fgbz6 := blk_frozen BK3.out 6; have fgbz7 := blk_frozen BK3.out 7; have fgbz8 := blk_frozen BK3.out 8
    go_wp2_with fail
    refine (room_calls s A c L x _ (HR.out.below HB3.out) HL.out (by have := HY.out.1.1.2.2.2.2.2.2; omega) (fun p hp => pages_bd HY.out p hp)).mono ?_
    rintro e w4 ⟨rfl, hb⟩
    have HB4 := Aside0.mk (below_step HB3.out hb)
    clear hb
    go_wp2
    go_ret
    exact ⟨_, rfl, ⟨fun _ => rfl, fun q => absurd HY.out q⟩, HB4.out⟩
end Go.Proofs.Ytekneicikmaplaa.Bk

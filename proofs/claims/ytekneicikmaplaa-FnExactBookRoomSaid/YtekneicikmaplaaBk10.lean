/- The reference's look at a page: a walk. -/
import Derived.Test.YtekneicikmaplaaBk9
import Derived.StillTailTactics
set_option linter.unusedVariables false
set_option linter.unusedSimpArgs false
namespace Go.Proofs.Ytekneicikmaplaa.Bk
open Go.RowKit Go.Proofs.YtekneicikmaplaaW.PrintWords Go.Proofs.YtekneicikmaplaaW.PrintLast Go.Proofs.YtekneicikmaplaaW.PrintMore

def PageP (L : Nat → List Int) (p : Nat) : Prop :=
  if (L 0).getD p 0 = 0 then FreeP (L 5) p 0
  else if 1 ≤ (L 0).getD p 0 ∧ (L 0).getD p 0 ≤ 4 then RoomsP (L 5) (L (((L 0).getD p 0 - 1).toNat + 1)) (sizeN ((L 0).getD p 0 - 1).toNat) p
  else if (L 0).getD p 0 = 7 then RestP (L 0) (L 5) p
  else WideP (L 0) (L 5) p
set_option maxHeartbeats 1000000 in
set_option maxRecDepth 100000 in
theorem l3Page_calls (s : Int) (A : Nat → Option Addr) (c : Nat → Nat) (L : Nat → List Int) (p : Nat) (w : World) (h : BkC w A c L) (hp0 : p < (L 0).length) (hp : p * 8 + 8 ≤ (L 5).length) (hl : ∀ i, (L i).length ≤ 35184372088832) (hw : Wf64 (L 0)) :
    Calls Try.prog 48 #[.agg (bkCells s A c L), .int .i64 (p : Int)] w (RetB (PageP L p) w) := by
  have HR := Aside0.mk h
  have HP := Aside0.mk hp
  have HP0 := Aside0.mk hp0
  have HLn := Aside0.mk hl
  have HW := Aside0.mk hw
  clear h hl hp hp0 hw
  have HB := Aside0.mk (Below.refl w.heap.size w)
  have hp6 : (p : Int) ≤ 35184372088832 := by have := HP.out; have := HLn.out 5; omega
  obtain ⟨ad, v, ea, hx, HV⟩ := at_v (HR.out 0 (by omega)) p HP0.out
  have p0 : (0 : Int) ≤ (p : Int) := by omega
  have p1 : (p : Int) < ((L 0).length : Int) := by have := HP0.out; omega
  have HE := Aside0.mk ea
  have hPG : PageP L p = if v = 0 then FreeP (L 5) p 0 else if 1 ≤ v ∧ v ≤ 4 then RoomsP (L 5) (L ((v - 1).toNat + 1)) (sizeN (v - 1).toNat) p else if v = 7 then RestP (L 0) (L 5) p else WideP (L 0) (L 5) p := by unfold PageP; rw [HV.out]
  have HPG := Aside0.mk hPG
  clear hPG
  by_cases h0 : v = 0
  · have HF : Aside0 (PageP L p = FreeP (L 5) p 0) := ⟨by rw [HPG.out, if_pos h0]⟩
    have h0' : (v == 0) = true := by rw [h0]; rfl
    clear h0
    go_enter Try.func48, Try.ntmps48
    go_wp2_with (first | ((with_reducible refine gate_dst (N := 2) rfl ?_); refine box_event rfl (N := 2) rfl (cs := bkCells s A c L) (t := 27) (by first | (go_simp; done) | (go_simp; rfl)) ?_; intro gb hggb w1 hbox hb; have n0_ := Aside0.mk (below_step HB.out hb); have BKgb := Aside0.mk hbox; have HGgb := Aside0.mk (show w.heap.size ≤ gb by rw [hggb]; exact HB.out.size); clear HB; have HB := n0_; have hx1 := (hb.cell (World.block_lt_of_cell? _ _ hx)).trans hx; have fgbs0 : w1.cell? ⟨gb, 0, none⟩ = some (.int .i64 _) := (blk_cell BKgb.out 0).trans rfl; have fgb1 : w1.cell? ⟨gb, 1, none⟩ = some (.slice (A 0) (L 0).length (c 0)) := (blk_cell BKgb.out 1).trans rfl; have fgb2 : w1.cell? ⟨gb, 2, none⟩ = some (.slice (A 1) (L 1).length (c 1)) := (blk_cell BKgb.out 2).trans rfl; have fgb3 : w1.cell? ⟨gb, 3, none⟩ = some (.slice (A 2) (L 2).length (c 2)) := (blk_cell BKgb.out 3).trans rfl; have fgb4 : w1.cell? ⟨gb, 4, none⟩ = some (.slice (A 3) (L 3).length (c 3)) := (blk_cell BKgb.out 4).trans rfl; have fgb5 : w1.cell? ⟨gb, 5, none⟩ = some (.slice (A 4) (L 4).length (c 4)) := (blk_cell BKgb.out 5).trans rfl; have fgb6 : w1.cell? ⟨gb, 6, none⟩ = some (.slice (A 5) (L 5).length (c 5)) := (blk_cell BKgb.out 6).trans rfl; have fgb7 : w1.cell? ⟨gb, 7, none⟩ = some (.slice (A 6) (L 6).length (c 6)) := (blk_cell BKgb.out 7).trans rfl; have fgb8 : w1.cell? ⟨gb, 8, none⟩ = some (.slice (A 7) (L 7).length (c 7)) := (blk_cell BKgb.out 8).trans rfl; have fgbz0 := blk_frozen BKgb.out 0; have fgbz1 := blk_frozen BKgb.out 1; have fgbz2 := blk_frozen BKgb.out 2; have fgbz3 := blk_frozen BKgb.out 3; have fgbz4 := blk_frozen BKgb.out 4; have fgbz5 := blk_frozen BKgb.out 5; have fgbz6 := blk_frozen BKgb.out 6; have fgbz7 := blk_frozen BKgb.out 7; have fgbz8 := blk_frozen BKgb.out 8; rw [ea] at fgb1; clear ea; clear n0_ hbox hb hggb))
    rw [← HE.out]
    refine (l3Free_calls s A c L p 0 _ (HR.out.below HB.out) HP.out (HLn.out 5) (by omega)).mono ?_
    rintro e w3 ⟨r, rfl, hr, hb⟩
    have HB3 := Aside0.mk (below_step HB.out hb)
    have HRR := Aside0.mk hr
    clear hr hb
    go_wp2
    go_ret
    exact RetB.mk rfl (HRR.out.trans (iff_of_eq HF.out.symm)) HB3.out
  by_cases h4 : 1 ≤ v ∧ v ≤ 4
  · obtain ⟨h41, h42⟩ := h4
    have HF : Aside0 (PageP L p = RoomsP (L 5) (L ((v - 1).toNat + 1)) (sizeN (v - 1).toNat) p) := ⟨by rw [HPG.out, if_neg h0, if_pos ⟨h41, h42⟩]⟩
    have h0' : (v == 0) = false := beq_eq_false_iff_ne.mpr h0
    have HK : Aside0 (kindN v = v - 1) := ⟨by unfold kindN; rw [if_neg (by omega), if_neg (by omega)]⟩
    clear h0
    go_enter Try.func48, Try.ntmps48
    go_wp2_with (first | ((with_reducible refine gate_dst (N := 2) rfl ?_); refine box_event rfl (N := 2) rfl (cs := bkCells s A c L) (t := 27) (by first | (go_simp; done) | (go_simp; rfl)) ?_; intro gb hggb w1 hbox hb; have n0_ := Aside0.mk (below_step HB.out hb); have BKgb := Aside0.mk hbox; have HGgb := Aside0.mk (show w.heap.size ≤ gb by rw [hggb]; exact HB.out.size); clear HB; have HB := n0_; have hx1 := (hb.cell (World.block_lt_of_cell? _ _ hx)).trans hx; have fgbs0 : w1.cell? ⟨gb, 0, none⟩ = some (.int .i64 _) := (blk_cell BKgb.out 0).trans rfl; have fgb1 : w1.cell? ⟨gb, 1, none⟩ = some (.slice (A 0) (L 0).length (c 0)) := (blk_cell BKgb.out 1).trans rfl; have fgb2 : w1.cell? ⟨gb, 2, none⟩ = some (.slice (A 1) (L 1).length (c 1)) := (blk_cell BKgb.out 2).trans rfl; have fgb3 : w1.cell? ⟨gb, 3, none⟩ = some (.slice (A 2) (L 2).length (c 2)) := (blk_cell BKgb.out 3).trans rfl; have fgb4 : w1.cell? ⟨gb, 4, none⟩ = some (.slice (A 3) (L 3).length (c 3)) := (blk_cell BKgb.out 4).trans rfl; have fgb5 : w1.cell? ⟨gb, 5, none⟩ = some (.slice (A 4) (L 4).length (c 4)) := (blk_cell BKgb.out 5).trans rfl; have fgb6 : w1.cell? ⟨gb, 6, none⟩ = some (.slice (A 5) (L 5).length (c 5)) := (blk_cell BKgb.out 6).trans rfl; have fgb7 : w1.cell? ⟨gb, 7, none⟩ = some (.slice (A 6) (L 6).length (c 6)) := (blk_cell BKgb.out 7).trans rfl; have fgb8 : w1.cell? ⟨gb, 8, none⟩ = some (.slice (A 7) (L 7).length (c 7)) := (blk_cell BKgb.out 8).trans rfl; have fgbz0 := blk_frozen BKgb.out 0; have fgbz1 := blk_frozen BKgb.out 1; have fgbz2 := blk_frozen BKgb.out 2; have fgbz3 := blk_frozen BKgb.out 3; have fgbz4 := blk_frozen BKgb.out 4; have fgbz5 := blk_frozen BKgb.out 5; have fgbz6 := blk_frozen BKgb.out 6; have fgbz7 := blk_frozen BKgb.out 7; have fgbz8 := blk_frozen BKgb.out 8; rw [ea] at fgb1; clear ea; clear n0_ hbox hb hggb) | (go_at_call 66; refine (l3Kind_calls _ _).mono ?_; rintro e w' ⟨rfl, rfl⟩; rw [HK.out]))
    refine wp_region_still_tail 4 (by kernel_rfl) (by kernel_rfl) ?_
    simp only [List.take_succ_cons, List.take_zero, List.drop_succ_cons, List.drop_zero]
    change wpStill _ _ w1.drew _ _ _
    still_step
    still_step
    still_step
    still_call ((l3Kind_calls v w1.drew).mono fun _ _ ⟨h1, h2⟩ => ⟨h1, h2.symm⟩)
    refine wpStill_nil ?_
    change wpList _ _ _ _ _ w1.drew
    rw [HK.out]
    go_wp2_with fail
    rw [← HE.out, show v - 1 = ((v - 1).toNat : Int) by omega]
    refine (l3Rooms_calls s A c L p (v - 1).toNat _ (HR.out.below (below_drew HB.out)) (by omega) HP.out HLn.out).mono ?_
    rintro e w3 ⟨r, rfl, hr, hb⟩
    have HB3 := Aside0.mk (below_step (below_drew HB.out) hb)
    have HRR := Aside0.mk hr
    clear hr hb
    go_wp2
    go_ret
    exact RetB.mk rfl (HRR.out.trans (iff_of_eq HF.out.symm)) HB3.out
  have h0' : (v == 0) = false := beq_eq_false_iff_ne.mpr h0
  have HK : Aside0 (kindN v = -1) := ⟨by unfold kindN; by_cases e : v < 1; exact if_pos e; rw [if_neg e, if_pos (by omega)]⟩
  by_cases h7 : v = 7
  · have HF : Aside0 (PageP L p = RestP (L 0) (L 5) p) := ⟨by rw [HPG.out, if_neg h0, if_neg h4, if_pos h7]⟩
    have h7' : (v == 7) = true := by rw [h7]; rfl
    clear h0 h4 h7
    go_enter Try.func48, Try.ntmps48
    go_wp2_with (first | ((with_reducible refine gate_dst (N := 2) rfl ?_); refine box_event rfl (N := 2) rfl (cs := bkCells s A c L) (t := 27) (by first | (go_simp; done) | (go_simp; rfl)) ?_; intro gb hggb w1 hbox hb; have n0_ := Aside0.mk (below_step HB.out hb); have BKgb := Aside0.mk hbox; have HGgb := Aside0.mk (show w.heap.size ≤ gb by rw [hggb]; exact HB.out.size); clear HB; have HB := n0_; have hx1 := (hb.cell (World.block_lt_of_cell? _ _ hx)).trans hx; have fgbs0 : w1.cell? ⟨gb, 0, none⟩ = some (.int .i64 _) := (blk_cell BKgb.out 0).trans rfl; have fgb1 : w1.cell? ⟨gb, 1, none⟩ = some (.slice (A 0) (L 0).length (c 0)) := (blk_cell BKgb.out 1).trans rfl; have fgb2 : w1.cell? ⟨gb, 2, none⟩ = some (.slice (A 1) (L 1).length (c 1)) := (blk_cell BKgb.out 2).trans rfl; have fgb3 : w1.cell? ⟨gb, 3, none⟩ = some (.slice (A 2) (L 2).length (c 2)) := (blk_cell BKgb.out 3).trans rfl; have fgb4 : w1.cell? ⟨gb, 4, none⟩ = some (.slice (A 3) (L 3).length (c 3)) := (blk_cell BKgb.out 4).trans rfl; have fgb5 : w1.cell? ⟨gb, 5, none⟩ = some (.slice (A 4) (L 4).length (c 4)) := (blk_cell BKgb.out 5).trans rfl; have fgb6 : w1.cell? ⟨gb, 6, none⟩ = some (.slice (A 5) (L 5).length (c 5)) := (blk_cell BKgb.out 6).trans rfl; have fgb7 : w1.cell? ⟨gb, 7, none⟩ = some (.slice (A 6) (L 6).length (c 6)) := (blk_cell BKgb.out 7).trans rfl; have fgb8 : w1.cell? ⟨gb, 8, none⟩ = some (.slice (A 7) (L 7).length (c 7)) := (blk_cell BKgb.out 8).trans rfl; have fgbz0 := blk_frozen BKgb.out 0; have fgbz1 := blk_frozen BKgb.out 1; have fgbz2 := blk_frozen BKgb.out 2; have fgbz3 := blk_frozen BKgb.out 3; have fgbz4 := blk_frozen BKgb.out 4; have fgbz5 := blk_frozen BKgb.out 5; have fgbz6 := blk_frozen BKgb.out 6; have fgbz7 := blk_frozen BKgb.out 7; have fgbz8 := blk_frozen BKgb.out 8; rw [ea] at fgb1; clear ea; clear n0_ hbox hb hggb) | (go_at_call 66; refine (l3Kind_calls _ _).mono ?_; rintro e w' ⟨rfl, rfl⟩; rw [HK.out]))
    rw [← HE.out]
    refine (l3Rest_calls s A c L p _ (HR.out.below HB.out) HP0.out HP.out HLn.out).mono ?_
    rintro e w3 ⟨r, rfl, hr, hb⟩
    have HB3 := Aside0.mk (below_step HB.out hb)
    have HRR := Aside0.mk hr
    clear hr hb
    go_wp2
    go_ret
    exact RetB.mk rfl (HRR.out.trans (iff_of_eq HF.out.symm)) HB3.out
  have HF : Aside0 (PageP L p = WideP (L 0) (L 5) p) := ⟨by rw [HPG.out, if_neg h0, if_neg h4, if_neg h7]⟩
  have h7' : (v == 7) = false := beq_eq_false_iff_ne.mpr h7
  clear h0 h4 h7
  go_enter Try.func48, Try.ntmps48
  go_wp2_with (first | ((with_reducible refine gate_dst (N := 2) rfl ?_); refine box_event rfl (N := 2) rfl (cs := bkCells s A c L) (t := 27) (by first | (go_simp; done) | (go_simp; rfl)) ?_; intro gb hggb w1 hbox hb; have n0_ := Aside0.mk (below_step HB.out hb); have BKgb := Aside0.mk hbox; have HGgb := Aside0.mk (show w.heap.size ≤ gb by rw [hggb]; exact HB.out.size); clear HB; have HB := n0_; have hx1 := (hb.cell (World.block_lt_of_cell? _ _ hx)).trans hx; have fgbs0 : w1.cell? ⟨gb, 0, none⟩ = some (.int .i64 _) := (blk_cell BKgb.out 0).trans rfl; have fgb1 : w1.cell? ⟨gb, 1, none⟩ = some (.slice (A 0) (L 0).length (c 0)) := (blk_cell BKgb.out 1).trans rfl; have fgb2 : w1.cell? ⟨gb, 2, none⟩ = some (.slice (A 1) (L 1).length (c 1)) := (blk_cell BKgb.out 2).trans rfl; have fgb3 : w1.cell? ⟨gb, 3, none⟩ = some (.slice (A 2) (L 2).length (c 2)) := (blk_cell BKgb.out 3).trans rfl; have fgb4 : w1.cell? ⟨gb, 4, none⟩ = some (.slice (A 3) (L 3).length (c 3)) := (blk_cell BKgb.out 4).trans rfl; have fgb5 : w1.cell? ⟨gb, 5, none⟩ = some (.slice (A 4) (L 4).length (c 4)) := (blk_cell BKgb.out 5).trans rfl; have fgb6 : w1.cell? ⟨gb, 6, none⟩ = some (.slice (A 5) (L 5).length (c 5)) := (blk_cell BKgb.out 6).trans rfl; have fgb7 : w1.cell? ⟨gb, 7, none⟩ = some (.slice (A 6) (L 6).length (c 6)) := (blk_cell BKgb.out 7).trans rfl; have fgb8 : w1.cell? ⟨gb, 8, none⟩ = some (.slice (A 7) (L 7).length (c 7)) := (blk_cell BKgb.out 8).trans rfl; have fgbz0 := blk_frozen BKgb.out 0; have fgbz1 := blk_frozen BKgb.out 1; have fgbz2 := blk_frozen BKgb.out 2; have fgbz3 := blk_frozen BKgb.out 3; have fgbz4 := blk_frozen BKgb.out 4; have fgbz5 := blk_frozen BKgb.out 5; have fgbz6 := blk_frozen BKgb.out 6; have fgbz7 := blk_frozen BKgb.out 7; have fgbz8 := blk_frozen BKgb.out 8; rw [ea] at fgb1; clear ea; clear n0_ hbox hb hggb) | (go_at_call 66; refine (l3Kind_calls _ _).mono ?_; rintro e w' ⟨rfl, rfl⟩; rw [HK.out]))
  rw [← HE.out]
  refine (l3Wide_calls s A c L p _ (HR.out.below HB.out) HP0.out HP.out HLn.out HW.out).mono ?_
  rintro e w3 ⟨r, rfl, hr, hb⟩
  have HB3 := Aside0.mk (below_step HB.out hb)
  have HRR := Aside0.mk hr
  clear hr hb
  go_wp2
  go_ret
  exact RetB.mk rfl (HRR.out.trans (iff_of_eq HF.out.symm)) HB3.out
end Go.Proofs.Ytekneicikmaplaa.Bk

/- The law's small functions: a book made anew. -/
import Derived.Test.YtekneicikmaplaaBk3
set_option linter.unusedVariables false
set_option linter.unusedSimpArgs false
namespace Go.Proofs.Ytekneicikmaplaa.Bk
open Go.RowKit Go.Proofs.YtekneicikmaplaaW.PrintWords Go.Proofs.YtekneicikmaplaaW.PrintLast Go.Proofs.YtekneicikmaplaaW.PrintMore

/-- A book's rows are the call's own. -/
def BkO (w : World) (lo hi : Nat) (A : Nat → Option Addr) (c : Nat → Nat) (L : Nat → List Int) : Prop := VO w lo hi L 8 (slV A c L)
theorem BkO.c {w : World} {lo hi : Nat} {A : Nat → Option Addr} {c : Nat → Nat} {L : Nat → List Int} (h : BkO w lo hi A c L) : BkC w A c L := fun i hi => VO.c h i hi
theorem BkO.below {w w1 : World} {lo hi : Nat} {A : Nat → Option Addr} {c : Nat → Nat} {L : Nat → List Int} (h : BkO w lo hi A c L) (hb : Below w.heap.size w w1) : BkO w1 lo hi A c L := VO.below h hb
set_option maxHeartbeats 2000000 in
set_option maxRecDepth 100000 in
theorem toBook_calls (s : Int) (A : Nat → Option Addr) (c : Nat → Nat) (L : Nat → List Int) (w : World) (h : BkC w A c L) (hl : ∀ i, (L i).length ≤ 35184372088832) :
    Calls Try.prog 19 #[.agg (bkCells s A c L)] w fun e w' => ∃ A' c', e = .returned (.agg (bkCells s A' c' L)) ∧ BkO w' w.heap.size w'.heap.size A' c' L ∧ Below w.heap.size w w' := by
  have HR := Aside0.mk h
  have HL := Aside0.mk hl
  clear h hl
  have HB := Aside0.mk (Below.refl w.heap.size w)
  go_enter Try.func19, Try.ntmps19
  go_wp2_with (first | ((with_reducible refine gate_dst (N := 1) rfl ?_); refine box_event rfl (N := 1) rfl (cs := bkCells s A c L) (t := 34) (by first | (go_simp; done) | (go_simp; rfl)) ?_; intro gb hggb w1 hbox hb; have n0_ := Aside0.mk (below_step HB.out hb); have BKgb := Aside0.mk hbox; have HGgb := Aside0.mk (show w.heap.size ≤ gb by rw [hggb]; exact HB.out.size); clear HB; have HB := n0_; clear n0_ hbox hb hggb) | ((with_reducible refine gate_dst (N := 2) rfl ?_); refine box_event rfl (N := 2) rfl (cs := #[.int .i64 0, .slice none 0 0, .slice none 0 0, .slice none 0 0, .slice none 0 0, .slice none 0 0, .slice none 0 0, .slice none 0 0, .slice none 0 0]) (t := 27) (by first | (go_simp; done) | (go_simp; rfl)) ?_; intro gr hggr w2 hbox hb; have n0_ := Aside0.mk (below_step HB.out hb); have BKgr := Aside0.mk hbox; have HGgr := Aside0.mk (show w.heap.size ≤ gr by rw [hggr]; exact HB.out.size); clear HB; have HB := n0_; have BKgb := Aside0.mk (blk_below BKgb.out hb); clear n0_ hbox hb hggr) | ((with_reducible refine gate_dst (N := 3) rfl ?_); refine box_event rfl (N := 3) rfl (cs := #[.int .i64 0, .slice none 0 0, .slice none 0 0, .slice none 0 0, .slice none 0 0, .slice none 0 0, .slice none 0 0, .slice none 0 0, .slice none 0 0]) (t := 27) (by first | (go_simp; done) | (go_simp; rfl)) ?_; intro go hggo w3 hbox hb; have n0_ := Aside0.mk (below_step HB.out hb); have BKgo := Aside0.mk hbox; have HGgo := Aside0.mk (show w.heap.size ≤ go by rw [hggo]; exact HB.out.size); clear HB; have HB := n0_; have NE1 := Aside0.mk (show gb ≠ go by have := blk_lt BKgb.out; omega); have NE2 := Aside0.mk (show gr ≠ go by have := blk_lt BKgr.out; omega); have BKgb := Aside0.mk (blk_below BKgb.out hb); have BKgr := Aside0.mk (blk_below BKgr.out hb); have HV := Aside0.mk (VO.none w3 w.heap.size w3.heap.size L (fun _ => .slice none 0 0)); have fl0 : w3.cell? ⟨gb, 0, none⟩ = some (.int .i64 s) := (blk_cell BKgb.out 0).trans rfl; have zl0 := blk_frozen BKgb.out 0; have fo0 : w3.cell? ⟨go, 0, none⟩ = some (.int .i64 0) := (blk_cell BKgo.out 0).trans rfl; have zo0 := blk_frozen BKgo.out 0; clear n0_ hbox hb hggo) | ((with_reducible refine gate_store (t := 3) (p := 6) rfl ?_); refine store_event (t := 3) (p := 6) (v := ?vo_1) (w1 := (w3.setCell ⟨go, 0, none⟩ (.int .i64 s))) ?hg ?ho ?hn ?hr ?_; (case ho => rfl); (case hg => rfl); (case hn => rfl); (case hr => first | (go_simp; done) | (go_simp; rfl)); intro w4 hw; have HV2 := Aside0.mk (show VO w4 w.heap.size w4.heap.size L _ _ by rw [hw, size_set]; exact (VO.set HV.out BKgo.out (by decide) 0 _)); have HB2 := Aside0.mk (show Below w.heap.size w w4 by rw [hw]; exact (below_set HB.out HGgo.out)); have BKgb2 := Aside0.mk (show w4.heap[gb]? = some (.cells (bkCells s A c L) 34 (0, 0)) by rw [hw]; exact (blk_far BKgb.out NE1.out _)); have BKgr2 := Aside0.mk (show w4.heap[gr]? = some (.cells #[.int .i64 0, .slice none 0 0, .slice none 0 0, .slice none 0 0, .slice none 0 0, .slice none 0 0, .slice none 0 0, .slice none 0 0, .slice none 0 0] 27 (0, 0)) by rw [hw]; exact (blk_far BKgr.out NE2.out _)); have BKgo2 := Aside0.mk (show w4.heap[go]? = some (.cells #[.int .i64 s, .slice none 0 0, .slice none 0 0, .slice none 0 0, .slice none 0 0, .slice none 0 0, .slice none 0 0, .slice none 0 0, .slice none 0 0] 27 (0, 0)) by rw [hw]; exact (blk_set BKgo.out 0 _)); clear HV HB BKgb BKgr BKgo fl0 zl0 fo0 zo0; have HV := HV2; have HB := HB2; have BKgb := BKgb2; have BKgr := BKgr2; have BKgo := BKgo2; clear HV2 HB2 BKgb2 BKgr2 BKgo2; have fl1 : w4.cell? ⟨gb, 1, none⟩ = some (.slice (A 0) (L 0).length (c 0)) := (blk_cell BKgb.out 1).trans rfl; have zl1 := blk_frozen BKgb.out 1; clear hw))
  refine (toIntS_calls _ _ _ _ ((HR.out 0 (by omega)).below HB.out) (HL.out 0)).mono ?_
  rintro e w5 ⟨A0, k0, rfl, ho, hb⟩
  have HV2 := Aside0.mk (HV.out.snoc hb ho HB.out.size)
  have HB2 := Aside0.mk (below_step HB.out hb)
  have BKgb2 := Aside0.mk (blk_below BKgb.out hb)
  have BKgr2 := Aside0.mk (blk_below BKgr.out hb)
  have BKgo2 := Aside0.mk (blk_below BKgo.out hb)
  clear HV HB BKgb BKgr BKgo hb ho
  have HV := HV2
  have HB := HB2
  have BKgb := BKgb2
  have BKgr := BKgr2
  have BKgo := BKgo2
  clear HV2 HB2 BKgb2 BKgr2 BKgo2
  clear fl1 zl1
  have fl2 : w5.cell? ⟨gb, 2, none⟩ = some (.slice (A 1) (L 1).length (c 1)) := (blk_cell BKgb.out 2).trans rfl
  have zl2 := blk_frozen BKgb.out 2
  have fl3 : w5.cell? ⟨gb, 3, none⟩ = some (.slice (A 2) (L 2).length (c 2)) := (blk_cell BKgb.out 3).trans rfl
  have zl3 := blk_frozen BKgb.out 3
  have fl4 : w5.cell? ⟨gb, 4, none⟩ = some (.slice (A 3) (L 3).length (c 3)) := (blk_cell BKgb.out 4).trans rfl
  have zl4 := blk_frozen BKgb.out 4
  have fl5 : w5.cell? ⟨gb, 5, none⟩ = some (.slice (A 4) (L 4).length (c 4)) := (blk_cell BKgb.out 5).trans rfl
  have zl5 := blk_frozen BKgb.out 5
  have fo1 : w5.cell? ⟨go, 1, none⟩ = some (.slice none 0 0) := (blk_cell BKgo.out 1).trans rfl
  have zo1 := blk_frozen BKgo.out 1
  go_wp2_with (first | ((with_reducible refine gate_store (t := 24) (p := 10) rfl ?_); refine store_event (t := 24) (p := 10) (v := ?vo_2) (w1 := (w5.setCell ⟨go, 1, none⟩ (.slice A0 (L 0).length k0))) ?hg ?ho ?hn ?hr ?_; (case ho => rfl); (case hg => rfl); (case hn => rfl); (case hr => first | (go_simp; done) | (go_simp; rfl)); intro w6 hw; have HV2 := Aside0.mk (show VO w6 w.heap.size w6.heap.size L _ _ by rw [hw, size_set]; exact (VO.set HV.out BKgo.out (by decide) 1 _)); have HB2 := Aside0.mk (show Below w.heap.size w w6 by rw [hw]; exact (below_set HB.out HGgo.out)); have BKgb2 := Aside0.mk (show w6.heap[gb]? = some (.cells (bkCells s A c L) 34 (0, 0)) by rw [hw]; exact (blk_far BKgb.out NE1.out _)); have BKgr2 := Aside0.mk (show w6.heap[gr]? = some (.cells #[.int .i64 0, .slice none 0 0, .slice none 0 0, .slice none 0 0, .slice none 0 0, .slice none 0 0, .slice none 0 0, .slice none 0 0, .slice none 0 0] 27 (0, 0)) by rw [hw]; exact (blk_far BKgr.out NE2.out _)); have BKgo2 := Aside0.mk (show w6.heap[go]? = some (.cells #[.int .i64 s, .slice A0 (L 0).length k0, .slice none 0 0, .slice none 0 0, .slice none 0 0, .slice none 0 0, .slice none 0 0, .slice none 0 0, .slice none 0 0] 27 (0, 0)) by rw [hw]; exact (blk_set BKgo.out 1 _)); clear HV HB BKgb BKgr BKgo fl2 zl2 fl3 zl3 fl4 zl4 fl5 zl5 fo1 zo1; have HV := HV2; have HB := HB2; have BKgb := BKgb2; have BKgr := BKgr2; have BKgo := BKgo2; clear HV2 HB2 BKgb2 BKgr2 BKgo2; have fl2 : w6.cell? ⟨gb, 2, none⟩ = some (.slice (A 1) (L 1).length (c 1)) := (blk_cell BKgb.out 2).trans rfl; have zl2 := blk_frozen BKgb.out 2; have fl3 : w6.cell? ⟨gb, 3, none⟩ = some (.slice (A 2) (L 2).length (c 2)) := (blk_cell BKgb.out 3).trans rfl; have zl3 := blk_frozen BKgb.out 3; have fl4 : w6.cell? ⟨gb, 4, none⟩ = some (.slice (A 3) (L 3).length (c 3)) := (blk_cell BKgb.out 4).trans rfl; have zl4 := blk_frozen BKgb.out 4; have fl5 : w6.cell? ⟨gb, 5, none⟩ = some (.slice (A 4) (L 4).length (c 4)) := (blk_cell BKgb.out 5).trans rfl; have zl5 := blk_frozen BKgb.out 5; clear hw))
  refine (toIntSA4_calls (fun i => A (i + 1)) (fun i => c (i + 1)) (fun i => L (i + 1)) _ (HR.out.ar.below HB.out) (fun i => HL.out (i + 1))).mono ?_
  rintro e w7 ⟨A1, k1, rfl, ho, hb⟩
  have HV2 := Aside0.mk (HV.out.app (n := 1) (m := 4) hb ho HB.out.size)
  have HB2 := Aside0.mk (below_step HB.out hb)
  have BKgb2 := Aside0.mk (blk_below BKgb.out hb)
  have BKgr2 := Aside0.mk (blk_below BKgr.out hb)
  have BKgo2 := Aside0.mk (blk_below BKgo.out hb)
  clear HV HB BKgb BKgr BKgo hb ho
  have HV := HV2
  have HB := HB2
  have BKgb := BKgb2
  have BKgr := BKgr2
  have BKgo := BKgo2
  clear HV2 HB2 BKgb2 BKgr2 BKgo2
  clear fl2 zl2 fl3 zl3 fl4 zl4 fl5 zl5
  have fl6 : w7.cell? ⟨gb, 6, none⟩ = some (.slice (A 5) (L 5).length (c 5)) := (blk_cell BKgb.out 6).trans rfl
  have zl6 := blk_frozen BKgb.out 6
  have fo2 : w7.cell? ⟨go, 2, none⟩ = some (.slice none 0 0) := (blk_cell BKgo.out 2).trans rfl
  have zo2 := blk_frozen BKgo.out 2
  have fo3 : w7.cell? ⟨go, 3, none⟩ = some (.slice none 0 0) := (blk_cell BKgo.out 3).trans rfl
  have zo3 := blk_frozen BKgo.out 3
  have fo4 : w7.cell? ⟨go, 4, none⟩ = some (.slice none 0 0) := (blk_cell BKgo.out 4).trans rfl
  have zo4 := blk_frozen BKgo.out 4
  have fo5 : w7.cell? ⟨go, 5, none⟩ = some (.slice none 0 0) := (blk_cell BKgo.out 5).trans rfl
  have zo5 := blk_frozen BKgo.out 5
  go_wp2_with (first | ((with_reducible refine gate_store (t := 25) (p := 14) rfl ?_); refine store_event (t := 25) (p := 14) (v := ?vo_3) (w1 := ((((w7.setCell ⟨go, 2, none⟩ (.slice (A1 0) (L 1).length (k1 0))).setCell ⟨go, 3, none⟩ (.slice (A1 1) (L 2).length (k1 1))).setCell ⟨go, 4, none⟩ (.slice (A1 2) (L 3).length (k1 2))).setCell ⟨go, 5, none⟩ (.slice (A1 3) (L 4).length (k1 3)))) ?hg ?ho ?hn ?hr ?_; (case ho => rfl); (case hg => rfl); (case hn => rfl); (case hr => first | (go_simp; done) | (go_simp; rfl)); intro w8 hw; have HV2 := Aside0.mk (show VO w8 w.heap.size w8.heap.size L _ _ by rw [hw, size_set, size_set, size_set, size_set]; exact (VO.set (VO.set (VO.set (VO.set HV.out BKgo.out (by decide) 2 _) (blk_set BKgo.out 2 _) (by decide) 3 _) (blk_set (blk_set BKgo.out 2 _) 3 _) (by decide) 4 _) (blk_set (blk_set (blk_set BKgo.out 2 _) 3 _) 4 _) (by decide) 5 _)); have HB2 := Aside0.mk (show Below w.heap.size w w8 by rw [hw]; exact (below_set (below_set (below_set (below_set HB.out HGgo.out) HGgo.out) HGgo.out) HGgo.out)); have BKgb2 := Aside0.mk (show w8.heap[gb]? = some (.cells (bkCells s A c L) 34 (0, 0)) by rw [hw]; exact (blk_far (blk_far (blk_far (blk_far BKgb.out NE1.out _) NE1.out _) NE1.out _) NE1.out _)); have BKgr2 := Aside0.mk (show w8.heap[gr]? = some (.cells #[.int .i64 0, .slice none 0 0, .slice none 0 0, .slice none 0 0, .slice none 0 0, .slice none 0 0, .slice none 0 0, .slice none 0 0, .slice none 0 0] 27 (0, 0)) by rw [hw]; exact (blk_far (blk_far (blk_far (blk_far BKgr.out NE2.out _) NE2.out _) NE2.out _) NE2.out _)); have BKgo2 := Aside0.mk (show w8.heap[go]? = some (.cells #[.int .i64 s, .slice A0 (L 0).length k0, .slice (A1 0) (L 1).length (k1 0), .slice (A1 1) (L 2).length (k1 1), .slice (A1 2) (L 3).length (k1 2), .slice (A1 3) (L 4).length (k1 3), .slice none 0 0, .slice none 0 0, .slice none 0 0] 27 (0, 0)) by rw [hw]; exact (blk_set (blk_set (blk_set (blk_set BKgo.out 2 _) 3 _) 4 _) 5 _)); clear HV HB BKgb BKgr BKgo fl6 zl6 fo2 zo2 fo3 zo3 fo4 zo4 fo5 zo5; have HV := HV2; have HB := HB2; have BKgb := BKgb2; have BKgr := BKgr2; have BKgo := BKgo2; clear HV2 HB2 BKgb2 BKgr2 BKgo2; have fl6 : w8.cell? ⟨gb, 6, none⟩ = some (.slice (A 5) (L 5).length (c 5)) := (blk_cell BKgb.out 6).trans rfl; have zl6 := blk_frozen BKgb.out 6; clear hw))
  refine (toIntS_calls _ _ _ _ ((HR.out 5 (by omega)).below HB.out) (HL.out 5)).mono ?_
  rintro e w9 ⟨A5, k5, rfl, ho, hb⟩
  have HV2 := Aside0.mk (HV.out.snoc hb ho HB.out.size)
  have HB2 := Aside0.mk (below_step HB.out hb)
  have BKgb2 := Aside0.mk (blk_below BKgb.out hb)
  have BKgr2 := Aside0.mk (blk_below BKgr.out hb)
  have BKgo2 := Aside0.mk (blk_below BKgo.out hb)
  clear HV HB BKgb BKgr BKgo hb ho
  have HV := HV2
  have HB := HB2
  have BKgb := BKgb2
  have BKgr := BKgr2
  have BKgo := BKgo2
  clear HV2 HB2 BKgb2 BKgr2 BKgo2
  clear fl6 zl6
  have fl7 : w9.cell? ⟨gb, 7, none⟩ = some (.slice (A 6) (L 6).length (c 6)) := (blk_cell BKgb.out 7).trans rfl
  have zl7 := blk_frozen BKgb.out 7
  have fo6 : w9.cell? ⟨go, 6, none⟩ = some (.slice none 0 0) := (blk_cell BKgo.out 6).trans rfl
  have zo6 := blk_frozen BKgo.out 6
  go_wp2_with (first | ((with_reducible refine gate_store (t := 24) (p := 18) rfl ?_); refine store_event (t := 24) (p := 18) (v := ?vo_4) (w1 := (w9.setCell ⟨go, 6, none⟩ (.slice A5 (L 5).length k5))) ?hg ?ho ?hn ?hr ?_; (case ho => rfl); (case hg => rfl); (case hn => rfl); (case hr => first | (go_simp; done) | (go_simp; rfl)); intro w10 hw; have HV2 := Aside0.mk (show VO w10 w.heap.size w10.heap.size L _ _ by rw [hw, size_set]; exact (VO.set HV.out BKgo.out (by decide) 6 _)); have HB2 := Aside0.mk (show Below w.heap.size w w10 by rw [hw]; exact (below_set HB.out HGgo.out)); have BKgb2 := Aside0.mk (show w10.heap[gb]? = some (.cells (bkCells s A c L) 34 (0, 0)) by rw [hw]; exact (blk_far BKgb.out NE1.out _)); have BKgr2 := Aside0.mk (show w10.heap[gr]? = some (.cells #[.int .i64 0, .slice none 0 0, .slice none 0 0, .slice none 0 0, .slice none 0 0, .slice none 0 0, .slice none 0 0, .slice none 0 0, .slice none 0 0] 27 (0, 0)) by rw [hw]; exact (blk_far BKgr.out NE2.out _)); have BKgo2 := Aside0.mk (show w10.heap[go]? = some (.cells #[.int .i64 s, .slice A0 (L 0).length k0, .slice (A1 0) (L 1).length (k1 0), .slice (A1 1) (L 2).length (k1 1), .slice (A1 2) (L 3).length (k1 2), .slice (A1 3) (L 4).length (k1 3), .slice A5 (L 5).length k5, .slice none 0 0, .slice none 0 0] 27 (0, 0)) by rw [hw]; exact (blk_set BKgo.out 6 _)); clear HV HB BKgb BKgr BKgo fl7 zl7 fo6 zo6; have HV := HV2; have HB := HB2; have BKgb := BKgb2; have BKgr := BKgr2; have BKgo := BKgo2; clear HV2 HB2 BKgb2 BKgr2 BKgo2; have fl7 : w10.cell? ⟨gb, 7, none⟩ = some (.slice (A 6) (L 6).length (c 6)) := (blk_cell BKgb.out 7).trans rfl; have zl7 := blk_frozen BKgb.out 7; clear hw))
  refine (toIntS_calls _ _ _ _ ((HR.out 6 (by omega)).below HB.out) (HL.out 6)).mono ?_
  rintro e w11 ⟨A6, k6, rfl, ho, hb⟩
  have HV2 := Aside0.mk (HV.out.snoc hb ho HB.out.size)
  have HB2 := Aside0.mk (below_step HB.out hb)
  have BKgb2 := Aside0.mk (blk_below BKgb.out hb)
  have BKgr2 := Aside0.mk (blk_below BKgr.out hb)
  have BKgo2 := Aside0.mk (blk_below BKgo.out hb)
  clear HV HB BKgb BKgr BKgo hb ho
  have HV := HV2
  have HB := HB2
  have BKgb := BKgb2
  have BKgr := BKgr2
  have BKgo := BKgo2
  clear HV2 HB2 BKgb2 BKgr2 BKgo2
  clear fl7 zl7
  have fl8 : w11.cell? ⟨gb, 8, none⟩ = some (.slice (A 7) (L 7).length (c 7)) := (blk_cell BKgb.out 8).trans rfl
  have zl8 := blk_frozen BKgb.out 8
  have fo7 : w11.cell? ⟨go, 7, none⟩ = some (.slice none 0 0) := (blk_cell BKgo.out 7).trans rfl
  have zo7 := blk_frozen BKgo.out 7
  go_wp2_with (first | ((with_reducible refine gate_store (t := 24) (p := 22) rfl ?_); refine store_event (t := 24) (p := 22) (v := ?vo_5) (w1 := (w11.setCell ⟨go, 7, none⟩ (.slice A6 (L 6).length k6))) ?hg ?ho ?hn ?hr ?_; (case ho => rfl); (case hg => rfl); (case hn => rfl); (case hr => first | (go_simp; done) | (go_simp; rfl)); intro w12 hw; have HV2 := Aside0.mk (show VO w12 w.heap.size w12.heap.size L _ _ by rw [hw, size_set]; exact (VO.set HV.out BKgo.out (by decide) 7 _)); have HB2 := Aside0.mk (show Below w.heap.size w w12 by rw [hw]; exact (below_set HB.out HGgo.out)); have BKgb2 := Aside0.mk (show w12.heap[gb]? = some (.cells (bkCells s A c L) 34 (0, 0)) by rw [hw]; exact (blk_far BKgb.out NE1.out _)); have BKgr2 := Aside0.mk (show w12.heap[gr]? = some (.cells #[.int .i64 0, .slice none 0 0, .slice none 0 0, .slice none 0 0, .slice none 0 0, .slice none 0 0, .slice none 0 0, .slice none 0 0, .slice none 0 0] 27 (0, 0)) by rw [hw]; exact (blk_far BKgr.out NE2.out _)); have BKgo2 := Aside0.mk (show w12.heap[go]? = some (.cells #[.int .i64 s, .slice A0 (L 0).length k0, .slice (A1 0) (L 1).length (k1 0), .slice (A1 1) (L 2).length (k1 1), .slice (A1 2) (L 3).length (k1 2), .slice (A1 3) (L 4).length (k1 3), .slice A5 (L 5).length k5, .slice A6 (L 6).length k6, .slice none 0 0] 27 (0, 0)) by rw [hw]; exact (blk_set BKgo.out 7 _)); clear HV HB BKgb BKgr BKgo fl8 zl8 fo7 zo7; have HV := HV2; have HB := HB2; have BKgb := BKgb2; have BKgr := BKgr2; have BKgo := BKgo2; clear HV2 HB2 BKgb2 BKgr2 BKgo2; have fl8 : w12.cell? ⟨gb, 8, none⟩ = some (.slice (A 7) (L 7).length (c 7)) := (blk_cell BKgb.out 8).trans rfl; have zl8 := blk_frozen BKgb.out 8; clear hw))
  refine (toIntS_calls _ _ _ _ ((HR.out 7 (by omega)).below HB.out) (HL.out 7)).mono ?_
  rintro e w13 ⟨A7, k7, rfl, ho, hb⟩
  have HV2 := Aside0.mk (HV.out.snoc hb ho HB.out.size)
  have HB2 := Aside0.mk (below_step HB.out hb)
  have BKgb2 := Aside0.mk (blk_below BKgb.out hb)
  have BKgr2 := Aside0.mk (blk_below BKgr.out hb)
  have BKgo2 := Aside0.mk (blk_below BKgo.out hb)
  clear HV HB BKgb BKgr BKgo hb ho
  have HV := HV2
  have HB := HB2
  have BKgb := BKgb2
  have BKgr := BKgr2
  have BKgo := BKgo2
  clear HV2 HB2 BKgb2 BKgr2 BKgo2
  clear fl8 zl8
  have fo8 : w13.cell? ⟨go, 8, none⟩ = some (.slice none 0 0) := (blk_cell BKgo.out 8).trans rfl
  have zo8 := blk_frozen BKgo.out 8
  go_wp2_with (first | ((with_reducible refine gate_store (t := 24) (p := 26) rfl ?_); refine store_event (t := 24) (p := 26) (v := ?vo_6) (w1 := (w13.setCell ⟨go, 8, none⟩ (.slice A7 (L 7).length k7))) ?hg ?ho ?hn ?hr ?_; (case ho => rfl); (case hg => rfl); (case hn => rfl); (case hr => first | (go_simp; done) | (go_simp; rfl)); intro w14 hw; have HV2 := Aside0.mk (show VO w14 w.heap.size w14.heap.size L _ _ by rw [hw, size_set]; exact (VO.set HV.out BKgo.out (by decide) 8 _)); have HB2 := Aside0.mk (show Below w.heap.size w w14 by rw [hw]; exact (below_set HB.out HGgo.out)); have BKgb2 := Aside0.mk (show w14.heap[gb]? = some (.cells (bkCells s A c L) 34 (0, 0)) by rw [hw]; exact (blk_far BKgb.out NE1.out _)); have BKgr2 := Aside0.mk (show w14.heap[gr]? = some (.cells #[.int .i64 0, .slice none 0 0, .slice none 0 0, .slice none 0 0, .slice none 0 0, .slice none 0 0, .slice none 0 0, .slice none 0 0, .slice none 0 0] 27 (0, 0)) by rw [hw]; exact (blk_far BKgr.out NE2.out _)); have BKgo2 := Aside0.mk (show w14.heap[go]? = some (.cells #[.int .i64 s, .slice A0 (L 0).length k0, .slice (A1 0) (L 1).length (k1 0), .slice (A1 1) (L 2).length (k1 1), .slice (A1 2) (L 3).length (k1 2), .slice (A1 3) (L 4).length (k1 3), .slice A5 (L 5).length k5, .slice A6 (L 6).length k6, .slice A7 (L 7).length k7] 27 (0, 0)) by rw [hw]; exact (blk_set BKgo.out 8 _)); clear HV HB BKgb BKgr BKgo fo8 zo8; have HV := HV2; have HB := HB2; have BKgb := BKgb2; have BKgr := BKgr2; have BKgo := BKgo2; clear HV2 HB2 BKgb2 BKgr2 BKgo2; clear hw) | ((with_reducible refine gate_dst (N := 27) rfl ?_); refine Kd.event_run rfl (Row.load_row_run (g := go) (t := 27) (cells := #[.int .i64 s, .slice A0 (L 0).length k0, .slice (A1 0) (L 1).length (k1 0), .slice (A1 1) (L 2).length (k1 1), .slice (A1 2) (L 3).length (k1 2), .slice (A1 3) (L 4).length (k1 3), .slice A5 (L 5).length k5, .slice A6 (L 6).length k6, .slice A7 (L 7).length k7]) rfl rfl BKgo.out Try.underlying27 rfl (by kernel_rfl)) ?_) | ((with_reducible refine gate_store (t := 27) (p := 2) rfl ?_); refine store_event (t := 27) (p := 2) (v := ?vo_7) (w1 := w14.setRow gr (#[.int .i64 s, .slice A0 (L 0).length k0, .slice (A1 0) (L 1).length (k1 0), .slice (A1 1) (L 2).length (k1 1), .slice (A1 2) (L 3).length (k1 2), .slice (A1 3) (L 4).length (k1 3), .slice A5 (L 5).length k5, .slice A6 (L 6).length k6, .slice A7 (L 7).length k7])) ?hg ?ho ?hn ?hr ?_; (case ho => rfl); (case hg => rfl); (case hn => rfl); (case hr => exact (Row.store_row_run (g := gr) (cells := #[.int .i64 s, .slice A0 (L 0).length k0, .slice (A1 0) (L 1).length (k1 0), .slice (A1 1) (L 2).length (k1 1), .slice (A1 2) (L 3).length (k1 2), .slice (A1 3) (L 4).length (k1 3), .slice A5 (L 5).length k5, .slice A6 (L 6).length k6, .slice A7 (L 7).length k7]) (t := 27) (old := #[.int .i64 0, .slice none 0 0, .slice none 0 0, .slice none 0 0, .slice none 0 0, .slice none 0 0, .slice none 0 0, .slice none 0 0, .slice none 0 0]) rfl (by rfl) (by rfl) BKgr.out (by kernel_rfl) rfl (by simp [Value.oneCell']))); intro w15 hw; have HV5 := Aside0.mk (show VO w15 w.heap.size w15.heap.size L 8 _ by rw [hw, size_row]; exact HV.out.row BKgr.out (by decide) _); have HB5 := Aside0.mk (Row.row_below hw HB.out HGgr.out); have BK5 := Aside0.mk (Row.row_here hw BKgr.out); clear hw))
  refine bodyPost_ret (results_cell_row rfl _ _ gr 27 #[.int .i64 s, .slice A0 (L 0).length k0, .slice (A1 0) (L 1).length (k1 0), .slice (A1 1) (L 2).length (k1 1), .slice (A1 2) (L 3).length (k1 2), .slice (A1 3) (L 4).length (k1 3), .slice A5 (L 5).length k5, .slice A6 (L 6).length k6, .slice A7 (L 7).length k7] (0, 0) _ rfl BK5.out Try.underlying27 rfl (by kernel_rfl)) rfl ?_
  exact ⟨_, _, rfl, HV5.out.sl, HB5.out⟩
end Go.Proofs.Ytekneicikmaplaa.Bk

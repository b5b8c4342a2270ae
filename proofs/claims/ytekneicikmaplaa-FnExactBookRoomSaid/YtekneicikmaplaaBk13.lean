/- The reference's BookOk: a walk. -/
import Derived.Test.YtekneicikmaplaaBk11
import Derived.Test.YtekneicikmaplaaBk12
set_option linter.unusedVariables false
set_option linter.unusedSimpArgs false
namespace Go.Proofs.Ytekneicikmaplaa.Bk
open Go.RowKit Go.Proofs.YtekneicikmaplaaW.PrintWords Go.Proofs.YtekneicikmaplaaW.PrintLast Go.Proofs.YtekneicikmaplaaW.PrintMore

def BookP (s : Int) (L : Nat → List Int) : Prop := SlotsP s L ∧ ListsP L ∧ ∀ p, p < (L 0).length → PageP L p
set_option maxHeartbeats 1000000 in
set_option maxRecDepth 100000 in
theorem specBookOk_calls (s : Int) (A : Nat → Option Addr) (c : Nat → Nat) (L : Nat → List Int) (w : World) (h : BkC w A c L) (hl : ∀ i, (L i).length ≤ 35184372088832) (hw : Wf64 (L 0)) :
    Calls Try.prog 21 #[.agg (bkCells s A c L)] w (RetB (BookP s L) w) := by
  have HR := Aside0.mk h
  have HL := Aside0.mk hl
  have HW := Aside0.mk hw
  have hl0 : ((L 0).length : Int) ≤ 35184372088832 := by have := hl 0; omega
  clear h hl hw
  have HB := Aside0.mk (Below.refl w.heap.size w)
  go_enter Try.func21, Try.ntmps21
  go_wp2_with (first | ((with_reducible refine gate_dst (N := 1) rfl ?_); refine box_event rfl (N := 1) rfl (cs := bkCells s A c L) (t := 27) (by first | (go_simp; done) | (go_simp; rfl)) ?_; intro gb hggb w1 hbox hb; have n0_ := Aside0.mk (below_step HB.out hb); have BKgb := Aside0.mk hbox; have HGgb := Aside0.mk (show w.heap.size ≤ gb by rw [hggb]; exact HB.out.size); clear HB; have HB := n0_; have fgbs0 : w1.cell? ⟨gb, 0, none⟩ = some (.int .i64 _) := (blk_cell BKgb.out 0).trans rfl; have fgb1 : w1.cell? ⟨gb, 1, none⟩ = some (.slice (A 0) (L 0).length (c 0)) := (blk_cell BKgb.out 1).trans rfl; have fgb2 : w1.cell? ⟨gb, 2, none⟩ = some (.slice (A 1) (L 1).length (c 1)) := (blk_cell BKgb.out 2).trans rfl; have fgb3 : w1.cell? ⟨gb, 3, none⟩ = some (.slice (A 2) (L 2).length (c 2)) := (blk_cell BKgb.out 3).trans rfl; have fgb4 : w1.cell? ⟨gb, 4, none⟩ = some (.slice (A 3) (L 3).length (c 3)) := (blk_cell BKgb.out 4).trans rfl; have fgb5 : w1.cell? ⟨gb, 5, none⟩ = some (.slice (A 4) (L 4).length (c 4)) := (blk_cell BKgb.out 5).trans rfl; have fgb6 : w1.cell? ⟨gb, 6, none⟩ = some (.slice (A 5) (L 5).length (c 5)) := (blk_cell BKgb.out 6).trans rfl; have fgb7 : w1.cell? ⟨gb, 7, none⟩ = some (.slice (A 6) (L 6).length (c 6)) := (blk_cell BKgb.out 7).trans rfl; have fgb8 : w1.cell? ⟨gb, 8, none⟩ = some (.slice (A 7) (L 7).length (c 7)) := (blk_cell BKgb.out 8).trans rfl; have fgbz0 := blk_frozen BKgb.out 0; have fgbz1 := blk_frozen BKgb.out 1; have fgbz2 := blk_frozen BKgb.out 2; have fgbz3 := blk_frozen BKgb.out 3; have fgbz4 := blk_frozen BKgb.out 4; have fgbz5 := blk_frozen BKgb.out 5; have fgbz6 := blk_frozen BKgb.out 6; have fgbz7 := blk_frozen BKgb.out 7; have fgbz8 := blk_frozen BKgb.out 8; clear n0_ hbox hb hggb))
  refine (l3Slots_calls s A c L _ (HR.out.below HB.out) HL.out).mono ?_
  rintro e w3 ⟨r, rfl, hr, hb⟩
  have HB3 := Aside0.mk (below_step HB.out hb)
  have BK3 := Aside0.mk (blk_below BKgb.out hb)
  clear HB BKgb fgbs0 fgbz0 fgb1 fgbz1 fgb2 fgbz2 fgb3 fgbz3 fgb4 fgbz4 fgb5 fgbz5 fgb6 fgbz6 fgb7 fgbz7 fgb8 fgbz8 hb
  cases r with
  | false =>
    have HF : Aside0 (¬ BookP s L) := ⟨fun hh => by have := hr.mpr hh.1; cases this⟩
    clear hr
    go_wp2
    go_ret
    exact RetB.mk rfl (iff_f HF.out) HB3.out
  | true =>
    have HS := Aside0.mk (hr.mp rfl)
    clear hr
    have fgbs0 : w3.cell? ⟨gb, 0, none⟩ = some (.int .i64 _) := (blk_cell BK3.out 0).trans rfl; have fgb1 : w3.cell? ⟨gb, 1, none⟩ = some (.slice (A 0) (L 0).length (c 0)) := (blk_cell BK3.out 1).trans rfl; have fgb2 : w3.cell? ⟨gb, 2, none⟩ = some (.slice (A 1) (L 1).length (c 1)) := (blk_cell BK3.out 2).trans rfl; have fgb3 : w3.cell? ⟨gb, 3, none⟩ = some (.slice (A 2) (L 2).length (c 2)) := (blk_cell BK3.out 3).trans rfl; have fgb4 : w3.cell? ⟨gb, 4, none⟩ = some (.slice (A 3) (L 3).length (c 3)) := (blk_cell BK3.out 4).trans rfl; have fgb5 : w3.cell? ⟨gb, 5, none⟩ = some (.slice (A 4) (L 4).length (c 4)) := (blk_cell BK3.out 5).trans rfl; have fgb6 : w3.cell? ⟨gb, 6, none⟩ = some (.slice (A 5) (L 5).length (c 5)) := (blk_cell BK3.out 6).trans rfl; have fgb7 : w3.cell? ⟨gb, 7, none⟩ = some (.slice (A 6) (L 6).length (c 6)) := (blk_cell BK3.out 7).trans rfl; have fgb8 : w3.cell? ⟨gb, 8, none⟩ = some (.slice (A 7) (L 7).length (c 7)) := (blk_cell BK3.out 8).trans rfl; have fgbz0 := blk_frozen BK3.out 0; have fgbz1 := blk_frozen BK3.out 1; have fgbz2 := blk_frozen BK3.out 2; have fgbz3 := blk_frozen BK3.out 3; have fgbz4 := blk_frozen BK3.out 4; have fgbz5 := blk_frozen BK3.out 5; have fgbz6 := blk_frozen BK3.out 6; have fgbz7 := blk_frozen BK3.out 7; have fgbz8 := blk_frozen BK3.out 8
    go_wp2_with fail
    refine (l3Lists_calls s A c L _ (HR.out.below HB3.out) HL.out (by have := HS.out.1.2.2.2.2.2.2; omega)).mono ?_
    rintro e w4 ⟨r, rfl, hr, hb⟩
    have HB4 := Aside0.mk (below_step HB3.out hb)
    have BK4 := Aside0.mk (blk_below BK3.out hb)
    clear HB3 BK3 fgbs0 fgbz0 fgb1 fgbz1 fgb2 fgbz2 fgb3 fgbz3 fgb4 fgbz4 fgb5 fgbz5 fgb6 fgbz6 fgb7 fgbz7 fgb8 fgbz8 hb
    cases r with
    | false =>
      have HF : Aside0 (¬ BookP s L) := ⟨fun hh => by have := hr.mpr hh.2.1; cases this⟩
      clear hr
      go_wp2
      go_ret
      exact RetB.mk rfl (iff_f HF.out) HB4.out
    | true =>
      have HLs := Aside0.mk (hr.mp rfl)
      clear hr
      go_wp2
      go_loopg [3] ((L 0).length + 1) (fun kq v3 w' => ∃ p : Nat, p ≤ (L 0).length ∧ kq = (L 0).length + 1 - p ∧ v3 = .int .i64 p ∧ Aside0 (∀ j, j < p → PageP L j) ∧ Aside0 (w'.heap[gb]? = some (.cells (bkCells s A c L) 27 (0, 0))) ∧ Aside0 (Below w.heap.size w w'))
      case atStart => exact ⟨0, by omega, rfl, rfl, ⟨fun j hj => by omega⟩, BK4, HB4⟩
      case round =>
        clear HB4 BK4
        obtain ⟨p, hp, rfl, rfl, HU, BKgb, HB⟩ := hrel
        have fgbs0 : wr.cell? ⟨gb, 0, none⟩ = some (.int .i64 _) := (blk_cell BKgb.out 0).trans rfl; have fgb1 : wr.cell? ⟨gb, 1, none⟩ = some (.slice (A 0) (L 0).length (c 0)) := (blk_cell BKgb.out 1).trans rfl; have fgb2 : wr.cell? ⟨gb, 2, none⟩ = some (.slice (A 1) (L 1).length (c 1)) := (blk_cell BKgb.out 2).trans rfl; have fgb3 : wr.cell? ⟨gb, 3, none⟩ = some (.slice (A 2) (L 2).length (c 2)) := (blk_cell BKgb.out 3).trans rfl; have fgb4 : wr.cell? ⟨gb, 4, none⟩ = some (.slice (A 3) (L 3).length (c 3)) := (blk_cell BKgb.out 4).trans rfl; have fgb5 : wr.cell? ⟨gb, 5, none⟩ = some (.slice (A 4) (L 4).length (c 4)) := (blk_cell BKgb.out 5).trans rfl; have fgb6 : wr.cell? ⟨gb, 6, none⟩ = some (.slice (A 5) (L 5).length (c 5)) := (blk_cell BKgb.out 6).trans rfl; have fgb7 : wr.cell? ⟨gb, 7, none⟩ = some (.slice (A 6) (L 6).length (c 6)) := (blk_cell BKgb.out 7).trans rfl; have fgb8 : wr.cell? ⟨gb, 8, none⟩ = some (.slice (A 7) (L 7).length (c 7)) := (blk_cell BKgb.out 8).trans rfl; have fgbz0 := blk_frozen BKgb.out 0; have fgbz1 := blk_frozen BKgb.out 1; have fgbz2 := blk_frozen BKgb.out 2; have fgbz3 := blk_frozen BKgb.out 3; have fgbz4 := blk_frozen BKgb.out 4; have fgbz5 := blk_frozen BKgb.out 5; have fgbz6 := blk_frozen BKgb.out 6; have fgbz7 := blk_frozen BKgb.out 7; have fgbz8 := blk_frozen BKgb.out 8
        by_cases hlt : p < (L 0).length
        · have p1 : (p : Int) < ((L 0).length : Int) := by omega
          go_wp2_with fail
          refine (l3Page_calls s A c L p _ (HR.out.below HB.out) hlt (by have := HS.out.1.2.2.2.2.2.2; omega) HL.out HW.out).mono ?_
          rintro e w3 ⟨r, rfl, hr, hb⟩
          have HB3 := Aside0.mk (below_step HB.out hb)
          have BK3 := Aside0.mk (blk_below BKgb.out hb)
          clear HB BKgb fgbs0 fgbz0 fgb1 fgbz1 fgb2 fgbz2 fgb3 fgbz3 fgb4 fgbz4 fgb5 fgbz5 fgb6 fgbz6 fgb7 fgbz7 fgb8 fgbz8 hb
          cases r with
          | false =>
            have HF : Aside0 (¬ BookP s L) := ⟨fun hh => by have := hr.mpr (hh.2.2 p hlt); cases this⟩
            clear hr
            go_wp2
            go_ret
            exact RetB.mk rfl (iff_f HF.out) HB3.out
          | true =>
            have HU2 : Aside0 (∀ j, j < p + 1 → PageP L j) := ⟨fun j hj => if q : j < p then HU.out j q else (show p = j by omega) ▸ hr.mp rfl⟩
            clear hr
            go_wp2
            go_roundg ((L 0).length + 1 - (p + 1))
            case measure => omega
            case rel => exact ⟨p + 1, by omega, rfl, by go_num, HU2, BK3, HB3⟩
        · have HF : Aside0 (BookP s L) := ⟨⟨HS.out, HLs.out, fun j hj => HU.out j (by omega)⟩⟩
          go_wp2
          go_ret
          exact RetB.mk rfl (iff_t HF.out) HB.out
end Go.Proofs.Ytekneicikmaplaa.Bk

/- The reference's look at a page that follows: a walk. -/
import Derived.Test.YtekneicikmaplaaBk8
set_option linter.unusedVariables false
set_option linter.unusedSimpArgs false
namespace Go.Proofs.Ytekneicikmaplaa.Bk
open Go.RowKit Go.Proofs.YtekneicikmaplaaW.PrintWords Go.Proofs.YtekneicikmaplaaW.PrintLast Go.Proofs.YtekneicikmaplaaW.PrintMore

/-- q is where a page's room begins. -/
def RestQ (P : List Int) (p q : Nat) : Prop := q ≤ p ∧ (∀ j, q < j → j ≤ p → P.getD j 0 = 7) ∧ (q = 0 ∨ P.getD q 0 ≠ 7)
theorem RestQ.one {P : List Int} {p q q' : Nat} (h : RestQ P p q) (h' : RestQ P p q') : q = q' := by
  obtain ⟨a, b, c⟩ := h
  obtain ⟨a', b', c'⟩ := h'
  by_cases e : q < q'
  · have := b q' e a'
    rcases c' with c' | c'
    · omega
    · exact absurd this c'
  · by_cases e' : q' < q
    · have := b' q e' a
      rcases c with c | c
      · omega
      · exact absurd this c
    · omega
def RestP (P O : List Int) (p : Nat) : Prop := ∃ q, RestQ P p q ∧ P.getD q 0 > 8 ∧ wrap64 (wrap64 ((q : Int) + P.getD q 0) - 8) > (p : Int) ∧ FreeP O p 0
set_option maxHeartbeats 1000000 in
set_option maxRecDepth 100000 in
theorem l3Rest_calls (s : Int) (A : Nat → Option Addr) (c : Nat → Nat) (L : Nat → List Int) (p : Nat) (w : World) (h : BkC w A c L) (hp0 : p < (L 0).length) (hp : p * 8 + 8 ≤ (L 5).length) (hl : ∀ i, (L i).length ≤ 35184372088832) :
    Calls Try.prog 70 #[.agg (bkCells s A c L), .int .i64 (p : Int)] w (RetB (RestP (L 0) (L 5) p) w) := by
  have HR := Aside0.mk h
  have HP := Aside0.mk hp
  have HP0 := Aside0.mk hp0
  have HLn := Aside0.mk hl
  clear h hl hp hp0
  have HB := Aside0.mk (Below.refl w.heap.size w)
  have hp6 : (p : Int) ≤ 35184372088832 := by have := HP.out; have := HLn.out 5; omega
  go_enter Try.func70, Try.ntmps70
  go_wp2_with (first | ((with_reducible refine gate_dst (N := 2) rfl ?_); refine box_event rfl (N := 2) rfl (cs := bkCells s A c L) (t := 27) (by first | (go_simp; done) | (go_simp; rfl)) ?_; intro gb hggb w1 hbox hb; have n0_ := Aside0.mk (below_step HB.out hb); have BKgb := Aside0.mk hbox; have HGgb := Aside0.mk (show w.heap.size ≤ gb by rw [hggb]; exact HB.out.size); clear HB; have HB := n0_; clear n0_ hbox hb hggb))
  go_loopg [5] (p + 1) (fun kq v5 w' => ∃ q : Nat, q ≤ p ∧ kq = q + 1 ∧ v5 = .int .i64 q ∧ Aside0 (∀ j, q < j → j ≤ p → (L 0).getD j 0 = 7) ∧ Aside0 (w'.heap[gb]? = some (.cells (bkCells s A c L) 27 (0, 0))) ∧ Aside0 (Below w.heap.size w w'))
  case atStart => exact ⟨p, by omega, rfl, rfl, ⟨fun j h1 h2 => by omega⟩, BKgb, HB⟩
  case round =>
    clear HB BKgb
    obtain ⟨q, hq, rfl, rfl, HU, BKgb, HB⟩ := hrel
    have q0 : (0 : Int) ≤ (q : Int) := by omega
    have q1 : (q : Int) < ((L 0).length : Int) := by have := HP0.out; omega
    obtain ⟨ad, v, ea, hx, HV⟩ := at_v ((HR.out 0 (by omega)).below HB.out) q (by omega)
    have hc1 : wr.cell? ⟨gb, 1, none⟩ = some (.slice (some ad) (L 0).length (c 0)) := (blk_cell BKgb.out 1).trans (by rw [← ea]; rfl)
    have hz1 := blk_frozen BKgb.out 1
    by_cases hg : 0 < q ∧ v = 7
    · obtain ⟨hg0, hg7⟩ := hg
      have hg0' : (0 : Int) < (q : Int) := by omega
      have hv' : (v == 7) = true := by rw [hg7]; rfl
      have HZ : Aside0 (∀ j, q - 1 < j → j ≤ p → (L 0).getD j 0 = 7) := ⟨fun j h1 h2 => if e : q < j then HU.out j e h2 else (show q = j by omega) ▸ (by rw [HV.out, hg7])⟩
      clear hg7 ea
      go_wp2
      go_roundg (q - 1 + 1)
      case measure => omega
      case rel => exact ⟨q - 1, by omega, rfl, by rw [show ((q - 1 : Nat) : Int) = (q : Int) - 1 by omega], HZ, BKgb, HB⟩
    · have HQ : Aside0 (RestQ (L 0) p q) := ⟨⟨hq, HU.out, by rw [HV.out]; by_cases e : q = 0; exact Or.inl e; exact Or.inr (fun e7 => hg ⟨by omega, e7⟩)⟩⟩
      have HRP : Aside0 (RestP (L 0) (L 5) p ↔ (v > 8 ∧ wrap64 (wrap64 ((q : Int) + v) - 8) > (p : Int) ∧ FreeP (L 5) p 0)) := ⟨⟨fun ⟨q', h1, h2, h3, h4⟩ => by
        obtain rfl := HQ.out.one h1
        rw [HV.out] at h2 h3
        exact ⟨h2, h3, h4⟩, fun ⟨h2, h3, h4⟩ => ⟨q, HQ.out, by rw [HV.out]; exact h2, by rw [HV.out]; exact h3, h4⟩⟩⟩
      by_cases hq0 : q = 0
      · have hqz : (q : Int) ≤ 0 := by omega
        clear hg hq0
        by_cases hv : v > 8
        · by_cases ht : wrap64 (wrap64 ((q : Int) + v) - 8) > (p : Int)
          · have HF : Aside0 (RestP (L 0) (L 5) p ↔ FreeP (L 5) p 0) := ⟨by rw [HRP.out]; exact ⟨fun hh => hh.2.2, fun hh => ⟨hv, ht, hh⟩⟩⟩
            clear HRP
            have HE := Aside0.mk ea
            clear ea
            have fgbs0 : wr.cell? ⟨gb, 0, none⟩ = some (.int .i64 _) := (blk_cell BKgb.out 0).trans rfl; have fgb1 : wr.cell? ⟨gb, 1, none⟩ = some (.slice (A 0) (L 0).length (c 0)) := (blk_cell BKgb.out 1).trans rfl; have fgb2 : wr.cell? ⟨gb, 2, none⟩ = some (.slice (A 1) (L 1).length (c 1)) := (blk_cell BKgb.out 2).trans rfl; have fgb3 : wr.cell? ⟨gb, 3, none⟩ = some (.slice (A 2) (L 2).length (c 2)) := (blk_cell BKgb.out 3).trans rfl; have fgb4 : wr.cell? ⟨gb, 4, none⟩ = some (.slice (A 3) (L 3).length (c 3)) := (blk_cell BKgb.out 4).trans rfl; have fgb5 : wr.cell? ⟨gb, 5, none⟩ = some (.slice (A 4) (L 4).length (c 4)) := (blk_cell BKgb.out 5).trans rfl; have fgb6 : wr.cell? ⟨gb, 6, none⟩ = some (.slice (A 5) (L 5).length (c 5)) := (blk_cell BKgb.out 6).trans rfl; have fgb7 : wr.cell? ⟨gb, 7, none⟩ = some (.slice (A 6) (L 6).length (c 6)) := (blk_cell BKgb.out 7).trans rfl; have fgb8 : wr.cell? ⟨gb, 8, none⟩ = some (.slice (A 7) (L 7).length (c 7)) := (blk_cell BKgb.out 8).trans rfl; have fgbz0 := blk_frozen BKgb.out 0; have fgbz1 := blk_frozen BKgb.out 1; have fgbz2 := blk_frozen BKgb.out 2; have fgbz3 := blk_frozen BKgb.out 3; have fgbz4 := blk_frozen BKgb.out 4; have fgbz5 := blk_frozen BKgb.out 5; have fgbz6 := blk_frozen BKgb.out 6; have fgbz7 := blk_frozen BKgb.out 7; have fgbz8 := blk_frozen BKgb.out 8
            clear fgb1 fgbz1
            go_wp2_with fail
            rw [← HE.out]
            refine (l3Free_calls s A c L p 0 _ (HR.out.below HB.out) HP.out (HLn.out 5) (by omega)).mono ?_
            rintro e w3 ⟨r, rfl, hr, hb⟩
            have HB3 := Aside0.mk (below_step HB.out hb)
            have HRR := Aside0.mk hr
            clear hr hb
            go_wp2
            go_ret
            exact RetB.mk rfl (HRR.out.trans HF.out.symm) HB3.out
          · have HF : Aside0 (¬ RestP (L 0) (L 5) p) := ⟨fun hh => ht (HRP.out.mp hh).2.1⟩
            clear HRP
            go_wp2
            go_ret
            exact RetB.mk rfl (iff_f HF.out) HB.out
        · have HF : Aside0 (¬ RestP (L 0) (L 5) p) := ⟨fun hh => hv (HRP.out.mp hh).1⟩
          clear HRP
          go_wp2
          go_ret
          exact RetB.mk rfl (iff_f HF.out) HB.out
      · have hqz : (0 : Int) < (q : Int) := by omega
        have hv7 : (v == 7) = false := beq_eq_false_iff_ne.mpr (fun e7 => hg ⟨by omega, e7⟩)
        clear hg hq0
        by_cases hv : v > 8
        · by_cases ht : wrap64 (wrap64 ((q : Int) + v) - 8) > (p : Int)
          · have HF : Aside0 (RestP (L 0) (L 5) p ↔ FreeP (L 5) p 0) := ⟨by rw [HRP.out]; exact ⟨fun hh => hh.2.2, fun hh => ⟨hv, ht, hh⟩⟩⟩
            clear HRP
            have HE := Aside0.mk ea
            clear ea
            have fgbs0 : wr.cell? ⟨gb, 0, none⟩ = some (.int .i64 _) := (blk_cell BKgb.out 0).trans rfl; have fgb1 : wr.cell? ⟨gb, 1, none⟩ = some (.slice (A 0) (L 0).length (c 0)) := (blk_cell BKgb.out 1).trans rfl; have fgb2 : wr.cell? ⟨gb, 2, none⟩ = some (.slice (A 1) (L 1).length (c 1)) := (blk_cell BKgb.out 2).trans rfl; have fgb3 : wr.cell? ⟨gb, 3, none⟩ = some (.slice (A 2) (L 2).length (c 2)) := (blk_cell BKgb.out 3).trans rfl; have fgb4 : wr.cell? ⟨gb, 4, none⟩ = some (.slice (A 3) (L 3).length (c 3)) := (blk_cell BKgb.out 4).trans rfl; have fgb5 : wr.cell? ⟨gb, 5, none⟩ = some (.slice (A 4) (L 4).length (c 4)) := (blk_cell BKgb.out 5).trans rfl; have fgb6 : wr.cell? ⟨gb, 6, none⟩ = some (.slice (A 5) (L 5).length (c 5)) := (blk_cell BKgb.out 6).trans rfl; have fgb7 : wr.cell? ⟨gb, 7, none⟩ = some (.slice (A 6) (L 6).length (c 6)) := (blk_cell BKgb.out 7).trans rfl; have fgb8 : wr.cell? ⟨gb, 8, none⟩ = some (.slice (A 7) (L 7).length (c 7)) := (blk_cell BKgb.out 8).trans rfl; have fgbz0 := blk_frozen BKgb.out 0; have fgbz1 := blk_frozen BKgb.out 1; have fgbz2 := blk_frozen BKgb.out 2; have fgbz3 := blk_frozen BKgb.out 3; have fgbz4 := blk_frozen BKgb.out 4; have fgbz5 := blk_frozen BKgb.out 5; have fgbz6 := blk_frozen BKgb.out 6; have fgbz7 := blk_frozen BKgb.out 7; have fgbz8 := blk_frozen BKgb.out 8
            clear fgb1 fgbz1
            go_wp2_with fail
            rw [← HE.out]
            refine (l3Free_calls s A c L p 0 _ (HR.out.below HB.out) HP.out (HLn.out 5) (by omega)).mono ?_
            rintro e w3 ⟨r, rfl, hr, hb⟩
            have HB3 := Aside0.mk (below_step HB.out hb)
            have HRR := Aside0.mk hr
            clear hr hb
            go_wp2
            go_ret
            exact RetB.mk rfl (HRR.out.trans HF.out.symm) HB3.out
          · have HF : Aside0 (¬ RestP (L 0) (L 5) p) := ⟨fun hh => ht (HRP.out.mp hh).2.1⟩
            clear HRP
            go_wp2
            go_ret
            exact RetB.mk rfl (iff_f HF.out) HB.out
        · have HF : Aside0 (¬ RestP (L 0) (L 5) p) := ⟨fun hh => hv (HRP.out.mp hh).1⟩
          clear HRP
          go_wp2
          go_ret
          exact RetB.mk rfl (iff_f HF.out) HB.out
end Go.Proofs.Ytekneicikmaplaa.Bk

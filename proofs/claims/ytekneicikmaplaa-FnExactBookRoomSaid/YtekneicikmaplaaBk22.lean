/- The program's look at a page of a size class: a walk. -/
import Derived.Test.YtekneicikmaplaaBk21
import Derived.Test.YtekneicikmaplaaBk7
set_option linter.unusedVariables false
set_option linter.unusedSimpArgs false
namespace Go.Proofs.Ytekneicikmaplaa.Bk
open Go.RowKit Go.Proofs.YtekneicikmaplaaW.PrintWords Go.Proofs.YtekneicikmaplaaW.PrintLast Go.Proofs.YtekneicikmaplaaW.PrintMore

/-- Unit u of a page of size class k, as the program asks of it. -/
def KindU (O H : List Int) (z u : Nat) : Prop :=
  ¬ ((u % z = 0 ∧ (O.getD u 0 ≠ 0 ↔ cnt H (u : Int) > 0)) ∨ cnt H (u : Int) > 1 ∨ (¬ u % z = 0 ∧ O.getD u 0 ≠ 0))
def KindP (O H : List Int) (z p : Nat) : Prop := (∀ u, u < 8 → KindU O H z (p * 8 + u)) ∧ NzN O (p * 8) 8 > 0
set_option maxHeartbeats 4000000 in
set_option maxRecDepth 100000 in
theorem kindOk_calls (s : Int) (A : Nat → Option Addr) (c : Nat → Nat) (L : Nat → List Int) (p k : Nat) (w : World) (h : BkC w A c L) (hk : k < 4) (hv : (L 0).getD p 0 = (k : Int) + 1) (hp0 : p < (L 0).length) (hp : p * 8 + 8 ≤ (L 5).length) (hl : ∀ i, (L i).length ≤ 35184372088832) :
    Calls Try.prog 52 #[.agg (bkCells s A c L), .int .i64 (p : Int)] w (RetB (KindP (L 5) (L (k + 1)) (sizeN k) p) w) := by
  have HR := Aside0.mk h
  have HP := Aside0.mk hp
  have HLn := Aside0.mk hl
  have HB := Aside0.mk (Below.refl w.heap.size w)
  obtain ⟨ad0, v, ea0, hx0, HV⟩ := at_v (h 0 (by omega)) p hp0
  have p0 : (0 : Int) ≤ (p : Int) := by omega
  have p1 : (p : Int) < ((L 0).length : Int) := by omega
  have hp6 : (p : Int) ≤ 35184372088832 := by have := hl 5; omega
  obtain rfl : v = (k : Int) + 1 := by rw [← HV.out, hv]
  have hk4 : (k : Int) < 4 := by omega
  have hk0 : (0 : Int) ≤ (k : Int) := by omega
  clear h hl hp hp0 hv
  go_enter Try.func52, Try.ntmps52
  go_wp2_with (first | ((with_reducible refine gate_dst (N := 2) rfl ?_); refine box_event rfl (N := 2) rfl (cs := bkCells s A c L) (t := 27) (by first | (go_simp; done) | (go_simp; rfl)) ?_; intro gb hggb w1 hbox hb; have n0_ := Aside0.mk (below_step HB.out hb); have BKgb := Aside0.mk hbox; have HGgb := Aside0.mk (show w.heap.size ≤ gb by rw [hggb]; exact HB.out.size); clear HB; have HB := n0_; have hx1 := (hb.cell (World.block_lt_of_cell? _ _ hx0)).trans hx0; have fgbs0 : w1.cell? ⟨gb, 0, none⟩ = some (.int .i64 _) := (blk_cell BKgb.out 0).trans rfl; have fgb1 : w1.cell? ⟨gb, 1, none⟩ = some (.slice (A 0) (L 0).length (c 0)) := (blk_cell BKgb.out 1).trans rfl; have fgb2 : w1.cell? ⟨gb, 2, none⟩ = some (.slice (A 1) (L 1).length (c 1)) := (blk_cell BKgb.out 2).trans rfl; have fgb3 : w1.cell? ⟨gb, 3, none⟩ = some (.slice (A 2) (L 2).length (c 2)) := (blk_cell BKgb.out 3).trans rfl; have fgb4 : w1.cell? ⟨gb, 4, none⟩ = some (.slice (A 3) (L 3).length (c 3)) := (blk_cell BKgb.out 4).trans rfl; have fgb5 : w1.cell? ⟨gb, 5, none⟩ = some (.slice (A 4) (L 4).length (c 4)) := (blk_cell BKgb.out 5).trans rfl; have fgb6 : w1.cell? ⟨gb, 6, none⟩ = some (.slice (A 5) (L 5).length (c 5)) := (blk_cell BKgb.out 6).trans rfl; have fgb7 : w1.cell? ⟨gb, 7, none⟩ = some (.slice (A 6) (L 6).length (c 6)) := (blk_cell BKgb.out 7).trans rfl; have fgb8 : w1.cell? ⟨gb, 8, none⟩ = some (.slice (A 7) (L 7).length (c 7)) := (blk_cell BKgb.out 8).trans rfl; have fgbz0 := blk_frozen BKgb.out 0; have fgbz1 := blk_frozen BKgb.out 1; have fgbz2 := blk_frozen BKgb.out 2; have fgbz3 := blk_frozen BKgb.out 3; have fgbz4 := blk_frozen BKgb.out 4; have fgbz5 := blk_frozen BKgb.out 5; have fgbz6 := blk_frozen BKgb.out 6; have fgbz7 := blk_frozen BKgb.out 7; have fgbz8 := blk_frozen BKgb.out 8; rw [ea0] at fgb1; clear ea0; clear n0_ hbox hb hggb))
  go_loopg [7, 8] 9 (fun kq v7 v8 w' => ∃ u : Nat, u ≤ 8 ∧ kq = 9 - u ∧ v7 = .int .i64 ((p : Int) * 8 + (u : Int)) ∧ Aside0 (∀ j, j < u → KindU (L 5) (L (k + 1)) (sizeN k) (p * 8 + j)) ∧ Aside0 (w'.heap[gb]? = some (.cells (bkCells s A c L) 27 (0, 0))) ∧ Aside0 (Below w.heap.size w w'))
  case atStart => exact ⟨0, by omega, rfl, by simp, ⟨fun j h1 => by omega⟩, BKgb, HB⟩
  case round =>
    clear HB BKgb fgbs0 fgbz0 fgb1 fgbz1 fgb2 fgbz2 fgb3 fgbz3 fgb4 fgbz4 fgb5 fgbz5 fgb6 fgbz6 fgb7 fgbz7 fgb8 fgbz8 hx0 hx1
    obtain ⟨u, hu, rfl, rfl, HU, BKgb, HB⟩ := hrel
    by_cases hlt : u < 8
    · have hi : (p : Int) * 8 + (u : Int) < (p : Int) * 8 + 8 := by omega
      have hck : wr.cell? ⟨gb, 2 + k, none⟩ = some (.slice (A (k + 1)) (L (k + 1)).length (c (k + 1))) := (blk_cell BKgb.out (2 + k)).trans (by match k, hk with | 0, _ => rfl | 1, _ => rfl | 2, _ => rfl | 3, _ => rfl)
      have hzk := blk_frozen BKgb.out (2 + k)
      go_wp2
      obtain ⟨wo, rfl⟩ : ∃ wo : World, wo = wr := ⟨_, rfl⟩
      have hlk : ((L (k + 1)).length : Int) ≤ 35184372088832 := by have := HLn.out (k + 1); omega
      go_loopg [8, 32] ((L (k + 1)).length + 1) (fun kq v8 v32 w' => ∃ i n : Nat, i ≤ (L (k + 1)).length ∧ kq = (L (k + 1)).length + 1 - i ∧ n ≤ i ∧ v8 = .int .i64 n ∧ v32 = .int .i64 i ∧ Aside0 (n = cnt ((L (k + 1)).take i) ((p : Int) * 8 + (u : Int))) ∧ wo = w')
      case atStart => exact ⟨0, 0, by omega, rfl, by omega, rfl, rfl, ⟨by simp [cnt]⟩, rfl⟩
      case round =>
        obtain ⟨i, n, hil, rfl, hni, rfl, rfl, HN, rfl⟩ := hrel
        have hn64 : (n : Int) ≤ 35184372088832 := by omega
        by_cases hlti : i < (L (k + 1)).length
        · have i0 : (0 : Int) ≤ (i : Int) := by omega
          have i1 : (i : Int) < ((L (k + 1)).length : Int) := by omega
          obtain ⟨adk, a, eak, hxk, HA⟩ := at_v ((HR.out (k + 1) (by omega)).below HB.out) i hlti
          have HS := Aside0.mk (cnt_succ (L (k + 1)) ((p : Int) * 8 + (u : Int)) i hlti)
          by_cases e : a = (p : Int) * 8 + (u : Int)
          · have HS2 : Aside0 (n + 1 = cnt ((L (k + 1)).take (i + 1)) ((p : Int) * 8 + (u : Int))) := ⟨by rw [HS.out, HN.out, HA.out, if_pos e]⟩
            have eb : (a == (p : Int) * 8 + (u : Int)) = true := beq_iff_eq.mpr e
            clear e
            go_wp2
            go_roundg ((L (k + 1)).length + 1 - (i + 1))
            case measure => omega
            case rel => exact ⟨i + 1, n + 1, by omega, rfl, by omega, by go_num, by go_num, HS2, rfl⟩
          · have HS2 : Aside0 (n = cnt ((L (k + 1)).take (i + 1)) ((p : Int) * 8 + (u : Int))) := ⟨by rw [HS.out, HN.out, HA.out, if_neg e]; rfl⟩
            have eb : (a == (p : Int) * 8 + (u : Int)) = false := beq_eq_false_iff_ne.mpr e
            clear e
            go_wp2
            go_roundg ((L (k + 1)).length + 1 - (i + 1))
            case measure => omega
            case rel => exact ⟨i + 1, n, by omega, rfl, by omega, rfl, by go_num, HS2, rfl⟩
        · have HC : Aside0 (cnt (L (k + 1)) ((p : Int) * 8 + (u : Int)) = n) := ⟨by rw [HN.out, show i = (L (k + 1)).length by omega, List.take_length]⟩
          have hni' : ¬ (i : Int) < ((L (k + 1)).length : Int) := by omega
          have U0 : (0 : Int) ≤ (p : Int) * 8 + (u : Int) := by omega
          have U1 : (p : Int) * 8 + (u : Int) < ((L 5).length : Int) := by have := HP.out; omega
          obtain ⟨ad5, o, ea5, hx5, HO⟩ := at_v ((HR.out 5 (by omega)).below HB.out) (p * 8 + u) (by have := HP.out; omega)
          have hc6 : wo.cell? ⟨gb, 6, none⟩ = some (.slice (some ad5) (L 5).length (c 5)) := (blk_cell BKgb.out 6).trans (by rw [← ea5]; rfl)
          have hz6 := blk_frozen BKgb.out 6
          clear ea5 HN
          go_wp2_with fail
          refine (unitsOf_calls k hk _).mono ?_
          rintro e w2 ⟨rfl, rfl⟩
          obtain ⟨z, hz⟩ : ∃ z : Nat, sizeN k = z := ⟨_, rfl⟩
          have HZ := Aside0.mk hz
          have z0 : (0 : Int) < (z : Int) := by have := sizeN_pos k; omega
          rw [hz]
          clear hz
          have hzb : ((z : Int) == 0) = false := by rw [beq_eq_false_iff_ne]; omega
          have HKU : Aside0 (KindU (L 5) (L (k + 1)) (sizeN k) (p * 8 + u) ↔ ¬ (((p * 8 + u) % z = 0 ∧ (o ≠ 0 ↔ n > 0)) ∨ n > 1 ∨ (¬ (p * 8 + u) % z = 0 ∧ o ≠ 0))) := ⟨by unfold KindU; rw [HZ.out, HO.out, show ((p * 8 + u : Nat) : Int) = (p : Int) * 8 + (u : Int) by omega, HC.out]⟩
          by_cases hm : (p * 8 + u) % z = 0
          · have HM := Aside0.mk hm
            have hmb : (((p : Int) * 8 + (u : Int)) % (z : Int) == 0) = true := by
              rw [beq_iff_eq, show (p : Int) * 8 + (u : Int) = ((p * 8 + u : Nat) : Int) by omega, show ((p * 8 + u : Nat) : Int) % (z : Int) = (((p * 8 + u) % z : Nat) : Int) from rfl, hm]
              rfl
            clear hm
            by_cases ho : o = 0
            · have HO0 := Aside0.mk ho
              have hob : (o != 0) = false := by rw [ho]; rfl
              clear ho
              by_cases hn : 0 < n
              · have hn' : (0 : Int) < (n : Int) := by omega
                by_cases hn1 : 1 < n
                · have hn1' : (1 : Int) < (n : Int) := by omega
                  have HF : Aside0 (¬ KindP (L 5) (L (k + 1)) (sizeN k) p) := ⟨fun hh => (HKU.out.mp (hh.1 u hlt)) (Or.inr (Or.inl hn1))⟩
                  go_wp2
                  go_ret
                  exact RetB.mk rfl (iff_f HF.out) HB.out
                · have hn1' : ¬ (1 : Int) < (n : Int) := by omega
                  have HU2 : Aside0 (∀ j, j < u + 1 → KindU (L 5) (L (k + 1)) (sizeN k) (p * 8 + j)) := ⟨fun j hj => if q : j < u then HU.out j q else (show u = j by omega) ▸ HKU.out.mpr (fun q => q.elim (fun q => absurd (q.2.mpr hn) (by simp [HO0.out])) (fun q => q.elim (fun q => by omega) (fun q => q.1 HM.out)))⟩
                  go_wp2
                  go_roundg (9 - (u + 1))
                  case measure => omega
                  case rel => exact ⟨u + 1, by omega, rfl, by (rw [show ((u + 1 : Nat) : Int) = (u : Int) + 1 by omega, ← Int.add_assoc]), HU2, BKgb, HB⟩
              · have hn' : ¬ (0 : Int) < (n : Int) := by omega
                have HF : Aside0 (¬ KindP (L 5) (L (k + 1)) (sizeN k) p) := ⟨fun hh => (HKU.out.mp (hh.1 u hlt)) (Or.inl ⟨HM.out, ⟨fun q => absurd HO0.out q, fun q => absurd q (by omega)⟩⟩)⟩
                go_wp2
                go_ret
                exact RetB.mk rfl (iff_f HF.out) HB.out
            · have HO0 := Aside0.mk ho
              have hob : (o != 0) = true := bne_iff_ne.mpr ho
              clear ho
              by_cases hn : 0 < n
              · have hn' : (0 : Int) < (n : Int) := by omega
                have HF : Aside0 (¬ KindP (L 5) (L (k + 1)) (sizeN k) p) := ⟨fun hh => (HKU.out.mp (hh.1 u hlt)) (Or.inl ⟨HM.out, ⟨fun _ => hn, fun _ => HO0.out⟩⟩)⟩
                go_wp2
                go_ret
                exact RetB.mk rfl (iff_f HF.out) HB.out
              · have hn' : ¬ (0 : Int) < (n : Int) := by omega
                have hn1' : ¬ (1 : Int) < (n : Int) := by omega
                have hn1 : ¬ 1 < n := by omega
                have HU2 : Aside0 (∀ j, j < u + 1 → KindU (L 5) (L (k + 1)) (sizeN k) (p * 8 + j)) := ⟨fun j hj => if q : j < u then HU.out j q else (show u = j by omega) ▸ HKU.out.mpr (fun q => q.elim (fun q => by have := q.2.mp HO0.out; omega) (fun q => q.elim (fun q => by omega) (fun q => q.1 HM.out)))⟩
                go_wp2
                go_roundg (9 - (u + 1))
                case measure => omega
                case rel => exact ⟨u + 1, by omega, rfl, by (rw [show ((u + 1 : Nat) : Int) = (u : Int) + 1 by omega, ← Int.add_assoc]), HU2, BKgb, HB⟩
          · have HM := Aside0.mk hm
            have hmb : (((p : Int) * 8 + (u : Int)) % (z : Int) == 0) = false := by
              rw [beq_eq_false_iff_ne]
              intro hh
              have h3 : (((p * 8 + u) % z : Nat) : Int) = 0 := by
                rw [show (((p * 8 + u) % z : Nat) : Int) = ((p * 8 + u : Nat) : Int) % (z : Int) from rfl, show ((p * 8 + u : Nat) : Int) = (p : Int) * 8 + (u : Int) by omega]
                exact hh
              omega
            clear hm
            by_cases hn1 : 1 < n
            · have hn1' : (1 : Int) < (n : Int) := by omega
              have HF : Aside0 (¬ KindP (L 5) (L (k + 1)) (sizeN k) p) := ⟨fun hh => (HKU.out.mp (hh.1 u hlt)) (Or.inr (Or.inl hn1))⟩
              go_wp2
              go_ret
              exact RetB.mk rfl (iff_f HF.out) HB.out
            · have hn1' : ¬ (1 : Int) < (n : Int) := by omega
              by_cases ho : o = 0
              · have HO0 := Aside0.mk ho
                have hob : (o != 0) = false := by rw [ho]; rfl
                clear ho
                have HU2 : Aside0 (∀ j, j < u + 1 → KindU (L 5) (L (k + 1)) (sizeN k) (p * 8 + j)) := ⟨fun j hj => if q : j < u then HU.out j q else (show u = j by omega) ▸ HKU.out.mpr (fun q => q.elim (fun q => HM.out q.1) (fun q => q.elim (fun q => by omega) (fun q => q.2 HO0.out)))⟩
                go_wp2
                go_roundg (9 - (u + 1))
                case measure => omega
                case rel => exact ⟨u + 1, by omega, rfl, by (rw [show ((u + 1 : Nat) : Int) = (u : Int) + 1 by omega, ← Int.add_assoc]), HU2, BKgb, HB⟩
              · have HO0 := Aside0.mk ho
                have hob : (o != 0) = true := bne_iff_ne.mpr ho
                clear ho
                have HF : Aside0 (¬ KindP (L 5) (L (k + 1)) (sizeN k) p) := ⟨fun hh => (HKU.out.mp (hh.1 u hlt)) (Or.inr (Or.inr ⟨HM.out, HO0.out⟩))⟩
                go_wp2
                go_ret
                exact RetB.mk rfl (iff_f HF.out) HB.out
    · have hi : ¬ (p : Int) * 8 + (u : Int) < (p : Int) * 8 + 8 := by omega
      have fgbs0 : wr.cell? ⟨gb, 0, none⟩ = some (.int .i64 _) := (blk_cell BKgb.out 0).trans rfl; have fgb1 : wr.cell? ⟨gb, 1, none⟩ = some (.slice (A 0) (L 0).length (c 0)) := (blk_cell BKgb.out 1).trans rfl; have fgb2 : wr.cell? ⟨gb, 2, none⟩ = some (.slice (A 1) (L 1).length (c 1)) := (blk_cell BKgb.out 2).trans rfl; have fgb3 : wr.cell? ⟨gb, 3, none⟩ = some (.slice (A 2) (L 2).length (c 2)) := (blk_cell BKgb.out 3).trans rfl; have fgb4 : wr.cell? ⟨gb, 4, none⟩ = some (.slice (A 3) (L 3).length (c 3)) := (blk_cell BKgb.out 4).trans rfl; have fgb5 : wr.cell? ⟨gb, 5, none⟩ = some (.slice (A 4) (L 4).length (c 4)) := (blk_cell BKgb.out 5).trans rfl; have fgb6 : wr.cell? ⟨gb, 6, none⟩ = some (.slice (A 5) (L 5).length (c 5)) := (blk_cell BKgb.out 6).trans rfl; have fgb7 : wr.cell? ⟨gb, 7, none⟩ = some (.slice (A 6) (L 6).length (c 6)) := (blk_cell BKgb.out 7).trans rfl; have fgb8 : wr.cell? ⟨gb, 8, none⟩ = some (.slice (A 7) (L 7).length (c 7)) := (blk_cell BKgb.out 8).trans rfl; have fgbz0 := blk_frozen BKgb.out 0; have fgbz1 := blk_frozen BKgb.out 1; have fgbz2 := blk_frozen BKgb.out 2; have fgbz3 := blk_frozen BKgb.out 3; have fgbz4 := blk_frozen BKgb.out 4; have fgbz5 := blk_frozen BKgb.out 5; have fgbz6 := blk_frozen BKgb.out 6; have fgbz7 := blk_frozen BKgb.out 7; have fgbz8 := blk_frozen BKgb.out 8
      go_wp2_with fail
      refine (owned_calls s A c L _ _ (p * 8) 8 _ (HR.out.below HB.out) (by omega) (by omega) (by omega) HP.out (HLn.out 5)).mono ?_
      rintro e w3 ⟨rfl, hb⟩
      obtain ⟨m, hm⟩ : ∃ m, NzN (L 5) (p * 8) 8 = m := ⟨_, rfl⟩
      have HM := Aside0.mk hm
      rw [hm]
      have HB3 := Aside0.mk (below_step HB.out hb)
      clear hm hb
      by_cases h0 : 0 < m
      · have h0' : (0 : Int) < (m : Int) := by omega
        have HF : Aside0 (KindP (L 5) (L (k + 1)) (sizeN k) p) := ⟨⟨fun j hj => HU.out j (by omega), by rw [HM.out]; exact h0⟩⟩
        go_wp2
        go_ret
        exact RetB.mk rfl (iff_t HF.out) HB3.out
      · have h0' : ¬ (0 : Int) < (m : Int) := by omega
        have HF : Aside0 (¬ KindP (L 5) (L (k + 1)) (sizeN k) p) := ⟨fun hh => by have := hh.2; rw [HM.out] at this; omega⟩
        go_wp2
        go_ret
        exact RetB.mk rfl (iff_f HF.out) HB3.out
end Go.Proofs.Ytekneicikmaplaa.Bk

/- The program's BookOk: a walk. -/
import Derived.Test.YtekneicikmaplaaBk22
import Derived.Test.YtekneicikmaplaaBk23
set_option linter.unusedVariables false
set_option linter.unusedSimpArgs false
namespace Go.Proofs.Ytekneicikmaplaa.Bk
open Go.RowKit Go.Proofs.YtekneicikmaplaaW.PrintWords Go.Proofs.YtekneicikmaplaaW.PrintLast Go.Proofs.YtekneicikmaplaaW.PrintMore

/-- From page p on the pages are right, as the program looks at them. -/
inductive PF (L : Nat → List Int) : Nat → Prop
  | done {p : Nat} (hp : (L 0).length ≤ p) : PF L p
  | empty {p : Nat} (hp : p < (L 0).length) (hv : (L 0).getD p 0 = 0) (hz : NzN (L 5) (p * 8) 8 = 0) (next : PF L (p + 1)) : PF L p
  | kind {p : Nat} (k : Nat) (hp : p < (L 0).length) (hk : k < 4) (hv : (L 0).getD p 0 = (k : Int) + 1) (hK : KindP (L 5) (L (k + 1)) (sizeN k) p) (next : PF L (p + 1)) : PF L p
  | wide {p : Nat} (n : Nat) (hp : p < (L 0).length) (hn : 2 ≤ n ∧ n ≤ 4) (hv : (L 0).getD p 0 = (n : Int) + 8) (hl : p + n ≤ (L 0).length) (h0 : (L 5).getD (p * 8) 0 ≠ 0) (h1 : NzN (L 5) (p * 8) (n * 8) = 1) (hr : ∀ i, 1 ≤ i → i < n → (L 0).getD (p + i) 0 = 7) (next : PF L (p + n)) : PF L p
theorem PF_empty {L : Nat → List Int} {p : Nat} (hp : p < (L 0).length) (hv : (L 0).getD p 0 = 0) : PF L p ↔ (NzN (L 5) (p * 8) 8 = 0 ∧ PF L (p + 1)) := by
  constructor
  · intro h
    cases h with
    | done h => omega
    | empty _ _ hz nx => exact ⟨hz, nx⟩
    | kind k _ hk hv' _ _ => omega
    | wide n _ hn hv' _ _ _ _ _ => omega
  · rintro ⟨a, b⟩; exact .empty hp hv a b
theorem PF_kind {L : Nat → List Int} {p k : Nat} (hp : p < (L 0).length) (hk : k < 4) (hv : (L 0).getD p 0 = (k : Int) + 1) : PF L p ↔ (KindP (L 5) (L (k + 1)) (sizeN k) p ∧ PF L (p + 1)) := by
  constructor
  · intro h
    cases h with
    | done h => omega
    | empty _ hv' _ _ => omega
    | kind k' _ hk' hv' hK nx => obtain rfl : k' = k := by omega
                                 exact ⟨hK, nx⟩
    | wide n _ hn hv' _ _ _ _ _ => omega
  · rintro ⟨a, b⟩; exact .kind k hp hk hv a b
theorem PF_wide {L : Nat → List Int} {p : Nat} (hp : p < (L 0).length) (h0 : ¬ (L 0).getD p 0 = 0) (h4 : ¬ (1 ≤ (L 0).getD p 0 ∧ (L 0).getD p 0 ≤ 4)) : PF L p ↔ ∃ n : Nat, (2 ≤ n ∧ n ≤ 4) ∧ (L 0).getD p 0 = (n : Int) + 8 ∧ p + n ≤ (L 0).length ∧ (L 5).getD (p * 8) 0 ≠ 0 ∧ NzN (L 5) (p * 8) (n * 8) = 1 ∧ (∀ i, 1 ≤ i → i < n → (L 0).getD (p + i) 0 = 7) ∧ PF L (p + n) := by
  constructor
  · intro h
    cases h with
    | done h => omega
    | empty _ hv' _ _ => exact absurd hv' h0
    | kind k' _ hk' hv' hK nx => omega
    | wide n _ hn hv' a b c d nx => exact ⟨n, hn, hv', a, b, c, d, nx⟩
  · rintro ⟨n, hn, hv', a, b, c, d, nx⟩; exact .wide n hp hn hv' a b c d nx
set_option maxHeartbeats 8000000 in
set_option maxRecDepth 100000 in
theorem implBookOk_calls (s : Int) (A : Nat → Option Addr) (c : Nat → Nat) (L : Nat → List Int) (w : World) (h : BkC w A c L) (hl : ∀ i, (L i).length ≤ 35184372088832) (hw0 : Wf64 (L 0)) (hw5 : Wf64 (L 5)) :
    Calls Try.prog 22 #[.agg (bkCells s A c L)] w (RetB ((SlotsP s L ∧ ListsP L) ∧ PF L 0) w) := by
  have HR := Aside0.mk h
  have HL := Aside0.mk hl
  have HW0 := Aside0.mk hw0
  have HW5 := Aside0.mk hw5
  have hl0 : ((L 0).length : Int) ≤ 35184372088832 := by have := hl 0; omega
  have hl5 : ((L 5).length : Int) ≤ 35184372088832 := by have := hl 5; omega
  clear h hl hw0 hw5
  have HB := Aside0.mk (Below.refl w.heap.size w)
  go_enter Try.func22, Try.ntmps22
  go_wp2_with (first | ((with_reducible refine gate_dst (N := 1) rfl ?_); refine box_event rfl (N := 1) rfl (cs := bkCells s A c L) (t := 27) (by first | (go_simp; done) | (go_simp; rfl)) ?_; intro gb hggb w1 hbox hb; have n0_ := Aside0.mk (below_step HB.out hb); have BKgb := Aside0.mk hbox; have HGgb := Aside0.mk (show w.heap.size ≤ gb by rw [hggb]; exact HB.out.size); clear HB; have HB := n0_; have fgbs0 : w1.cell? ⟨gb, 0, none⟩ = some (.int .i64 _) := (blk_cell BKgb.out 0).trans rfl; have fgb1 : w1.cell? ⟨gb, 1, none⟩ = some (.slice (A 0) (L 0).length (c 0)) := (blk_cell BKgb.out 1).trans rfl; have fgb2 : w1.cell? ⟨gb, 2, none⟩ = some (.slice (A 1) (L 1).length (c 1)) := (blk_cell BKgb.out 2).trans rfl; have fgb3 : w1.cell? ⟨gb, 3, none⟩ = some (.slice (A 2) (L 2).length (c 2)) := (blk_cell BKgb.out 3).trans rfl; have fgb4 : w1.cell? ⟨gb, 4, none⟩ = some (.slice (A 3) (L 3).length (c 3)) := (blk_cell BKgb.out 4).trans rfl; have fgb5 : w1.cell? ⟨gb, 5, none⟩ = some (.slice (A 4) (L 4).length (c 4)) := (blk_cell BKgb.out 5).trans rfl; have fgb6 : w1.cell? ⟨gb, 6, none⟩ = some (.slice (A 5) (L 5).length (c 5)) := (blk_cell BKgb.out 6).trans rfl; have fgb7 : w1.cell? ⟨gb, 7, none⟩ = some (.slice (A 6) (L 6).length (c 6)) := (blk_cell BKgb.out 7).trans rfl; have fgb8 : w1.cell? ⟨gb, 8, none⟩ = some (.slice (A 7) (L 7).length (c 7)) := (blk_cell BKgb.out 8).trans rfl; have fgbz0 := blk_frozen BKgb.out 0; have fgbz1 := blk_frozen BKgb.out 1; have fgbz2 := blk_frozen BKgb.out 2; have fgbz3 := blk_frozen BKgb.out 3; have fgbz4 := blk_frozen BKgb.out 4; have fgbz5 := blk_frozen BKgb.out 5; have fgbz6 := blk_frozen BKgb.out 6; have fgbz7 := blk_frozen BKgb.out 7; have fgbz8 := blk_frozen BKgb.out 8; clear n0_ hbox hb hggb))
  refine (shapeOk_calls s A c L _ (HR.out.below HB.out) HL.out HW5.out).mono ?_
  rintro e w3 ⟨r, rfl, hr, hb⟩
  have HB3 := Aside0.mk (below_step HB.out hb)
  have BK3 := Aside0.mk (blk_below BKgb.out hb)
  clear HB BKgb hb
  clear fgbs0 fgbz0 fgb1 fgbz1 fgb2 fgbz2 fgb3 fgbz3 fgb4 fgbz4 fgb5 fgbz5 fgb6 fgbz6 fgb7 fgbz7 fgb8 fgbz8
  cases r with
  | false =>
    have HF : Aside0 (¬ ((SlotsP s L ∧ ListsP L) ∧ PF L 0)) := ⟨fun hh => by have := hr.mpr hh.1; cases this⟩
    clear hr
    go_wp2
    go_ret
    exact RetB.mk rfl (iff_f HF.out) HB3.out
  | true =>
    have HS := Aside0.mk (hr.mp rfl)
    have H05 : Aside0 ((L 5).length = (L 0).length * 8) := ⟨by have := HS.out.1.1.2.2.2.2.2.2; omega⟩
    clear hr
    go_wp2
    go_loopg [3] ((L 0).length + 1) (fun kq v3 w' => ∃ p : Nat, p ≤ (L 0).length ∧ kq = (L 0).length + 1 - p ∧ v3 = .int .i64 p ∧ Aside0 (PF L 0 ↔ PF L p) ∧ Aside0 (w'.heap[gb]? = some (.cells (bkCells s A c L) 27 (0, 0))) ∧ Aside0 (Below w.heap.size w w'))
    case atStart => exact ⟨0, by omega, rfl, rfl, ⟨Iff.rfl⟩, BK3, HB3⟩
    case round =>
      clear HB3 BK3
      obtain ⟨p, hp, rfl, rfl, HU, BKgb, HB⟩ := hrel
      by_cases hlt : p < (L 0).length
      · have p0 : (0 : Int) ≤ (p : Int) := by omega
        have p1 : (p : Int) < ((L 0).length : Int) := by omega
        have hp8 : p * 8 + 8 ≤ (L 5).length := by have := H05.out; omega
        obtain ⟨ad0, v, ea0, hx0, HV⟩ := at_v ((HR.out 0 (by omega)).below HB.out) p hlt
        have HE0 := Aside0.mk ea0
        have fgbs0 : wr.cell? ⟨gb, 0, none⟩ = some (.int .i64 _) := (blk_cell BKgb.out 0).trans rfl; have fgb1 : wr.cell? ⟨gb, 1, none⟩ = some (.slice (A 0) (L 0).length (c 0)) := (blk_cell BKgb.out 1).trans rfl; have fgb2 : wr.cell? ⟨gb, 2, none⟩ = some (.slice (A 1) (L 1).length (c 1)) := (blk_cell BKgb.out 2).trans rfl; have fgb3 : wr.cell? ⟨gb, 3, none⟩ = some (.slice (A 2) (L 2).length (c 2)) := (blk_cell BKgb.out 3).trans rfl; have fgb4 : wr.cell? ⟨gb, 4, none⟩ = some (.slice (A 3) (L 3).length (c 3)) := (blk_cell BKgb.out 4).trans rfl; have fgb5 : wr.cell? ⟨gb, 5, none⟩ = some (.slice (A 4) (L 4).length (c 4)) := (blk_cell BKgb.out 5).trans rfl; have fgb6 : wr.cell? ⟨gb, 6, none⟩ = some (.slice (A 5) (L 5).length (c 5)) := (blk_cell BKgb.out 6).trans rfl; have fgb7 : wr.cell? ⟨gb, 7, none⟩ = some (.slice (A 6) (L 6).length (c 6)) := (blk_cell BKgb.out 7).trans rfl; have fgb8 : wr.cell? ⟨gb, 8, none⟩ = some (.slice (A 7) (L 7).length (c 7)) := (blk_cell BKgb.out 8).trans rfl; have fgbz0 := blk_frozen BKgb.out 0; have fgbz1 := blk_frozen BKgb.out 1; have fgbz2 := blk_frozen BKgb.out 2; have fgbz3 := blk_frozen BKgb.out 3; have fgbz4 := blk_frozen BKgb.out 4; have fgbz5 := blk_frozen BKgb.out 5; have fgbz6 := blk_frozen BKgb.out 6; have fgbz7 := blk_frozen BKgb.out 7; have fgbz8 := blk_frozen BKgb.out 8
        rw [ea0] at fgb1
        clear ea0
        by_cases h0 : v = 0
        · have HP := Aside0.mk (PF_empty hlt (by rw [HV.out]; exact h0))
          have h0b : (v == 0) = true := by rw [h0]; rfl
          clear h0
          go_wp2_with fail
          rw [← HE0.out]
          refine (owned_calls s A c L _ _ (p * 8) 8 _ (HR.out.below HB.out) (by omega) (by omega) (by omega) hp8 (HL.out 5)).mono ?_
          rintro e w4 ⟨rfl, hb⟩
          obtain ⟨m, hm⟩ : ∃ m, NzN (L 5) (p * 8) 8 = m := ⟨_, rfl⟩
          have HM := Aside0.mk hm
          rw [hm]
          have HB4 := Aside0.mk (below_step HB.out hb)
          have BK4 := Aside0.mk (blk_below BKgb.out hb)
          clear hm hb HB BKgb hx0
          clear fgbs0 fgbz0 fgb1 fgbz1 fgb2 fgbz2 fgb3 fgbz3 fgb4 fgbz4 fgb5 fgbz5 fgb6 fgbz6 fgb7 fgbz7 fgb8 fgbz8
          by_cases g : 0 < m
          · have g' : (0 : Int) < (m : Int) := by omega
            have HF : Aside0 (¬ ((SlotsP s L ∧ ListsP L) ∧ PF L 0)) := ⟨fun hh => by have := (HP.out.mp (HU.out.mp hh.2)).1; rw [HM.out] at this; omega⟩
            go_wp2
            go_ret
            exact RetB.mk rfl (iff_f HF.out) HB4.out
          · have g' : ¬ (0 : Int) < (m : Int) := by omega
            have HU2 : Aside0 (PF L 0 ↔ PF L (p + 1)) := ⟨HU.out.trans (HP.out.trans ⟨fun q => q.2, fun q => ⟨by rw [HM.out]; omega, q⟩⟩)⟩
            go_wp2
            go_roundg ((L 0).length + 1 - (p + 1))
            case measure => omega
            case rel => exact ⟨p + 1, by omega, rfl, by go_num, HU2, BK4, HB4⟩
        have H0 := Aside0.mk h0
        have h0b : (v == 0) = false := beq_eq_false_iff_ne.mpr h0
        clear h0
        by_cases h4 : 1 ≤ v ∧ v ≤ 4
        · have h4b : withinB v 1 4 = true := within_t.mpr h4
          obtain ⟨k, hk⟩ : ∃ k : Nat, v = (k : Int) + 1 := ⟨(v - 1).toNat, by omega⟩
          have hk4 : k < 4 := by omega
          have HK := Aside0.mk hk
          have HP := Aside0.mk (PF_kind (L := L) (k := k) hlt hk4 (by rw [HV.out]; exact hk))
          clear h4 hk
          go_wp2_with (first | (go_at_call 51; refine (isKind_calls _ _).mono ?_; rintro e w' ⟨rfl, rfl⟩))
          rw [← HE0.out]
          refine (kindOk_calls s A c L p k _ (HR.out.below HB.out) hk4 (by rw [HV.out]; exact HK.out) hlt hp8 HL.out).mono ?_
          rintro e w4 ⟨r, rfl, hr, hb⟩
          have HB4 := Aside0.mk (below_step HB.out hb)
          have BK4 := Aside0.mk (blk_below BKgb.out hb)
          clear hb HB BKgb hx0
          clear fgbs0 fgbz0 fgb1 fgbz1 fgb2 fgbz2 fgb3 fgbz3 fgb4 fgbz4 fgb5 fgbz5 fgb6 fgbz6 fgb7 fgbz7 fgb8 fgbz8
          cases r with
          | false =>
            have HF : Aside0 (¬ ((SlotsP s L ∧ ListsP L) ∧ PF L 0)) := ⟨fun hh => by have := hr.mpr (HP.out.mp (HU.out.mp hh.2)).1; cases this⟩
            clear hr
            go_wp2
            go_ret
            exact RetB.mk rfl (iff_f HF.out) HB4.out
          | true =>
            have HU2 : Aside0 (PF L 0 ↔ PF L (p + 1)) := ⟨HU.out.trans (HP.out.trans ⟨fun q => q.2, fun q => ⟨hr.mp rfl, q⟩⟩)⟩
            clear hr
            go_wp2
            go_roundg ((L 0).length + 1 - (p + 1))
            case measure => omega
            case rel => exact ⟨p + 1, by omega, rfl, by go_num, HU2, BK4, HB4⟩
        have h4b : withinB v 1 4 = false := within_f h4
        have HP := Aside0.mk (PF_wide (L := L) hlt (by rw [HV.out]; exact H0.out) (by rw [HV.out]; exact h4))
        clear h4
        obtain ⟨n, hn⟩ : ∃ n, wrap64 (v - 8) = n := ⟨_, rfl⟩
        have HN : Aside0 (n = v - 8 ∨ (v - 8 < 2 ∧ 4 < n)) := ⟨wrap_sub8 (by rw [← HV.out]; exact (HW0.out p).1) (by rw [← HV.out]; exact (HW0.out p).2) hn⟩
        by_cases g1 : 2 ≤ n ∧ n ≤ 4
        rotate_left
        · have HF : Aside0 (¬ ((SlotsP s L ∧ ListsP L) ∧ PF L 0)) := ⟨fun hh => by
            obtain ⟨m, hm, hv, _⟩ := HP.out.mp (HU.out.mp hh.2)
            rw [HV.out] at hv
            have := HN.out
            omega⟩
          have g1b : withinB n 2 4 = false := within_f g1
          clear g1
          go_wp2_with (first | (go_at_call 51; refine (isKind_calls _ _).mono ?_; rintro e w' ⟨rfl, rfl⟩) | (go_at_call 53; refine (within_calls _ _ _ _).mono ?_; rintro e w' ⟨rfl, rfl⟩))
          go_ret
          exact RetB.mk rfl (iff_f HF.out) HB.out
        have g1b : withinB n 2 4 = true := within_t.mpr g1
        obtain ⟨g11, g12⟩ := g1
        have HVN : Aside0 (v = n + 8) := ⟨by have := HN.out; omega⟩
        obtain ⟨m, hm⟩ : ∃ m : Nat, n = (m : Int) := ⟨n.toNat, by omega⟩
        have HM := Aside0.mk hm
        clear HN hm
        have HPW : Aside0 (PF L p ↔ (p + m ≤ (L 0).length ∧ (L 5).getD (p * 8) 0 ≠ 0 ∧ NzN (L 5) (p * 8) (m * 8) = 1 ∧ (∀ i, 1 ≤ i → i < m → (L 0).getD (p + i) 0 = 7) ∧ PF L (p + m))) := ⟨by
          rw [HP.out, HV.out]
          have := HVN.out
          have := HM.out
          constructor
          · rintro ⟨m', _, hv, q⟩
            obtain rfl : m' = m := by omega
            exact q
          · intro q
            exact ⟨m, by omega, by omega, q⟩⟩
        clear HP
        by_cases g2 : n > ((L 0).length : Int) - (p : Int)
        · have HF : Aside0 (¬ ((SlotsP s L ∧ ListsP L) ∧ PF L 0)) := ⟨fun hh => by have := (HPW.out.mp (HU.out.mp hh.2)).1; have := HM.out; omega⟩
          go_wp2_with (first | (go_at_call 51; refine (isKind_calls _ _).mono ?_; rintro e w' ⟨rfl, rfl⟩) | (go_at_call 53; refine (within_calls _ _ _ _).mono ?_; rintro e w' ⟨rfl, rfl⟩))
          go_ret
          exact RetB.mk rfl (iff_f HF.out) HB.out
        have G2 : Aside0 (p + m ≤ (L 0).length) := ⟨by have := HM.out; omega⟩
        have g2b : (((L 0).length : Int) - (p : Int) < n) = False := eq_false (by omega)
        clear g2
        obtain ⟨ad5, o, ea5, hx5, HO⟩ := at_v ((HR.out 5 (by omega)).below HB.out) (p * 8) (by omega)
        have HE5 := Aside0.mk ea5
        have q5 : (p : Int) * 8 < ((L 5).length : Int) := by omega
        rw [ea5] at fgb6
        clear ea5
        by_cases g3 : o = 0
        · have G3 := Aside0.mk g3
          have g3b : (o == 0) = true := by rw [g3]; rfl
          clear g3
          have HF : Aside0 (¬ ((SlotsP s L ∧ ListsP L) ∧ PF L 0)) := ⟨fun hh => (HPW.out.mp (HU.out.mp hh.2)).2.1 (by rw [HO.out]; exact G3.out)⟩
          go_wp2_with (first | (go_at_call 51; refine (isKind_calls _ _).mono ?_; rintro e w' ⟨rfl, rfl⟩) | (go_at_call 53; refine (within_calls _ _ _ _).mono ?_; rintro e w' ⟨rfl, rfl⟩))
          go_ret
          exact RetB.mk rfl (iff_f HF.out) HB.out
        have G3 := Aside0.mk g3
        have g3b : (o == 0) = false := beq_eq_false_iff_ne.mpr g3
        clear g3
        go_wp2_with (first | (go_at_call 51; refine (isKind_calls _ _).mono ?_; rintro e w' ⟨rfl, rfl⟩) | (go_at_call 53; refine (within_calls _ _ _ _).mono ?_; rintro e w' ⟨rfl, rfl⟩))
        rw [← HE0.out, ← HE5.out]
        refine (owned_calls s A c L _ _ (p * 8) (m * 8) _ (HR.out.below HB.out) (by omega) (by have := HM.out; omega) (by have := HM.out; omega) (by have := G2.out; have := H05.out; omega) (HL.out 5)).mono ?_
        rintro e w4 ⟨rfl, hb⟩
        obtain ⟨z, hz⟩ : ∃ z, NzN (L 5) (p * 8) (m * 8) = z := ⟨_, rfl⟩
        have HZ := Aside0.mk hz
        rw [hz]
        have HB4 := Aside0.mk (below_step HB.out hb)
        have BK4 := Aside0.mk (blk_below BKgb.out hb)
        clear hz hb HB BKgb hx0 hx5
        clear fgbs0 fgbz0 fgb1 fgbz1 fgb2 fgbz2 fgb3 fgbz3 fgb4 fgbz4 fgb5 fgbz5 fgb6 fgbz6 fgb7 fgbz7 fgb8 fgbz8
        by_cases g4 : (z : Int) = 1
        rotate_left
        · have HF : Aside0 (¬ ((SlotsP s L ∧ ListsP L) ∧ PF L 0)) := ⟨fun hh => g4 (by have := (HPW.out.mp (HU.out.mp hh.2)).2.2.1; rw [HZ.out] at this; omega)⟩
          have g4b : ((z : Int) != 1) = true := bne_iff_ne.mpr g4
          clear g4
          go_wp2
          go_ret
          exact RetB.mk rfl (iff_f HF.out) HB4.out
        have G4 : Aside0 (z = 1) := ⟨by omega⟩
        have g4b : ((z : Int) != 1) = false := bne_eq_false_iff_eq.mpr g4
        clear g4 g2b
        have HME := Aside0.mk (show n = (m : Int) from HM.out)
        go_wp2
        obtain ⟨wo, rfl⟩ : ∃ wo : World, wo = w4 := ⟨_, rfl⟩
        go_loopg [3, 58] (m - 1) (fun kq v3 v58 w' => ∃ i : Nat, i + 1 ≤ m ∧ kq = m - 1 - i ∧ v58 = .int .i64 i ∧ v3 = .int .i64 ((p : Int) + (i : Int)) ∧ Aside0 (∀ j, 1 ≤ j → j < i + 1 → (L 0).getD (p + j) 0 = 7) ∧ Aside0 (w'.heap[gb]? = some (.cells (bkCells s A c L) 27 (0, 0))) ∧ Aside0 (Below w.heap.size w w'))
        case atStart => exact ⟨0, by have := HME.out; omega, by omega, rfl, by simp, ⟨fun j h1 h2 => by omega⟩, BK4, HB4⟩
        case round =>
          clear HB4 BK4
          obtain ⟨i, hi, rfl, rfl, rfl, HI, BKgb, HB⟩ := hrel
          have nm := HME.out
          by_cases hlti : i + 1 < m
          · have l1 : (i : Int) < n - 1 := by omega
            have l2 : (0 : Int) ≤ (p : Int) + (i : Int) + 1 := by omega
            have l3 : (p : Int) + (i : Int) + 1 < ((L 0).length : Int) := by have := G2.out; omega
            clear nm
            obtain ⟨adi, vi, eai, hxi, HVi⟩ := at_v ((HR.out 0 (by omega)).below HB.out) (p + i + 1) (by have := G2.out; omega)
            have hc1 : wr.cell? ⟨gb, 1, none⟩ = some (.slice (some adi) (L 0).length (c 0)) := (blk_cell BKgb.out 1).trans (by rw [← eai]; rfl)
            have hz1 := blk_frozen BKgb.out 1
            clear eai
            have hxj : wr.cell? ⟨adi.block, adi.off + (p + i + 1), none⟩ = some (.int .i64 vi) := by have h := hxi; unfold Addr.add at h; rw [if_neg (by omega)] at h; exact h
            by_cases hv : vi = 7
            · have HZi : Aside0 (∀ j, 1 ≤ j → j < i + 1 + 1 → (L 0).getD (p + j) 0 = 7) := ⟨fun j h1 h2 => if e : j < i + 1 then HI.out j h1 e else (show i + 1 = j by omega) ▸ (by rw [← Nat.add_assoc, HVi.out, hv])⟩
              have hv' : (vi != 7) = false := by rw [hv]; rfl
              clear hv
              go_wp2
              go_roundg (m - 1 - (i + 1))
              case measure => omega
              case rel => exact ⟨i + 1, by omega, rfl, by go_num, by (rw [show ((i + 1 : Nat) : Int) = (i : Int) + 1 by omega, Int.add_assoc]), HZi, BKgb, HB⟩
            · have HF : Aside0 (¬ ((SlotsP s L ∧ ListsP L) ∧ PF L 0)) := ⟨fun hh => hv (by rw [← HVi.out]; have := (HPW.out.mp (HU.out.mp hh.2)).2.2.2.1 (i + 1) (by omega) hlti; rw [← Nat.add_assoc] at this; exact this)⟩
              have hv' : (vi != 7) = true := bne_iff_ne.mpr hv
              clear hv
              go_wp2
              go_ret
              exact RetB.mk rfl (iff_f HF.out) HB.out
          · have l1 : ¬ (i : Int) < n - 1 := by omega
            have HU2 : Aside0 (PF L 0 ↔ PF L (p + m)) := ⟨HU.out.trans (HPW.out.trans ⟨fun q => q.2.2.2.2, fun q => ⟨G2.out, by rw [HO.out]; exact G3.out, by rw [HZ.out]; exact G4.out, fun j h1 h2 => HI.out j h1 (by omega), q⟩⟩)⟩
            have him : i + 1 = m := by omega
            have lp : (p : Int) + (i : Int) ≤ 35184372088832 := by have := G2.out; omega
            clear nm l1
            have HIM := Aside0.mk him
            have l1 : ¬ (i : Int) < n - 1 := by have := HME.out; have := HIM.out; omega
            clear him
            go_wp2
            go_roundg ((L 0).length + 1 - (p + m))
            case measure => have := HIM.out; have := G2.out; omega
            case rel => exact ⟨p + m, G2.out, rfl, by (rw [← HIM.out]; first | done | rfl | (congr 1; omega)), HU2, BKgb, HB⟩
      · have HF : Aside0 ((SlotsP s L ∧ ListsP L) ∧ PF L 0) := ⟨⟨HS.out, HU.out.mpr (.done (by omega))⟩⟩
        have fgbs0 : wr.cell? ⟨gb, 0, none⟩ = some (.int .i64 _) := (blk_cell BKgb.out 0).trans rfl; have fgb1 : wr.cell? ⟨gb, 1, none⟩ = some (.slice (A 0) (L 0).length (c 0)) := (blk_cell BKgb.out 1).trans rfl; have fgb2 : wr.cell? ⟨gb, 2, none⟩ = some (.slice (A 1) (L 1).length (c 1)) := (blk_cell BKgb.out 2).trans rfl; have fgb3 : wr.cell? ⟨gb, 3, none⟩ = some (.slice (A 2) (L 2).length (c 2)) := (blk_cell BKgb.out 3).trans rfl; have fgb4 : wr.cell? ⟨gb, 4, none⟩ = some (.slice (A 3) (L 3).length (c 3)) := (blk_cell BKgb.out 4).trans rfl; have fgb5 : wr.cell? ⟨gb, 5, none⟩ = some (.slice (A 4) (L 4).length (c 4)) := (blk_cell BKgb.out 5).trans rfl; have fgb6 : wr.cell? ⟨gb, 6, none⟩ = some (.slice (A 5) (L 5).length (c 5)) := (blk_cell BKgb.out 6).trans rfl; have fgb7 : wr.cell? ⟨gb, 7, none⟩ = some (.slice (A 6) (L 6).length (c 6)) := (blk_cell BKgb.out 7).trans rfl; have fgb8 : wr.cell? ⟨gb, 8, none⟩ = some (.slice (A 7) (L 7).length (c 7)) := (blk_cell BKgb.out 8).trans rfl; have fgbz0 := blk_frozen BKgb.out 0; have fgbz1 := blk_frozen BKgb.out 1; have fgbz2 := blk_frozen BKgb.out 2; have fgbz3 := blk_frozen BKgb.out 3; have fgbz4 := blk_frozen BKgb.out 4; have fgbz5 := blk_frozen BKgb.out 5; have fgbz6 := blk_frozen BKgb.out 6; have fgbz7 := blk_frozen BKgb.out 7; have fgbz8 := blk_frozen BKgb.out 8
        go_wp2
        go_ret
        exact RetB.mk rfl (iff_t HF.out) HB.out
end Go.Proofs.Ytekneicikmaplaa.Bk

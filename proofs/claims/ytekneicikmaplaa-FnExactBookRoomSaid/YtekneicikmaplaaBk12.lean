/- The reference's look at a book's lists: a walk. -/
import Derived.Test.YtekneicikmaplaaBk10
set_option linter.unusedVariables false
set_option linter.unusedSimpArgs false
namespace Go.Proofs.Ytekneicikmaplaa.Bk
open Go.RowKit Go.Proofs.YtekneicikmaplaaW.PrintWords Go.Proofs.YtekneicikmaplaaW.PrintLast Go.Proofs.YtekneicikmaplaaW.PrintMore

/-- Entry i of list k is a room of its kind. -/
def EntryU (P O H : List Int) (k i : Nat) : Prop := ¬ H.getD i 0 < 0 ∧ ¬ H.getD i 0 ≥ (O.length : Int) ∧ kindN (P.getD (H.getD i 0 / 8).toNat 0) = (k : Int) ∧ ¬ (H.getD i 0 % (sizeN k : Int) > 0)
def ListP (P O H : List Int) (k : Nat) : Prop := H.length ≤ O.length ∧ ∀ i, i < H.length → EntryU P O H k i
def ListsP (L : Nat → List Int) : Prop := ∀ k, k < 4 → ListP (L 0) (L 5) (L (k + 1)) k
theorem sizeN_pos' (k : Nat) : 0 < (sizeN k : Int) := by have := sizeN_pos k; omega
set_option maxHeartbeats 4000000 in
set_option maxRecDepth 100000 in
theorem l3Lists_calls (s : Int) (A : Nat → Option Addr) (c : Nat → Nat) (L : Nat → List Int) (w : World) (h : BkC w A c L) (hl : ∀ i, (L i).length ≤ 35184372088832) (h05 : (L 5).length = (L 0).length * 8) :
    Calls Try.prog 47 #[.agg (bkCells s A c L)] w (RetB (ListsP L) w) := by
  have HR := Aside0.mk h
  have HL := Aside0.mk hl
  have H05 := Aside0.mk h05
  clear h hl h05
  have HB := Aside0.mk (Below.refl w.heap.size w)
  go_enter Try.func47, Try.ntmps47
  go_wp2_with (first | ((with_reducible refine gate_dst (N := 1) rfl ?_); refine box_event rfl (N := 1) rfl (cs := bkCells s A c L) (t := 27) (by first | (go_simp; done) | (go_simp; rfl)) ?_; intro gb hggb w1 hbox hb; have n0_ := Aside0.mk (below_step HB.out hb); have BKgb := Aside0.mk hbox; have HGgb := Aside0.mk (show w.heap.size ≤ gb by rw [hggb]; exact HB.out.size); clear HB; have HB := n0_; clear n0_ hbox hb hggb))
  go_loopg [3] 5 (fun kq v3 w' => ∃ k : Nat, k ≤ 4 ∧ kq = 5 - k ∧ v3 = .int .i64 k ∧ Aside0 (∀ j, j < k → ListP (L 0) (L 5) (L (j + 1)) j) ∧ Aside0 (w'.heap[gb]? = some (.cells (bkCells s A c L) 27 (0, 0))) ∧ Aside0 (Below w.heap.size w w'))
  case atStart => exact ⟨0, by omega, rfl, rfl, ⟨fun j hj => by omega⟩, BKgb, HB⟩
  case round =>
    clear HB BKgb
    obtain ⟨k, hk4, rfl, rfl, HU, BKgb, HB⟩ := hrel
    by_cases hlt : k < 4
    · have hi4 : (k : Int) < 4 := by omega
      have k0 : (0 : Int) ≤ (k : Int) := by omega
      have hck : wr.cell? ⟨gb, 2 + k, none⟩ = some (.slice (A (k + 1)) (L (k + 1)).length (c (k + 1))) := (blk_cell BKgb.out (2 + k)).trans (by match k, hlt with | 0, _ => rfl | 1, _ => rfl | 2, _ => rfl | 3, _ => rfl)
      have hzk := blk_frozen BKgb.out (2 + k)
      have hc6 : wr.cell? ⟨gb, 6, none⟩ = some (.slice (A 5) (L 5).length (c 5)) := (blk_cell BKgb.out 6).trans rfl
      have hz6 := blk_frozen BKgb.out 6
      by_cases hlen : (L (k + 1)).length > (L 5).length
      · have HF : Aside0 (¬ ListsP L) := ⟨fun hh => by have := (hh k hlt).1; omega⟩
        have hlen' : ((L 5).length : Int) < ((L (k + 1)).length : Int) := by omega
        go_wp2
        go_quiet (fail)
        go_wp2
        go_ret
        exact RetB.mk rfl (iff_f HF.out) (pw_below_drewN HB.out _)
      · have hlen' : ¬ ((L 5).length : Int) < ((L (k + 1)).length : Int) := by omega
        have HLE : Aside0 ((L (k + 1)).length ≤ (L 5).length) := ⟨by omega⟩
        go_wp2
        go_quiet (fail)
        go_wp2
        have HB2 := Aside0.mk (pw_below_drewN HB.out nq)
        have BK2 := Aside0.mk (blk_drewN BKgb.out nq)
        clear hck hzk hc6 hz6 HB BKgb hlen hlen'
        obtain ⟨wo, hwo⟩ : ∃ wo : World, wo = wr.drewN nq := ⟨_, rfl⟩
        rw [← hwo] at HB2 BK2 ⊢
        clear hwo
        go_loopg [4] ((L (k + 1)).length + 1) (fun kq v4 w' => ∃ i : Nat, i ≤ (L (k + 1)).length ∧ kq = (L (k + 1)).length + 1 - i ∧ v4 = .int .i64 i ∧ Aside0 (∀ j, j < i → EntryU (L 0) (L 5) (L (k + 1)) k j) ∧ Aside0 (w'.heap[gb]? = some (.cells (bkCells s A c L) 27 (0, 0))) ∧ Aside0 (Below w.heap.size w w'))
        case atStart => exact ⟨0, by omega, rfl, rfl, ⟨fun j hj => by omega⟩, BK2, HB2⟩
        case round =>
          clear HB2 BK2
          obtain ⟨i, hil, rfl, rfl, HI, BKgb, HB⟩ := hrel
          have hck : wr.cell? ⟨gb, 2 + k, none⟩ = some (.slice (A (k + 1)) (L (k + 1)).length (c (k + 1))) := (blk_cell BKgb.out (2 + k)).trans (by match k, hlt with | 0, _ => rfl | 1, _ => rfl | 2, _ => rfl | 3, _ => rfl)
          have hzk := blk_frozen BKgb.out (2 + k)
          have hl64 : ((L (k + 1)).length : Int) ≤ 35184372088832 := by have := HL.out (k + 1); omega
          by_cases hlti : i < (L (k + 1)).length
          · have i0 : (0 : Int) ≤ (i : Int) := by omega
            have i1 : (i : Int) < ((L (k + 1)).length : Int) := by omega
            obtain ⟨adk, a, eak, hxk, HA⟩ := at_v ((HR.out (k + 1) (by omega)).below HB.out) i hlti
            rw [eak] at hck
            clear eak
            have hc6 : wr.cell? ⟨gb, 6, none⟩ = some (.slice (A 5) (L 5).length (c 5)) := (blk_cell BKgb.out 6).trans rfl
            have hz6 := blk_frozen BKgb.out 6
            have HE : Aside0 (EntryU (L 0) (L 5) (L (k + 1)) k i ↔ (¬ a < 0 ∧ ¬ a ≥ ((L 5).length : Int) ∧ kindN ((L 0).getD (a / 8).toNat 0) = (k : Int) ∧ ¬ (a % (sizeN k : Int) > 0))) := ⟨by unfold EntryU; rw [HA.out]⟩
            by_cases g1 : a < 0
            · have HF : Aside0 (¬ ListsP L) := ⟨fun hh => (HE.out.mp ((hh k hlt).2 i hlti)).1 g1⟩
              go_wp2
              go_ret
              exact RetB.mk rfl (iff_f HF.out) HB.out
            by_cases g2 : a ≥ ((L 5).length : Int)
            · have HF : Aside0 (¬ ListsP L) := ⟨fun hh => (HE.out.mp ((hh k hlt).2 i hlti)).2.1 g2⟩
              go_wp2
              go_ret
              exact RetB.mk rfl (iff_f HF.out) HB.out
            have G12 := Aside0.mk (And.intro g1 g2)
            have a0 : (0 : Int) ≤ a := by omega
            have aM : a ≤ 35184372088832 := by have := HL.out 5; omega
            have hdv : wrap64 (a.tdiv 8) = a / 8 := by rw [Int.tdiv_eq_ediv_of_nonneg a0]; unfold wrap64; omega
            have a8 : (0 : Int) ≤ a / 8 := by omega
            have a9 : a / 8 < ((L 0).length : Int) := by have := H05.out; omega
            obtain ⟨ad0, q, ea0, hx0, HQ⟩ := at_v ((HR.out 0 (by omega)).below HB.out) (a / 8).toNat (by omega)
            have hc1 : wr.cell? ⟨gb, 1, none⟩ = some (.slice (some ad0) (L 0).length (c 0)) := (blk_cell BKgb.out 1).trans (by rw [← ea0]; rfl)
            have hz1 := blk_frozen BKgb.out 1
            clear ea0
            obtain ⟨d, hd⟩ : ∃ d, kindN q = d := ⟨_, rfl⟩
            have HD := Aside0.mk hd
            clear hd
            go_wp2_with fail
            refine (l3Kind_calls _ _).mono ?_
            rintro e w2 ⟨rfl, rfl⟩
            rw [HD.out]
            by_cases g3 : d = (k : Int)
            · have G3 := Aside0.mk g3
              have g3b : (d != (k : Int)) = false := bne_eq_false_iff_eq.mpr g3
              clear g3
              go_wp2_with fail
              refine (l3Size_calls k hlt _).mono ?_
              rintro e w3 ⟨rfl, hb⟩
              have HB3 := Aside0.mk (below_step HB.out hb)
              have BK3 := Aside0.mk (blk_below BKgb.out hb)
              clear hb hc1 hz1 hc6 hz6 hck hzk hx0 hxk HB BKgb
              obtain ⟨z, hz⟩ : ∃ z : Nat, sizeN k = z := ⟨_, rfl⟩
              have HZ := Aside0.mk hz
              have z0 : (0 : Int) < (z : Int) := by have := sizeN_pos k; omega
              rw [hz]
              clear hz
              have hzb : ((z : Int) == 0) = false := by rw [beq_eq_false_iff_ne]; omega
              by_cases g4 : a % (z : Int) > 0
              · have HF : Aside0 (¬ ListsP L) := ⟨fun hh => by have h4 := (HE.out.mp ((hh k hlt).2 i hlti)).2.2.2; rw [HZ.out] at h4; omega⟩
                go_wp2
                go_ret
                exact RetB.mk rfl (iff_f HF.out) HB3.out
              · have HI2 : Aside0 (∀ j, j < i + 1 → EntryU (L 0) (L 5) (L (k + 1)) k j) := ⟨fun j hj => if p : j < i then HI.out j p else (show i = j by omega) ▸ HE.out.mpr ⟨G12.out.1, G12.out.2, by rw [HQ.out, HD.out]; exact G3.out, by rw [HZ.out]; omega⟩⟩
                go_wp2
                go_roundg ((L (k + 1)).length + 1 - (i + 1))
                case measure => omega
                case rel => exact ⟨i + 1, by omega, rfl, by go_num, HI2, BK3, HB3⟩
            · have HF : Aside0 (¬ ListsP L) := ⟨fun hh => g3 (by rw [← HD.out, ← HQ.out]; exact (HE.out.mp ((hh k hlt).2 i hlti)).2.2.1)⟩
              have g3b : (d != (k : Int)) = true := bne_iff_ne.mpr g3
              clear g3
              go_wp2
              go_ret
              exact RetB.mk rfl (iff_f HF.out) HB.out
          · have HU2 : Aside0 (∀ j, j < k + 1 → ListP (L 0) (L 5) (L (j + 1)) j) := ⟨fun j hj => if p : j < k then HU.out j p else (show k = j by omega) ▸ ⟨HLE.out, fun x hx => HI.out x (by omega)⟩⟩
            have hni : ¬ (i : Int) < ((L (k + 1)).length : Int) := by omega
            go_wp2
            go_roundg (5 - (k + 1))
            case measure => omega
            case rel => exact ⟨k + 1, by omega, rfl, by go_num, HU2, BKgb, HB⟩
    · have HF : Aside0 (ListsP L) := ⟨fun j hj => HU.out j (by omega)⟩
      go_wp2
      go_ret
      exact RetB.mk rfl (iff_t HF.out) HB.out
end Go.Proofs.Ytekneicikmaplaa.Bk

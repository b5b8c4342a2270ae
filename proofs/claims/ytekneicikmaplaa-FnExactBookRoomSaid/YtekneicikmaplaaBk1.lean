/- The law's small functions: sizes. -/
import Derived.Test.YtekneicikmaplaaBk0
set_option linter.unusedVariables false
set_option linter.unusedSimpArgs false
namespace Go.Proofs.Ytekneicikmaplaa.Bk
open Go.RowKit Go.Proofs.YtekneicikmaplaaW.PrintWords Go.Proofs.YtekneicikmaplaaW.PrintLast Go.Proofs.YtekneicikmaplaaW.PrintMore

def szR (l : List Int) (left : Int) : Int := if left - l.length < 0 then -1 else left - l.length
theorem szIntS_calls (A : Option Addr) (c : Nat) (l : List Int) (left : Int) (w : World) (h0 : -1 ≤ left) (h1 : left ≤ 1048576) (hl : l.length ≤ 9223372036854775807) :
    Calls Try.prog 40 #[.slice A l.length c, .int .i64 left] w fun e w' => e = .returned (.int .i64 (szR l left)) ∧ w = w' := by
  by_cases h : left - (l.length : Int) < 0
  · have hf : szR l left = -1 := if_pos h
    have HF := Aside0.mk hf
    clear hf
    go_enter Try.func40, Try.ntmps40
    go_wp2
    go_ret
    exact ⟨by rw [HF.out]; rfl, rfl⟩
  · have hf : szR l left = left - l.length := if_neg h
    have HF := Aside0.mk hf
    clear hf
    go_enter Try.func40, Try.ntmps40
    go_wp2
    go_ret
    exact ⟨by rw [HF.out]; rfl, rfl⟩

theorem szR_le (l : List Int) (left : Int) (h0 : -1 ≤ left) (h1 : left ≤ 1048576) : -1 ≤ szR l left ∧ szR l left ≤ 1048576 := by unfold szR; split <;> omega
def szA (L : Nat → List Int) : Nat → Nat → Int → Int
  | _, 0, left => left
  | j, n + 1, left => if szR (L j) left < 0 then -1 else szA L (j + 1) n (szR (L j) left)
theorem szA_step (L : Nat → List Int) (j n : Nat) (left : Int) : szA L j (n + 1) left = if szR (L j) left < 0 then -1 else szA L (j + 1) n (szR (L j) left) := rfl
abbrev arrV (A : Nat → Option Addr) (c : Nat → Nat) (L : Nat → List Int) : Array Value := #[.slice (A 0) (L 0).length (c 0), .slice (A 1) (L 1).length (c 1), .slice (A 2) (L 2).length (c 2), .slice (A 3) (L 3).length (c 3)]
theorem arrV_at (A : Nat → Option Addr) (c : Nat → Nat) (L : Nat → List Int) (k : Nat) (hk : k < 4) : (arrV A c L)[k]? = some (.slice (A k) (L k).length (c k)) := by
  match k, hk with
  | 0, _ => rfl
  | 1, _ => rfl
  | 2, _ => rfl
  | 3, _ => rfl
set_option maxRecDepth 100000 in
theorem szIntSA4_calls (A : Nat → Option Addr) (c : Nat → Nat) (L : Nat → List Int) (left : Int) (w : World) (h0 : -1 ≤ left) (h1 : left ≤ 1048576) (hl : ∀ i, (L i).length ≤ 9223372036854775807) :
    Calls Try.prog 41 #[.agg (arrV A c L), .int .i64 left] w fun e w' => e = .returned (.int .i64 (szA L 0 4 left)) ∧ Below w.heap.size w w' := by
  have HL := Aside0.mk hl
  clear hl
  unfold arrV
  go_enter Try.func41, Try.ntmps41
  go_wp2_with (first | ((with_reducible refine gate_dst (N := 2) rfl ?_); refine box_event rfl (N := 2) rfl (cs := arrV A c L) (t := 25) (by first | (go_simp; done) | (go_simp; rfl)) ?_; intro gb hg w1 hbox hb; have BK := Aside0.mk hbox; have HB := Aside0.mk hb; clear hbox hb hg))
  go_loopg [1, 5] 5 (fun kq v1 v5 w' => ∃ (x : Int) (k : Nat), k ≤ 4 ∧ kq = 5 - k ∧ v1 = .int .i64 x ∧ v5 = .int .i64 k ∧ Aside0 (-1 ≤ x) ∧ Aside0 (x ≤ 1048576) ∧ Aside0 (szA L k (4 - k) x = szA L 0 4 left) ∧ Aside0 (w'.heap[gb]? = some (.cells (arrV A c L) 25 (0, 0))) ∧ Aside0 (Below w.heap.size w w'))
  case atStart => exact ⟨left, 0, by omega, by omega, rfl, rfl, ⟨h0⟩, ⟨h1⟩, ⟨rfl⟩, BK, HB⟩
  case round =>
    obtain ⟨x, k, hk, rfl, rfl, rfl, X0, X1, HS, BK, HB⟩ := hrel
    by_cases hlt : k < 4
    · have hcell : wr.cell? ⟨gb, k, none⟩ = some (.slice (A k) (L k).length (c k)) := (blk_cell BK.out k).trans (arrV_at A c L k hlt)
      have hfz := blk_frozen BK.out k
      have hi : (k : Int) < 4 := by omega
      have HN : Aside0 (szA L 0 4 left = if szR (L k) x < 0 then -1 else szA L (k + 1) (4 - (k + 1)) (szR (L k) x)) := ⟨by rw [← HS.out]; obtain ⟨m, hm⟩ : ∃ m, 4 - k = m + 1 := ⟨3 - k, by omega⟩; rw [hm, szA_step]; congr 2; omega⟩
      have HZ := Aside0.mk (szR_le (L k) x X0.out X1.out)
      clear HS
      by_cases hneg : szR (L k) x < 0
      · go_wp2_with (first | (go_at_call 40; refine (szIntS_calls _ _ _ _ _ X0.out X1.out (HL.out k)).mono ?_; rintro e w' ⟨rfl, rfl⟩))
        go_ret
        exact ⟨by rw [HN.out, if_pos hneg]; rfl, HB.out⟩
      · have hnn : 0 ≤ szR (L k) x := by omega
        have HE : Aside0 (szA L (k + 1) (4 - (k + 1)) (szR (L k) x) = szA L 0 4 left) := ⟨by rw [HN.out, if_neg hneg]⟩
        go_wp2_with (first | (go_at_call 40; refine (szIntS_calls _ _ _ _ _ X0.out X1.out (HL.out k)).mono ?_; rintro e w' ⟨rfl, rfl⟩))
        go_roundg (5 - (k + 1))
        case measure => omega
        case rel => exact ⟨szR (L k) x, k + 1, by omega, rfl, rfl, by go_num, ⟨HZ.out.1⟩, ⟨HZ.out.2⟩, HE, BK, HB⟩
    · have hk4 : k = 4 := by omega
      subst hk4
      go_wp2
      go_ret
      exact ⟨by rw [← HS.out]; rfl, HB.out⟩

theorem szA_le (L : Nat → List Int) : ∀ (n j : Nat) (left : Int), -1 ≤ left → left ≤ 1048576 → -1 ≤ szA L j n left ∧ szA L j n left ≤ 1048576
  | 0, _, left, h0, h1 => ⟨h0, h1⟩
  | n + 1, j, left, h0, h1 => by
    have h := szR_le (L j) left h0 h1
    rw [szA_step]
    split
    · omega
    · exact szA_le L n (j + 1) _ h.1 h.2
def szB (L : Nat → List Int) (left : Int) : Int :=
  if szR (L 0) left < 0 then -1 else
  if szA (fun i => L (i + 1)) 0 4 (szR (L 0) left) < 0 then -1 else
  if szR (L 5) (szA (fun i => L (i + 1)) 0 4 (szR (L 0) left)) < 0 then -1 else
  if szR (L 6) (szR (L 5) (szA (fun i => L (i + 1)) 0 4 (szR (L 0) left))) < 0 then -1 else
  if szR (L 7) (szR (L 6) (szR (L 5) (szA (fun i => L (i + 1)) 0 4 (szR (L 0) left)))) < 0 then -1 else
  szR (L 7) (szR (L 6) (szR (L 5) (szA (fun i => L (i + 1)) 0 4 (szR (L 0) left))))
theorem nn_of {y : Int} (h : ¬ y < 0) : 0 ≤ y := by omega
set_option maxHeartbeats 1000000 in
set_option maxRecDepth 100000 in
theorem szBook_calls (s : Int) (A : Nat → Option Addr) (c : Nat → Nat) (L : Nat → List Int) (left : Int) (w : World) (h0 : -1 ≤ left) (h1 : left ≤ 1048576) (hl : ∀ i, (L i).length ≤ 9223372036854775807) :
    Calls Try.prog 17 #[.agg (bkCells s A c L), .int .i64 left] w fun e w' => e = .returned (.int .i64 (szB L left)) ∧ Below w.heap.size w w' := by
  have HL := Aside0.mk hl
  clear hl
  have b0 := szR_le (L 0) left h0 h1
  have b1 := szA_le (fun i => L (i + 1)) 4 0 _ b0.1 b0.2
  have b2 := szR_le (L 5) _ b1.1 b1.2
  have b3 := szR_le (L 6) _ b2.1 b2.2
  have b4 := szR_le (L 7) _ b3.1 b3.2
  have hz : szB L left = szB L left := rfl
  conv at hz => rhs; unfold szB
  generalize hx0 : szR (L 0) left = x0 at *
  generalize hx1 : szA (fun i => L (i + 1)) 0 4 x0 = x1 at *
  generalize hx2 : szR (L 5) x1 = x2 at *
  generalize hx3 : szR (L 6) x2 = x3 at *
  generalize hx4 : szR (L 7) x3 = x4 at *
  have HZ := Aside0.mk hz
  have E0 := Aside0.mk hx0
  have E1 := Aside0.mk hx1
  have E2 := Aside0.mk hx2
  have E3 := Aside0.mk hx3
  have E4 := Aside0.mk hx4
  have B := Aside0.mk (And.intro b0 (And.intro b1 (And.intro b2 b3)))
  clear hz hx0 hx1 hx2 hx3 hx4
  have HB := Aside0.mk (Below.refl w.heap.size w)
  by_cases hx0 : x0 < 0
  · have HF : Aside0 (szB L left = -1) := ⟨HZ.out.trans (if_pos hx0)⟩
    go_enter Try.func17, Try.ntmps17
    go_wp2_with (first | ((with_reducible refine gate_dst (N := 2) rfl ?_); refine box_event rfl (N := 2) rfl (cs := bkCells s A c L) (t := 34) (by first | (go_simp; done) | (go_simp; rfl)) ?_; intro gb hggb w1 hbox hb; have n0_ := Aside0.mk (below_step HB.out hb); have BKgb := Aside0.mk hbox; have HGgb := Aside0.mk (show w.heap.size ≤ gb by rw [hggb]; exact HB.out.size); clear HB; have HB := n0_; have fgbs0 : w1.cell? ⟨gb, 0, none⟩ = some (.int .i64 _) := (blk_cell BKgb.out 0).trans rfl; have fgb1 : w1.cell? ⟨gb, 1, none⟩ = some (.slice (A 0) (L 0).length (c 0)) := (blk_cell BKgb.out 1).trans rfl; have fgb2 : w1.cell? ⟨gb, 2, none⟩ = some (.slice (A 1) (L 1).length (c 1)) := (blk_cell BKgb.out 2).trans rfl; have fgb3 : w1.cell? ⟨gb, 3, none⟩ = some (.slice (A 2) (L 2).length (c 2)) := (blk_cell BKgb.out 3).trans rfl; have fgb4 : w1.cell? ⟨gb, 4, none⟩ = some (.slice (A 3) (L 3).length (c 3)) := (blk_cell BKgb.out 4).trans rfl; have fgb5 : w1.cell? ⟨gb, 5, none⟩ = some (.slice (A 4) (L 4).length (c 4)) := (blk_cell BKgb.out 5).trans rfl; have fgb6 : w1.cell? ⟨gb, 6, none⟩ = some (.slice (A 5) (L 5).length (c 5)) := (blk_cell BKgb.out 6).trans rfl; have fgb7 : w1.cell? ⟨gb, 7, none⟩ = some (.slice (A 6) (L 6).length (c 6)) := (blk_cell BKgb.out 7).trans rfl; have fgb8 : w1.cell? ⟨gb, 8, none⟩ = some (.slice (A 7) (L 7).length (c 7)) := (blk_cell BKgb.out 8).trans rfl; have fgbz0 := blk_frozen BKgb.out 0; have fgbz1 := blk_frozen BKgb.out 1; have fgbz2 := blk_frozen BKgb.out 2; have fgbz3 := blk_frozen BKgb.out 3; have fgbz4 := blk_frozen BKgb.out 4; have fgbz5 := blk_frozen BKgb.out 5; have fgbz6 := blk_frozen BKgb.out 6; have fgbz7 := blk_frozen BKgb.out 7; have fgbz8 := blk_frozen BKgb.out 8; clear n0_ hbox hb hggb) | (go_at_call 40; refine (szIntS_calls _ _ _ _ _ h0 h1 (HL.out 0)).mono ?_; rintro e w' ⟨rfl, rfl⟩; rw [E0.out]))
    go_ret
    exact ⟨by rw [HF.out]; rfl, HB.out⟩
  have HZ0 := Aside0.mk (HZ.out.trans (if_neg hx0))
  have hx0' := nn_of hx0
  clear HZ hx0
  have HZ := HZ0
  clear HZ0
  go_enter Try.func17, Try.ntmps17
  go_wp2_with (first | ((with_reducible refine gate_dst (N := 2) rfl ?_); refine box_event rfl (N := 2) rfl (cs := bkCells s A c L) (t := 34) (by first | (go_simp; done) | (go_simp; rfl)) ?_; intro gb hggb w1 hbox hb; have n0_ := Aside0.mk (below_step HB.out hb); have BKgb := Aside0.mk hbox; have HGgb := Aside0.mk (show w.heap.size ≤ gb by rw [hggb]; exact HB.out.size); clear HB; have HB := n0_; have fgbs0 : w1.cell? ⟨gb, 0, none⟩ = some (.int .i64 _) := (blk_cell BKgb.out 0).trans rfl; have fgb1 : w1.cell? ⟨gb, 1, none⟩ = some (.slice (A 0) (L 0).length (c 0)) := (blk_cell BKgb.out 1).trans rfl; have fgb2 : w1.cell? ⟨gb, 2, none⟩ = some (.slice (A 1) (L 1).length (c 1)) := (blk_cell BKgb.out 2).trans rfl; have fgb3 : w1.cell? ⟨gb, 3, none⟩ = some (.slice (A 2) (L 2).length (c 2)) := (blk_cell BKgb.out 3).trans rfl; have fgb4 : w1.cell? ⟨gb, 4, none⟩ = some (.slice (A 3) (L 3).length (c 3)) := (blk_cell BKgb.out 4).trans rfl; have fgb5 : w1.cell? ⟨gb, 5, none⟩ = some (.slice (A 4) (L 4).length (c 4)) := (blk_cell BKgb.out 5).trans rfl; have fgb6 : w1.cell? ⟨gb, 6, none⟩ = some (.slice (A 5) (L 5).length (c 5)) := (blk_cell BKgb.out 6).trans rfl; have fgb7 : w1.cell? ⟨gb, 7, none⟩ = some (.slice (A 6) (L 6).length (c 6)) := (blk_cell BKgb.out 7).trans rfl; have fgb8 : w1.cell? ⟨gb, 8, none⟩ = some (.slice (A 7) (L 7).length (c 7)) := (blk_cell BKgb.out 8).trans rfl; have fgbz0 := blk_frozen BKgb.out 0; have fgbz1 := blk_frozen BKgb.out 1; have fgbz2 := blk_frozen BKgb.out 2; have fgbz3 := blk_frozen BKgb.out 3; have fgbz4 := blk_frozen BKgb.out 4; have fgbz5 := blk_frozen BKgb.out 5; have fgbz6 := blk_frozen BKgb.out 6; have fgbz7 := blk_frozen BKgb.out 7; have fgbz8 := blk_frozen BKgb.out 8; clear n0_ hbox hb hggb) | (go_at_call 40; refine (szIntS_calls _ _ _ _ _ h0 h1 (HL.out 0)).mono ?_; rintro e w' ⟨rfl, rfl⟩; rw [E0.out]))
  refine (szIntSA4_calls (fun i => A (i + 1)) (fun i => c (i + 1)) (fun i => L (i + 1)) x0 w1 B.out.1.1 B.out.1.2 (fun i => HL.out (i + 1))).mono ?_
  rintro e w2 ⟨rfl, hb2⟩
  have HB2 := Aside0.mk (below_step HB.out hb2)
  have BK2 := Aside0.mk (blk_below BKgb.out hb2)
  clear HB BKgb fgb1 fgb2 fgb3 fgb4 fgb5 fgb6 fgb7 fgb8 fgbs0 fgbz0 fgbz1 fgbz2 fgbz3 fgbz4 fgbz5 fgbz6 fgbz7 fgbz8 hb2
  have HB := HB2
  clear HB2
  have fgbs0 : w2.cell? ⟨gb, 0, none⟩ = some (.int .i64 _) := (blk_cell BK2.out 0).trans rfl; have fgb1 : w2.cell? ⟨gb, 1, none⟩ = some (.slice (A 0) (L 0).length (c 0)) := (blk_cell BK2.out 1).trans rfl; have fgb2 : w2.cell? ⟨gb, 2, none⟩ = some (.slice (A 1) (L 1).length (c 1)) := (blk_cell BK2.out 2).trans rfl; have fgb3 : w2.cell? ⟨gb, 3, none⟩ = some (.slice (A 2) (L 2).length (c 2)) := (blk_cell BK2.out 3).trans rfl; have fgb4 : w2.cell? ⟨gb, 4, none⟩ = some (.slice (A 3) (L 3).length (c 3)) := (blk_cell BK2.out 4).trans rfl; have fgb5 : w2.cell? ⟨gb, 5, none⟩ = some (.slice (A 4) (L 4).length (c 4)) := (blk_cell BK2.out 5).trans rfl; have fgb6 : w2.cell? ⟨gb, 6, none⟩ = some (.slice (A 5) (L 5).length (c 5)) := (blk_cell BK2.out 6).trans rfl; have fgb7 : w2.cell? ⟨gb, 7, none⟩ = some (.slice (A 6) (L 6).length (c 6)) := (blk_cell BK2.out 7).trans rfl; have fgb8 : w2.cell? ⟨gb, 8, none⟩ = some (.slice (A 7) (L 7).length (c 7)) := (blk_cell BK2.out 8).trans rfl; have fgbz0 := blk_frozen BK2.out 0; have fgbz1 := blk_frozen BK2.out 1; have fgbz2 := blk_frozen BK2.out 2; have fgbz3 := blk_frozen BK2.out 3; have fgbz4 := blk_frozen BK2.out 4; have fgbz5 := blk_frozen BK2.out 5; have fgbz6 := blk_frozen BK2.out 6; have fgbz7 := blk_frozen BK2.out 7; have fgbz8 := blk_frozen BK2.out 8
  rw [E1.out]
  by_cases hx1 : x1 < 0
  · have HF : Aside0 (szB L left = -1) := ⟨HZ.out.trans (if_pos hx1)⟩
    go_wp2
    go_ret
    exact ⟨by rw [HF.out]; rfl, HB.out⟩
  have HZ1 := Aside0.mk (HZ.out.trans (if_neg hx1))
  have hx1' := nn_of hx1
  clear HZ hx1
  have HZ := HZ1
  clear HZ1
  by_cases hx2 : x2 < 0
  · have HF : Aside0 (szB L left = -1) := ⟨HZ.out.trans (if_pos hx2)⟩
    go_wp2_with (first | (go_at_call 40; (with_reducible refine (szIntS_calls _ _ _ x1 _ B.out.2.1.1 B.out.2.1.2 (HL.out 5)).mono ?_); rintro e w' ⟨rfl, rfl⟩; rw [E2.out]))
    go_ret
    exact ⟨by rw [HF.out]; rfl, HB.out⟩
  have HZ2 := Aside0.mk (HZ.out.trans (if_neg hx2))
  have hx2' := nn_of hx2
  clear HZ hx2
  have HZ := HZ2
  clear HZ2
  by_cases hx3 : x3 < 0
  · have HF : Aside0 (szB L left = -1) := ⟨HZ.out.trans (if_pos hx3)⟩
    go_wp2_with (first | (go_at_call 40; (with_reducible refine (szIntS_calls _ _ _ x1 _ B.out.2.1.1 B.out.2.1.2 (HL.out 5)).mono ?_); rintro e w' ⟨rfl, rfl⟩; rw [E2.out]) | (go_at_call 40; (with_reducible refine (szIntS_calls _ _ _ x2 _ B.out.2.2.1.1 B.out.2.2.1.2 (HL.out 6)).mono ?_); rintro e w' ⟨rfl, rfl⟩; rw [E3.out]))
    go_ret
    exact ⟨by rw [HF.out]; rfl, HB.out⟩
  have HZ3 := Aside0.mk (HZ.out.trans (if_neg hx3))
  have hx3' := nn_of hx3
  clear HZ hx3
  have HZ := HZ3
  clear HZ3
  by_cases hx4 : x4 < 0
  · have HF : Aside0 (szB L left = -1) := ⟨HZ.out.trans (if_pos hx4)⟩
    go_wp2_with (first | (go_at_call 40; (with_reducible refine (szIntS_calls _ _ _ x1 _ B.out.2.1.1 B.out.2.1.2 (HL.out 5)).mono ?_); rintro e w' ⟨rfl, rfl⟩; rw [E2.out]) | (go_at_call 40; (with_reducible refine (szIntS_calls _ _ _ x2 _ B.out.2.2.1.1 B.out.2.2.1.2 (HL.out 6)).mono ?_); rintro e w' ⟨rfl, rfl⟩; rw [E3.out]) | (go_at_call 40; (with_reducible refine (szIntS_calls _ _ _ x3 _ B.out.2.2.2.1 B.out.2.2.2.2 (HL.out 7)).mono ?_); rintro e w' ⟨rfl, rfl⟩; rw [E4.out]))
    go_ret
    exact ⟨by rw [HF.out]; rfl, HB.out⟩
  have HZ4 := Aside0.mk (HZ.out.trans (if_neg hx4))
  have hx4' := nn_of hx4
  clear HZ hx4
  have HZ := HZ4
  clear HZ4
  have HF : Aside0 (szB L left = x4) := ⟨HZ.out⟩
  go_wp2_with (first | (go_at_call 40; (with_reducible refine (szIntS_calls _ _ _ x1 _ B.out.2.1.1 B.out.2.1.2 (HL.out 5)).mono ?_); rintro e w' ⟨rfl, rfl⟩; rw [E2.out]) | (go_at_call 40; (with_reducible refine (szIntS_calls _ _ _ x2 _ B.out.2.2.1.1 B.out.2.2.1.2 (HL.out 6)).mono ?_); rintro e w' ⟨rfl, rfl⟩; rw [E3.out]) | (go_at_call 40; (with_reducible refine (szIntS_calls _ _ _ x3 _ B.out.2.2.2.1 B.out.2.2.2.2 (HL.out 7)).mono ?_); rintro e w' ⟨rfl, rfl⟩; rw [E4.out]))
  go_ret
  exact ⟨by rw [HF.out]; rfl, HB.out⟩
end Go.Proofs.Ytekneicikmaplaa.Bk

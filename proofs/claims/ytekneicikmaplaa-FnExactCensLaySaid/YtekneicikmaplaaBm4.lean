/- Books of a slab allocator: walks and plain laws, part 4. -/
import Derived.Test.YtekneicikmaplaaBm1
set_option linter.unusedVariables false
set_option linter.unusedSimpArgs false
namespace Go.Proofs.Ytekneicikmaplaa.Bk
open Go.RowKit Go.Proofs.YtekneicikmaplaaW.PrintWords Go.Proofs.YtekneicikmaplaaW.PrintLast Go.Proofs.YtekneicikmaplaaW.PrintMore

/-- How many numbers stand in the rows ahead of row i. -/
def off (L : Nat → List Int) : Nat → Nat
  | 0 => 0
  | i + 1 => off L i + (L i).length
theorem off_mono (L : Nat → List Int) (i j : Nat) (h : i ≤ j) : off L i ≤ off L j := by
  induction j with
  | zero => obtain rfl : i = 0 := by omega
            exact Nat.le_refl _
  | succ j ih =>
    by_cases e : i = j + 1
    · rw [e]; exact Nat.le_refl _
    · have := ih (by omega)
      have h2 : off L (j + 1) = off L j + (L j).length := rfl
      omega
theorem off_same {L L' : Nat → List Int} (h : ∀ i, (L' i).length = (L i).length) (i : Nat) : off L' i = off L i := by
  induction i with
  | zero => rfl
  | succ i ih =>
    have h1 : off L' (i + 1) = off L' i + (L' i).length := rfl
    have h2 : off L (i + 1) = off L i + (L i).length := rfl
    rw [h1, h2, ih, h]
def MarkR (b : Int) (L0 L : Nat → List Int) (i : Nat) : Prop := ∀ j, j < (L i).length → (L i).getD j 0 = b + (off L0 i : Nat) + (j : Nat)
/-- Row i gets its marks: what comes of the book. -/
theorem BkO.mark {w w1 : World} {lo hi : Nat} {A : Nat → Option Addr} {c : Nat → Nat} {L : Nat → List Int} (h : BkO w lo hi A c L) (i : Nat) (hi8 : i < 8) {l : List Int} (hl : l.length = (L i).length) (hs : SlO w1 lo hi (A i) (c i) l) (hk : KeepV (.slice (A i) (L i).length (c i)) w w1) : BkO w1 lo hi A c (upd L i l) := VO.upd h i hi8 l hl hs hk
theorem VO.s {w : World} {lo hi : Nat} {L : Nat → List Int} {n : Nat} {A : Nat → Option Addr} {c : Nat → Nat} (h : VO w lo hi L n (slV A c L)) (i : Nat) (hi' : i < n) : SlO w lo hi (A i) (c i) (L i) := by
  obtain ⟨A', c', e, ho⟩ := h.1 i hi'
  simp only [slV, Value.slice.injEq, true_and] at e
  obtain ⟨rfl, rfl⟩ := e
  exact ho
theorem upd_at (L : Nat → List Int) (i : Nat) (l : List Int) : upd L i l i = l := by simp [upd]
theorem upd_ne (L : Nat → List Int) (i x : Nat) (l : List Int) (h : x ≠ i) : upd L i l x = L x := by simp [upd, h]
theorem marks_upd {b : Int} {L0 L : Nat → List Int} {n : Nat} {l : List Int} (h : ∀ i, i < n → MarkR b L0 L i) (hl : ∀ j, j < (L n).length → l.getD j 0 = b + (off L0 n : Nat) + (j : Nat)) (hn : l.length = (L n).length) : ∀ i, i < n + 1 → MarkR b L0 (upd L n l) i := fun i hi => by
  by_cases e : i = n
  · subst e
    intro j hj
    rw [upd_at] at hj ⊢
    exact hl j (by omega)
  · intro j hj
    rw [upd_ne _ _ _ _ e] at hj ⊢
    exact h i (by omega) j hj
theorem lens_upd {L0 L : Nat → List Int} {n : Nat} {l : List Int} (h : ∀ i, (L i).length = (L0 i).length) (hn : l.length = (L n).length) : ∀ i, (upd L n l i).length = (L0 i).length := fun i => by rw [upd_len L n l hn i, h i]
theorem Keep.blk {lo hi g : Nat} {w w1 : World} {o : Obj} (h : Keep lo hi w w1) (hg : w.heap[g]? = some o) (hn : ¬ (lo ≤ g ∧ g < hi)) : w1.heap[g]? = some o := (h.block g (blk_lt hg) hn).trans hg
set_option maxHeartbeats 1000000 in
set_option maxRecDepth 100000 in
theorem markA_calls (A : Nat → Option Addr) (c : Nat → Nat) (L : Nat → List Int) (b m : Int) (lo hi : Nat) (w : World) (h : BkO w lo hi A c L) (hhi : hi ≤ w.heap.size) (hb : 0 ≤ b) (hm : m = b + (off L 1 : Nat)) (hM : b + (off L 8 : Nat) ≤ 35184372088832) (h0 : MarkR b L L 0) :
    Calls Try.prog 38 #[.agg (arrV (fun i => A (i + 1)) (fun i => c (i + 1)) (fun i => L (i + 1))), .int .i64 m] w fun e w' => ∃ L' : Nat → List Int, e = .returned (.int .i64 (b + (off L 5 : Nat))) ∧ (∀ i, (L' i).length = (L i).length) ∧ (∀ i, i < 5 → MarkR b L L' i) ∧ BkO w' lo hi A c L' ∧ Keep lo hi w w' := by
  have HO := Aside0.mk h
  have HM0 := Aside0.mk (show ∀ i, i < 1 → MarkR b L L i from fun i hi => by obtain rfl : i = 0 := by omega
                                                                             exact h0)
  have HMX := Aside0.mk hM
  have HH := Aside0.mk hhi
  have HMM := Aside0.mk hm
  clear h h0 hM hhi hm
  have HB := Aside0.mk (Below.refl w.heap.size w)
  go_enter Try.func38, Try.ntmps38
  go_wp2_with (first | ((with_reducible refine gate_dst (N := 2) rfl ?_); refine box_event rfl (N := 2) rfl (cs := arrV (fun i => A (i + 1)) (fun i => c (i + 1)) (fun i => L (i + 1))) (t := 25) (by first | (go_simp; done) | (go_simp; rfl)) ?_; intro gb hggb w1 hbox hb; have n0_ := Aside0.mk (below_step HB.out hb); have BKgb := Aside0.mk hbox; have HGgb := Aside0.mk (show w.heap.size ≤ gb by rw [hggb]; exact HB.out.size); clear HB; have HB := n0_; have HO1 := Aside0.mk (BkO.below HO.out hb); have HK1 := Aside0.mk (Keep.of_below (lo := lo) (hi := hi) hb); have HN := Aside0.mk (show ¬ (lo ≤ gb ∧ gb < hi) by have := HH.out; omega); clear n0_ hbox hb hggb))
  go_loopg [1, 5] 5 (fun kq v1 v5 w' => ∃ (k : Nat) (Lc : Nat → List Int), k ≤ 4 ∧ kq = 5 - k ∧ v5 = .int .i64 k ∧ v1 = .int .i64 (b + (off L (k + 1) : Nat)) ∧ Aside0 (∀ i, (Lc i).length = (L i).length) ∧ Aside0 (∀ i, i < k + 1 → MarkR b L Lc i) ∧ Aside0 (BkO w' lo hi A c Lc) ∧ Aside0 (Keep lo hi w w') ∧ Aside0 (w'.heap[gb]? = some (.cells (arrV (fun i => A (i + 1)) (fun i => c (i + 1)) (fun i => L (i + 1))) 25 (0, 0))))
  case atStart => exact ⟨0, L, by omega, rfl, rfl, by rw [HMM.out], ⟨fun _ => rfl⟩, HM0, HO1, HK1, BKgb⟩
  case round =>
    clear HO HO1 HK1 BKgb HM0
    obtain ⟨k, Lc, hk, rfl, rfl, rfl, HL, HMk, HO, HK, BKgb⟩ := hrel
    have hom := off_mono L (k + 1) 8 (by omega)
    have HOM := Aside0.mk hom
    have hb64 : b + ((off L (k + 1) : Nat) : Int) ≤ 35184372088832 := by have := HMX.out; omega
    clear hom
    by_cases hlt : k < 4
    · have hlen := HL.out (k + 1)
      have hcell : wr.cell? ⟨gb, k, none⟩ = some (.slice (A (k + 1)) (Lc (k + 1)).length (c (k + 1))) := (blk_cell BKgb.out k).trans (by rw [hlen]; exact arrV_at (fun i => A (i + 1)) (fun i => c (i + 1)) (fun i => L (i + 1)) k hlt)
      have hfz := blk_frozen BKgb.out k
      have hi4 : (k : Int) < 4 := by omega
      have HLE := Aside0.mk hlen
      clear hlen
      go_wp2_with fail
      refine (markIntS_calls _ _ _ _ lo hi _ (VO.s HO.out (k + 1) (by omega)) (by omega) (by have h1 := off_mono L (k + 2) 8 (by omega); have h2 : off L (k + 2) = off L (k + 1) + (L (k + 1)).length := rfl; have := HMX.out; have := HLE.out; omega)).mono ?_
      rintro e w2 ⟨l', rfl, hl1, hl2, hs, hkv⟩
      have HL2 := Aside0.mk (lens_upd HL.out hl1)
      have HM2 := Aside0.mk (marks_upd HMk.out (fun j hj => by rw [hl2 j hj]) hl1)
      have HO2 := Aside0.mk (BkO.mark HO.out (k + 1) (by omega) hl1 hs hkv)
      have hkk := KeepV.keep (VO.s HO.out (k + 1) (by omega)) hkv
      have HK2 := Aside0.mk (HK.out.trans hkk)
      have BK2 := Aside0.mk (hkk.blk BKgb.out HN.out)
      have hval : Aside0 (b + ((off L (k + 1) : Nat) : Int) + ((Lc (k + 1)).length : Int) = b + ((off L (k + 1 + 1) : Nat) : Int)) := ⟨by rw [HLE.out, show off L (k + 1 + 1) = off L (k + 1) + (L (k + 1)).length from rfl]; omega⟩
      rw [hval.out]
      clear hl1 hl2 hs hkv hkk HL HMk HO HK BKgb hcell hfz
      go_wp2
      go_roundg (5 - (k + 1))
      case measure => omega
      case rel => exact ⟨k + 1, _, by omega, rfl, by go_num, rfl, HL2, HM2, HO2, HK2, BK2⟩
    · have hk4 : k = 4 := by omega
      subst hk4
      go_wp2
      go_ret
      exact ⟨Lc, rfl, HL.out, HMk.out, HO.out, HK.out⟩
set_option maxHeartbeats 1000000 in
set_option maxRecDepth 100000 in
theorem heldA_calls (A : Nat → Option Addr) (c : Nat → Nat) (L : Nat → List Int) (b m : Int) (w : World) (h : BkC w A c L) (hb : 0 ≤ b) (hm : m = b + (off L 1 : Nat)) (hM : b + (off L 8 : Nat) ≤ 35184372088832) (hk : ∀ i, i < 8 → MarkR b L L i) :
    Calls Try.prog 39 #[.agg (arrV (fun i => A (i + 1)) (fun i => c (i + 1)) (fun i => L (i + 1))), .int .i64 m] w fun e w' => e = .returned (.int .i64 (b + (off L 5 : Nat))) ∧ Below w.heap.size w w' := by
  have HR := Aside0.mk h
  have HMK := Aside0.mk hk
  have HMX := Aside0.mk hM
  have HMM := Aside0.mk hm
  clear h hk hM hm
  have HB := Aside0.mk (Below.refl w.heap.size w)
  go_enter Try.func39, Try.ntmps39
  go_wp2_with (first | ((with_reducible refine gate_dst (N := 2) rfl ?_); refine box_event rfl (N := 2) rfl (cs := arrV (fun i => A (i + 1)) (fun i => c (i + 1)) (fun i => L (i + 1))) (t := 25) (by first | (go_simp; done) | (go_simp; rfl)) ?_; intro gb hggb w1 hbox hb; have n0_ := Aside0.mk (below_step HB.out hb); have BKgb := Aside0.mk hbox; have HGgb := Aside0.mk (show w.heap.size ≤ gb by rw [hggb]; exact HB.out.size); clear HB; have HB := n0_; clear n0_ hbox hb hggb))
  go_loopg [1, 5] 5 (fun kq v1 v5 w' => ∃ k : Nat, k ≤ 4 ∧ kq = 5 - k ∧ v5 = .int .i64 k ∧ v1 = .int .i64 (b + (off L (k + 1) : Nat)) ∧ Aside0 (Below w.heap.size w w') ∧ Aside0 (w'.heap[gb]? = some (.cells (arrV (fun i => A (i + 1)) (fun i => c (i + 1)) (fun i => L (i + 1))) 25 (0, 0))))
  case atStart => exact ⟨0, by omega, rfl, rfl, by rw [HMM.out], HB, BKgb⟩
  case round =>
    clear HB BKgb
    obtain ⟨k, hk, rfl, rfl, rfl, HB, BKgb⟩ := hrel
    have HOM := Aside0.mk (off_mono L (k + 1) 8 (by omega))
    have hb64 : b + ((off L (k + 1) : Nat) : Int) ≤ 35184372088832 := by have := HMX.out; have := HOM.out; omega
    by_cases hlt : k < 4
    · have hcell : wr.cell? ⟨gb, k, none⟩ = some (.slice (A (k + 1)) (L (k + 1)).length (c (k + 1))) := (blk_cell BKgb.out k).trans (arrV_at (fun i => A (i + 1)) (fun i => c (i + 1)) (fun i => L (i + 1)) k hlt)
      have hfz := blk_frozen BKgb.out k
      have hi4 : (k : Int) < 4 := by omega
      have hval : Aside0 (b + ((off L (k + 1) : Nat) : Int) + ((L (k + 1)).length : Int) = b + ((off L (k + 1 + 1) : Nat) : Int)) := ⟨by rw [show off L (k + 1 + 1) = off L (k + 1) + (L (k + 1)).length from rfl]; omega⟩
      have hnn : (0 : Int) ≤ b + ((off L (k + 1 + 1) : Nat) : Int) := by omega
      go_wp2_with fail
      refine (heldIntS_calls _ _ _ _ _ ((HR.out (k + 1) (by omega)).below HB.out) (by omega) (by have h1 := off_mono L (k + 2) 8 (by omega); have h2 : off L (k + 2) = off L (k + 1) + (L (k + 1)).length := rfl; have := HMX.out; omega) (HMK.out (k + 1) (by omega))).mono ?_
      rintro e w2 ⟨rfl, rfl⟩
      rw [hval.out]
      clear hcell hfz
      go_wp2
      go_roundg (5 - (k + 1))
      case measure => omega
      case rel => exact ⟨k + 1, by omega, rfl, by go_num, rfl, HB, BKgb⟩
    · have hk4 : k = 4 := by omega
      subst hk4
      go_wp2
      go_ret
      exact ⟨rfl, HB.out⟩


theorem bk_len (s : Int) (A : Nat → Option Addr) (c : Nat → Nat) {L L' : Nat → List Int} (h : ∀ i, (L' i).length = (L i).length) : bkCells s A c L' = bkCells s A c L := by simp [bkCells, h]
def Lens (L' L : Nat → List Int) : Prop := ∀ i, (L' i).length = (L i).length
theorem MarkR.same {b : Int} {L0 L1 L : Nat → List Int} {i : Nat} (h : MarkR b L0 L i) (hl : ∀ i, (L0 i).length = (L1 i).length) : MarkR b L1 L i := fun j hj => by rw [← off_same hl i]; exact h j hj
set_option maxHeartbeats 4000000 in
set_option maxRecDepth 100000 in
theorem markBook_calls (s : Int) (A : Nat → Option Addr) (c : Nat → Nat) (L : Nat → List Int) (m : Int) (lo hi : Nat) (w : World) (h : BkO w lo hi A c L) (hhi : hi ≤ w.heap.size) (hm : 0 ≤ m) (hM : m + (off L 8 : Nat) ≤ 35184372088832) :
    Calls Try.prog 15 #[.agg (bkCells s A c L), .int .i64 m] w fun e w' => ∃ L' : Nat → List Int, e = .returned (.int .i64 (m + (off L 8 : Nat))) ∧ (∀ i, (L' i).length = (L i).length) ∧ (∀ i, i < 8 → MarkR m L L' i) ∧ BkO w' lo hi A c L' ∧ Keep lo hi w w' := by
  have HO0 := Aside0.mk h
  have HMX := Aside0.mk hM
  have HH := Aside0.mk hhi
  have HL : Aside0 (Lens L L) := ⟨fun _ => rfl⟩
  have HMk : Aside0 (∀ i, i < 0 → MarkR m L L i) := ⟨fun i hi => by omega⟩
  clear h hM hhi
  have HB := Aside0.mk (Below.refl w.heap.size w)
  go_enter Try.func15, Try.ntmps15
  have m0 : m = m + ((off L 0 : Nat) : Int) := by show m = m + ((0 : Nat) : Int); omega
  have M0 := Aside0.mk m0
  clear m0
  go_wp2_with (first | ((with_reducible refine gate_dst (N := 2) rfl ?_); refine box_event rfl (N := 2) rfl (cs := bkCells s A c L) (t := 27) (by first | (go_simp; done) | (go_simp; rfl)) ?_; intro gb hggb w1 hbox hb; have n0_ := Aside0.mk (below_step HB.out hb); have BKgb := Aside0.mk hbox; have HGgb := Aside0.mk (show w.heap.size ≤ gb by rw [hggb]; exact HB.out.size); clear HB; have HB := n0_; have HO := Aside0.mk (BkO.below HO0.out hb); have HK := Aside0.mk (Keep.of_below (lo := lo) (hi := hi) hb); have HN := Aside0.mk (show ¬ (lo ≤ gb ∧ gb < hi) by have := HH.out; omega); have fgbs0 : w1.cell? ⟨gb, 0, none⟩ = some (.int .i64 _) := (blk_cell BKgb.out 0).trans rfl; have fgb1 : w1.cell? ⟨gb, 1, none⟩ = some (.slice (A 0) (L 0).length (c 0)) := (blk_cell BKgb.out 1).trans rfl; have fgb2 : w1.cell? ⟨gb, 2, none⟩ = some (.slice (A 1) (L 1).length (c 1)) := (blk_cell BKgb.out 2).trans rfl; have fgb3 : w1.cell? ⟨gb, 3, none⟩ = some (.slice (A 2) (L 2).length (c 2)) := (blk_cell BKgb.out 3).trans rfl; have fgb4 : w1.cell? ⟨gb, 4, none⟩ = some (.slice (A 3) (L 3).length (c 3)) := (blk_cell BKgb.out 4).trans rfl; have fgb5 : w1.cell? ⟨gb, 5, none⟩ = some (.slice (A 4) (L 4).length (c 4)) := (blk_cell BKgb.out 5).trans rfl; have fgb6 : w1.cell? ⟨gb, 6, none⟩ = some (.slice (A 5) (L 5).length (c 5)) := (blk_cell BKgb.out 6).trans rfl; have fgb7 : w1.cell? ⟨gb, 7, none⟩ = some (.slice (A 6) (L 6).length (c 6)) := (blk_cell BKgb.out 7).trans rfl; have fgb8 : w1.cell? ⟨gb, 8, none⟩ = some (.slice (A 7) (L 7).length (c 7)) := (blk_cell BKgb.out 8).trans rfl; have fgbz0 := blk_frozen BKgb.out 0; have fgbz1 := blk_frozen BKgb.out 1; have fgbz2 := blk_frozen BKgb.out 2; have fgbz3 := blk_frozen BKgb.out 3; have fgbz4 := blk_frozen BKgb.out 4; have fgbz5 := blk_frozen BKgb.out 5; have fgbz6 := blk_frozen BKgb.out 6; have fgbz7 := blk_frozen BKgb.out 7; have fgbz8 := blk_frozen BKgb.out 8; clear n0_ hbox hb hggb))
  clear HO0 HB
  refine calls_of_args (args' := #[.slice (A 0) (L 0).length (c 0), .int .i64 (m + ((off L 0 : Nat) : Int))]) (by rw [← M0.out]) ?_
  refine (markIntS_calls _ _ _ _ lo hi _ (VO.s HO.out 0 (by omega)) (by omega) (by have h1 := off_mono L 1 8 (by omega); have h2 : off L 1 = off L 0 + (L 0).length := rfl; have := HMX.out; have := HL.out 0; omega)).mono ?_
  rintro e w2 ⟨l0, rfl, hl1, hl2, hs, hkv⟩
  have HL2 := Aside0.mk (show Lens _ L from lens_upd HL.out hl1)
  have HM2 := Aside0.mk (marks_upd HMk.out (fun j hj => by rw [hl2 j hj]) hl1)
  have HO2 := Aside0.mk (BkO.mark HO.out 0 (by omega) hl1 hs hkv)
  have hkk := KeepV.keep (VO.s HO.out 0 (by omega)) hkv
  have HK2 := Aside0.mk (HK.out.trans hkk)
  have BK2 := Aside0.mk (show w2.heap[gb]? = some (.cells (bkCells s A c (upd L 0 l0)) 27 (0, 0)) by rw [bk_len s A c (fun i => by rw [HL2.out i, HL.out i] : ∀ i, (upd L 0 l0 i).length = (L i).length)]; exact hkk.blk BKgb.out HN.out)
  have hval : Aside0 (m + ((off L 0 : Nat) : Int) + ((L 0).length : Int) = m + ((off L 1 : Nat) : Int)) := ⟨by rw [HL.out 0, show off L 1 = off L 0 + (L 0).length from rfl]; omega⟩
  rw [hval.out]
  clear hl1 hl2 hs hkv hkk HL HMk HO HK BKgb hval
  clear fgbs0 fgbz0 fgb1 fgbz1 fgb2 fgbz2 fgb3 fgbz3 fgb4 fgbz4 fgb5 fgbz5 fgb6 fgbz6 fgb7 fgbz7 fgb8 fgbz8
  obtain ⟨L1, hLn⟩ : ∃ Lx, upd L 0 l0 = Lx := ⟨_, rfl⟩
  rw [hLn] at HL2 HM2 HO2 BK2
  clear hLn
  have HL := HL2
  have HMk := HM2
  have HO := HO2
  have HK := HK2
  have BKgb := BK2
  clear HL2 HM2 HO2 HK2 BK2
  have fgbs0 : w2.cell? ⟨gb, 0, none⟩ = some (.int .i64 _) := (blk_cell BKgb.out 0).trans rfl; have fgb1 : w2.cell? ⟨gb, 1, none⟩ = some (.slice (A 0) (L1 0).length (c 0)) := (blk_cell BKgb.out 1).trans rfl; have fgb2 : w2.cell? ⟨gb, 2, none⟩ = some (.slice (A 1) (L1 1).length (c 1)) := (blk_cell BKgb.out 2).trans rfl; have fgb3 : w2.cell? ⟨gb, 3, none⟩ = some (.slice (A 2) (L1 2).length (c 2)) := (blk_cell BKgb.out 3).trans rfl; have fgb4 : w2.cell? ⟨gb, 4, none⟩ = some (.slice (A 3) (L1 3).length (c 3)) := (blk_cell BKgb.out 4).trans rfl; have fgb5 : w2.cell? ⟨gb, 5, none⟩ = some (.slice (A 4) (L1 4).length (c 4)) := (blk_cell BKgb.out 5).trans rfl; have fgb6 : w2.cell? ⟨gb, 6, none⟩ = some (.slice (A 5) (L1 5).length (c 5)) := (blk_cell BKgb.out 6).trans rfl; have fgb7 : w2.cell? ⟨gb, 7, none⟩ = some (.slice (A 6) (L1 6).length (c 6)) := (blk_cell BKgb.out 7).trans rfl; have fgb8 : w2.cell? ⟨gb, 8, none⟩ = some (.slice (A 7) (L1 7).length (c 7)) := (blk_cell BKgb.out 8).trans rfl; have fgbz0 := blk_frozen BKgb.out 0; have fgbz1 := blk_frozen BKgb.out 1; have fgbz2 := blk_frozen BKgb.out 2; have fgbz3 := blk_frozen BKgb.out 3; have fgbz4 := blk_frozen BKgb.out 4; have fgbz5 := blk_frozen BKgb.out 5; have fgbz6 := blk_frozen BKgb.out 6; have fgbz7 := blk_frozen BKgb.out 7; have fgbz8 := blk_frozen BKgb.out 8
  have hb1 : 0 ≤ m + ((off L 1 : Nat) : Int) := by omega
  go_wp2_with fail
  refine (markA_calls A c L1 m _ lo hi _ HO.out (by have := HK.out.size; have := HH.out; omega) hm (by rw [off_same HL.out 1]) (by rw [off_same HL.out 8]; exact HMX.out) ((HMk.out 0 (by omega)).same (fun i => (HL.out i).symm))).mono ?_
  rintro e w3 ⟨L5, rfl, hl, hmk, hbo, hke⟩
  rw [off_same HL.out 5]
  have HL2 : Aside0 (Lens L5 L) := ⟨fun i => by rw [hl i, HL.out i]⟩
  have HM2 : Aside0 (∀ i, i < 5 → MarkR m L L5 i) := ⟨fun i hi => (hmk i hi).same HL.out⟩
  have HO2 := Aside0.mk hbo
  have HK2 := Aside0.mk (HK.out.trans hke)
  have BK2 := Aside0.mk (show w3.heap[gb]? = some (.cells (bkCells s A c L5) 27 (0, 0)) by rw [bk_len s A c hl]; exact hke.blk BKgb.out HN.out)
  clear hl hmk hbo hke HL HMk HO HK BKgb
  clear fgbs0 fgbz0 fgb1 fgbz1 fgb2 fgbz2 fgb3 fgbz3 fgb4 fgbz4 fgb5 fgbz5 fgb6 fgbz6 fgb7 fgbz7 fgb8 fgbz8
  have HL := HL2
  have HMk := HM2
  have HO := HO2
  have HK := HK2
  have BKgb := BK2
  clear HL2 HM2 HO2 HK2 BK2
  have fgbs0 : w3.cell? ⟨gb, 0, none⟩ = some (.int .i64 _) := (blk_cell BKgb.out 0).trans rfl; have fgb1 : w3.cell? ⟨gb, 1, none⟩ = some (.slice (A 0) (L5 0).length (c 0)) := (blk_cell BKgb.out 1).trans rfl; have fgb2 : w3.cell? ⟨gb, 2, none⟩ = some (.slice (A 1) (L5 1).length (c 1)) := (blk_cell BKgb.out 2).trans rfl; have fgb3 : w3.cell? ⟨gb, 3, none⟩ = some (.slice (A 2) (L5 2).length (c 2)) := (blk_cell BKgb.out 3).trans rfl; have fgb4 : w3.cell? ⟨gb, 4, none⟩ = some (.slice (A 3) (L5 3).length (c 3)) := (blk_cell BKgb.out 4).trans rfl; have fgb5 : w3.cell? ⟨gb, 5, none⟩ = some (.slice (A 4) (L5 4).length (c 4)) := (blk_cell BKgb.out 5).trans rfl; have fgb6 : w3.cell? ⟨gb, 6, none⟩ = some (.slice (A 5) (L5 5).length (c 5)) := (blk_cell BKgb.out 6).trans rfl; have fgb7 : w3.cell? ⟨gb, 7, none⟩ = some (.slice (A 6) (L5 6).length (c 6)) := (blk_cell BKgb.out 7).trans rfl; have fgb8 : w3.cell? ⟨gb, 8, none⟩ = some (.slice (A 7) (L5 7).length (c 7)) := (blk_cell BKgb.out 8).trans rfl; have fgbz0 := blk_frozen BKgb.out 0; have fgbz1 := blk_frozen BKgb.out 1; have fgbz2 := blk_frozen BKgb.out 2; have fgbz3 := blk_frozen BKgb.out 3; have fgbz4 := blk_frozen BKgb.out 4; have fgbz5 := blk_frozen BKgb.out 5; have fgbz6 := blk_frozen BKgb.out 6; have fgbz7 := blk_frozen BKgb.out 7; have fgbz8 := blk_frozen BKgb.out 8
  go_wp2_with fail
  refine (markIntS_calls _ _ _ _ lo hi _ (VO.s HO.out 5 (by omega)) (by omega) (by have h1 := off_mono L 6 8 (by omega); have h2 : off L 6 = off L 5 + (L 5).length := rfl; have := HMX.out; have := HL.out 5; omega)).mono ?_
  rintro e w4 ⟨l5, rfl, hl1, hl2, hs, hkv⟩
  have HL2 := Aside0.mk (show Lens _ L from lens_upd HL.out hl1)
  have HM2 := Aside0.mk (marks_upd HMk.out (fun j hj => by rw [hl2 j hj]) hl1)
  have HO2 := Aside0.mk (BkO.mark HO.out 5 (by omega) hl1 hs hkv)
  have hkk := KeepV.keep (VO.s HO.out 5 (by omega)) hkv
  have HK2 := Aside0.mk (HK.out.trans hkk)
  have BK2 := Aside0.mk (show w4.heap[gb]? = some (.cells (bkCells s A c (upd L5 5 l5)) 27 (0, 0)) by rw [bk_len s A c (fun i => by rw [HL2.out i, HL.out i] : ∀ i, (upd L5 5 l5 i).length = (L5 i).length)]; exact hkk.blk BKgb.out HN.out)
  have hval : Aside0 (m + ((off L 5 : Nat) : Int) + ((L5 5).length : Int) = m + ((off L 6 : Nat) : Int)) := ⟨by rw [HL.out 5, show off L 6 = off L 5 + (L 5).length from rfl]; omega⟩
  rw [hval.out]
  clear hl1 hl2 hs hkv hkk HL HMk HO HK BKgb hval
  clear fgbs0 fgbz0 fgb1 fgbz1 fgb2 fgbz2 fgb3 fgbz3 fgb4 fgbz4 fgb5 fgbz5 fgb6 fgbz6 fgb7 fgbz7 fgb8 fgbz8
  obtain ⟨L6, hLn⟩ : ∃ Lx, upd L5 5 l5 = Lx := ⟨_, rfl⟩
  rw [hLn] at HL2 HM2 HO2 BK2
  clear hLn
  have HL := HL2
  have HMk := HM2
  have HO := HO2
  have HK := HK2
  have BKgb := BK2
  clear HL2 HM2 HO2 HK2 BK2
  have fgbs0 : w4.cell? ⟨gb, 0, none⟩ = some (.int .i64 _) := (blk_cell BKgb.out 0).trans rfl; have fgb1 : w4.cell? ⟨gb, 1, none⟩ = some (.slice (A 0) (L6 0).length (c 0)) := (blk_cell BKgb.out 1).trans rfl; have fgb2 : w4.cell? ⟨gb, 2, none⟩ = some (.slice (A 1) (L6 1).length (c 1)) := (blk_cell BKgb.out 2).trans rfl; have fgb3 : w4.cell? ⟨gb, 3, none⟩ = some (.slice (A 2) (L6 2).length (c 2)) := (blk_cell BKgb.out 3).trans rfl; have fgb4 : w4.cell? ⟨gb, 4, none⟩ = some (.slice (A 3) (L6 3).length (c 3)) := (blk_cell BKgb.out 4).trans rfl; have fgb5 : w4.cell? ⟨gb, 5, none⟩ = some (.slice (A 4) (L6 4).length (c 4)) := (blk_cell BKgb.out 5).trans rfl; have fgb6 : w4.cell? ⟨gb, 6, none⟩ = some (.slice (A 5) (L6 5).length (c 5)) := (blk_cell BKgb.out 6).trans rfl; have fgb7 : w4.cell? ⟨gb, 7, none⟩ = some (.slice (A 6) (L6 6).length (c 6)) := (blk_cell BKgb.out 7).trans rfl; have fgb8 : w4.cell? ⟨gb, 8, none⟩ = some (.slice (A 7) (L6 7).length (c 7)) := (blk_cell BKgb.out 8).trans rfl; have fgbz0 := blk_frozen BKgb.out 0; have fgbz1 := blk_frozen BKgb.out 1; have fgbz2 := blk_frozen BKgb.out 2; have fgbz3 := blk_frozen BKgb.out 3; have fgbz4 := blk_frozen BKgb.out 4; have fgbz5 := blk_frozen BKgb.out 5; have fgbz6 := blk_frozen BKgb.out 6; have fgbz7 := blk_frozen BKgb.out 7; have fgbz8 := blk_frozen BKgb.out 8
  go_wp2_with fail
  refine (markIntS_calls _ _ _ _ lo hi _ (VO.s HO.out 6 (by omega)) (by omega) (by have h1 := off_mono L 7 8 (by omega); have h2 : off L 7 = off L 6 + (L 6).length := rfl; have := HMX.out; have := HL.out 6; omega)).mono ?_
  rintro e w5 ⟨l6, rfl, hl1, hl2, hs, hkv⟩
  have HL2 := Aside0.mk (show Lens _ L from lens_upd HL.out hl1)
  have HM2 := Aside0.mk (marks_upd HMk.out (fun j hj => by rw [hl2 j hj]) hl1)
  have HO2 := Aside0.mk (BkO.mark HO.out 6 (by omega) hl1 hs hkv)
  have hkk := KeepV.keep (VO.s HO.out 6 (by omega)) hkv
  have HK2 := Aside0.mk (HK.out.trans hkk)
  have BK2 := Aside0.mk (show w5.heap[gb]? = some (.cells (bkCells s A c (upd L6 6 l6)) 27 (0, 0)) by rw [bk_len s A c (fun i => by rw [HL2.out i, HL.out i] : ∀ i, (upd L6 6 l6 i).length = (L6 i).length)]; exact hkk.blk BKgb.out HN.out)
  have hval : Aside0 (m + ((off L 6 : Nat) : Int) + ((L6 6).length : Int) = m + ((off L 7 : Nat) : Int)) := ⟨by rw [HL.out 6, show off L 7 = off L 6 + (L 6).length from rfl]; omega⟩
  rw [hval.out]
  clear hl1 hl2 hs hkv hkk HL HMk HO HK BKgb hval
  clear fgbs0 fgbz0 fgb1 fgbz1 fgb2 fgbz2 fgb3 fgbz3 fgb4 fgbz4 fgb5 fgbz5 fgb6 fgbz6 fgb7 fgbz7 fgb8 fgbz8
  obtain ⟨L7, hLn⟩ : ∃ Lx, upd L6 6 l6 = Lx := ⟨_, rfl⟩
  rw [hLn] at HL2 HM2 HO2 BK2
  clear hLn
  have HL := HL2
  have HMk := HM2
  have HO := HO2
  have HK := HK2
  have BKgb := BK2
  clear HL2 HM2 HO2 HK2 BK2
  have fgbs0 : w5.cell? ⟨gb, 0, none⟩ = some (.int .i64 _) := (blk_cell BKgb.out 0).trans rfl; have fgb1 : w5.cell? ⟨gb, 1, none⟩ = some (.slice (A 0) (L7 0).length (c 0)) := (blk_cell BKgb.out 1).trans rfl; have fgb2 : w5.cell? ⟨gb, 2, none⟩ = some (.slice (A 1) (L7 1).length (c 1)) := (blk_cell BKgb.out 2).trans rfl; have fgb3 : w5.cell? ⟨gb, 3, none⟩ = some (.slice (A 2) (L7 2).length (c 2)) := (blk_cell BKgb.out 3).trans rfl; have fgb4 : w5.cell? ⟨gb, 4, none⟩ = some (.slice (A 3) (L7 3).length (c 3)) := (blk_cell BKgb.out 4).trans rfl; have fgb5 : w5.cell? ⟨gb, 5, none⟩ = some (.slice (A 4) (L7 4).length (c 4)) := (blk_cell BKgb.out 5).trans rfl; have fgb6 : w5.cell? ⟨gb, 6, none⟩ = some (.slice (A 5) (L7 5).length (c 5)) := (blk_cell BKgb.out 6).trans rfl; have fgb7 : w5.cell? ⟨gb, 7, none⟩ = some (.slice (A 6) (L7 6).length (c 6)) := (blk_cell BKgb.out 7).trans rfl; have fgb8 : w5.cell? ⟨gb, 8, none⟩ = some (.slice (A 7) (L7 7).length (c 7)) := (blk_cell BKgb.out 8).trans rfl; have fgbz0 := blk_frozen BKgb.out 0; have fgbz1 := blk_frozen BKgb.out 1; have fgbz2 := blk_frozen BKgb.out 2; have fgbz3 := blk_frozen BKgb.out 3; have fgbz4 := blk_frozen BKgb.out 4; have fgbz5 := blk_frozen BKgb.out 5; have fgbz6 := blk_frozen BKgb.out 6; have fgbz7 := blk_frozen BKgb.out 7; have fgbz8 := blk_frozen BKgb.out 8
  go_wp2_with fail
  refine (markIntS_calls _ _ _ _ lo hi _ (VO.s HO.out 7 (by omega)) (by omega) (by have h1 := off_mono L 8 8 (by omega); have h2 : off L 8 = off L 7 + (L 7).length := rfl; have := HMX.out; have := HL.out 7; omega)).mono ?_
  rintro e w6 ⟨l7, rfl, hl1, hl2, hs, hkv⟩
  have HL2 := Aside0.mk (show Lens _ L from lens_upd HL.out hl1)
  have HM2 := Aside0.mk (marks_upd HMk.out (fun j hj => by rw [hl2 j hj]) hl1)
  have HO2 := Aside0.mk (BkO.mark HO.out 7 (by omega) hl1 hs hkv)
  have hkk := KeepV.keep (VO.s HO.out 7 (by omega)) hkv
  have HK2 := Aside0.mk (HK.out.trans hkk)
  have BK2 := Aside0.mk (show w6.heap[gb]? = some (.cells (bkCells s A c (upd L7 7 l7)) 27 (0, 0)) by rw [bk_len s A c (fun i => by rw [HL2.out i, HL.out i] : ∀ i, (upd L7 7 l7 i).length = (L7 i).length)]; exact hkk.blk BKgb.out HN.out)
  have hval : Aside0 (m + ((off L 7 : Nat) : Int) + ((L7 7).length : Int) = m + ((off L 8 : Nat) : Int)) := ⟨by rw [HL.out 7, show off L 8 = off L 7 + (L 7).length from rfl]; omega⟩
  rw [hval.out]
  clear hl1 hl2 hs hkv hkk HL HMk HO HK BKgb hval
  clear fgbs0 fgbz0 fgb1 fgbz1 fgb2 fgbz2 fgb3 fgbz3 fgb4 fgbz4 fgb5 fgbz5 fgb6 fgbz6 fgb7 fgbz7 fgb8 fgbz8
  obtain ⟨L8, hLn⟩ : ∃ Lx, upd L7 7 l7 = Lx := ⟨_, rfl⟩
  rw [hLn] at HL2 HM2 HO2 BK2
  clear hLn
  have HL := HL2
  have HMk := HM2
  have HO := HO2
  have HK := HK2
  have BKgb := BK2
  clear HL2 HM2 HO2 HK2 BK2
  have fgbs0 : w6.cell? ⟨gb, 0, none⟩ = some (.int .i64 _) := (blk_cell BKgb.out 0).trans rfl; have fgb1 : w6.cell? ⟨gb, 1, none⟩ = some (.slice (A 0) (L8 0).length (c 0)) := (blk_cell BKgb.out 1).trans rfl; have fgb2 : w6.cell? ⟨gb, 2, none⟩ = some (.slice (A 1) (L8 1).length (c 1)) := (blk_cell BKgb.out 2).trans rfl; have fgb3 : w6.cell? ⟨gb, 3, none⟩ = some (.slice (A 2) (L8 2).length (c 2)) := (blk_cell BKgb.out 3).trans rfl; have fgb4 : w6.cell? ⟨gb, 4, none⟩ = some (.slice (A 3) (L8 3).length (c 3)) := (blk_cell BKgb.out 4).trans rfl; have fgb5 : w6.cell? ⟨gb, 5, none⟩ = some (.slice (A 4) (L8 4).length (c 4)) := (blk_cell BKgb.out 5).trans rfl; have fgb6 : w6.cell? ⟨gb, 6, none⟩ = some (.slice (A 5) (L8 5).length (c 5)) := (blk_cell BKgb.out 6).trans rfl; have fgb7 : w6.cell? ⟨gb, 7, none⟩ = some (.slice (A 6) (L8 6).length (c 6)) := (blk_cell BKgb.out 7).trans rfl; have fgb8 : w6.cell? ⟨gb, 8, none⟩ = some (.slice (A 7) (L8 7).length (c 7)) := (blk_cell BKgb.out 8).trans rfl; have fgbz0 := blk_frozen BKgb.out 0; have fgbz1 := blk_frozen BKgb.out 1; have fgbz2 := blk_frozen BKgb.out 2; have fgbz3 := blk_frozen BKgb.out 3; have fgbz4 := blk_frozen BKgb.out 4; have fgbz5 := blk_frozen BKgb.out 5; have fgbz6 := blk_frozen BKgb.out 6; have fgbz7 := blk_frozen BKgb.out 7; have fgbz8 := blk_frozen BKgb.out 8
  go_wp2
  go_ret
  exact ⟨L8, rfl, HL.out, HMk.out, HO.out, HK.out⟩
theorem SlO.kept {w w1 : World} {lo hi lo' hi' : Nat} {A : Option Addr} {c : Nat} {l : List Int} (h : SlO w lo hi A c l) (hk : Keep lo' hi' w w1) (hd : hi ≤ lo' ∨ hi' ≤ lo) : SlO w1 lo hi A c l := h.move fun k h1 h2 h3 => hk.block k h3 (by omega)
theorem off8_le {L : Nat → List Int} (h : ∀ i, (L i).length ≤ 1048576) : off L 8 ≤ 8388608 := by
  have h0 := h 0
  have h1 := h 1
  have h2 := h 2
  have h3 := h 3
  have h4 := h 4
  have h5 := h 5
  have h6 := h 6
  have h7 := h 7
  simp only [off]
  omega

set_option maxHeartbeats 4000000 in
set_option maxRecDepth 100000 in
theorem heldBook_calls (s : Int) (A : Nat → Option Addr) (c : Nat → Nat) (L : Nat → List Int) (m : Int) (w : World) (h : BkC w A c L) (hm : 0 ≤ m) (hM : m + (off L 8 : Nat) ≤ 35184372088832) (hk : ∀ i, i < 8 → MarkR m L L i) :
    Calls Try.prog 16 #[.agg (bkCells s A c L), .int .i64 m] w fun e w' => e = .returned (.int .i64 (m + (off L 8 : Nat))) ∧ Below w.heap.size w w' := by
  have HR := Aside0.mk h
  have HMX := Aside0.mk hM
  have HMk := Aside0.mk hk
  clear h hM hk
  have HB := Aside0.mk (Below.refl w.heap.size w)
  have M0 : Aside0 (m = m + ((off L 0 : Nat) : Int)) := ⟨by show m = m + ((0 : Nat) : Int); omega⟩
  go_enter Try.func16, Try.ntmps16
  go_wp2_with (first | ((with_reducible refine gate_dst (N := 2) rfl ?_); refine box_event rfl (N := 2) rfl (cs := bkCells s A c L) (t := 27) (by first | (go_simp; done) | (go_simp; rfl)) ?_; intro gb hggb w1 hbox hb; have n0_ := Aside0.mk (below_step HB.out hb); have BKgb := Aside0.mk hbox; have HGgb := Aside0.mk (show w.heap.size ≤ gb by rw [hggb]; exact HB.out.size); clear HB; have HB := n0_; have HC := Aside0.mk (HR.out.below HB.out); have fgbs0 : w1.cell? ⟨gb, 0, none⟩ = some (.int .i64 _) := (blk_cell BKgb.out 0).trans rfl; have fgb1 : w1.cell? ⟨gb, 1, none⟩ = some (.slice (A 0) (L 0).length (c 0)) := (blk_cell BKgb.out 1).trans rfl; have fgb2 : w1.cell? ⟨gb, 2, none⟩ = some (.slice (A 1) (L 1).length (c 1)) := (blk_cell BKgb.out 2).trans rfl; have fgb3 : w1.cell? ⟨gb, 3, none⟩ = some (.slice (A 2) (L 2).length (c 2)) := (blk_cell BKgb.out 3).trans rfl; have fgb4 : w1.cell? ⟨gb, 4, none⟩ = some (.slice (A 3) (L 3).length (c 3)) := (blk_cell BKgb.out 4).trans rfl; have fgb5 : w1.cell? ⟨gb, 5, none⟩ = some (.slice (A 4) (L 4).length (c 4)) := (blk_cell BKgb.out 5).trans rfl; have fgb6 : w1.cell? ⟨gb, 6, none⟩ = some (.slice (A 5) (L 5).length (c 5)) := (blk_cell BKgb.out 6).trans rfl; have fgb7 : w1.cell? ⟨gb, 7, none⟩ = some (.slice (A 6) (L 6).length (c 6)) := (blk_cell BKgb.out 7).trans rfl; have fgb8 : w1.cell? ⟨gb, 8, none⟩ = some (.slice (A 7) (L 7).length (c 7)) := (blk_cell BKgb.out 8).trans rfl; have fgbz0 := blk_frozen BKgb.out 0; have fgbz1 := blk_frozen BKgb.out 1; have fgbz2 := blk_frozen BKgb.out 2; have fgbz3 := blk_frozen BKgb.out 3; have fgbz4 := blk_frozen BKgb.out 4; have fgbz5 := blk_frozen BKgb.out 5; have fgbz6 := blk_frozen BKgb.out 6; have fgbz7 := blk_frozen BKgb.out 7; have fgbz8 := blk_frozen BKgb.out 8; clear n0_ hbox hb hggb))
  refine calls_of_args (args' := #[.slice (A 0) (L 0).length (c 0), .int .i64 (m + ((off L 0 : Nat) : Int))]) (by rw [← M0.out]) ?_
  refine (heldIntS_calls _ _ _ _ _ (HC.out 0 (by omega)) (by omega) (by have h1 := off_mono L 1 8 (by omega); have h2 : off L 1 = off L 0 + (L 0).length := rfl; have := HMX.out; omega) (HMk.out 0 (by omega))).mono ?_
  rintro e w10 ⟨rfl, rfl⟩
  rw [show m + ((off L 0 : Nat) : Int) + ((L 0).length : Int) = m + ((off L 1 : Nat) : Int) by rw [show off L 1 = off L 0 + (L 0).length from rfl]; omega]
  have hnn1 : 0 ≤ m + ((off L 1 : Nat) : Int) := by omega
  go_wp2_with fail
  refine (heldA_calls A c L m _ _ HC.out hm rfl HMX.out HMk.out).mono ?_
  rintro e w3 ⟨rfl, hb⟩
  have HB2 := Aside0.mk (below_step HB.out hb)
  have BK2 := Aside0.mk (blk_below BKgb.out hb)
  have HC2 := Aside0.mk (HC.out.below hb)
  clear hb HB BKgb HC
  clear fgbs0 fgbz0 fgb1 fgbz1 fgb2 fgbz2 fgb3 fgbz3 fgb4 fgbz4 fgb5 fgbz5 fgb6 fgbz6 fgb7 fgbz7 fgb8 fgbz8
  have HB := HB2
  have BKgb := BK2
  have HC := HC2
  clear HB2 BK2 HC2
  have hnn5 : 0 ≤ m + ((off L 5 : Nat) : Int) := by omega
  have fgbs0 : w3.cell? ⟨gb, 0, none⟩ = some (.int .i64 _) := (blk_cell BKgb.out 0).trans rfl; have fgb1 : w3.cell? ⟨gb, 1, none⟩ = some (.slice (A 0) (L 0).length (c 0)) := (blk_cell BKgb.out 1).trans rfl; have fgb2 : w3.cell? ⟨gb, 2, none⟩ = some (.slice (A 1) (L 1).length (c 1)) := (blk_cell BKgb.out 2).trans rfl; have fgb3 : w3.cell? ⟨gb, 3, none⟩ = some (.slice (A 2) (L 2).length (c 2)) := (blk_cell BKgb.out 3).trans rfl; have fgb4 : w3.cell? ⟨gb, 4, none⟩ = some (.slice (A 3) (L 3).length (c 3)) := (blk_cell BKgb.out 4).trans rfl; have fgb5 : w3.cell? ⟨gb, 5, none⟩ = some (.slice (A 4) (L 4).length (c 4)) := (blk_cell BKgb.out 5).trans rfl; have fgb6 : w3.cell? ⟨gb, 6, none⟩ = some (.slice (A 5) (L 5).length (c 5)) := (blk_cell BKgb.out 6).trans rfl; have fgb7 : w3.cell? ⟨gb, 7, none⟩ = some (.slice (A 6) (L 6).length (c 6)) := (blk_cell BKgb.out 7).trans rfl; have fgb8 : w3.cell? ⟨gb, 8, none⟩ = some (.slice (A 7) (L 7).length (c 7)) := (blk_cell BKgb.out 8).trans rfl; have fgbz0 := blk_frozen BKgb.out 0; have fgbz1 := blk_frozen BKgb.out 1; have fgbz2 := blk_frozen BKgb.out 2; have fgbz3 := blk_frozen BKgb.out 3; have fgbz4 := blk_frozen BKgb.out 4; have fgbz5 := blk_frozen BKgb.out 5; have fgbz6 := blk_frozen BKgb.out 6; have fgbz7 := blk_frozen BKgb.out 7; have fgbz8 := blk_frozen BKgb.out 8
  go_wp2_with fail
  refine (heldIntS_calls _ _ _ _ _ (HC.out 5 (by omega)) (by omega) (by have h1 := off_mono L 6 8 (by omega); have h2 : off L 6 = off L 5 + (L 5).length := rfl; have := HMX.out; omega) (HMk.out 5 (by omega))).mono ?_
  rintro e w60 ⟨rfl, rfl⟩
  rw [show m + ((off L 5 : Nat) : Int) + ((L 5).length : Int) = m + ((off L 6 : Nat) : Int) by rw [show off L 6 = off L 5 + (L 5).length from rfl]; omega]
  have hnn6 : 0 ≤ m + ((off L 6 : Nat) : Int) := by omega
  go_wp2_with fail
  refine (heldIntS_calls _ _ _ _ _ (HC.out 6 (by omega)) (by omega) (by have h1 := off_mono L 7 8 (by omega); have h2 : off L 7 = off L 6 + (L 6).length := rfl; have := HMX.out; omega) (HMk.out 6 (by omega))).mono ?_
  rintro e w70 ⟨rfl, rfl⟩
  rw [show m + ((off L 6 : Nat) : Int) + ((L 6).length : Int) = m + ((off L 7 : Nat) : Int) by rw [show off L 7 = off L 6 + (L 6).length from rfl]; omega]
  have hnn7 : 0 ≤ m + ((off L 7 : Nat) : Int) := by omega
  go_wp2_with fail
  refine (heldIntS_calls _ _ _ _ _ (HC.out 7 (by omega)) (by omega) (by have h1 := off_mono L 8 8 (by omega); have h2 : off L 8 = off L 7 + (L 7).length := rfl; have := HMX.out; omega) (HMk.out 7 (by omega))).mono ?_
  rintro e w80 ⟨rfl, rfl⟩
  rw [show m + ((off L 7 : Nat) : Int) + ((L 7).length : Int) = m + ((off L 8 : Nat) : Int) by rw [show off L 8 = off L 7 + (L 7).length from rfl]; omega]
  have hnn8 : 0 ≤ m + ((off L 8 : Nat) : Int) := by omega
  go_wp2
  go_ret
  exact ⟨rfl, HB.out⟩
end Go.Proofs.Ytekneicikmaplaa.Bk

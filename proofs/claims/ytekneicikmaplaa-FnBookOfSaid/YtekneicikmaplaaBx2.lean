/- Walks and plain laws that this claim's texts name, part 2. -/
import Derived.Test.YtekneicikmaplaaBx1
import Derived.DataElems
import Derived.Deep.RegionHeld3
import Derived.Test.YtekneicikmaplaaWInvWords
set_option linter.unusedVariables false
set_option linter.unusedSimpArgs false
namespace Go.Proofs.Ytekneicikmaplaa.Bk
open Go.RowKit Go.Proofs.YtekneicikmaplaaW.PrintWords Go.Proofs.YtekneicikmaplaaW.PrintLast Go.Proofs.YtekneicikmaplaaW.PrintMore
def withinB (n lo hi : Int) : Bool := decide (lo ≤ n) && decide (n ≤ hi)
theorem within_t {n lo hi : Int} : withinB n lo hi = true ↔ lo ≤ n ∧ n ≤ hi := by simp [withinB]
theorem within_calls (n lo hi : Int) (w : World) : Calls Try.prog 53 #[.int .i64 n, .int .i64 lo, .int .i64 hi] w fun e w' => e = .returned (.bool (withinB n lo hi)) ∧ w = w' := by
  by_cases h : lo ≤ n
  · have HF : Aside0 (withinB n lo hi = decide (n ≤ hi)) := ⟨by simp [withinB, h]⟩
    go_enter Try.func53, Try.ntmps53
    go_wp2
    go_ret
    exact ⟨by rw [HF.out]; rfl, rfl⟩
  · have HF : Aside0 (withinB n lo hi = false) := ⟨by simp [withinB, h]⟩
    go_enter Try.func53, Try.ntmps53
    go_wp2
    go_ret
    exact ⟨by rw [HF.out]; rfl, rfl⟩
theorem isKind_calls (n : Int) (w : World) : Calls Try.prog 51 #[.int .i64 n] w fun e w' => e = .returned (.bool (withinB n 1 4)) ∧ w = w' := by
  go_enter Try.func51, Try.ntmps51
  go_wp2_with (go_at_call 53; refine (within_calls _ _ _ _).mono ?_; rintro e w' ⟨rfl, rfl⟩)
  go_ret
  exact ⟨rfl, rfl⟩
theorem unitsOf_calls (k : Nat) (hk : k < 4) (w : World) : Calls Try.prog 73 #[.int .i64 (k : Int)] w fun e w' => e = .returned (.int .i64 (sizeN k : Nat)) ∧ w = w' := by
  match k, hk with
  | 0, _ =>
    go_enter Try.func73, Try.ntmps73
    go_wp2
    go_ret
    exact ⟨rfl, rfl⟩
  | 1, _ =>
    go_enter Try.func73, Try.ntmps73
    go_wp2
    go_ret
    exact ⟨rfl, rfl⟩
  | 2, _ =>
    go_enter Try.func73, Try.ntmps73
    go_wp2
    go_ret
    exact ⟨rfl, rfl⟩
  | 3, _ =>
    go_enter Try.func73, Try.ntmps73
    go_wp2
    go_ret
    exact ⟨rfl, rfl⟩
set_option maxRecDepth 100000 in
theorem isSlot_calls (s : Int) (A : Nat → Option Addr) (c : Nat → Nat) (L : Nat → List Int) (x : Int) (w : World) (h0 : 1 ≤ s) (h4 : s ≤ 4) :
    Calls Try.prog 56 #[.agg (bkCells s A c L), .int .i64 x] w fun e w' => e = .returned (.bool (withinB x 0 (s - 1))) ∧ Below w.heap.size w w' := by
  have HB := Aside0.mk (Below.refl w.heap.size w)
  go_enter Try.func56, Try.ntmps56
  go_wp2_with (first | ((with_reducible refine gate_dst (N := 2) rfl ?_); refine box_event rfl (N := 2) rfl (cs := bkCells s A c L) (t := 27) (by first | (go_simp; done) | (go_simp; rfl)) ?_; intro gb hggb w1 hbox hb; have n0_ := Aside0.mk (below_step HB.out hb); have BKgb := Aside0.mk hbox; have HGgb := Aside0.mk (show w.heap.size ≤ gb by rw [hggb]; exact HB.out.size); clear HB; have HB := n0_; have fgbs0 : w1.cell? ⟨gb, 0, none⟩ = some (.int .i64 _) := (blk_cell BKgb.out 0).trans rfl; have fgb1 : w1.cell? ⟨gb, 1, none⟩ = some (.slice (A 0) (L 0).length (c 0)) := (blk_cell BKgb.out 1).trans rfl; have fgb2 : w1.cell? ⟨gb, 2, none⟩ = some (.slice (A 1) (L 1).length (c 1)) := (blk_cell BKgb.out 2).trans rfl; have fgb3 : w1.cell? ⟨gb, 3, none⟩ = some (.slice (A 2) (L 2).length (c 2)) := (blk_cell BKgb.out 3).trans rfl; have fgb4 : w1.cell? ⟨gb, 4, none⟩ = some (.slice (A 3) (L 3).length (c 3)) := (blk_cell BKgb.out 4).trans rfl; have fgb5 : w1.cell? ⟨gb, 5, none⟩ = some (.slice (A 4) (L 4).length (c 4)) := (blk_cell BKgb.out 5).trans rfl; have fgb6 : w1.cell? ⟨gb, 6, none⟩ = some (.slice (A 5) (L 5).length (c 5)) := (blk_cell BKgb.out 6).trans rfl; have fgb7 : w1.cell? ⟨gb, 7, none⟩ = some (.slice (A 6) (L 6).length (c 6)) := (blk_cell BKgb.out 7).trans rfl; have fgb8 : w1.cell? ⟨gb, 8, none⟩ = some (.slice (A 7) (L 7).length (c 7)) := (blk_cell BKgb.out 8).trans rfl; have fgbz0 := blk_frozen BKgb.out 0; have fgbz1 := blk_frozen BKgb.out 1; have fgbz2 := blk_frozen BKgb.out 2; have fgbz3 := blk_frozen BKgb.out 3; have fgbz4 := blk_frozen BKgb.out 4; have fgbz5 := blk_frozen BKgb.out 5; have fgbz6 := blk_frozen BKgb.out 6; have fgbz7 := blk_frozen BKgb.out 7; have fgbz8 := blk_frozen BKgb.out 8; clear n0_ hbox hb hggb) | (go_at_call 53; refine (within_calls _ _ _ _).mono ?_; rintro e w' ⟨rfl, rfl⟩))
  go_ret
  exact ⟨rfl, HB.out⟩
def InP (s : Int) (I : List Int) (x : Int) : Prop := 0 ≤ x ∧ x ≤ s - 1 ∧ I.getD x.toNat 0 ≠ 0
set_option maxHeartbeats 1000000 in
set_option maxRecDepth 100000 in
theorem isIn_calls (s : Int) (A : Nat → Option Addr) (c : Nat → Nat) (L : Nat → List Int) (x : Int) (w : World) (h : BkC w A c L) (h0 : 1 ≤ s) (h4 : s ≤ 4) (h6 : ((L 6).length : Int) = s) :
    Calls Try.prog 72 #[.agg (bkCells s A c L), .int .i64 x] w (RetB (InP s (L 6) x) w) := by
  have HR := Aside0.mk h
  have H6 := Aside0.mk h6
  clear h h6
  have HB := Aside0.mk (Below.refl w.heap.size w)
  have hw := @within_t x 0 (s - 1)
  obtain ⟨b, hb0⟩ : ∃ b, withinB x 0 (s - 1) = b := ⟨_, rfl⟩
  rw [hb0] at hw
  have HB0 := Aside0.mk hb0
  clear hb0
  cases b with
  | false =>
    have HF : Aside0 (¬ InP s (L 6) x) := ⟨fun hh => by have := hw.mpr ⟨hh.1, hh.2.1⟩; cases this⟩
    clear hw
    go_enter Try.func72, Try.ntmps72
    go_wp2_with (first | ((with_reducible refine gate_dst (N := 2) rfl ?_); refine box_event rfl (N := 2) rfl (cs := bkCells s A c L) (t := 27) (by first | (go_simp; done) | (go_simp; rfl)) ?_; intro gb hggb w1 hbox hb; have n0_ := Aside0.mk (below_step HB.out hb); have BKgb := Aside0.mk hbox; have HGgb := Aside0.mk (show w.heap.size ≤ gb by rw [hggb]; exact HB.out.size); clear HB; have HB := n0_; have fgbs0 : w1.cell? ⟨gb, 0, none⟩ = some (.int .i64 _) := (blk_cell BKgb.out 0).trans rfl; have fgb1 : w1.cell? ⟨gb, 1, none⟩ = some (.slice (A 0) (L 0).length (c 0)) := (blk_cell BKgb.out 1).trans rfl; have fgb2 : w1.cell? ⟨gb, 2, none⟩ = some (.slice (A 1) (L 1).length (c 1)) := (blk_cell BKgb.out 2).trans rfl; have fgb3 : w1.cell? ⟨gb, 3, none⟩ = some (.slice (A 2) (L 2).length (c 2)) := (blk_cell BKgb.out 3).trans rfl; have fgb4 : w1.cell? ⟨gb, 4, none⟩ = some (.slice (A 3) (L 3).length (c 3)) := (blk_cell BKgb.out 4).trans rfl; have fgb5 : w1.cell? ⟨gb, 5, none⟩ = some (.slice (A 4) (L 4).length (c 4)) := (blk_cell BKgb.out 5).trans rfl; have fgb6 : w1.cell? ⟨gb, 6, none⟩ = some (.slice (A 5) (L 5).length (c 5)) := (blk_cell BKgb.out 6).trans rfl; have fgb7 : w1.cell? ⟨gb, 7, none⟩ = some (.slice (A 6) (L 6).length (c 6)) := (blk_cell BKgb.out 7).trans rfl; have fgb8 : w1.cell? ⟨gb, 8, none⟩ = some (.slice (A 7) (L 7).length (c 7)) := (blk_cell BKgb.out 8).trans rfl; have fgbz0 := blk_frozen BKgb.out 0; have fgbz1 := blk_frozen BKgb.out 1; have fgbz2 := blk_frozen BKgb.out 2; have fgbz3 := blk_frozen BKgb.out 3; have fgbz4 := blk_frozen BKgb.out 4; have fgbz5 := blk_frozen BKgb.out 5; have fgbz6 := blk_frozen BKgb.out 6; have fgbz7 := blk_frozen BKgb.out 7; have fgbz8 := blk_frozen BKgb.out 8; clear n0_ hbox hb hggb))
    refine (isSlot_calls s A c L x _ h0 h4).mono ?_
    rintro e w3 ⟨rfl, hb⟩
    rw [HB0.out]
    have HB3 := Aside0.mk (below_step HB.out hb)
    clear hb
    go_wp2
    go_ret
    exact RetB.mk rfl (iff_f HF.out) HB3.out
  | true =>
    have HX := Aside0.mk (hw.mp rfl)
    clear hw
    have x0 : 0 ≤ x := HX.out.1
    have x1 : x < ((L 6).length : Int) := by have := HX.out.2; have := H6.out; omega
    go_enter Try.func72, Try.ntmps72
    go_wp2_with (first | ((with_reducible refine gate_dst (N := 2) rfl ?_); refine box_event rfl (N := 2) rfl (cs := bkCells s A c L) (t := 27) (by first | (go_simp; done) | (go_simp; rfl)) ?_; intro gb hggb w1 hbox hb; have n0_ := Aside0.mk (below_step HB.out hb); have BKgb := Aside0.mk hbox; have HGgb := Aside0.mk (show w.heap.size ≤ gb by rw [hggb]; exact HB.out.size); clear HB; have HB := n0_; have fgbs0 : w1.cell? ⟨gb, 0, none⟩ = some (.int .i64 _) := (blk_cell BKgb.out 0).trans rfl; have fgb1 : w1.cell? ⟨gb, 1, none⟩ = some (.slice (A 0) (L 0).length (c 0)) := (blk_cell BKgb.out 1).trans rfl; have fgb2 : w1.cell? ⟨gb, 2, none⟩ = some (.slice (A 1) (L 1).length (c 1)) := (blk_cell BKgb.out 2).trans rfl; have fgb3 : w1.cell? ⟨gb, 3, none⟩ = some (.slice (A 2) (L 2).length (c 2)) := (blk_cell BKgb.out 3).trans rfl; have fgb4 : w1.cell? ⟨gb, 4, none⟩ = some (.slice (A 3) (L 3).length (c 3)) := (blk_cell BKgb.out 4).trans rfl; have fgb5 : w1.cell? ⟨gb, 5, none⟩ = some (.slice (A 4) (L 4).length (c 4)) := (blk_cell BKgb.out 5).trans rfl; have fgb6 : w1.cell? ⟨gb, 6, none⟩ = some (.slice (A 5) (L 5).length (c 5)) := (blk_cell BKgb.out 6).trans rfl; have fgb7 : w1.cell? ⟨gb, 7, none⟩ = some (.slice (A 6) (L 6).length (c 6)) := (blk_cell BKgb.out 7).trans rfl; have fgb8 : w1.cell? ⟨gb, 8, none⟩ = some (.slice (A 7) (L 7).length (c 7)) := (blk_cell BKgb.out 8).trans rfl; have fgbz0 := blk_frozen BKgb.out 0; have fgbz1 := blk_frozen BKgb.out 1; have fgbz2 := blk_frozen BKgb.out 2; have fgbz3 := blk_frozen BKgb.out 3; have fgbz4 := blk_frozen BKgb.out 4; have fgbz5 := blk_frozen BKgb.out 5; have fgbz6 := blk_frozen BKgb.out 6; have fgbz7 := blk_frozen BKgb.out 7; have fgbz8 := blk_frozen BKgb.out 8; clear n0_ hbox hb hggb))
    refine (isSlot_calls s A c L x _ h0 h4).mono ?_
    rintro e w3 ⟨rfl, hb⟩
    rw [HB0.out]
    have HB3 := Aside0.mk (below_step HB.out hb)
    have BK3 := Aside0.mk (blk_below BKgb.out hb)
    clear hb HB BKgb fgbs0 fgbz0 fgb1 fgbz1 fgb2 fgbz2 fgb3 fgbz3 fgb4 fgbz4 fgb5 fgbz5 fgb6 fgbz6 fgb7 fgbz7 fgb8 fgbz8
    obtain ⟨ad, v, ea, hx, HV⟩ := at_v ((HR.out 6 (by omega)).below HB3.out) x.toNat (by omega)
    have hc7 : w3.cell? ⟨gb, 7, none⟩ = some (.slice (some ad) (L 6).length (c 6)) := (blk_cell BK3.out 7).trans (by rw [← ea]; rfl)
    have hz7 := blk_frozen BK3.out 7
    clear ea
    by_cases hv : v = 0
    · have HF : Aside0 (¬ InP s (L 6) x) := ⟨fun hh => hh.2.2 (by rw [HV.out]; exact hv)⟩
      have hv' : (v != 0) = false := by rw [hv]; rfl
      clear hv
      go_wp2
      go_ret
      exact RetB.mk rfl (iff_f HF.out) HB3.out
    · have HF : Aside0 (InP s (L 6) x) := ⟨⟨HX.out.1, HX.out.2, by rw [HV.out]; exact hv⟩⟩
      have hv' : (v != 0) = true := bne_iff_ne.mpr hv
      clear hv
      go_wp2
      go_ret
      exact RetB.mk rfl (iff_t HF.out) HB3.out
end Go.Proofs.Ytekneicikmaplaa.Bk
namespace Go.Proofs.Ytekneicikmaplaa.Bk
open Go.RowKit Go.Proofs.YtekneicikmaplaaW.PrintWords Go.Proofs.YtekneicikmaplaaW.PrintLast Go.Proofs.YtekneicikmaplaaW.PrintMore
/-- How many of the n units from f on have an owner. -/
def NzN (O : List Int) (f : Nat) : Nat → Nat
  | 0 => 0
  | n + 1 => NzN O f n + if O.getD (f + n) 0 ≠ 0 then 1 else 0
set_option maxHeartbeats 1000000 in
set_option maxRecDepth 100000 in
theorem owned_calls (s : Int) (A : Nat → Option Addr) (c : Nat → Nat) (L : Nat → List Int) (x t : Int) (f n : Nat) (w : World) (h : BkC w A c L) (hx : x = (f : Int)) (ht : t = (f : Int) + (n : Int)) (hn : 0 < n) (hf : f + n ≤ (L 5).length) (hl : (L 5).length ≤ 35184372088832) :
    Calls Try.prog 50 #[.agg (bkCells s A c L), .int .i64 x, .int .i64 t] w fun e w' => e = .returned (.int .i64 (NzN (L 5) f n : Nat)) ∧ Below w.heap.size w w' := by
  subst hx ht
  have HR := Aside0.mk h
  have HFN := Aside0.mk hf
  have hc5 := (h 5 (by omega)).2
  have HC5 := Aside0.mk hc5
  have HLn := Aside0.mk hl
  clear h
  have HB := Aside0.mk (Below.refl w.heap.size w)
  have q1 : (f : Int) + (n : Int) ≤ 35184372088832 := by omega
  have q2 : (f : Int) + (n : Int) ≤ (c 5 : Int) := by omega
  have q3 : ¬ (c 5 = f) := by omega
  have q4 : f + n ≤ c 5 := by omega
  have hu24 := Try.underlying24
  go_enter Try.func50, Try.ntmps50
  go_wp2_with (first | ((with_reducible refine gate_dst (N := 3) rfl ?_); refine box_event rfl (N := 3) rfl (cs := bkCells s A c L) (t := 27) (by first | (go_simp; done) | (go_simp; rfl)) ?_; intro gb hggb w1 hbox hb; have n0_ := Aside0.mk (below_step HB.out hb); have BKgb := Aside0.mk hbox; have HGgb := Aside0.mk (show w.heap.size ≤ gb by rw [hggb]; exact HB.out.size); clear HB; have HB := n0_; have fgbs0 : w1.cell? ⟨gb, 0, none⟩ = some (.int .i64 _) := (blk_cell BKgb.out 0).trans rfl; have fgb1 : w1.cell? ⟨gb, 1, none⟩ = some (.slice (A 0) (L 0).length (c 0)) := (blk_cell BKgb.out 1).trans rfl; have fgb2 : w1.cell? ⟨gb, 2, none⟩ = some (.slice (A 1) (L 1).length (c 1)) := (blk_cell BKgb.out 2).trans rfl; have fgb3 : w1.cell? ⟨gb, 3, none⟩ = some (.slice (A 2) (L 2).length (c 2)) := (blk_cell BKgb.out 3).trans rfl; have fgb4 : w1.cell? ⟨gb, 4, none⟩ = some (.slice (A 3) (L 3).length (c 3)) := (blk_cell BKgb.out 4).trans rfl; have fgb5 : w1.cell? ⟨gb, 5, none⟩ = some (.slice (A 4) (L 4).length (c 4)) := (blk_cell BKgb.out 5).trans rfl; have fgb6 : w1.cell? ⟨gb, 6, none⟩ = some (.slice (A 5) (L 5).length (c 5)) := (blk_cell BKgb.out 6).trans rfl; have fgb7 : w1.cell? ⟨gb, 7, none⟩ = some (.slice (A 6) (L 6).length (c 6)) := (blk_cell BKgb.out 7).trans rfl; have fgb8 : w1.cell? ⟨gb, 8, none⟩ = some (.slice (A 7) (L 7).length (c 7)) := (blk_cell BKgb.out 8).trans rfl; have fgbz0 := blk_frozen BKgb.out 0; have fgbz1 := blk_frozen BKgb.out 1; have fgbz2 := blk_frozen BKgb.out 2; have fgbz3 := blk_frozen BKgb.out 3; have fgbz4 := blk_frozen BKgb.out 4; have fgbz5 := blk_frozen BKgb.out 5; have fgbz6 := blk_frozen BKgb.out 6; have fgbz7 := blk_frozen BKgb.out 7; have fgbz8 := blk_frozen BKgb.out 8; clear n0_ hbox hb hggb))
  go_loopg [7, 16] (n + 1) (fun kq v7 v16 w' => ∃ j m : Nat, j ≤ n ∧ kq = n + 1 - j ∧ v16 = .int .i64 j ∧ v7 = .int .i64 m ∧ m ≤ j ∧ Aside0 (m = NzN (L 5) f j) ∧ Aside0 (Below w.heap.size w w'))
  case atStart => exact ⟨0, 0, by omega, rfl, rfl, rfl, by omega, ⟨rfl⟩, HB⟩
  case round =>
    clear HB BKgb fgbs0 fgbz0 fgb1 fgbz1 fgb2 fgbz2 fgb3 fgbz3 fgb4 fgbz4 fgb5 fgbz5 fgb6 fgbz6 fgb7 fgbz7 fgb8 fgbz8
    obtain ⟨j, m, hj, rfl, rfl, rfl, hm, HM, HB⟩ := hrel
    have hn64 : (n : Int) ≤ 35184372088832 := by omega
    have hm64 : (m : Int) ≤ 35184372088832 := by omega
    by_cases hlt : j < n
    · have j0 : (0 : Int) ≤ (j : Int) := by omega
      have j1 : (j : Int) < (n : Int) := by omega
      obtain ⟨ad, v, ea, hx, HV⟩ := at_v ((HR.out 5 (by omega)).below HB.out) (f + j) (by have := HFN.out; omega)
      have hx2 : wr.cell? ((ad.add f).add j) = some (.int .i64 v) := by rw [Go.Addr.add_add]; exact hx
      by_cases hv : v = 0
      · have HM2 : Aside0 (m = NzN (L 5) f (j + 1)) := ⟨by unfold NzN; rw [← HM.out, HV.out, if_neg (by simp [hv]), Nat.add_zero]⟩
        have hv' : (v != 0) = false := by rw [hv]; rfl
        clear hv
        go_wp2
        go_roundg (n + 1 - (j + 1))
        case measure => omega
        case rel => exact ⟨j + 1, m, by omega, rfl, by go_num, rfl, by omega, HM2, HB⟩
      · have HM2 : Aside0 (m + 1 = NzN (L 5) f (j + 1)) := ⟨by unfold NzN; rw [← HM.out, HV.out, if_pos hv]⟩
        have hv' : (v != 0) = true := bne_iff_ne.mpr hv
        clear hv
        go_wp2
        go_roundg (n + 1 - (j + 1))
        case measure => omega
        case rel => exact ⟨j + 1, m + 1, by omega, rfl, by go_num, by go_num, by omega, HM2, HB⟩
    · have HZ : Aside0 (NzN (L 5) f n = m) := ⟨by rw [HM.out, show j = n by omega]⟩
      go_wp2
      go_ret
      exact ⟨by rw [HZ.out]; rfl, HB.out⟩
end Go.Proofs.Ytekneicikmaplaa.Bk
namespace Go.Proofs.Ytekneicikmaplaa.Bk
open Go.RowKit Go.Proofs.YtekneicikmaplaaW.PrintWords Go.Proofs.YtekneicikmaplaaW.PrintLast Go.Proofs.YtekneicikmaplaaW.PrintMore
/-- Unit u of a page of size class k, as the program asks of it. -/
def KindU (O H : List Int) (z u : Nat) : Prop :=
  ¬ ((u % z = 0 ∧ (O.getD u 0 ≠ 0 ↔ cnt H (u : Int) > 0)) ∨ cnt H (u : Int) > 1 ∨ (¬ u % z = 0 ∧ O.getD u 0 ≠ 0))
def KindP (O H : List Int) (z p : Nat) : Prop := (∀ u, u < 8 → KindU O H z (p * 8 + u)) ∧ NzN O (p * 8) 8 > 0
set_option maxHeartbeats 4000000 in
set_option maxRecDepth 100000 in
theorem kindOk_calls (s : Int) (A : Nat → Option Addr) (c : Nat → Nat) (L : Nat → List Int) (p k : Nat) (w : World) (h : BkC w A c L) (hk : k < 4) (hv : (L 0).getD p 0 = (k : Int) + 1) (hp0 : p < (L 0).length) (hp : p * 8 + 8 ≤ (L 5).length) (hl : ∀ i, (L i).length ≤ 35184372088832) :
    Calls Try.prog 52 #[.agg (bkCells s A c L), .int .i64 (p : Int)] w (RetB (KindP (L 5) (L (k + 1)) (sizeN k) p) w) := by
  have HR := Aside0.mk h
  have HP := Aside0.mk hp
  have HLn := Aside0.mk hl
  have HB := Aside0.mk (Below.refl w.heap.size w)
  obtain ⟨ad0, v, ea0, hx0, HV⟩ := at_v (h 0 (by omega)) p hp0
  have p0 : (0 : Int) ≤ (p : Int) := by omega
  have p1 : (p : Int) < ((L 0).length : Int) := by omega
  have hp6 : (p : Int) ≤ 35184372088832 := by have := hl 5; omega
  obtain rfl : v = (k : Int) + 1 := by rw [← HV.out, hv]
  have hk4 : (k : Int) < 4 := by omega
  have hk0 : (0 : Int) ≤ (k : Int) := by omega
  clear h hl hp hp0 hv
  go_enter Try.func52, Try.ntmps52
  go_wp2_with (first | ((with_reducible refine gate_dst (N := 2) rfl ?_); refine box_event rfl (N := 2) rfl (cs := bkCells s A c L) (t := 27) (by first | (go_simp; done) | (go_simp; rfl)) ?_; intro gb hggb w1 hbox hb; have n0_ := Aside0.mk (below_step HB.out hb); have BKgb := Aside0.mk hbox; have HGgb := Aside0.mk (show w.heap.size ≤ gb by rw [hggb]; exact HB.out.size); clear HB; have HB := n0_; have hx1 := (hb.cell (World.block_lt_of_cell? _ _ hx0)).trans hx0; have fgbs0 : w1.cell? ⟨gb, 0, none⟩ = some (.int .i64 _) := (blk_cell BKgb.out 0).trans rfl; have fgb1 : w1.cell? ⟨gb, 1, none⟩ = some (.slice (A 0) (L 0).length (c 0)) := (blk_cell BKgb.out 1).trans rfl; have fgb2 : w1.cell? ⟨gb, 2, none⟩ = some (.slice (A 1) (L 1).length (c 1)) := (blk_cell BKgb.out 2).trans rfl; have fgb3 : w1.cell? ⟨gb, 3, none⟩ = some (.slice (A 2) (L 2).length (c 2)) := (blk_cell BKgb.out 3).trans rfl; have fgb4 : w1.cell? ⟨gb, 4, none⟩ = some (.slice (A 3) (L 3).length (c 3)) := (blk_cell BKgb.out 4).trans rfl; have fgb5 : w1.cell? ⟨gb, 5, none⟩ = some (.slice (A 4) (L 4).length (c 4)) := (blk_cell BKgb.out 5).trans rfl; have fgb6 : w1.cell? ⟨gb, 6, none⟩ = some (.slice (A 5) (L 5).length (c 5)) := (blk_cell BKgb.out 6).trans rfl; have fgb7 : w1.cell? ⟨gb, 7, none⟩ = some (.slice (A 6) (L 6).length (c 6)) := (blk_cell BKgb.out 7).trans rfl; have fgb8 : w1.cell? ⟨gb, 8, none⟩ = some (.slice (A 7) (L 7).length (c 7)) := (blk_cell BKgb.out 8).trans rfl; have fgbz0 := blk_frozen BKgb.out 0; have fgbz1 := blk_frozen BKgb.out 1; have fgbz2 := blk_frozen BKgb.out 2; have fgbz3 := blk_frozen BKgb.out 3; have fgbz4 := blk_frozen BKgb.out 4; have fgbz5 := blk_frozen BKgb.out 5; have fgbz6 := blk_frozen BKgb.out 6; have fgbz7 := blk_frozen BKgb.out 7; have fgbz8 := blk_frozen BKgb.out 8; rw [ea0] at fgb1; clear ea0; clear n0_ hbox hb hggb))
  go_loopg [7, 8] 9 (fun kq v7 v8 w' => ∃ u : Nat, u ≤ 8 ∧ kq = 9 - u ∧ v7 = .int .i64 ((p : Int) * 8 + (u : Int)) ∧ Aside0 (∀ j, j < u → KindU (L 5) (L (k + 1)) (sizeN k) (p * 8 + j)) ∧ Aside0 (w'.heap[gb]? = some (.cells (bkCells s A c L) 27 (0, 0))) ∧ Aside0 (Below w.heap.size w w'))
  case atStart => exact ⟨0, by omega, rfl, by simp, ⟨fun j h1 => by omega⟩, BKgb, HB⟩
  case round =>
    clear HB BKgb fgbs0 fgbz0 fgb1 fgbz1 fgb2 fgbz2 fgb3 fgbz3 fgb4 fgbz4 fgb5 fgbz5 fgb6 fgbz6 fgb7 fgbz7 fgb8 fgbz8 hx0 hx1
    obtain ⟨u, hu, rfl, rfl, HU, BKgb, HB⟩ := hrel
    by_cases hlt : u < 8
    · have hi : (p : Int) * 8 + (u : Int) < (p : Int) * 8 + 8 := by omega
      have hck : wr.cell? ⟨gb, 2 + k, none⟩ = some (.slice (A (k + 1)) (L (k + 1)).length (c (k + 1))) := (blk_cell BKgb.out (2 + k)).trans (by match k, hk with | 0, _ => rfl | 1, _ => rfl | 2, _ => rfl | 3, _ => rfl)
      have hzk := blk_frozen BKgb.out (2 + k)
      go_wp2
      obtain ⟨wo, rfl⟩ : ∃ wo : World, wo = wr := ⟨_, rfl⟩
      have hlk : ((L (k + 1)).length : Int) ≤ 35184372088832 := by have := HLn.out (k + 1); omega
      go_loopg [8, 32] ((L (k + 1)).length + 1) (fun kq v8 v32 w' => ∃ i n : Nat, i ≤ (L (k + 1)).length ∧ kq = (L (k + 1)).length + 1 - i ∧ n ≤ i ∧ v8 = .int .i64 n ∧ v32 = .int .i64 i ∧ Aside0 (n = cnt ((L (k + 1)).take i) ((p : Int) * 8 + (u : Int))) ∧ wo = w')
      case atStart => exact ⟨0, 0, by omega, rfl, by omega, rfl, rfl, ⟨by simp [cnt]⟩, rfl⟩
      case round =>
        obtain ⟨i, n, hil, rfl, hni, rfl, rfl, HN, rfl⟩ := hrel
        have hn64 : (n : Int) ≤ 35184372088832 := by omega
        by_cases hlti : i < (L (k + 1)).length
        · have i0 : (0 : Int) ≤ (i : Int) := by omega
          have i1 : (i : Int) < ((L (k + 1)).length : Int) := by omega
          obtain ⟨adk, a, eak, hxk, HA⟩ := at_v ((HR.out (k + 1) (by omega)).below HB.out) i hlti
          have HS := Aside0.mk (cnt_succ (L (k + 1)) ((p : Int) * 8 + (u : Int)) i hlti)
          by_cases e : a = (p : Int) * 8 + (u : Int)
          · have HS2 : Aside0 (n + 1 = cnt ((L (k + 1)).take (i + 1)) ((p : Int) * 8 + (u : Int))) := ⟨by rw [HS.out, HN.out, HA.out, if_pos e]⟩
            have eb : (a == (p : Int) * 8 + (u : Int)) = true := beq_iff_eq.mpr e
            clear e
            go_wp2
            go_roundg ((L (k + 1)).length + 1 - (i + 1))
            case measure => omega
            case rel => exact ⟨i + 1, n + 1, by omega, rfl, by omega, by go_num, by go_num, HS2, rfl⟩
          · have HS2 : Aside0 (n = cnt ((L (k + 1)).take (i + 1)) ((p : Int) * 8 + (u : Int))) := ⟨by rw [HS.out, HN.out, HA.out, if_neg e]; rfl⟩
            have eb : (a == (p : Int) * 8 + (u : Int)) = false := beq_eq_false_iff_ne.mpr e
            clear e
            go_wp2
            go_roundg ((L (k + 1)).length + 1 - (i + 1))
            case measure => omega
            case rel => exact ⟨i + 1, n, by omega, rfl, by omega, rfl, by go_num, HS2, rfl⟩
        · have HC : Aside0 (cnt (L (k + 1)) ((p : Int) * 8 + (u : Int)) = n) := ⟨by rw [HN.out, show i = (L (k + 1)).length by omega, List.take_length]⟩
          have hni' : ¬ (i : Int) < ((L (k + 1)).length : Int) := by omega
          have U0 : (0 : Int) ≤ (p : Int) * 8 + (u : Int) := by omega
          have U1 : (p : Int) * 8 + (u : Int) < ((L 5).length : Int) := by have := HP.out; omega
          obtain ⟨ad5, o, ea5, hx5, HO⟩ := at_v ((HR.out 5 (by omega)).below HB.out) (p * 8 + u) (by have := HP.out; omega)
          have hc6 : wo.cell? ⟨gb, 6, none⟩ = some (.slice (some ad5) (L 5).length (c 5)) := (blk_cell BKgb.out 6).trans (by rw [← ea5]; rfl)
          have hz6 := blk_frozen BKgb.out 6
          clear ea5 HN
          go_wp2_with fail
          refine (unitsOf_calls k hk _).mono ?_
          rintro e w2 ⟨rfl, rfl⟩
          obtain ⟨z, hz⟩ : ∃ z : Nat, sizeN k = z := ⟨_, rfl⟩
          have HZ := Aside0.mk hz
          have z0 : (0 : Int) < (z : Int) := by have := sizeN_pos k; omega
          rw [hz]
          clear hz
          have hzb : ((z : Int) == 0) = false := by rw [beq_eq_false_iff_ne]; omega
          have HKU : Aside0 (KindU (L 5) (L (k + 1)) (sizeN k) (p * 8 + u) ↔ ¬ (((p * 8 + u) % z = 0 ∧ (o ≠ 0 ↔ n > 0)) ∨ n > 1 ∨ (¬ (p * 8 + u) % z = 0 ∧ o ≠ 0))) := ⟨by unfold KindU; rw [HZ.out, HO.out, show ((p * 8 + u : Nat) : Int) = (p : Int) * 8 + (u : Int) by omega, HC.out]⟩
          by_cases hm : (p * 8 + u) % z = 0
          · have HM := Aside0.mk hm
            have hmb : (((p : Int) * 8 + (u : Int)) % (z : Int) == 0) = true := by
              rw [beq_iff_eq, show (p : Int) * 8 + (u : Int) = ((p * 8 + u : Nat) : Int) by omega, show ((p * 8 + u : Nat) : Int) % (z : Int) = (((p * 8 + u) % z : Nat) : Int) from rfl, hm]
              rfl
            clear hm
            by_cases ho : o = 0
            · have HO0 := Aside0.mk ho
              have hob : (o != 0) = false := by rw [ho]; rfl
              clear ho
              by_cases hn : 0 < n
              · have hn' : (0 : Int) < (n : Int) := by omega
                by_cases hn1 : 1 < n
                · have hn1' : (1 : Int) < (n : Int) := by omega
                  have HF : Aside0 (¬ KindP (L 5) (L (k + 1)) (sizeN k) p) := ⟨fun hh => (HKU.out.mp (hh.1 u hlt)) (Or.inr (Or.inl hn1))⟩
                  go_wp2
                  go_ret
                  exact RetB.mk rfl (iff_f HF.out) HB.out
                · have hn1' : ¬ (1 : Int) < (n : Int) := by omega
                  have HU2 : Aside0 (∀ j, j < u + 1 → KindU (L 5) (L (k + 1)) (sizeN k) (p * 8 + j)) := ⟨fun j hj => if q : j < u then HU.out j q else (show u = j by omega) ▸ HKU.out.mpr (fun q => q.elim (fun q => absurd (q.2.mpr hn) (by simp [HO0.out])) (fun q => q.elim (fun q => by omega) (fun q => q.1 HM.out)))⟩
                  go_wp2
                  go_roundg (9 - (u + 1))
                  case measure => omega
                  case rel => exact ⟨u + 1, by omega, rfl, by (rw [show ((u + 1 : Nat) : Int) = (u : Int) + 1 by omega, ← Int.add_assoc]), HU2, BKgb, HB⟩
              · have hn' : ¬ (0 : Int) < (n : Int) := by omega
                have HF : Aside0 (¬ KindP (L 5) (L (k + 1)) (sizeN k) p) := ⟨fun hh => (HKU.out.mp (hh.1 u hlt)) (Or.inl ⟨HM.out, ⟨fun q => absurd HO0.out q, fun q => absurd q (by omega)⟩⟩)⟩
                go_wp2
                go_ret
                exact RetB.mk rfl (iff_f HF.out) HB.out
            · have HO0 := Aside0.mk ho
              have hob : (o != 0) = true := bne_iff_ne.mpr ho
              clear ho
              by_cases hn : 0 < n
              · have hn' : (0 : Int) < (n : Int) := by omega
                have HF : Aside0 (¬ KindP (L 5) (L (k + 1)) (sizeN k) p) := ⟨fun hh => (HKU.out.mp (hh.1 u hlt)) (Or.inl ⟨HM.out, ⟨fun _ => hn, fun _ => HO0.out⟩⟩)⟩
                go_wp2
                go_ret
                exact RetB.mk rfl (iff_f HF.out) HB.out
              · have hn' : ¬ (0 : Int) < (n : Int) := by omega
                have hn1' : ¬ (1 : Int) < (n : Int) := by omega
                have hn1 : ¬ 1 < n := by omega
                have HU2 : Aside0 (∀ j, j < u + 1 → KindU (L 5) (L (k + 1)) (sizeN k) (p * 8 + j)) := ⟨fun j hj => if q : j < u then HU.out j q else (show u = j by omega) ▸ HKU.out.mpr (fun q => q.elim (fun q => by have := q.2.mp HO0.out; omega) (fun q => q.elim (fun q => by omega) (fun q => q.1 HM.out)))⟩
                go_wp2
                go_roundg (9 - (u + 1))
                case measure => omega
                case rel => exact ⟨u + 1, by omega, rfl, by (rw [show ((u + 1 : Nat) : Int) = (u : Int) + 1 by omega, ← Int.add_assoc]), HU2, BKgb, HB⟩
          · have HM := Aside0.mk hm
            have hmb : (((p : Int) * 8 + (u : Int)) % (z : Int) == 0) = false := by
              rw [beq_eq_false_iff_ne]
              intro hh
              have h3 : (((p * 8 + u) % z : Nat) : Int) = 0 := by
                rw [show (((p * 8 + u) % z : Nat) : Int) = ((p * 8 + u : Nat) : Int) % (z : Int) from rfl, show ((p * 8 + u : Nat) : Int) = (p : Int) * 8 + (u : Int) by omega]
                exact hh
              omega
            clear hm
            by_cases hn1 : 1 < n
            · have hn1' : (1 : Int) < (n : Int) := by omega
              have HF : Aside0 (¬ KindP (L 5) (L (k + 1)) (sizeN k) p) := ⟨fun hh => (HKU.out.mp (hh.1 u hlt)) (Or.inr (Or.inl hn1))⟩
              go_wp2
              go_ret
              exact RetB.mk rfl (iff_f HF.out) HB.out
            · have hn1' : ¬ (1 : Int) < (n : Int) := by omega
              by_cases ho : o = 0
              · have HO0 := Aside0.mk ho
                have hob : (o != 0) = false := by rw [ho]; rfl
                clear ho
                have HU2 : Aside0 (∀ j, j < u + 1 → KindU (L 5) (L (k + 1)) (sizeN k) (p * 8 + j)) := ⟨fun j hj => if q : j < u then HU.out j q else (show u = j by omega) ▸ HKU.out.mpr (fun q => q.elim (fun q => HM.out q.1) (fun q => q.elim (fun q => by omega) (fun q => q.2 HO0.out)))⟩
                go_wp2
                go_roundg (9 - (u + 1))
                case measure => omega
                case rel => exact ⟨u + 1, by omega, rfl, by (rw [show ((u + 1 : Nat) : Int) = (u : Int) + 1 by omega, ← Int.add_assoc]), HU2, BKgb, HB⟩
              · have HO0 := Aside0.mk ho
                have hob : (o != 0) = true := bne_iff_ne.mpr ho
                clear ho
                have HF : Aside0 (¬ KindP (L 5) (L (k + 1)) (sizeN k) p) := ⟨fun hh => (HKU.out.mp (hh.1 u hlt)) (Or.inr (Or.inr ⟨HM.out, HO0.out⟩))⟩
                go_wp2
                go_ret
                exact RetB.mk rfl (iff_f HF.out) HB.out
    · have hi : ¬ (p : Int) * 8 + (u : Int) < (p : Int) * 8 + 8 := by omega
      have fgbs0 : wr.cell? ⟨gb, 0, none⟩ = some (.int .i64 _) := (blk_cell BKgb.out 0).trans rfl; have fgb1 : wr.cell? ⟨gb, 1, none⟩ = some (.slice (A 0) (L 0).length (c 0)) := (blk_cell BKgb.out 1).trans rfl; have fgb2 : wr.cell? ⟨gb, 2, none⟩ = some (.slice (A 1) (L 1).length (c 1)) := (blk_cell BKgb.out 2).trans rfl; have fgb3 : wr.cell? ⟨gb, 3, none⟩ = some (.slice (A 2) (L 2).length (c 2)) := (blk_cell BKgb.out 3).trans rfl; have fgb4 : wr.cell? ⟨gb, 4, none⟩ = some (.slice (A 3) (L 3).length (c 3)) := (blk_cell BKgb.out 4).trans rfl; have fgb5 : wr.cell? ⟨gb, 5, none⟩ = some (.slice (A 4) (L 4).length (c 4)) := (blk_cell BKgb.out 5).trans rfl; have fgb6 : wr.cell? ⟨gb, 6, none⟩ = some (.slice (A 5) (L 5).length (c 5)) := (blk_cell BKgb.out 6).trans rfl; have fgb7 : wr.cell? ⟨gb, 7, none⟩ = some (.slice (A 6) (L 6).length (c 6)) := (blk_cell BKgb.out 7).trans rfl; have fgb8 : wr.cell? ⟨gb, 8, none⟩ = some (.slice (A 7) (L 7).length (c 7)) := (blk_cell BKgb.out 8).trans rfl; have fgbz0 := blk_frozen BKgb.out 0; have fgbz1 := blk_frozen BKgb.out 1; have fgbz2 := blk_frozen BKgb.out 2; have fgbz3 := blk_frozen BKgb.out 3; have fgbz4 := blk_frozen BKgb.out 4; have fgbz5 := blk_frozen BKgb.out 5; have fgbz6 := blk_frozen BKgb.out 6; have fgbz7 := blk_frozen BKgb.out 7; have fgbz8 := blk_frozen BKgb.out 8
      go_wp2_with fail
      refine (owned_calls s A c L _ _ (p * 8) 8 _ (HR.out.below HB.out) (by omega) (by omega) (by omega) HP.out (HLn.out 5)).mono ?_
      rintro e w3 ⟨rfl, hb⟩
      obtain ⟨m, hm⟩ : ∃ m, NzN (L 5) (p * 8) 8 = m := ⟨_, rfl⟩
      have HM := Aside0.mk hm
      rw [hm]
      have HB3 := Aside0.mk (below_step HB.out hb)
      clear hm hb
      by_cases h0 : 0 < m
      · have h0' : (0 : Int) < (m : Int) := by omega
        have HF : Aside0 (KindP (L 5) (L (k + 1)) (sizeN k) p) := ⟨⟨fun j hj => HU.out j (by omega), by rw [HM.out]; exact h0⟩⟩
        go_wp2
        go_ret
        exact RetB.mk rfl (iff_t HF.out) HB3.out
      · have h0' : ¬ (0 : Int) < (m : Int) := by omega
        have HF : Aside0 (¬ KindP (L 5) (L (k + 1)) (sizeN k) p) := ⟨fun hh => by have := hh.2; rw [HM.out] at this; omega⟩
        go_wp2
        go_ret
        exact RetB.mk rfl (iff_f HF.out) HB3.out
end Go.Proofs.Ytekneicikmaplaa.Bk
namespace Go.Proofs.Ytekneicikmaplaa.Bk
open Go.RowKit Go.Proofs.YtekneicikmaplaaW.PrintWords Go.Proofs.YtekneicikmaplaaW.PrintLast Go.Proofs.YtekneicikmaplaaW.PrintMore
theorem index4 (A : Nat → Option Addr) (c : Nat → Nat) (L : Nat → List Int) (k : Nat) (hk : k < 4) (W : World) : (Instr.index 25 (.agg #[.slice (A 1) (L 1).length (c 1), .slice (A 2) (L 2).length (c 2), .slice (A 3) (L 3).length (c 3), .slice (A 4) (L 4).length (c 4)]) (.int .i64 (k : Int))).run Try.prog W = .ok (.slice (A (k + 1)) (L (k + 1)).length (c (k + 1))) W := by
  match k, hk with
  | 0, _ => rfl
  | 1, _ => rfl
  | 2, _ => rfl
  | 3, _ => rfl
theorem within_f {n lo hi : Int} (h : ¬ (lo ≤ n ∧ n ≤ hi)) : withinB n lo hi = false := by
  cases e : withinB n lo hi with
  | false => rfl
  | true => exact absurd (within_t.mp e) h
theorem slot_iff {v e : Int} : (¬ v < 0 ∧ ¬ v > 2 ∧ ¬ e < 0 ∧ ¬ e > 4095 ∧ ¬ (e = 0 ∧ v > 0)) ↔ ((0 ≤ v ∧ v ≤ 2) ∧ (0 ≤ e ∧ e ≤ 4095) ∧ ¬ (v ≠ 0 ∧ e = 0)) := by omega
theorem kind_iff {q : Int} {k : Nat} : kindN q = (k : Int) ↔ (k < 4 ∧ q = (k : Int) + 1) := by
  unfold kindN
  by_cases h1 : q < 1
  · rw [if_pos h1]; omega
  · rw [if_neg h1]
    by_cases h2 : q > 4
    · rw [if_pos h2]; omega
    · rw [if_neg h2]; omega
theorem inP_wrap {s o : Int} {I : List Int} (h0 : -9223372036854775808 ≤ o) (h1 : o ≤ 9223372036854775807) (h4 : s ≤ 4) : InP s I (wrap64 (o - 1)) ↔ InP s I (o - 1) := by
  by_cases e : o = -9223372036854775808
  · subst e
    have e1 : wrap64 (-9223372036854775808 - 1) = 9223372036854775807 := by unfold wrap64; omega
    rw [e1]
    unfold InP
    constructor
    · rintro ⟨a, b, _⟩; omega
    · rintro ⟨a, b, _⟩; omega
  · have e1 : wrap64 (o - 1) = o - 1 := by unfold wrap64; omega
    rw [e1]
set_option maxHeartbeats 8000000 in
set_option maxRecDepth 100000 in
theorem shapeOk_calls (s : Int) (A : Nat → Option Addr) (c : Nat → Nat) (L : Nat → List Int) (w : World) (h : BkC w A c L) (hl : ∀ i, (L i).length ≤ 35184372088832) (hw5 : Wf64 (L 5)) :
    Calls Try.prog 49 #[.agg (bkCells s A c L)] w (RetB (SlotsP s L ∧ ListsP L) w) := by
  have HR := Aside0.mk h
  have HL := Aside0.mk hl
  have hl0 : ((L 0).length : Int) ≤ 35184372088832 := by have := hl 0; omega
  have hl5 : ((L 5).length : Int) ≤ 35184372088832 := by have := hl 5; omega
  have hl6 : ((L 6).length : Int) ≤ 35184372088832 := by have := hl 6; omega
  have HW5 := Aside0.mk hw5
  clear h hl hw5
  have HB := Aside0.mk (Below.refl w.heap.size w)
  by_cases h1 : 1 ≤ s ∧ s ≤ 4
  rotate_left
  · have HF : Aside0 (¬ (SlotsP s L ∧ ListsP L)) := ⟨fun hh => by obtain ⟨a1, a2, a3, a4, a5, a6, a7⟩ := hh.1.1; omega⟩
    have h1b : withinB s 1 4 = false := within_f h1
    clear h1
    go_enter Try.func49, Try.ntmps49
    go_wp2_with (first | ((with_reducible refine gate_dst (N := 1) rfl ?_); refine box_event rfl (N := 1) rfl (cs := bkCells s A c L) (t := 27) (by first | (go_simp; done) | (go_simp; rfl)) ?_; intro gb hggb w1 hbox hb; have n0_ := Aside0.mk (below_step HB.out hb); have BKgb := Aside0.mk hbox; have HGgb := Aside0.mk (show w.heap.size ≤ gb by rw [hggb]; exact HB.out.size); clear HB; have HB := n0_; have fgbs0 : w1.cell? ⟨gb, 0, none⟩ = some (.int .i64 _) := (blk_cell BKgb.out 0).trans rfl; have fgb1 : w1.cell? ⟨gb, 1, none⟩ = some (.slice (A 0) (L 0).length (c 0)) := (blk_cell BKgb.out 1).trans rfl; have fgb2 : w1.cell? ⟨gb, 2, none⟩ = some (.slice (A 1) (L 1).length (c 1)) := (blk_cell BKgb.out 2).trans rfl; have fgb3 : w1.cell? ⟨gb, 3, none⟩ = some (.slice (A 2) (L 2).length (c 2)) := (blk_cell BKgb.out 3).trans rfl; have fgb4 : w1.cell? ⟨gb, 4, none⟩ = some (.slice (A 3) (L 3).length (c 3)) := (blk_cell BKgb.out 4).trans rfl; have fgb5 : w1.cell? ⟨gb, 5, none⟩ = some (.slice (A 4) (L 4).length (c 4)) := (blk_cell BKgb.out 5).trans rfl; have fgb6 : w1.cell? ⟨gb, 6, none⟩ = some (.slice (A 5) (L 5).length (c 5)) := (blk_cell BKgb.out 6).trans rfl; have fgb7 : w1.cell? ⟨gb, 7, none⟩ = some (.slice (A 6) (L 6).length (c 6)) := (blk_cell BKgb.out 7).trans rfl; have fgb8 : w1.cell? ⟨gb, 8, none⟩ = some (.slice (A 7) (L 7).length (c 7)) := (blk_cell BKgb.out 8).trans rfl; have fgbz0 := blk_frozen BKgb.out 0; have fgbz1 := blk_frozen BKgb.out 1; have fgbz2 := blk_frozen BKgb.out 2; have fgbz3 := blk_frozen BKgb.out 3; have fgbz4 := blk_frozen BKgb.out 4; have fgbz5 := blk_frozen BKgb.out 5; have fgbz6 := blk_frozen BKgb.out 6; have fgbz7 := blk_frozen BKgb.out 7; have fgbz8 := blk_frozen BKgb.out 8; clear n0_ hbox hb hggb) | (go_at_call 53; refine (within_calls _ _ _ _).mono ?_; rintro e w' ⟨rfl, rfl⟩))
    go_ret
    exact RetB.mk rfl (iff_f HF.out) HB.out
  obtain ⟨h11, h12⟩ := h1
  have h1b : withinB s 1 4 = true := within_t.mpr ⟨h11, h12⟩
  by_cases h2 : 1 ≤ ((L 0).length : Int) ∧ ((L 0).length : Int) ≤ 6
  rotate_left
  · have HF : Aside0 (¬ (SlotsP s L ∧ ListsP L)) := ⟨fun hh => by obtain ⟨a1, a2, a3, a4, a5, a6, a7⟩ := hh.1.1; omega⟩
    have h2b : withinB ((L 0).length : Int) 1 6 = false := within_f h2
    clear h2
    go_enter Try.func49, Try.ntmps49
    go_wp2_with (first | ((with_reducible refine gate_dst (N := 1) rfl ?_); refine box_event rfl (N := 1) rfl (cs := bkCells s A c L) (t := 27) (by first | (go_simp; done) | (go_simp; rfl)) ?_; intro gb hggb w1 hbox hb; have n0_ := Aside0.mk (below_step HB.out hb); have BKgb := Aside0.mk hbox; have HGgb := Aside0.mk (show w.heap.size ≤ gb by rw [hggb]; exact HB.out.size); clear HB; have HB := n0_; have fgbs0 : w1.cell? ⟨gb, 0, none⟩ = some (.int .i64 _) := (blk_cell BKgb.out 0).trans rfl; have fgb1 : w1.cell? ⟨gb, 1, none⟩ = some (.slice (A 0) (L 0).length (c 0)) := (blk_cell BKgb.out 1).trans rfl; have fgb2 : w1.cell? ⟨gb, 2, none⟩ = some (.slice (A 1) (L 1).length (c 1)) := (blk_cell BKgb.out 2).trans rfl; have fgb3 : w1.cell? ⟨gb, 3, none⟩ = some (.slice (A 2) (L 2).length (c 2)) := (blk_cell BKgb.out 3).trans rfl; have fgb4 : w1.cell? ⟨gb, 4, none⟩ = some (.slice (A 3) (L 3).length (c 3)) := (blk_cell BKgb.out 4).trans rfl; have fgb5 : w1.cell? ⟨gb, 5, none⟩ = some (.slice (A 4) (L 4).length (c 4)) := (blk_cell BKgb.out 5).trans rfl; have fgb6 : w1.cell? ⟨gb, 6, none⟩ = some (.slice (A 5) (L 5).length (c 5)) := (blk_cell BKgb.out 6).trans rfl; have fgb7 : w1.cell? ⟨gb, 7, none⟩ = some (.slice (A 6) (L 6).length (c 6)) := (blk_cell BKgb.out 7).trans rfl; have fgb8 : w1.cell? ⟨gb, 8, none⟩ = some (.slice (A 7) (L 7).length (c 7)) := (blk_cell BKgb.out 8).trans rfl; have fgbz0 := blk_frozen BKgb.out 0; have fgbz1 := blk_frozen BKgb.out 1; have fgbz2 := blk_frozen BKgb.out 2; have fgbz3 := blk_frozen BKgb.out 3; have fgbz4 := blk_frozen BKgb.out 4; have fgbz5 := blk_frozen BKgb.out 5; have fgbz6 := blk_frozen BKgb.out 6; have fgbz7 := blk_frozen BKgb.out 7; have fgbz8 := blk_frozen BKgb.out 8; clear n0_ hbox hb hggb) | (go_at_call 53; refine (within_calls _ _ _ _).mono ?_; rintro e w' ⟨rfl, rfl⟩))
    go_ret
    exact RetB.mk rfl (iff_f HF.out) HB.out
  obtain ⟨h21, h22⟩ := h2
  have h2b : withinB ((L 0).length : Int) 1 6 = true := within_t.mpr ⟨h21, h22⟩
  by_cases h3 : ((L 5).length : Int) = 8 * ((L 0).length : Int)
  rotate_left
  · have HF : Aside0 (¬ (SlotsP s L ∧ ListsP L)) := ⟨fun hh => by obtain ⟨a1, a2, a3, a4, a5, a6, a7⟩ := hh.1.1; omega⟩
    have h3b : (((L 5).length : Int) != 8 * ((L 0).length : Int)) = true := bne_iff_ne.mpr h3
    clear h3
    go_enter Try.func49, Try.ntmps49
    go_wp2_with (first | ((with_reducible refine gate_dst (N := 1) rfl ?_); refine box_event rfl (N := 1) rfl (cs := bkCells s A c L) (t := 27) (by first | (go_simp; done) | (go_simp; rfl)) ?_; intro gb hggb w1 hbox hb; have n0_ := Aside0.mk (below_step HB.out hb); have BKgb := Aside0.mk hbox; have HGgb := Aside0.mk (show w.heap.size ≤ gb by rw [hggb]; exact HB.out.size); clear HB; have HB := n0_; have fgbs0 : w1.cell? ⟨gb, 0, none⟩ = some (.int .i64 _) := (blk_cell BKgb.out 0).trans rfl; have fgb1 : w1.cell? ⟨gb, 1, none⟩ = some (.slice (A 0) (L 0).length (c 0)) := (blk_cell BKgb.out 1).trans rfl; have fgb2 : w1.cell? ⟨gb, 2, none⟩ = some (.slice (A 1) (L 1).length (c 1)) := (blk_cell BKgb.out 2).trans rfl; have fgb3 : w1.cell? ⟨gb, 3, none⟩ = some (.slice (A 2) (L 2).length (c 2)) := (blk_cell BKgb.out 3).trans rfl; have fgb4 : w1.cell? ⟨gb, 4, none⟩ = some (.slice (A 3) (L 3).length (c 3)) := (blk_cell BKgb.out 4).trans rfl; have fgb5 : w1.cell? ⟨gb, 5, none⟩ = some (.slice (A 4) (L 4).length (c 4)) := (blk_cell BKgb.out 5).trans rfl; have fgb6 : w1.cell? ⟨gb, 6, none⟩ = some (.slice (A 5) (L 5).length (c 5)) := (blk_cell BKgb.out 6).trans rfl; have fgb7 : w1.cell? ⟨gb, 7, none⟩ = some (.slice (A 6) (L 6).length (c 6)) := (blk_cell BKgb.out 7).trans rfl; have fgb8 : w1.cell? ⟨gb, 8, none⟩ = some (.slice (A 7) (L 7).length (c 7)) := (blk_cell BKgb.out 8).trans rfl; have fgbz0 := blk_frozen BKgb.out 0; have fgbz1 := blk_frozen BKgb.out 1; have fgbz2 := blk_frozen BKgb.out 2; have fgbz3 := blk_frozen BKgb.out 3; have fgbz4 := blk_frozen BKgb.out 4; have fgbz5 := blk_frozen BKgb.out 5; have fgbz6 := blk_frozen BKgb.out 6; have fgbz7 := blk_frozen BKgb.out 7; have fgbz8 := blk_frozen BKgb.out 8; clear n0_ hbox hb hggb) | (go_at_call 53; refine (within_calls _ _ _ _).mono ?_; rintro e w' ⟨rfl, rfl⟩))
    go_ret
    exact RetB.mk rfl (iff_f HF.out) HB.out
  have Hh3 := Aside0.mk h3
  have h3b : (((L 5).length : Int) != 8 * ((L 0).length : Int)) = false := bne_eq_false_iff_eq.mpr h3
  clear h3
  by_cases h4 : ((L 6).length : Int) = s
  rotate_left
  · have HF : Aside0 (¬ (SlotsP s L ∧ ListsP L)) := ⟨fun hh => by obtain ⟨a1, a2, a3, a4, a5, a6, a7⟩ := hh.1.1; exact h4 a3⟩
    have h4b : (((L 6).length : Int) != s) = true := bne_iff_ne.mpr h4
    clear h4
    go_enter Try.func49, Try.ntmps49
    go_wp2_with (first | ((with_reducible refine gate_dst (N := 1) rfl ?_); refine box_event rfl (N := 1) rfl (cs := bkCells s A c L) (t := 27) (by first | (go_simp; done) | (go_simp; rfl)) ?_; intro gb hggb w1 hbox hb; have n0_ := Aside0.mk (below_step HB.out hb); have BKgb := Aside0.mk hbox; have HGgb := Aside0.mk (show w.heap.size ≤ gb by rw [hggb]; exact HB.out.size); clear HB; have HB := n0_; have fgbs0 : w1.cell? ⟨gb, 0, none⟩ = some (.int .i64 _) := (blk_cell BKgb.out 0).trans rfl; have fgb1 : w1.cell? ⟨gb, 1, none⟩ = some (.slice (A 0) (L 0).length (c 0)) := (blk_cell BKgb.out 1).trans rfl; have fgb2 : w1.cell? ⟨gb, 2, none⟩ = some (.slice (A 1) (L 1).length (c 1)) := (blk_cell BKgb.out 2).trans rfl; have fgb3 : w1.cell? ⟨gb, 3, none⟩ = some (.slice (A 2) (L 2).length (c 2)) := (blk_cell BKgb.out 3).trans rfl; have fgb4 : w1.cell? ⟨gb, 4, none⟩ = some (.slice (A 3) (L 3).length (c 3)) := (blk_cell BKgb.out 4).trans rfl; have fgb5 : w1.cell? ⟨gb, 5, none⟩ = some (.slice (A 4) (L 4).length (c 4)) := (blk_cell BKgb.out 5).trans rfl; have fgb6 : w1.cell? ⟨gb, 6, none⟩ = some (.slice (A 5) (L 5).length (c 5)) := (blk_cell BKgb.out 6).trans rfl; have fgb7 : w1.cell? ⟨gb, 7, none⟩ = some (.slice (A 6) (L 6).length (c 6)) := (blk_cell BKgb.out 7).trans rfl; have fgb8 : w1.cell? ⟨gb, 8, none⟩ = some (.slice (A 7) (L 7).length (c 7)) := (blk_cell BKgb.out 8).trans rfl; have fgbz0 := blk_frozen BKgb.out 0; have fgbz1 := blk_frozen BKgb.out 1; have fgbz2 := blk_frozen BKgb.out 2; have fgbz3 := blk_frozen BKgb.out 3; have fgbz4 := blk_frozen BKgb.out 4; have fgbz5 := blk_frozen BKgb.out 5; have fgbz6 := blk_frozen BKgb.out 6; have fgbz7 := blk_frozen BKgb.out 7; have fgbz8 := blk_frozen BKgb.out 8; clear n0_ hbox hb hggb) | (go_at_call 53; refine (within_calls _ _ _ _).mono ?_; rintro e w' ⟨rfl, rfl⟩))
    go_ret
    exact RetB.mk rfl (iff_f HF.out) HB.out
  have Hh4 := Aside0.mk h4
  have h4b : (((L 6).length : Int) != s) = false := bne_eq_false_iff_eq.mpr h4
  clear h4
  by_cases h5 : ((L 7).length : Int) = s
  rotate_left
  · have HF : Aside0 (¬ (SlotsP s L ∧ ListsP L)) := ⟨fun hh => by obtain ⟨a1, a2, a3, a4, a5, a6, a7⟩ := hh.1.1; exact h5 a4⟩
    have h5b : (((L 7).length : Int) != s) = true := bne_iff_ne.mpr h5
    clear h5
    go_enter Try.func49, Try.ntmps49
    go_wp2_with (first | ((with_reducible refine gate_dst (N := 1) rfl ?_); refine box_event rfl (N := 1) rfl (cs := bkCells s A c L) (t := 27) (by first | (go_simp; done) | (go_simp; rfl)) ?_; intro gb hggb w1 hbox hb; have n0_ := Aside0.mk (below_step HB.out hb); have BKgb := Aside0.mk hbox; have HGgb := Aside0.mk (show w.heap.size ≤ gb by rw [hggb]; exact HB.out.size); clear HB; have HB := n0_; have fgbs0 : w1.cell? ⟨gb, 0, none⟩ = some (.int .i64 _) := (blk_cell BKgb.out 0).trans rfl; have fgb1 : w1.cell? ⟨gb, 1, none⟩ = some (.slice (A 0) (L 0).length (c 0)) := (blk_cell BKgb.out 1).trans rfl; have fgb2 : w1.cell? ⟨gb, 2, none⟩ = some (.slice (A 1) (L 1).length (c 1)) := (blk_cell BKgb.out 2).trans rfl; have fgb3 : w1.cell? ⟨gb, 3, none⟩ = some (.slice (A 2) (L 2).length (c 2)) := (blk_cell BKgb.out 3).trans rfl; have fgb4 : w1.cell? ⟨gb, 4, none⟩ = some (.slice (A 3) (L 3).length (c 3)) := (blk_cell BKgb.out 4).trans rfl; have fgb5 : w1.cell? ⟨gb, 5, none⟩ = some (.slice (A 4) (L 4).length (c 4)) := (blk_cell BKgb.out 5).trans rfl; have fgb6 : w1.cell? ⟨gb, 6, none⟩ = some (.slice (A 5) (L 5).length (c 5)) := (blk_cell BKgb.out 6).trans rfl; have fgb7 : w1.cell? ⟨gb, 7, none⟩ = some (.slice (A 6) (L 6).length (c 6)) := (blk_cell BKgb.out 7).trans rfl; have fgb8 : w1.cell? ⟨gb, 8, none⟩ = some (.slice (A 7) (L 7).length (c 7)) := (blk_cell BKgb.out 8).trans rfl; have fgbz0 := blk_frozen BKgb.out 0; have fgbz1 := blk_frozen BKgb.out 1; have fgbz2 := blk_frozen BKgb.out 2; have fgbz3 := blk_frozen BKgb.out 3; have fgbz4 := blk_frozen BKgb.out 4; have fgbz5 := blk_frozen BKgb.out 5; have fgbz6 := blk_frozen BKgb.out 6; have fgbz7 := blk_frozen BKgb.out 7; have fgbz8 := blk_frozen BKgb.out 8; clear n0_ hbox hb hggb) | (go_at_call 53; refine (within_calls _ _ _ _).mono ?_; rintro e w' ⟨rfl, rfl⟩))
    go_ret
    exact RetB.mk rfl (iff_f HF.out) HB.out
  have Hh5 := Aside0.mk h5
  have h5b : (((L 7).length : Int) != s) = false := bne_eq_false_iff_eq.mpr h5
  clear h5
  have HS : Aside0 (SizesP s L) := ⟨⟨by omega, by omega, Hh4.out, Hh5.out, by omega, by omega, by have := Hh3.out; omega⟩⟩
  go_enter Try.func49, Try.ntmps49
  go_wp2_with (first | ((with_reducible refine gate_dst (N := 1) rfl ?_); refine box_event rfl (N := 1) rfl (cs := bkCells s A c L) (t := 27) (by first | (go_simp; done) | (go_simp; rfl)) ?_; intro gb hggb w1 hbox hb; have n0_ := Aside0.mk (below_step HB.out hb); have BKgb := Aside0.mk hbox; have HGgb := Aside0.mk (show w.heap.size ≤ gb by rw [hggb]; exact HB.out.size); clear HB; have HB := n0_; have fgbs0 : w1.cell? ⟨gb, 0, none⟩ = some (.int .i64 _) := (blk_cell BKgb.out 0).trans rfl; have fgb1 : w1.cell? ⟨gb, 1, none⟩ = some (.slice (A 0) (L 0).length (c 0)) := (blk_cell BKgb.out 1).trans rfl; have fgb2 : w1.cell? ⟨gb, 2, none⟩ = some (.slice (A 1) (L 1).length (c 1)) := (blk_cell BKgb.out 2).trans rfl; have fgb3 : w1.cell? ⟨gb, 3, none⟩ = some (.slice (A 2) (L 2).length (c 2)) := (blk_cell BKgb.out 3).trans rfl; have fgb4 : w1.cell? ⟨gb, 4, none⟩ = some (.slice (A 3) (L 3).length (c 3)) := (blk_cell BKgb.out 4).trans rfl; have fgb5 : w1.cell? ⟨gb, 5, none⟩ = some (.slice (A 4) (L 4).length (c 4)) := (blk_cell BKgb.out 5).trans rfl; have fgb6 : w1.cell? ⟨gb, 6, none⟩ = some (.slice (A 5) (L 5).length (c 5)) := (blk_cell BKgb.out 6).trans rfl; have fgb7 : w1.cell? ⟨gb, 7, none⟩ = some (.slice (A 6) (L 6).length (c 6)) := (blk_cell BKgb.out 7).trans rfl; have fgb8 : w1.cell? ⟨gb, 8, none⟩ = some (.slice (A 7) (L 7).length (c 7)) := (blk_cell BKgb.out 8).trans rfl; have fgbz0 := blk_frozen BKgb.out 0; have fgbz1 := blk_frozen BKgb.out 1; have fgbz2 := blk_frozen BKgb.out 2; have fgbz3 := blk_frozen BKgb.out 3; have fgbz4 := blk_frozen BKgb.out 4; have fgbz5 := blk_frozen BKgb.out 5; have fgbz6 := blk_frozen BKgb.out 6; have fgbz7 := blk_frozen BKgb.out 7; have fgbz8 := blk_frozen BKgb.out 8; clear n0_ hbox hb hggb) | (go_at_call 53; refine (within_calls _ _ _ _).mono ?_; rintro e w' ⟨rfl, rfl⟩))
  clear h3b h4b h5b h1b h2b
  go_loopg [51] 5 (fun kq v51 w' => ∃ k : Nat, k ≤ 4 ∧ kq = 5 - k ∧ v51 = .int .i64 k ∧ Aside0 ((k : Int) ≤ s) ∧ Aside0 (∀ j, j < k → SlotU (L 6) (L 7) j) ∧ Aside0 (w'.heap[gb]? = some (.cells (bkCells s A c L) 27 (0, 0))) ∧ Aside0 (Below w.heap.size w w'))
  case atStart => exact ⟨0, by omega, rfl, rfl, ⟨by omega⟩, ⟨fun j hj => by omega⟩, BKgb, HB⟩
  case round =>
    clear HB BKgb
    clear fgbs0 fgbz0 fgb1 fgbz1 fgb2 fgbz2 fgb3 fgbz3 fgb4 fgbz4 fgb5 fgbz5 fgb6 fgbz6 fgb7 fgbz7 fgb8 fgbz8
    obtain ⟨k, hk4, rfl, rfl, HK, HU, BKgb, HB⟩ := hrel
    by_cases hlt : (k : Int) < s
    · have k0 : (0 : Int) ≤ (k : Int) := by omega
      have k6 : (k : Int) < ((L 6).length : Int) := by have := Hh4.out; omega
      have k6n : k < (L 6).length := by omega
      have k7 : (k : Int) < ((L 7).length : Int) := by have := Hh5.out; omega
      obtain ⟨ad6, v, ea6, hx6, HV⟩ := at_v ((HR.out 6 (by omega)).below HB.out) k (by omega)
      obtain ⟨ad7, e, ea7, hx7, HE⟩ := at_v ((HR.out 7 (by omega)).below HB.out) k (by omega)
      have hc8 : wr.cell? ⟨gb, 8, none⟩ = some (.slice (some ad7) (L 7).length (c 7)) := (blk_cell BKgb.out 8).trans (by rw [← ea7]; rfl)
      have hz8 := blk_frozen BKgb.out 8
      clear ea7
      have HE6 := Aside0.mk ea6
      have HSU : Aside0 (SlotU (L 6) (L 7) k ↔ ((0 ≤ v ∧ v ≤ 2) ∧ (0 ≤ e ∧ e ≤ 4095) ∧ ¬ (v ≠ 0 ∧ e = 0))) := ⟨by unfold SlotU; rw [HV.out, HE.out]; exact slot_iff⟩
      by_cases g1 : 0 ≤ v ∧ v ≤ 2
      rotate_left
      · have g1b : withinB v 0 2 = false := within_f g1
        have G1 := Aside0.mk g1
        clear g1
        have HF : Aside0 (¬ (SlotsP s L ∧ ListsP L)) := ⟨fun hh => (fun q => G1.out q.1) (HSU.out.mp (hh.1.2.1 k hlt))⟩
        go_wp2_with (first | (go_at_call 53; refine (within_calls _ _ _ _).mono ?_; rintro e w' ⟨rfl, rfl⟩))
        go_ret
        exact RetB.mk rfl (iff_f HF.out) HB.out
      have G1 := Aside0.mk g1
      have g1b : withinB v 0 2 = true := within_t.mpr g1
      clear g1
      by_cases g2 : 0 ≤ e ∧ e ≤ 4095
      rotate_left
      · have g2b : withinB e 0 4095 = false := within_f g2
        have G2 := Aside0.mk g2
        clear g2
        have HF : Aside0 (¬ (SlotsP s L ∧ ListsP L)) := ⟨fun hh => (fun q => G2.out q.2.1) (HSU.out.mp (hh.1.2.1 k hlt))⟩
        go_wp2_with (first | (go_at_call 53; refine (within_calls _ _ _ _).mono ?_; rintro e w' ⟨rfl, rfl⟩))
        go_ret
        exact RetB.mk rfl (iff_f HF.out) HB.out
      have G2 := Aside0.mk g2
      have g2b : withinB e 0 4095 = true := within_t.mpr g2
      clear g2
      by_cases g3 : v = 0
      · have G3 := Aside0.mk g3
        have g3b : (v != 0) = false := by rw [g3]; rfl
        clear g3
        have HZ : Aside0 (∀ j, j < k + 1 → SlotU (L 6) (L 7) j) := ⟨fun j hj => if q : j < k then HU.out j q else (show k = j by omega) ▸ HSU.out.mpr ⟨G1.out, G2.out, fun q => q.1 G3.out⟩⟩
        go_wp2_with (first | (go_at_call 53; refine (within_calls _ _ _ _).mono ?_; rintro e w' ⟨rfl, rfl⟩))
        try rw [← HE6.out]
        go_roundg (5 - (k + 1))
        case measure => omega
        case rel => exact ⟨k + 1, by omega, rfl, by go_num, ⟨by omega⟩, HZ, BKgb, HB⟩
      have G3 := Aside0.mk g3
      have g3b : (v != 0) = true := bne_iff_ne.mpr g3
      clear g3
      by_cases g4 : e = 0
      · have G4 := Aside0.mk g4
        have g4b : (e == 0) = true := by rw [g4]; rfl
        clear g4
        have HF : Aside0 (¬ (SlotsP s L ∧ ListsP L)) := ⟨fun hh => (fun q => q.2.2 ⟨G3.out, G4.out⟩) (HSU.out.mp (hh.1.2.1 k hlt))⟩
        go_wp2_with (first | (go_at_call 53; refine (within_calls _ _ _ _).mono ?_; rintro e w' ⟨rfl, rfl⟩))
        go_ret
        exact RetB.mk rfl (iff_f HF.out) HB.out
      have G4 := Aside0.mk g4
      have g4b : (e == 0) = false := beq_eq_false_iff_ne.mpr g4
      clear g4
      have HZ : Aside0 (∀ j, j < k + 1 → SlotU (L 6) (L 7) j) := ⟨fun j hj => if q : j < k then HU.out j q else (show k = j by omega) ▸ HSU.out.mpr ⟨G1.out, G2.out, fun q => G4.out q.2⟩⟩
      go_wp2_with (first | (go_at_call 53; refine (within_calls _ _ _ _).mono ?_; rintro e w' ⟨rfl, rfl⟩))
      try rw [← HE6.out]
      go_roundg (5 - (k + 1))
      case measure => omega
      case rel => exact ⟨k + 1, by omega, rfl, by go_num, ⟨by omega⟩, HZ, BKgb, HB⟩
    · have HA : Aside0 (∀ i : Nat, (i : Int) < s → SlotU (L 6) (L 7) i) := ⟨fun i hi => HU.out i (by omega)⟩
      have hnl : ¬ (k : Int) < ((L 6).length : Int) := by have := Hh4.out; omega
      have hnk : ¬ k < (L 6).length := by omega
      have fgbs0 : wr.cell? ⟨gb, 0, none⟩ = some (.int .i64 _) := (blk_cell BKgb.out 0).trans rfl; have fgb1 : wr.cell? ⟨gb, 1, none⟩ = some (.slice (A 0) (L 0).length (c 0)) := (blk_cell BKgb.out 1).trans rfl; have fgb2 : wr.cell? ⟨gb, 2, none⟩ = some (.slice (A 1) (L 1).length (c 1)) := (blk_cell BKgb.out 2).trans rfl; have fgb3 : wr.cell? ⟨gb, 3, none⟩ = some (.slice (A 2) (L 2).length (c 2)) := (blk_cell BKgb.out 3).trans rfl; have fgb4 : wr.cell? ⟨gb, 4, none⟩ = some (.slice (A 3) (L 3).length (c 3)) := (blk_cell BKgb.out 4).trans rfl; have fgb5 : wr.cell? ⟨gb, 5, none⟩ = some (.slice (A 4) (L 4).length (c 4)) := (blk_cell BKgb.out 5).trans rfl; have fgb6 : wr.cell? ⟨gb, 6, none⟩ = some (.slice (A 5) (L 5).length (c 5)) := (blk_cell BKgb.out 6).trans rfl; have fgb7 : wr.cell? ⟨gb, 7, none⟩ = some (.slice (A 6) (L 6).length (c 6)) := (blk_cell BKgb.out 7).trans rfl; have fgb8 : wr.cell? ⟨gb, 8, none⟩ = some (.slice (A 7) (L 7).length (c 7)) := (blk_cell BKgb.out 8).trans rfl; have fgbz0 := blk_frozen BKgb.out 0; have fgbz1 := blk_frozen BKgb.out 1; have fgbz2 := blk_frozen BKgb.out 2; have fgbz3 := blk_frozen BKgb.out 3; have fgbz4 := blk_frozen BKgb.out 4; have fgbz5 := blk_frozen BKgb.out 5; have fgbz6 := blk_frozen BKgb.out 6; have fgbz7 := blk_frozen BKgb.out 7; have fgbz8 := blk_frozen BKgb.out 8
      clear HU HK
      go_wp2
      clear fgbs0 fgbz0 fgb1 fgbz1 fgb2 fgbz2 fgb3 fgbz3 fgb4 fgbz4 fgb5 fgbz5 fgb6 fgbz6 fgb7 fgbz7 fgb8 fgbz8
      obtain ⟨wo, rfl⟩ : ∃ wo : World, wo = wr := ⟨_, rfl⟩
      go_loopg [84] ((L 5).length + 1) (fun kq v84 w' => ∃ u : Nat, u ≤ (L 5).length ∧ kq = (L 5).length + 1 - u ∧ v84 = .int .i64 u ∧ Aside0 (∀ j, j < u → UnitU s (L 6) (L 5) j) ∧ Aside0 (w'.heap[gb]? = some (.cells (bkCells s A c L) 27 (0, 0))) ∧ Aside0 (Below w.heap.size w w'))
      case atStart => exact ⟨0, by omega, rfl, rfl, ⟨fun j hj => by omega⟩, BKgb, HB⟩
      case round =>
        clear HB BKgb
        obtain ⟨u, hu5, rfl, rfl, HU, BKgb, HB⟩ := hrel
        by_cases hlt5 : u < (L 5).length
        · have u0 : (0 : Int) ≤ (u : Int) := by omega
          have u5 : (u : Int) < ((L 5).length : Int) := by omega
          obtain ⟨ad5, o, ea5, hx5, HO⟩ := at_v ((HR.out 5 (by omega)).below HB.out) u hlt5
          have HUU : Aside0 (UnitU s (L 6) (L 5) u ↔ (o = 0 ∨ InP s (L 6) (o - 1))) := ⟨by
            unfold UnitU InP
            rw [HO.out]
            by_cases e0 : o = 0
            · subst e0; simp; omega
            · constructor
              · rintro ⟨q1, q2, q3⟩; exact Or.inr ⟨by omega, by omega, fun q => q3 ⟨by omega, q⟩⟩
              · rintro (q | ⟨q1, q2, q3⟩)
                · exact absurd q e0
                · exact ⟨by omega, by omega, fun q => q3 q.2⟩⟩
          have HE5 := Aside0.mk ea5
          by_cases g1 : o = 0
          · have HZ : Aside0 (∀ j, j < u + 1 → UnitU s (L 6) (L 5) j) := ⟨fun j hj => if q : j < u then HU.out j q else (show u = j by omega) ▸ HUU.out.mpr (Or.inl g1)⟩
            have g1b : (o != 0) = false := by rw [g1]; rfl
            clear g1
            go_wp2
            try rw [← HE5.out]
            go_roundg ((L 5).length + 1 - (u + 1))
            case measure => omega
            case rel => exact ⟨u + 1, by omega, rfl, by go_num, HZ, BKgb, HB⟩
          · have G1 := Aside0.mk g1
            have g1b : (o != 0) = true := bne_iff_ne.mpr g1
            clear g1
            have fgbs0 : wr.cell? ⟨gb, 0, none⟩ = some (.int .i64 _) := (blk_cell BKgb.out 0).trans rfl; have fgb1 : wr.cell? ⟨gb, 1, none⟩ = some (.slice (A 0) (L 0).length (c 0)) := (blk_cell BKgb.out 1).trans rfl; have fgb2 : wr.cell? ⟨gb, 2, none⟩ = some (.slice (A 1) (L 1).length (c 1)) := (blk_cell BKgb.out 2).trans rfl; have fgb3 : wr.cell? ⟨gb, 3, none⟩ = some (.slice (A 2) (L 2).length (c 2)) := (blk_cell BKgb.out 3).trans rfl; have fgb4 : wr.cell? ⟨gb, 4, none⟩ = some (.slice (A 3) (L 3).length (c 3)) := (blk_cell BKgb.out 4).trans rfl; have fgb5 : wr.cell? ⟨gb, 5, none⟩ = some (.slice (A 4) (L 4).length (c 4)) := (blk_cell BKgb.out 5).trans rfl; have fgb6 : wr.cell? ⟨gb, 6, none⟩ = some (.slice (A 5) (L 5).length (c 5)) := (blk_cell BKgb.out 6).trans rfl; have fgb7 : wr.cell? ⟨gb, 7, none⟩ = some (.slice (A 6) (L 6).length (c 6)) := (blk_cell BKgb.out 7).trans rfl; have fgb8 : wr.cell? ⟨gb, 8, none⟩ = some (.slice (A 7) (L 7).length (c 7)) := (blk_cell BKgb.out 8).trans rfl; have fgbz0 := blk_frozen BKgb.out 0; have fgbz1 := blk_frozen BKgb.out 1; have fgbz2 := blk_frozen BKgb.out 2; have fgbz3 := blk_frozen BKgb.out 3; have fgbz4 := blk_frozen BKgb.out 4; have fgbz5 := blk_frozen BKgb.out 5; have fgbz6 := blk_frozen BKgb.out 6; have fgbz7 := blk_frozen BKgb.out 7; have fgbz8 := blk_frozen BKgb.out 8
            clear fgb6 fgbz6
            have fgb6 : wr.cell? ⟨gb, 6, none⟩ = some (.slice (A 5) (L 5).length (c 5)) := (blk_cell BKgb.out 6).trans rfl
            have fgbz6 := blk_frozen BKgb.out 6
            go_wp2_with fail
            try rw [← HE5.out]
            refine (isIn_calls s A c L (wrap64 (o - 1)) _ (HR.out.below HB.out) (by omega) (by omega) Hh4.out).mono ?_
            rintro e w3 ⟨r, rfl, hr, hb⟩
            have HRR : Aside0 (r = true ↔ InP s (L 6) (o - 1)) := ⟨hr.trans (inP_wrap (by rw [← HO.out]; exact (HW5.out u).1) (by rw [← HO.out]; exact (HW5.out u).2) (by omega))⟩
            have HB3 := Aside0.mk (below_step HB.out hb)
            have BK3 := Aside0.mk (blk_below BKgb.out hb)
            clear hr hb HB BKgb hx5 ea5
            clear fgbs0 fgbz0 fgb1 fgbz1 fgb2 fgbz2 fgb3 fgbz3 fgb4 fgbz4 fgb5 fgbz5 fgb6 fgbz6 fgb7 fgbz7 fgb8 fgbz8
            cases r with
            | false =>
              have HF : Aside0 (¬ (SlotsP s L ∧ ListsP L)) := ⟨fun hh => by
                rcases HUU.out.mp (hh.1.2.2 u hlt5) with q | q
                · exact G1.out q
                · have := HRR.out.mpr q; cases this⟩
              go_wp2
              go_ret
              exact RetB.mk rfl (iff_f HF.out) HB3.out
            | true =>
              have HZ : Aside0 (∀ j, j < u + 1 → UnitU s (L 6) (L 5) j) := ⟨fun j hj => if q : j < u then HU.out j q else (show u = j by omega) ▸ HUU.out.mpr (Or.inr (HRR.out.mp rfl))⟩
              go_wp2
              try rw [← HE5.out]
              go_roundg ((L 5).length + 1 - (u + 1))
              case measure => omega
              case rel => exact ⟨u + 1, by omega, rfl, by go_num, HZ, BK3, HB3⟩
        · have HSP : Aside0 (SlotsP s L) := ⟨⟨HS.out, HA.out, fun j hj => HU.out j (by omega)⟩⟩
          have fgbs0 : wr.cell? ⟨gb, 0, none⟩ = some (.int .i64 _) := (blk_cell BKgb.out 0).trans rfl; have fgb1 : wr.cell? ⟨gb, 1, none⟩ = some (.slice (A 0) (L 0).length (c 0)) := (blk_cell BKgb.out 1).trans rfl; have fgb2 : wr.cell? ⟨gb, 2, none⟩ = some (.slice (A 1) (L 1).length (c 1)) := (blk_cell BKgb.out 2).trans rfl; have fgb3 : wr.cell? ⟨gb, 3, none⟩ = some (.slice (A 2) (L 2).length (c 2)) := (blk_cell BKgb.out 3).trans rfl; have fgb4 : wr.cell? ⟨gb, 4, none⟩ = some (.slice (A 3) (L 3).length (c 3)) := (blk_cell BKgb.out 4).trans rfl; have fgb5 : wr.cell? ⟨gb, 5, none⟩ = some (.slice (A 4) (L 4).length (c 4)) := (blk_cell BKgb.out 5).trans rfl; have fgb6 : wr.cell? ⟨gb, 6, none⟩ = some (.slice (A 5) (L 5).length (c 5)) := (blk_cell BKgb.out 6).trans rfl; have fgb7 : wr.cell? ⟨gb, 7, none⟩ = some (.slice (A 6) (L 6).length (c 6)) := (blk_cell BKgb.out 7).trans rfl; have fgb8 : wr.cell? ⟨gb, 8, none⟩ = some (.slice (A 7) (L 7).length (c 7)) := (blk_cell BKgb.out 8).trans rfl; have fgbz0 := blk_frozen BKgb.out 0; have fgbz1 := blk_frozen BKgb.out 1; have fgbz2 := blk_frozen BKgb.out 2; have fgbz3 := blk_frozen BKgb.out 3; have fgbz4 := blk_frozen BKgb.out 4; have fgbz5 := blk_frozen BKgb.out 5; have fgbz6 := blk_frozen BKgb.out 6; have fgbz7 := blk_frozen BKgb.out 7; have fgbz8 := blk_frozen BKgb.out 8
          clear HU
          go_wp2
          clear fgbs0 fgbz0 fgb1 fgbz1 fgb2 fgbz2 fgb3 fgbz3 fgb4 fgbz4 fgb5 fgbz5 fgb6 fgbz6 fgb7 fgbz7 fgb8 fgbz8
          obtain ⟨wp, rfl⟩ : ∃ wp : World, wp = wr := ⟨_, rfl⟩
          go_loopg [100] 5 (fun kq v100 w' => ∃ k : Nat, k ≤ 4 ∧ kq = 5 - k ∧ v100 = .int .i64 k ∧ Aside0 (∀ j, j < k → ListP (L 0) (L 5) (L (j + 1)) j) ∧ Aside0 (w'.heap[gb]? = some (.cells (bkCells s A c L) 27 (0, 0))) ∧ Aside0 (Below w.heap.size w w'))
          case atStart => exact ⟨0, by omega, rfl, rfl, ⟨fun j hj => by omega⟩, BKgb, HB⟩
          case round =>
            clear HB BKgb
            obtain ⟨k, hk4, rfl, rfl, HU, BKgb, HB⟩ := hrel
            by_cases hltk : k < 4
            · have hi4 : (k : Int) < 4 := by omega
              have hax := index4 A c L k hltk
              have hc6 : wr.cell? ⟨gb, 6, none⟩ = some (.slice (A 5) (L 5).length (c 5)) := (blk_cell BKgb.out 6).trans rfl
              have hz6 := blk_frozen BKgb.out 6
              by_cases hlen : (L (k + 1)).length > (L 5).length
              · have HF : Aside0 (¬ (SlotsP s L ∧ ListsP L)) := ⟨fun hh => by have := (hh.2 k hltk).1; omega⟩
                have hlen' : ((L 5).length : Int) < ((L (k + 1)).length : Int) := by omega
                go_wp2
                go_ret
                exact RetB.mk rfl (iff_f HF.out) HB.out
              · have hlen' : ¬ ((L 5).length : Int) < ((L (k + 1)).length : Int) := by omega
                have HLE : Aside0 ((L (k + 1)).length ≤ (L 5).length) := ⟨by omega⟩
                have hlk : ((L (k + 1)).length : Int) ≤ 35184372088832 := by have := HL.out (k + 1); omega
                go_wp2
                clear hlen hlen' hc6 hz6
                obtain ⟨wq, rfl⟩ : ∃ wq : World, wq = wr := ⟨_, rfl⟩
                go_loopg [112] ((L (k + 1)).length + 1) (fun kq v112 w' => ∃ i : Nat, i ≤ (L (k + 1)).length ∧ kq = (L (k + 1)).length + 1 - i ∧ v112 = .int .i64 i ∧ Aside0 (∀ j, j < i → EntryU (L 0) (L 5) (L (k + 1)) k j) ∧ Aside0 (w'.heap[gb]? = some (.cells (bkCells s A c L) 27 (0, 0))) ∧ Aside0 (Below w.heap.size w w'))
                case atStart => exact ⟨0, by omega, rfl, rfl, ⟨fun j hj => by omega⟩, BKgb, HB⟩
                case round =>
                  clear HB BKgb hax
                  obtain ⟨i, hil, rfl, rfl, HI, BKgb, HB⟩ := hrel
                  by_cases hlti : i < (L (k + 1)).length
                  · have i0 : (0 : Int) ≤ (i : Int) := by omega
                    have i1 : (i : Int) < ((L (k + 1)).length : Int) := by omega
                    obtain ⟨adk, a, eak, hxk, HAk⟩ := at_v ((HR.out (k + 1) (by omega)).below HB.out) i hlti
                    have HEK := Aside0.mk eak
                    have hc6 : wr.cell? ⟨gb, 6, none⟩ = some (.slice (A 5) (L 5).length (c 5)) := (blk_cell BKgb.out 6).trans rfl
                    have hz6 := blk_frozen BKgb.out 6
                    have HE : Aside0 (EntryU (L 0) (L 5) (L (k + 1)) k i ↔ ((0 ≤ a ∧ a ≤ ((L 5).length : Int) - 1) ∧ a % (sizeN k : Int) = 0 ∧ (L 0).getD (a / 8).toNat 0 = (k : Int) + 1)) := ⟨by
                      unfold EntryU
                      rw [HAk.out, kind_iff]
                      have hz := sizeN_pos' k
                      have hm := Int.emod_nonneg a (show (sizeN k : Int) ≠ 0 by omega)
                      constructor
                      · rintro ⟨q1, q2, q3, q4⟩; exact ⟨⟨by omega, by omega⟩, by omega, q3.2⟩
                      · rintro ⟨q1, q2, q3⟩; exact ⟨by omega, by omega, ⟨hltk, q3⟩, by omega⟩⟩
                    by_cases g1 : 0 ≤ a ∧ a ≤ ((L 5).length : Int) - 1
                    rotate_left
                    · have HF : Aside0 (¬ (SlotsP s L ∧ ListsP L)) := ⟨fun hh => g1 (HE.out.mp ((hh.2 k hltk).2 i hlti)).1⟩
                      have g1b : withinB a 0 (((L 5).length : Int) - 1) = false := within_f g1
                      clear g1
                      go_wp2_with (first | (go_at_call 53; refine (within_calls _ _ _ _).mono ?_; rintro e w' ⟨rfl, rfl⟩))
                      go_ret
                      exact RetB.mk rfl (iff_f HF.out) HB.out
                    have g1b : withinB a 0 (((L 5).length : Int) - 1) = true := within_t.mpr g1
                    have G1 := Aside0.mk g1
                    obtain ⟨a0, a1⟩ := g1
                    have aM : a ≤ 35184372088832 := by omega
                    have hdv : wrap64 (a.tdiv 8) = a / 8 := by rw [Int.tdiv_eq_ediv_of_nonneg a0]; unfold wrap64; omega
                    have a8 : (0 : Int) ≤ a / 8 := by omega
                    have a9 : a / 8 < ((L 0).length : Int) := by have := Hh3.out; omega
                    obtain ⟨ad0, q, ea0, hx0, HQ⟩ := at_v ((HR.out 0 (by omega)).below HB.out) (a / 8).toNat (by omega)
                    have hc1 : wr.cell? ⟨gb, 1, none⟩ = some (.slice (some ad0) (L 0).length (c 0)) := (blk_cell BKgb.out 1).trans (by rw [← ea0]; rfl)
                    have hz1 := blk_frozen BKgb.out 1
                    clear ea0
                    go_wp2_with (first | (go_at_call 53; refine (within_calls _ _ _ _).mono ?_; rintro e w' ⟨rfl, rfl⟩))
                    refine (unitsOf_calls k hltk _).mono ?_
                    rintro e w2 ⟨rfl, rfl⟩
                    obtain ⟨z, hz⟩ : ∃ z : Nat, sizeN k = z := ⟨_, rfl⟩
                    have HZ := Aside0.mk hz
                    have z0 : (0 : Int) < (z : Int) := by have := sizeN_pos k; omega
                    rw [hz]
                    clear hz
                    have hzb : ((z : Int) == 0) = false := by rw [beq_eq_false_iff_ne]; omega
                    by_cases g2 : a % (z : Int) = 0
                    rotate_left
                    · have HF : Aside0 (¬ (SlotsP s L ∧ ListsP L)) := ⟨fun hh => g2 (by rw [← HZ.out]; exact (HE.out.mp ((hh.2 k hltk).2 i hlti)).2.1)⟩
                      have g2b : (a % (z : Int) != 0) = true := bne_iff_ne.mpr g2
                      clear g2
                      go_wp2
                      go_ret
                      exact RetB.mk rfl (iff_f HF.out) HB.out
                    have G2 := Aside0.mk g2
                    have g2b : (a % (z : Int) != 0) = false := bne_eq_false_iff_eq.mpr g2
                    clear g2
                    by_cases g3 : q = (k : Int) + 1
                    rotate_left
                    · have HF : Aside0 (¬ (SlotsP s L ∧ ListsP L)) := ⟨fun hh => g3 (by rw [← HQ.out]; exact (HE.out.mp ((hh.2 k hltk).2 i hlti)).2.2)⟩
                      have g3b : (q != (k : Int) + 1) = true := bne_iff_ne.mpr g3
                      clear g3
                      go_wp2
                      go_ret
                      exact RetB.mk rfl (iff_f HF.out) HB.out
                    have G3 := Aside0.mk g3
                    have g3b : (q != (k : Int) + 1) = false := bne_eq_false_iff_eq.mpr g3
                    clear g3
                    have HI2 : Aside0 (∀ j, j < i + 1 → EntryU (L 0) (L 5) (L (k + 1)) k j) := ⟨fun j hj => if p : j < i then HI.out j p else (show i = j by omega) ▸ HE.out.mpr ⟨G1.out, by rw [HZ.out]; exact G2.out, by rw [HQ.out]; exact G3.out⟩⟩
                    go_wp2
                    try rw [← HEK.out]
                    go_roundg ((L (k + 1)).length + 1 - (i + 1))
                    case measure => omega
                    case rel => exact ⟨i + 1, by omega, rfl, by go_num, HI2, BKgb, HB⟩
                  · have HU2 : Aside0 (∀ j, j < k + 1 → ListP (L 0) (L 5) (L (j + 1)) j) := ⟨fun j hj => if p : j < k then HU.out j p else (show k = j by omega) ▸ ⟨HLE.out, fun x hx => HI.out x (by omega)⟩⟩
                    have hni : ¬ (i : Int) < ((L (k + 1)).length : Int) := by omega
                    go_wp2
                    go_roundg (5 - (k + 1))
                    case measure => omega
                    case rel => exact ⟨k + 1, by omega, rfl, by go_num, HU2, BKgb, HB⟩
            · have HF : Aside0 (SlotsP s L ∧ ListsP L) := ⟨⟨HSP.out, fun j hj => HU.out j (by omega)⟩⟩
              go_wp2
              go_ret
              exact RetB.mk rfl (iff_t HF.out) HB.out
end Go.Proofs.Ytekneicikmaplaa.Bk
namespace Go.Proofs.Ytekneicikmaplaa.Bk
open Go.RowKit Go.Proofs.YtekneicikmaplaaW.PrintWords Go.Proofs.YtekneicikmaplaaW.PrintLast Go.Proofs.YtekneicikmaplaaW.PrintMore
/-- From page p on the pages are right, as the program looks at them. -/
inductive PF (L : Nat → List Int) : Nat → Prop
  | done {p : Nat} (hp : (L 0).length ≤ p) : PF L p
  | empty {p : Nat} (hp : p < (L 0).length) (hv : (L 0).getD p 0 = 0) (hz : NzN (L 5) (p * 8) 8 = 0) (next : PF L (p + 1)) : PF L p
  | kind {p : Nat} (k : Nat) (hp : p < (L 0).length) (hk : k < 4) (hv : (L 0).getD p 0 = (k : Int) + 1) (hK : KindP (L 5) (L (k + 1)) (sizeN k) p) (next : PF L (p + 1)) : PF L p
  | wide {p : Nat} (n : Nat) (hp : p < (L 0).length) (hn : 2 ≤ n ∧ n ≤ 4) (hv : (L 0).getD p 0 = (n : Int) + 8) (hl : p + n ≤ (L 0).length) (h0 : (L 5).getD (p * 8) 0 ≠ 0) (h1 : NzN (L 5) (p * 8) (n * 8) = 1) (hr : ∀ i, 1 ≤ i → i < n → (L 0).getD (p + i) 0 = 7) (next : PF L (p + n)) : PF L p
theorem PF_empty {L : Nat → List Int} {p : Nat} (hp : p < (L 0).length) (hv : (L 0).getD p 0 = 0) : PF L p ↔ (NzN (L 5) (p * 8) 8 = 0 ∧ PF L (p + 1)) := by
  constructor
  · intro h
    cases h with
    | done h => omega
    | empty _ _ hz nx => exact ⟨hz, nx⟩
    | kind k _ hk hv' _ _ => omega
    | wide n _ hn hv' _ _ _ _ _ => omega
  · rintro ⟨a, b⟩; exact .empty hp hv a b
theorem PF_kind {L : Nat → List Int} {p k : Nat} (hp : p < (L 0).length) (hk : k < 4) (hv : (L 0).getD p 0 = (k : Int) + 1) : PF L p ↔ (KindP (L 5) (L (k + 1)) (sizeN k) p ∧ PF L (p + 1)) := by
  constructor
  · intro h
    cases h with
    | done h => omega
    | empty _ hv' _ _ => omega
    | kind k' _ hk' hv' hK nx => obtain rfl : k' = k := by omega
                                 exact ⟨hK, nx⟩
    | wide n _ hn hv' _ _ _ _ _ => omega
  · rintro ⟨a, b⟩; exact .kind k hp hk hv a b
theorem PF_wide {L : Nat → List Int} {p : Nat} (hp : p < (L 0).length) (h0 : ¬ (L 0).getD p 0 = 0) (h4 : ¬ (1 ≤ (L 0).getD p 0 ∧ (L 0).getD p 0 ≤ 4)) : PF L p ↔ ∃ n : Nat, (2 ≤ n ∧ n ≤ 4) ∧ (L 0).getD p 0 = (n : Int) + 8 ∧ p + n ≤ (L 0).length ∧ (L 5).getD (p * 8) 0 ≠ 0 ∧ NzN (L 5) (p * 8) (n * 8) = 1 ∧ (∀ i, 1 ≤ i → i < n → (L 0).getD (p + i) 0 = 7) ∧ PF L (p + n) := by
  constructor
  · intro h
    cases h with
    | done h => omega
    | empty _ hv' _ _ => exact absurd hv' h0
    | kind k' _ hk' hv' hK nx => omega
    | wide n _ hn hv' a b c d nx => exact ⟨n, hn, hv', a, b, c, d, nx⟩
  · rintro ⟨n, hn, hv', a, b, c, d, nx⟩; exact .wide n hp hn hv' a b c d nx
set_option maxHeartbeats 8000000 in
set_option maxRecDepth 100000 in
theorem implBookOk_calls (s : Int) (A : Nat → Option Addr) (c : Nat → Nat) (L : Nat → List Int) (w : World) (h : BkC w A c L) (hl : ∀ i, (L i).length ≤ 35184372088832) (hw0 : Wf64 (L 0)) (hw5 : Wf64 (L 5)) :
    Calls Try.prog 22 #[.agg (bkCells s A c L)] w (RetB ((SlotsP s L ∧ ListsP L) ∧ PF L 0) w) := by
  have HR := Aside0.mk h
  have HL := Aside0.mk hl
  have HW0 := Aside0.mk hw0
  have HW5 := Aside0.mk hw5
  have hl0 : ((L 0).length : Int) ≤ 35184372088832 := by have := hl 0; omega
  have hl5 : ((L 5).length : Int) ≤ 35184372088832 := by have := hl 5; omega
  clear h hl hw0 hw5
  have HB := Aside0.mk (Below.refl w.heap.size w)
  go_enter Try.func22, Try.ntmps22
  go_wp2_with (first | ((with_reducible refine gate_dst (N := 1) rfl ?_); refine box_event rfl (N := 1) rfl (cs := bkCells s A c L) (t := 27) (by first | (go_simp; done) | (go_simp; rfl)) ?_; intro gb hggb w1 hbox hb; have n0_ := Aside0.mk (below_step HB.out hb); have BKgb := Aside0.mk hbox; have HGgb := Aside0.mk (show w.heap.size ≤ gb by rw [hggb]; exact HB.out.size); clear HB; have HB := n0_; have fgbs0 : w1.cell? ⟨gb, 0, none⟩ = some (.int .i64 _) := (blk_cell BKgb.out 0).trans rfl; have fgb1 : w1.cell? ⟨gb, 1, none⟩ = some (.slice (A 0) (L 0).length (c 0)) := (blk_cell BKgb.out 1).trans rfl; have fgb2 : w1.cell? ⟨gb, 2, none⟩ = some (.slice (A 1) (L 1).length (c 1)) := (blk_cell BKgb.out 2).trans rfl; have fgb3 : w1.cell? ⟨gb, 3, none⟩ = some (.slice (A 2) (L 2).length (c 2)) := (blk_cell BKgb.out 3).trans rfl; have fgb4 : w1.cell? ⟨gb, 4, none⟩ = some (.slice (A 3) (L 3).length (c 3)) := (blk_cell BKgb.out 4).trans rfl; have fgb5 : w1.cell? ⟨gb, 5, none⟩ = some (.slice (A 4) (L 4).length (c 4)) := (blk_cell BKgb.out 5).trans rfl; have fgb6 : w1.cell? ⟨gb, 6, none⟩ = some (.slice (A 5) (L 5).length (c 5)) := (blk_cell BKgb.out 6).trans rfl; have fgb7 : w1.cell? ⟨gb, 7, none⟩ = some (.slice (A 6) (L 6).length (c 6)) := (blk_cell BKgb.out 7).trans rfl; have fgb8 : w1.cell? ⟨gb, 8, none⟩ = some (.slice (A 7) (L 7).length (c 7)) := (blk_cell BKgb.out 8).trans rfl; have fgbz0 := blk_frozen BKgb.out 0; have fgbz1 := blk_frozen BKgb.out 1; have fgbz2 := blk_frozen BKgb.out 2; have fgbz3 := blk_frozen BKgb.out 3; have fgbz4 := blk_frozen BKgb.out 4; have fgbz5 := blk_frozen BKgb.out 5; have fgbz6 := blk_frozen BKgb.out 6; have fgbz7 := blk_frozen BKgb.out 7; have fgbz8 := blk_frozen BKgb.out 8; clear n0_ hbox hb hggb))
  refine (shapeOk_calls s A c L _ (HR.out.below HB.out) HL.out HW5.out).mono ?_
  rintro e w3 ⟨r, rfl, hr, hb⟩
  have HB3 := Aside0.mk (below_step HB.out hb)
  have BK3 := Aside0.mk (blk_below BKgb.out hb)
  clear HB BKgb hb
  clear fgbs0 fgbz0 fgb1 fgbz1 fgb2 fgbz2 fgb3 fgbz3 fgb4 fgbz4 fgb5 fgbz5 fgb6 fgbz6 fgb7 fgbz7 fgb8 fgbz8
  cases r with
  | false =>
    have HF : Aside0 (¬ ((SlotsP s L ∧ ListsP L) ∧ PF L 0)) := ⟨fun hh => by have := hr.mpr hh.1; cases this⟩
    clear hr
    go_wp2
    go_ret
    exact RetB.mk rfl (iff_f HF.out) HB3.out
  | true =>
    have HS := Aside0.mk (hr.mp rfl)
    have H05 : Aside0 ((L 5).length = (L 0).length * 8) := ⟨by have := HS.out.1.1.2.2.2.2.2.2; omega⟩
    clear hr
    go_wp2
    go_loopg [3] ((L 0).length + 1) (fun kq v3 w' => ∃ p : Nat, p ≤ (L 0).length ∧ kq = (L 0).length + 1 - p ∧ v3 = .int .i64 p ∧ Aside0 (PF L 0 ↔ PF L p) ∧ Aside0 (w'.heap[gb]? = some (.cells (bkCells s A c L) 27 (0, 0))) ∧ Aside0 (Below w.heap.size w w'))
    case atStart => exact ⟨0, by omega, rfl, rfl, ⟨Iff.rfl⟩, BK3, HB3⟩
    case round =>
      clear HB3 BK3
      obtain ⟨p, hp, rfl, rfl, HU, BKgb, HB⟩ := hrel
      by_cases hlt : p < (L 0).length
      · have p0 : (0 : Int) ≤ (p : Int) := by omega
        have p1 : (p : Int) < ((L 0).length : Int) := by omega
        have hp8 : p * 8 + 8 ≤ (L 5).length := by have := H05.out; omega
        obtain ⟨ad0, v, ea0, hx0, HV⟩ := at_v ((HR.out 0 (by omega)).below HB.out) p hlt
        have HE0 := Aside0.mk ea0
        have fgbs0 : wr.cell? ⟨gb, 0, none⟩ = some (.int .i64 _) := (blk_cell BKgb.out 0).trans rfl; have fgb1 : wr.cell? ⟨gb, 1, none⟩ = some (.slice (A 0) (L 0).length (c 0)) := (blk_cell BKgb.out 1).trans rfl; have fgb2 : wr.cell? ⟨gb, 2, none⟩ = some (.slice (A 1) (L 1).length (c 1)) := (blk_cell BKgb.out 2).trans rfl; have fgb3 : wr.cell? ⟨gb, 3, none⟩ = some (.slice (A 2) (L 2).length (c 2)) := (blk_cell BKgb.out 3).trans rfl; have fgb4 : wr.cell? ⟨gb, 4, none⟩ = some (.slice (A 3) (L 3).length (c 3)) := (blk_cell BKgb.out 4).trans rfl; have fgb5 : wr.cell? ⟨gb, 5, none⟩ = some (.slice (A 4) (L 4).length (c 4)) := (blk_cell BKgb.out 5).trans rfl; have fgb6 : wr.cell? ⟨gb, 6, none⟩ = some (.slice (A 5) (L 5).length (c 5)) := (blk_cell BKgb.out 6).trans rfl; have fgb7 : wr.cell? ⟨gb, 7, none⟩ = some (.slice (A 6) (L 6).length (c 6)) := (blk_cell BKgb.out 7).trans rfl; have fgb8 : wr.cell? ⟨gb, 8, none⟩ = some (.slice (A 7) (L 7).length (c 7)) := (blk_cell BKgb.out 8).trans rfl; have fgbz0 := blk_frozen BKgb.out 0; have fgbz1 := blk_frozen BKgb.out 1; have fgbz2 := blk_frozen BKgb.out 2; have fgbz3 := blk_frozen BKgb.out 3; have fgbz4 := blk_frozen BKgb.out 4; have fgbz5 := blk_frozen BKgb.out 5; have fgbz6 := blk_frozen BKgb.out 6; have fgbz7 := blk_frozen BKgb.out 7; have fgbz8 := blk_frozen BKgb.out 8
        rw [ea0] at fgb1
        clear ea0
        by_cases h0 : v = 0
        · have HP := Aside0.mk (PF_empty hlt (by rw [HV.out]; exact h0))
          have h0b : (v == 0) = true := by rw [h0]; rfl
          clear h0
          go_wp2_with fail
          rw [← HE0.out]
          refine (owned_calls s A c L _ _ (p * 8) 8 _ (HR.out.below HB.out) (by omega) (by omega) (by omega) hp8 (HL.out 5)).mono ?_
          rintro e w4 ⟨rfl, hb⟩
          obtain ⟨m, hm⟩ : ∃ m, NzN (L 5) (p * 8) 8 = m := ⟨_, rfl⟩
          have HM := Aside0.mk hm
          rw [hm]
          have HB4 := Aside0.mk (below_step HB.out hb)
          have BK4 := Aside0.mk (blk_below BKgb.out hb)
          clear hm hb HB BKgb hx0
          clear fgbs0 fgbz0 fgb1 fgbz1 fgb2 fgbz2 fgb3 fgbz3 fgb4 fgbz4 fgb5 fgbz5 fgb6 fgbz6 fgb7 fgbz7 fgb8 fgbz8
          by_cases g : 0 < m
          · have g' : (0 : Int) < (m : Int) := by omega
            have HF : Aside0 (¬ ((SlotsP s L ∧ ListsP L) ∧ PF L 0)) := ⟨fun hh => by have := (HP.out.mp (HU.out.mp hh.2)).1; rw [HM.out] at this; omega⟩
            go_wp2
            go_ret
            exact RetB.mk rfl (iff_f HF.out) HB4.out
          · have g' : ¬ (0 : Int) < (m : Int) := by omega
            have HU2 : Aside0 (PF L 0 ↔ PF L (p + 1)) := ⟨HU.out.trans (HP.out.trans ⟨fun q => q.2, fun q => ⟨by rw [HM.out]; omega, q⟩⟩)⟩
            go_wp2
            go_roundg ((L 0).length + 1 - (p + 1))
            case measure => omega
            case rel => exact ⟨p + 1, by omega, rfl, by go_num, HU2, BK4, HB4⟩
        have H0 := Aside0.mk h0
        have h0b : (v == 0) = false := beq_eq_false_iff_ne.mpr h0
        clear h0
        by_cases h4 : 1 ≤ v ∧ v ≤ 4
        · have h4b : withinB v 1 4 = true := within_t.mpr h4
          obtain ⟨k, hk⟩ : ∃ k : Nat, v = (k : Int) + 1 := ⟨(v - 1).toNat, by omega⟩
          have hk4 : k < 4 := by omega
          have HK := Aside0.mk hk
          have HP := Aside0.mk (PF_kind (L := L) (k := k) hlt hk4 (by rw [HV.out]; exact hk))
          clear h4 hk
          go_wp2_with (first | (go_at_call 51; refine (isKind_calls _ _).mono ?_; rintro e w' ⟨rfl, rfl⟩))
          rw [← HE0.out]
          refine (kindOk_calls s A c L p k _ (HR.out.below HB.out) hk4 (by rw [HV.out]; exact HK.out) hlt hp8 HL.out).mono ?_
          rintro e w4 ⟨r, rfl, hr, hb⟩
          have HB4 := Aside0.mk (below_step HB.out hb)
          have BK4 := Aside0.mk (blk_below BKgb.out hb)
          clear hb HB BKgb hx0
          clear fgbs0 fgbz0 fgb1 fgbz1 fgb2 fgbz2 fgb3 fgbz3 fgb4 fgbz4 fgb5 fgbz5 fgb6 fgbz6 fgb7 fgbz7 fgb8 fgbz8
          cases r with
          | false =>
            have HF : Aside0 (¬ ((SlotsP s L ∧ ListsP L) ∧ PF L 0)) := ⟨fun hh => by have := hr.mpr (HP.out.mp (HU.out.mp hh.2)).1; cases this⟩
            clear hr
            go_wp2
            go_ret
            exact RetB.mk rfl (iff_f HF.out) HB4.out
          | true =>
            have HU2 : Aside0 (PF L 0 ↔ PF L (p + 1)) := ⟨HU.out.trans (HP.out.trans ⟨fun q => q.2, fun q => ⟨hr.mp rfl, q⟩⟩)⟩
            clear hr
            go_wp2
            go_roundg ((L 0).length + 1 - (p + 1))
            case measure => omega
            case rel => exact ⟨p + 1, by omega, rfl, by go_num, HU2, BK4, HB4⟩
        have h4b : withinB v 1 4 = false := within_f h4
        have HP := Aside0.mk (PF_wide (L := L) hlt (by rw [HV.out]; exact H0.out) (by rw [HV.out]; exact h4))
        clear h4
        obtain ⟨n, hn⟩ : ∃ n, wrap64 (v - 8) = n := ⟨_, rfl⟩
        have HN : Aside0 (n = v - 8 ∨ (v - 8 < 2 ∧ 4 < n)) := ⟨wrap_sub8 (by rw [← HV.out]; exact (HW0.out p).1) (by rw [← HV.out]; exact (HW0.out p).2) hn⟩
        by_cases g1 : 2 ≤ n ∧ n ≤ 4
        rotate_left
        · have HF : Aside0 (¬ ((SlotsP s L ∧ ListsP L) ∧ PF L 0)) := ⟨fun hh => by
            obtain ⟨m, hm, hv, _⟩ := HP.out.mp (HU.out.mp hh.2)
            rw [HV.out] at hv
            have := HN.out
            omega⟩
          have g1b : withinB n 2 4 = false := within_f g1
          clear g1
          go_wp2_with (first | (go_at_call 51; refine (isKind_calls _ _).mono ?_; rintro e w' ⟨rfl, rfl⟩) | (go_at_call 53; refine (within_calls _ _ _ _).mono ?_; rintro e w' ⟨rfl, rfl⟩))
          go_ret
          exact RetB.mk rfl (iff_f HF.out) HB.out
        have g1b : withinB n 2 4 = true := within_t.mpr g1
        obtain ⟨g11, g12⟩ := g1
        have HVN : Aside0 (v = n + 8) := ⟨by have := HN.out; omega⟩
        obtain ⟨m, hm⟩ : ∃ m : Nat, n = (m : Int) := ⟨n.toNat, by omega⟩
        have HM := Aside0.mk hm
        clear HN hm
        have HPW : Aside0 (PF L p ↔ (p + m ≤ (L 0).length ∧ (L 5).getD (p * 8) 0 ≠ 0 ∧ NzN (L 5) (p * 8) (m * 8) = 1 ∧ (∀ i, 1 ≤ i → i < m → (L 0).getD (p + i) 0 = 7) ∧ PF L (p + m))) := ⟨by
          rw [HP.out, HV.out]
          have := HVN.out
          have := HM.out
          constructor
          · rintro ⟨m', _, hv, q⟩
            obtain rfl : m' = m := by omega
            exact q
          · intro q
            exact ⟨m, by omega, by omega, q⟩⟩
        clear HP
        by_cases g2 : n > ((L 0).length : Int) - (p : Int)
        · have HF : Aside0 (¬ ((SlotsP s L ∧ ListsP L) ∧ PF L 0)) := ⟨fun hh => by have := (HPW.out.mp (HU.out.mp hh.2)).1; have := HM.out; omega⟩
          go_wp2_with (first | (go_at_call 51; refine (isKind_calls _ _).mono ?_; rintro e w' ⟨rfl, rfl⟩) | (go_at_call 53; refine (within_calls _ _ _ _).mono ?_; rintro e w' ⟨rfl, rfl⟩))
          go_ret
          exact RetB.mk rfl (iff_f HF.out) HB.out
        have G2 : Aside0 (p + m ≤ (L 0).length) := ⟨by have := HM.out; omega⟩
        have g2b : (((L 0).length : Int) - (p : Int) < n) = False := eq_false (by omega)
        clear g2
        obtain ⟨ad5, o, ea5, hx5, HO⟩ := at_v ((HR.out 5 (by omega)).below HB.out) (p * 8) (by omega)
        have HE5 := Aside0.mk ea5
        have q5 : (p : Int) * 8 < ((L 5).length : Int) := by omega
        rw [ea5] at fgb6
        clear ea5
        by_cases g3 : o = 0
        · have G3 := Aside0.mk g3
          have g3b : (o == 0) = true := by rw [g3]; rfl
          clear g3
          have HF : Aside0 (¬ ((SlotsP s L ∧ ListsP L) ∧ PF L 0)) := ⟨fun hh => (HPW.out.mp (HU.out.mp hh.2)).2.1 (by rw [HO.out]; exact G3.out)⟩
          go_wp2_with (first | (go_at_call 51; refine (isKind_calls _ _).mono ?_; rintro e w' ⟨rfl, rfl⟩) | (go_at_call 53; refine (within_calls _ _ _ _).mono ?_; rintro e w' ⟨rfl, rfl⟩))
          go_ret
          exact RetB.mk rfl (iff_f HF.out) HB.out
        have G3 := Aside0.mk g3
        have g3b : (o == 0) = false := beq_eq_false_iff_ne.mpr g3
        clear g3
        go_wp2_with (first | (go_at_call 51; refine (isKind_calls _ _).mono ?_; rintro e w' ⟨rfl, rfl⟩) | (go_at_call 53; refine (within_calls _ _ _ _).mono ?_; rintro e w' ⟨rfl, rfl⟩))
        rw [← HE0.out, ← HE5.out]
        refine (owned_calls s A c L _ _ (p * 8) (m * 8) _ (HR.out.below HB.out) (by omega) (by have := HM.out; omega) (by have := HM.out; omega) (by have := G2.out; have := H05.out; omega) (HL.out 5)).mono ?_
        rintro e w4 ⟨rfl, hb⟩
        obtain ⟨z, hz⟩ : ∃ z, NzN (L 5) (p * 8) (m * 8) = z := ⟨_, rfl⟩
        have HZ := Aside0.mk hz
        rw [hz]
        have HB4 := Aside0.mk (below_step HB.out hb)
        have BK4 := Aside0.mk (blk_below BKgb.out hb)
        clear hz hb HB BKgb hx0 hx5
        clear fgbs0 fgbz0 fgb1 fgbz1 fgb2 fgbz2 fgb3 fgbz3 fgb4 fgbz4 fgb5 fgbz5 fgb6 fgbz6 fgb7 fgbz7 fgb8 fgbz8
        by_cases g4 : (z : Int) = 1
        rotate_left
        · have HF : Aside0 (¬ ((SlotsP s L ∧ ListsP L) ∧ PF L 0)) := ⟨fun hh => g4 (by have := (HPW.out.mp (HU.out.mp hh.2)).2.2.1; rw [HZ.out] at this; omega)⟩
          have g4b : ((z : Int) != 1) = true := bne_iff_ne.mpr g4
          clear g4
          go_wp2
          go_ret
          exact RetB.mk rfl (iff_f HF.out) HB4.out
        have G4 : Aside0 (z = 1) := ⟨by omega⟩
        have g4b : ((z : Int) != 1) = false := bne_eq_false_iff_eq.mpr g4
        clear g4 g2b
        have HME := Aside0.mk (show n = (m : Int) from HM.out)
        go_wp2
        obtain ⟨wo, rfl⟩ : ∃ wo : World, wo = w4 := ⟨_, rfl⟩
        go_loopg [3, 58] (m - 1) (fun kq v3 v58 w' => ∃ i : Nat, i + 1 ≤ m ∧ kq = m - 1 - i ∧ v58 = .int .i64 i ∧ v3 = .int .i64 ((p : Int) + (i : Int)) ∧ Aside0 (∀ j, 1 ≤ j → j < i + 1 → (L 0).getD (p + j) 0 = 7) ∧ Aside0 (w'.heap[gb]? = some (.cells (bkCells s A c L) 27 (0, 0))) ∧ Aside0 (Below w.heap.size w w'))
        case atStart => exact ⟨0, by have := HME.out; omega, by omega, rfl, by simp, ⟨fun j h1 h2 => by omega⟩, BK4, HB4⟩
        case round =>
          clear HB4 BK4
          obtain ⟨i, hi, rfl, rfl, rfl, HI, BKgb, HB⟩ := hrel
          have nm := HME.out
          by_cases hlti : i + 1 < m
          · have l1 : (i : Int) < n - 1 := by omega
            have l2 : (0 : Int) ≤ (p : Int) + (i : Int) + 1 := by omega
            have l3 : (p : Int) + (i : Int) + 1 < ((L 0).length : Int) := by have := G2.out; omega
            clear nm
            obtain ⟨adi, vi, eai, hxi, HVi⟩ := at_v ((HR.out 0 (by omega)).below HB.out) (p + i + 1) (by have := G2.out; omega)
            have hc1 : wr.cell? ⟨gb, 1, none⟩ = some (.slice (some adi) (L 0).length (c 0)) := (blk_cell BKgb.out 1).trans (by rw [← eai]; rfl)
            have hz1 := blk_frozen BKgb.out 1
            clear eai
            have hxj : wr.cell? ⟨adi.block, adi.off + (p + i + 1), none⟩ = some (.int .i64 vi) := by have h := hxi; unfold Addr.add at h; rw [if_neg (by omega)] at h; exact h
            by_cases hv : vi = 7
            · have HZi : Aside0 (∀ j, 1 ≤ j → j < i + 1 + 1 → (L 0).getD (p + j) 0 = 7) := ⟨fun j h1 h2 => if e : j < i + 1 then HI.out j h1 e else (show i + 1 = j by omega) ▸ (by rw [← Nat.add_assoc, HVi.out, hv])⟩
              have hv' : (vi != 7) = false := by rw [hv]; rfl
              clear hv
              go_wp2
              go_roundg (m - 1 - (i + 1))
              case measure => omega
              case rel => exact ⟨i + 1, by omega, rfl, by go_num, by (rw [show ((i + 1 : Nat) : Int) = (i : Int) + 1 by omega, Int.add_assoc]), HZi, BKgb, HB⟩
            · have HF : Aside0 (¬ ((SlotsP s L ∧ ListsP L) ∧ PF L 0)) := ⟨fun hh => hv (by rw [← HVi.out]; have := (HPW.out.mp (HU.out.mp hh.2)).2.2.2.1 (i + 1) (by omega) hlti; rw [← Nat.add_assoc] at this; exact this)⟩
              have hv' : (vi != 7) = true := bne_iff_ne.mpr hv
              clear hv
              go_wp2
              go_ret
              exact RetB.mk rfl (iff_f HF.out) HB.out
          · have l1 : ¬ (i : Int) < n - 1 := by omega
            have HU2 : Aside0 (PF L 0 ↔ PF L (p + m)) := ⟨HU.out.trans (HPW.out.trans ⟨fun q => q.2.2.2.2, fun q => ⟨G2.out, by rw [HO.out]; exact G3.out, by rw [HZ.out]; exact G4.out, fun j h1 h2 => HI.out j h1 (by omega), q⟩⟩)⟩
            have him : i + 1 = m := by omega
            have lp : (p : Int) + (i : Int) ≤ 35184372088832 := by have := G2.out; omega
            clear nm l1
            have HIM := Aside0.mk him
            have l1 : ¬ (i : Int) < n - 1 := by have := HME.out; have := HIM.out; omega
            clear him
            go_wp2
            go_roundg ((L 0).length + 1 - (p + m))
            case measure => have := HIM.out; have := G2.out; omega
            case rel => exact ⟨p + m, G2.out, rfl, by (rw [← HIM.out]; first | done | rfl | (congr 1; omega)), HU2, BKgb, HB⟩
      · have HF : Aside0 ((SlotsP s L ∧ ListsP L) ∧ PF L 0) := ⟨⟨HS.out, HU.out.mpr (.done (by omega))⟩⟩
        have fgbs0 : wr.cell? ⟨gb, 0, none⟩ = some (.int .i64 _) := (blk_cell BKgb.out 0).trans rfl; have fgb1 : wr.cell? ⟨gb, 1, none⟩ = some (.slice (A 0) (L 0).length (c 0)) := (blk_cell BKgb.out 1).trans rfl; have fgb2 : wr.cell? ⟨gb, 2, none⟩ = some (.slice (A 1) (L 1).length (c 1)) := (blk_cell BKgb.out 2).trans rfl; have fgb3 : wr.cell? ⟨gb, 3, none⟩ = some (.slice (A 2) (L 2).length (c 2)) := (blk_cell BKgb.out 3).trans rfl; have fgb4 : wr.cell? ⟨gb, 4, none⟩ = some (.slice (A 3) (L 3).length (c 3)) := (blk_cell BKgb.out 4).trans rfl; have fgb5 : wr.cell? ⟨gb, 5, none⟩ = some (.slice (A 4) (L 4).length (c 4)) := (blk_cell BKgb.out 5).trans rfl; have fgb6 : wr.cell? ⟨gb, 6, none⟩ = some (.slice (A 5) (L 5).length (c 5)) := (blk_cell BKgb.out 6).trans rfl; have fgb7 : wr.cell? ⟨gb, 7, none⟩ = some (.slice (A 6) (L 6).length (c 6)) := (blk_cell BKgb.out 7).trans rfl; have fgb8 : wr.cell? ⟨gb, 8, none⟩ = some (.slice (A 7) (L 7).length (c 7)) := (blk_cell BKgb.out 8).trans rfl; have fgbz0 := blk_frozen BKgb.out 0; have fgbz1 := blk_frozen BKgb.out 1; have fgbz2 := blk_frozen BKgb.out 2; have fgbz3 := blk_frozen BKgb.out 3; have fgbz4 := blk_frozen BKgb.out 4; have fgbz5 := blk_frozen BKgb.out 5; have fgbz6 := blk_frozen BKgb.out 6; have fgbz7 := blk_frozen BKgb.out 7; have fgbz8 := blk_frozen BKgb.out 8
        go_wp2
        go_ret
        exact RetB.mk rfl (iff_t HF.out) HB.out
end Go.Proofs.Ytekneicikmaplaa.Bk
namespace Go.Proofs.Ytekneicikmaplaa.Bk
open Go.RowKit
theorem getD_over (l : List Int) (u : Nat) (h : ¬ u < l.length) : l.getD u 0 = 0 := by simp [List.getD, List.getElem?_eq_none (by omega : l.length ≤ u)]
theorem NzN_zero (O : List Int) (f n : Nat) : NzN O f n = 0 ↔ ∀ u, u < n → O.getD (f + u) 0 = 0 := by
  induction n with
  | zero => simp [NzN]
  | succ n ih =>
    unfold NzN
    by_cases h : O.getD (f + n) 0 ≠ 0
    · rw [if_pos h]
      exact ⟨fun q => by omega, fun q => absurd (q n (by omega)) h⟩
    · rw [if_neg h, Nat.add_zero, ih]
      have h' : O.getD (f + n) 0 = 0 := by simpa using h
      exact ⟨fun q u hu => if e : u < n then q u e else (show n = u by omega) ▸ h', fun q u hu => q u (by omega)⟩
theorem NzN_one (O : List Int) (f n : Nat) (h0 : O.getD f 0 ≠ 0) : NzN O f (n + 1) = 1 ↔ ∀ u, 1 ≤ u → u < n + 1 → O.getD (f + u) 0 = 0 := by
  induction n with
  | zero =>
    have : NzN O f 1 = 1 := by unfold NzN; rw [if_pos (by simpa using h0)]; rfl
    exact ⟨fun _ u h1 h2 => by omega, fun _ => this⟩
  | succ n ih =>
    have hpos : ∀ m, 1 ≤ NzN O f (m + 1) := by
      intro m
      induction m with
      | zero => have : NzN O f 1 = 1 := by unfold NzN; rw [if_pos (by simpa using h0)]; rfl
                show 1 ≤ NzN O f 1
                omega
      | succ m ih => rw [show NzN O f (m + 1 + 1) = NzN O f (m + 1) + if O.getD (f + (m + 1)) 0 ≠ 0 then 1 else 0 from rfl]; omega
    rw [show NzN O f (n + 1 + 1) = NzN O f (n + 1) + if O.getD (f + (n + 1)) 0 ≠ 0 then 1 else 0 from rfl]
    by_cases h : O.getD (f + (n + 1)) 0 ≠ 0
    · rw [if_pos h]
      have := hpos n
      exact ⟨fun q => by omega, fun q => absurd (q (n + 1) (by omega) (by omega)) h⟩
    · rw [if_neg h, Nat.add_zero, ih]
      have h' : O.getD (f + (n + 1)) 0 = 0 := by simpa using h
      exact ⟨fun q u h1 hu => if e : u < n + 1 then q u h1 e else (show n + 1 = u by omega) ▸ h', fun q u h1 hu => q u h1 (by omega)⟩
theorem own_nn {s : Int} {L : Nat → List Int} (h : SlotsP s L) (u : Nat) : 0 ≤ (L 5).getD u 0 := by
  by_cases hu : u < (L 5).length
  · have := (h.2.2 u hu).1; omega
  · rw [getD_over _ _ hu]; omega
theorem free_iff {s : Int} {L : Nat → List Int} (h : SlotsP s L) (p : Nat) : FreeP (L 5) p 0 ↔ NzN (L 5) (p * 8) 8 = 0 := by
  rw [NzN_zero]
  exact ⟨fun q u hu => by have := q u (by omega) hu; have := own_nn h (p * 8 + u); omega, fun q u _ hu => by rw [q u hu]; omega⟩
theorem free1_iff {s : Int} {L : Nat → List Int} (h : SlotsP s L) (p : Nat) : FreeP (L 5) p 1 ↔ ∀ u, 1 ≤ u → u < 8 → (L 5).getD (p * 8 + u) 0 = 0 :=
  ⟨fun q u h1 hu => by have := q u h1 hu; have := own_nn h (p * 8 + u); omega, fun q u h1 hu => by rw [q u h1 hu]; omega⟩
theorem cnt_pos {l : List Int} {x : Int} (h : 0 < cnt l x) : ∃ i, i < l.length ∧ l.getD i 0 = x := by
  unfold cnt at h
  rw [List.count_pos_iff] at h
  obtain ⟨i, hi, he⟩ := List.getElem_of_mem h
  exact ⟨i, hi, by simp [List.getD, List.getElem?_eq_getElem hi, he]⟩
theorem sizeN_dvd (k : Nat) : ∃ m, 8 = m * sizeN k := by
  unfold sizeN
  split
  · exact ⟨8, rfl⟩
  · exact ⟨4, rfl⟩
  · exact ⟨2, rfl⟩
  · exact ⟨1, rfl⟩
theorem mod_page (k p u : Nat) : (p * 8 + u) % sizeN k = u % sizeN k := by
  obtain ⟨m, hm⟩ := sizeN_dvd k
  rw [show p * 8 = sizeN k * (p * m) by rw [hm, ← Nat.mul_assoc, Nat.mul_comm], Nat.mul_add_mod]
theorem rooms_iff {s : Int} {L : Nat → List Int} (hS : SlotsP s L) (hL : ListsP L) (p k : Nat) (hk : k < 4) : RoomsP (L 5) (L (k + 1)) (sizeN k) p ↔ KindP (L 5) (L (k + 1)) (sizeN k) p := by
  have hn : ∀ u, ¬ u % sizeN k = 0 → cnt (L (k + 1)) ((p : Int) * 8 + (u : Int)) = 0 := by
    intro u hu
    by_cases h0 : 0 < cnt (L (k + 1)) ((p : Int) * 8 + (u : Int))
    · obtain ⟨i, hi, he⟩ := cnt_pos h0
      have h4 := ((hL k hk).2 i hi).2.2.2
      rw [he] at h4
      have h5 : ((p : Int) * 8 + (u : Int)) % (sizeN k : Int) = (((p * 8 + u) % sizeN k : Nat) : Int) := by
        rw [show (p : Int) * 8 + (u : Int) = ((p * 8 + u : Nat) : Int) by omega]; rfl
      rw [h5, mod_page] at h4
      omega
    · omega
  have hu : ∀ u, RoomU (L 5) (L (k + 1)) (sizeN k) p u ↔ KindU (L 5) (L (k + 1)) (sizeN k) (p * 8 + u) := by
    intro u
    unfold RoomU KindU
    rw [mod_page, show ((p * 8 + u : Nat) : Int) = (p : Int) * 8 + (u : Int) by omega]
    have h0 := own_nn hS (p * 8 + u)
    by_cases hz : u % sizeN k = 0
    · rw [if_neg (by omega)]
      generalize (L 5).getD (p * 8 + u) 0 = o at *
      generalize cnt (L (k + 1)) ((p : Int) * 8 + (u : Int)) = n at *
      omega
    · rw [if_pos (by omega), hn u hz]
      generalize (L 5).getD (p * 8 + u) 0 = o at *
      omega
  unfold RoomsP KindP
  constructor
  · rintro ⟨h1, u, hu8, _, ho⟩
    refine ⟨fun u h => (hu u).mp (h1 u h), ?_⟩
    by_cases e : NzN (L 5) (p * 8) 8 = 0
    · have := (NzN_zero _ _ _).mp e u hu8; omega
    · omega
  · rintro ⟨h1, h2⟩
    have h1' : ∀ u, u < 8 → RoomU (L 5) (L (k + 1)) (sizeN k) p u := fun u h => (hu u).mpr (h1 u h)
    refine ⟨h1', ?_⟩
    by_cases e : ∃ u, u < 8 ∧ u % sizeN k = 0 ∧ (L 5).getD (p * 8 + u) 0 > 0
    · exact e
    · have : NzN (L 5) (p * 8) 8 = 0 := (NzN_zero _ _ _).mpr fun u h8 => by
        have h0 := own_nn hS (p * 8 + u)
        by_cases hz : u % sizeN k = 0
        · by_cases ho : (L 5).getD (p * 8 + u) 0 > 0
          · exact absurd ⟨u, h8, hz, ho⟩ e
          · omega
        · have h3 := h1' u h8
          unfold RoomU at h3
          rw [if_pos (by omega)] at h3
          by_cases ho : (L 5).getD (p * 8 + u) 0 > 0
          · exact absurd (Or.inl ho) h3
          · omega
      omega
/-- No wide room that begins ahead of p goes beyond p. -/
def InvP (L : Nat → List Int) (p : Nat) : Prop := ∀ q : Nat, q < p → (L 0).getD q 0 > 8 → (q : Int) + ((L 0).getD q 0 - 8) ≤ (p : Int)
theorem page_0 {L : Nat → List Int} {p : Nat} (h : (L 0).getD p 0 = 0) : PageP L p ↔ FreeP (L 5) p 0 := by unfold PageP; rw [if_pos h]
theorem page_k {L : Nat → List Int} {p k : Nat} (hk : k < 4) (h : (L 0).getD p 0 = (k : Int) + 1) : PageP L p ↔ RoomsP (L 5) (L (k + 1)) (sizeN k) p := by
  unfold PageP
  rw [h, if_neg (by omega), if_pos (by omega), show ((k : Int) + 1 - 1).toNat = k by omega]
theorem page_7 {L : Nat → List Int} {p : Nat} (h : (L 0).getD p 0 = 7) : PageP L p ↔ RestP (L 0) (L 5) p := by
  unfold PageP
  rw [h, if_neg (by omega), if_neg (by omega), if_pos rfl]
theorem page_w {L : Nat → List Int} {p : Nat} (h0 : ¬ (L 0).getD p 0 = 0) (h4 : ¬ (1 ≤ (L 0).getD p 0 ∧ (L 0).getD p 0 ≤ 4)) (h7 : ¬ (L 0).getD p 0 = 7) : PageP L p ↔ WideP (L 0) (L 5) p := by
  unfold PageP
  rw [if_neg h0, if_neg h4, if_neg h7]
theorem wrap_small {q v : Int} (h0 : 0 ≤ q) (h1 : q ≤ 100) (h2 : 0 ≤ v) (h3 : v ≤ 100) : wrap64 (wrap64 (q + v) - 8) = q + v - 8 := by unfold wrap64; omega
theorem pf_of {s : Int} {L : Nat → List Int} (hS : SlotsP s L) (hL : ListsP L) (h : ∀ p, p < (L 0).length → PageP L p) : ∀ d p, (L 0).length - p = d → p ≤ (L 0).length → InvP L p → PF L p := by
  have h6 := hS.1.2.2.2.2.2.1
  intro d
  induction d using Nat.strongRecOn with
  | _ d ih =>
    intro p hd hp hI
    by_cases hlt : p < (L 0).length
    · have hP := h p hlt
      by_cases h0 : (L 0).getD p 0 = 0
      · refine .empty hlt h0 ((free_iff hS p).mp ((page_0 h0).mp hP)) (ih ((L 0).length - (p + 1)) (by omega) (p + 1) rfl (by omega) fun q hq hv => ?_)
        by_cases e : q < p
        · have := hI q e hv; omega
        · obtain rfl : q = p := by omega
          omega
      · by_cases h4 : 1 ≤ (L 0).getD p 0 ∧ (L 0).getD p 0 ≤ 4
        · obtain ⟨k, hk⟩ : ∃ k : Nat, (L 0).getD p 0 = (k : Int) + 1 := ⟨((L 0).getD p 0 - 1).toNat, by omega⟩
          have hk4 : k < 4 := by omega
          refine .kind k hlt hk4 hk ((rooms_iff hS hL p k hk4).mp ((page_k hk4 hk).mp hP)) (ih ((L 0).length - (p + 1)) (by omega) (p + 1) rfl (by omega) fun q hq hv => ?_)
          by_cases e : q < p
          · have := hI q e hv; omega
          · obtain rfl : q = p := by omega
            omega
        · by_cases h7 : (L 0).getD p 0 = 7
          · obtain ⟨q, hQ, hv, hw, _⟩ := (page_7 h7).mp hP
            obtain ⟨hqp, _, _⟩ := hQ
            by_cases e : q < p
            · have hq := h q (by omega)
              obtain ⟨a, b, _⟩ := (page_w (by omega) (by omega) (by omega)).mp hq
              rw [wrap_small (by omega) (by omega) (by omega) (by omega)] at hw
              have := hI q e hv
              omega
            · obtain rfl : q = p := by omega
              omega
          · obtain ⟨a, b, hlen, ho, hF, hr⟩ := (page_w h0 h4 h7).mp hP
            obtain ⟨m, hm⟩ : ∃ m : Nat, (L 0).getD p 0 = (m : Int) + 8 := ⟨((L 0).getD p 0 - 8).toNat, by omega⟩
            rw [hm] at a b hlen hr
            have hr' : ∀ i, 1 ≤ i → i < m → (L 0).getD (p + i) 0 = 7 := fun i h1 h2 => hr i h1 (by omega)
            have hone : NzN (L 5) (p * 8) (m * 8) = 1 := by
              obtain ⟨m', hm'⟩ : ∃ m', m * 8 = m' + 1 := ⟨m * 8 - 1, by omega⟩
              rw [hm', NzN_one _ _ _ ho]
              intro u h1 h2
              have hf1 := (free1_iff hS p).mp hF
              by_cases e8 : u < 8
              · exact hf1 u h1 e8
              · have h7' := hr' (u / 8) (by omega) (by omega)
                obtain ⟨_, _, _, _, hfr⟩ := (page_7 h7').mp (h (p + u / 8) (by omega))
                have hz := (NzN_zero _ _ _).mp ((free_iff hS (p + u / 8)).mp hfr) (u % 8) (by omega)
                rw [show (p + u / 8) * 8 + u % 8 = p * 8 + u by omega] at hz
                exact hz
            refine .wide m hlt (by omega) hm (by omega) ho hone hr' (ih ((L 0).length - (p + m)) (by omega) (p + m) rfl (by omega) fun q hq hv => ?_)
            by_cases e : q < p
            · have := hI q e hv; omega
            · by_cases e2 : q = p
              · subst e2; omega
              · have := hr' (q - p) (by omega) (by omega)
                rw [show p + (q - p) = q by omega] at this
                omega
    · exact .done (by omega)
theorem pages_of {s : Int} {L : Nat → List Int} (hS : SlotsP s L) (hL : ListsP L) {p : Nat} (h : PF L p) : ∀ r, p ≤ r → r < (L 0).length → PageP L r := by
  have h6 := hS.1.2.2.2.2.2.1
  induction h with
  | done h => intro r h1 h2; omega
  | @empty p hp hv hz _ ih =>
    intro r h1 h2
    by_cases e : r = p
    · subst e; exact (page_0 hv).mpr ((free_iff hS _).mpr hz)
    · exact ih r (by omega) h2
  | @kind p k hp hk hv hK _ ih =>
    intro r h1 h2
    by_cases e : r = p
    · subst e; exact (page_k hk hv).mpr ((rooms_iff hS hL _ k hk).mpr hK)
    · exact ih r (by omega) h2
  | @wide p n hp hn hv hl h0 h1 hr _ ih =>
    intro r hr1 hr2
    obtain ⟨m', hm'⟩ : ∃ m', n * 8 = m' + 1 := ⟨n * 8 - 1, by omega⟩
    rw [hm', NzN_one _ _ _ h0] at h1
    by_cases e : r = p
    · subst e
      refine (page_w (by omega) (by omega) (by omega)).mpr ⟨by omega, by omega, by omega, h0, (free1_iff hS _).mpr fun u a b => h1 u a (by omega), fun i a b => hr i a (by omega)⟩
    · by_cases e2 : r < p + n
      · have h7 := hr (r - p) (by omega) (by omega)
        rw [show p + (r - p) = r by omega] at h7
        refine (page_7 h7).mpr ⟨p, ⟨by omega, fun j a b => ?_, by omega⟩, by omega, ?_, (free_iff hS r).mpr ((NzN_zero _ _ _).mpr fun u hu => ?_)⟩
        · have := hr (j - p) (by omega) (by omega)
          rw [show p + (j - p) = j by omega] at this
          exact this
        · rw [wrap_small (by omega) (by omega) (by omega) (by omega)]; omega
        · have := h1 ((r - p) * 8 + u) (by omega) (by omega)
          rw [show p * 8 + ((r - p) * 8 + u) = r * 8 + u by omega] at this
          exact this
      · exact ih r (by omega) hr2
theorem book_iff (s : Int) (L : Nat → List Int) : BookP s L ↔ ((SlotsP s L ∧ ListsP L) ∧ PF L 0) := by
  constructor
  · rintro ⟨hS, hL, hP⟩
    exact ⟨⟨hS, hL⟩, pf_of hS hL hP _ 0 rfl (by omega) fun q hq => by omega⟩
  · rintro ⟨⟨hS, hL⟩, hF⟩
    exact ⟨hS, hL, fun p hp => pages_of hS hL hF p (by omega) hp⟩
end Go.Proofs.Ytekneicikmaplaa.Bk
namespace Go.Proofs.Ytekneicikmaplaa.Bk
open Go.RowKit Go.Proofs.YtekneicikmaplaaW.PrintWords Go.Proofs.YtekneicikmaplaaW.PrintLast Go.Proofs.YtekneicikmaplaaW.PrintMore
def RoomV (L : Nat → List Int) (x : Int) : Int :=
  if x < 0 then 0 else if x ≥ ((L 5).length : Int) then 0 else if (L 5).getD x.toNat 0 = 0 then 0
  else if 1 ≤ (L 0).getD (x / 8).toNat 0 ∧ (L 0).getD (x / 8).toNat 0 ≤ 4 then (sizeN ((L 0).getD (x / 8).toNat 0 - 1).toNat : Int) else ((L 0).getD (x / 8).toNat 0 - 8) * 8
theorem pages_bd {s : Int} {L : Nat → List Int} (h : BookP s L) (p : Nat) (hp : p < (L 0).length) : 0 ≤ (L 0).getD p 0 ∧ (L 0).getD p 0 ≤ 12 := by
  have hP := h.2.2 p hp
  by_cases h0 : (L 0).getD p 0 = 0
  · omega
  by_cases h4 : 1 ≤ (L 0).getD p 0 ∧ (L 0).getD p 0 ≤ 4
  · omega
  by_cases h7 : (L 0).getD p 0 = 7
  · omega
  obtain ⟨a, b, _⟩ := (page_w h0 h4 h7).mp hP
  omega
set_option maxHeartbeats 2000000 in
set_option maxRecDepth 100000 in
theorem l3Room_calls (s : Int) (A : Nat → Option Addr) (c : Nat → Nat) (L : Nat → List Int) (x : Int) (w : World) (h : BkC w A c L) (hl : ∀ i, (L i).length ≤ 35184372088832) (h05 : (L 5).length = (L 0).length * 8) (hv : ∀ p, p < (L 0).length → 0 ≤ (L 0).getD p 0 ∧ (L 0).getD p 0 ≤ 12) :
    Calls Try.prog 54 #[.agg (bkCells s A c L), .int .i64 x] w fun e w' => e = .returned (.int .i64 (RoomV L x)) ∧ Below w.heap.size w w' := by
  have HR := Aside0.mk h
  have HPB := Aside0.mk hv
  have hl5 : ((L 5).length : Int) ≤ 35184372088832 := by have := hl 5; omega
  have H05 := Aside0.mk h05
  clear h hl hv h05
  have HB := Aside0.mk (Below.refl w.heap.size w)
  by_cases h1 : x < 0
  · have HF : Aside0 (RoomV L x = 0) := ⟨if_pos h1⟩
    go_enter Try.func54, Try.ntmps54
    go_wp2_with (first | ((with_reducible refine gate_dst (N := 2) rfl ?_); refine box_event rfl (N := 2) rfl (cs := bkCells s A c L) (t := 27) (by first | (go_simp; done) | (go_simp; rfl)) ?_; intro gb hggb w1 hbox hb; have n0_ := Aside0.mk (below_step HB.out hb); have BKgb := Aside0.mk hbox; have HGgb := Aside0.mk (show w.heap.size ≤ gb by rw [hggb]; exact HB.out.size); clear HB; have HB := n0_; have fgbs0 : w1.cell? ⟨gb, 0, none⟩ = some (.int .i64 _) := (blk_cell BKgb.out 0).trans rfl; have fgb1 : w1.cell? ⟨gb, 1, none⟩ = some (.slice (A 0) (L 0).length (c 0)) := (blk_cell BKgb.out 1).trans rfl; have fgb2 : w1.cell? ⟨gb, 2, none⟩ = some (.slice (A 1) (L 1).length (c 1)) := (blk_cell BKgb.out 2).trans rfl; have fgb3 : w1.cell? ⟨gb, 3, none⟩ = some (.slice (A 2) (L 2).length (c 2)) := (blk_cell BKgb.out 3).trans rfl; have fgb4 : w1.cell? ⟨gb, 4, none⟩ = some (.slice (A 3) (L 3).length (c 3)) := (blk_cell BKgb.out 4).trans rfl; have fgb5 : w1.cell? ⟨gb, 5, none⟩ = some (.slice (A 4) (L 4).length (c 4)) := (blk_cell BKgb.out 5).trans rfl; have fgb6 : w1.cell? ⟨gb, 6, none⟩ = some (.slice (A 5) (L 5).length (c 5)) := (blk_cell BKgb.out 6).trans rfl; have fgb7 : w1.cell? ⟨gb, 7, none⟩ = some (.slice (A 6) (L 6).length (c 6)) := (blk_cell BKgb.out 7).trans rfl; have fgb8 : w1.cell? ⟨gb, 8, none⟩ = some (.slice (A 7) (L 7).length (c 7)) := (blk_cell BKgb.out 8).trans rfl; have fgbz0 := blk_frozen BKgb.out 0; have fgbz1 := blk_frozen BKgb.out 1; have fgbz2 := blk_frozen BKgb.out 2; have fgbz3 := blk_frozen BKgb.out 3; have fgbz4 := blk_frozen BKgb.out 4; have fgbz5 := blk_frozen BKgb.out 5; have fgbz6 := blk_frozen BKgb.out 6; have fgbz7 := blk_frozen BKgb.out 7; have fgbz8 := blk_frozen BKgb.out 8; clear n0_ hbox hb hggb))
    go_ret
    exact ⟨by rw [HF.out]; rfl, HB.out⟩
  by_cases h2 : x ≥ ((L 5).length : Int)
  · have HF : Aside0 (RoomV L x = 0) := ⟨by unfold RoomV; rw [if_neg h1, if_pos h2]⟩
    go_enter Try.func54, Try.ntmps54
    go_wp2_with (first | ((with_reducible refine gate_dst (N := 2) rfl ?_); refine box_event rfl (N := 2) rfl (cs := bkCells s A c L) (t := 27) (by first | (go_simp; done) | (go_simp; rfl)) ?_; intro gb hggb w1 hbox hb; have n0_ := Aside0.mk (below_step HB.out hb); have BKgb := Aside0.mk hbox; have HGgb := Aside0.mk (show w.heap.size ≤ gb by rw [hggb]; exact HB.out.size); clear HB; have HB := n0_; have fgbs0 : w1.cell? ⟨gb, 0, none⟩ = some (.int .i64 _) := (blk_cell BKgb.out 0).trans rfl; have fgb1 : w1.cell? ⟨gb, 1, none⟩ = some (.slice (A 0) (L 0).length (c 0)) := (blk_cell BKgb.out 1).trans rfl; have fgb2 : w1.cell? ⟨gb, 2, none⟩ = some (.slice (A 1) (L 1).length (c 1)) := (blk_cell BKgb.out 2).trans rfl; have fgb3 : w1.cell? ⟨gb, 3, none⟩ = some (.slice (A 2) (L 2).length (c 2)) := (blk_cell BKgb.out 3).trans rfl; have fgb4 : w1.cell? ⟨gb, 4, none⟩ = some (.slice (A 3) (L 3).length (c 3)) := (blk_cell BKgb.out 4).trans rfl; have fgb5 : w1.cell? ⟨gb, 5, none⟩ = some (.slice (A 4) (L 4).length (c 4)) := (blk_cell BKgb.out 5).trans rfl; have fgb6 : w1.cell? ⟨gb, 6, none⟩ = some (.slice (A 5) (L 5).length (c 5)) := (blk_cell BKgb.out 6).trans rfl; have fgb7 : w1.cell? ⟨gb, 7, none⟩ = some (.slice (A 6) (L 6).length (c 6)) := (blk_cell BKgb.out 7).trans rfl; have fgb8 : w1.cell? ⟨gb, 8, none⟩ = some (.slice (A 7) (L 7).length (c 7)) := (blk_cell BKgb.out 8).trans rfl; have fgbz0 := blk_frozen BKgb.out 0; have fgbz1 := blk_frozen BKgb.out 1; have fgbz2 := blk_frozen BKgb.out 2; have fgbz3 := blk_frozen BKgb.out 3; have fgbz4 := blk_frozen BKgb.out 4; have fgbz5 := blk_frozen BKgb.out 5; have fgbz6 := blk_frozen BKgb.out 6; have fgbz7 := blk_frozen BKgb.out 7; have fgbz8 := blk_frozen BKgb.out 8; clear n0_ hbox hb hggb))
    go_ret
    exact ⟨by rw [HF.out]; rfl, HB.out⟩
  have x0 : 0 ≤ x := by omega
  have x1 : x < ((L 5).length : Int) := by omega
  have xM : x ≤ 35184372088832 := by omega
  obtain ⟨ad5, o, ea5, hx5, HO⟩ := at_v (HR.out 5 (by omega)) x.toNat (by omega)
  have hq := show RoomV L x = if o = 0 then 0 else if 1 ≤ (L 0).getD (x / 8).toNat 0 ∧ (L 0).getD (x / 8).toNat 0 ≤ 4 then (sizeN ((L 0).getD (x / 8).toNat 0 - 1).toNat : Int) else ((L 0).getD (x / 8).toNat 0 - 8) * 8 by unfold RoomV; rw [if_neg h1, if_neg h2, HO.out]
  have HQ := Aside0.mk hq
  clear hq h1 h2
  by_cases h3 : o = 0
  · have HF : Aside0 (RoomV L x = 0) := ⟨by rw [HQ.out, if_pos h3]⟩
    have h3b : (o == 0) = true := by rw [h3]; rfl
    clear h3
    go_enter Try.func54, Try.ntmps54
    go_wp2_with (first | ((with_reducible refine gate_dst (N := 2) rfl ?_); refine box_event rfl (N := 2) rfl (cs := bkCells s A c L) (t := 27) (by first | (go_simp; done) | (go_simp; rfl)) ?_; intro gb hggb w1 hbox hb; have n0_ := Aside0.mk (below_step HB.out hb); have BKgb := Aside0.mk hbox; have HGgb := Aside0.mk (show w.heap.size ≤ gb by rw [hggb]; exact HB.out.size); clear HB; have HB := n0_; have hx51 := (hb.cell (World.block_lt_of_cell? _ _ hx5)).trans hx5; have fgbs0 : w1.cell? ⟨gb, 0, none⟩ = some (.int .i64 _) := (blk_cell BKgb.out 0).trans rfl; have fgb1 : w1.cell? ⟨gb, 1, none⟩ = some (.slice (A 0) (L 0).length (c 0)) := (blk_cell BKgb.out 1).trans rfl; have fgb2 : w1.cell? ⟨gb, 2, none⟩ = some (.slice (A 1) (L 1).length (c 1)) := (blk_cell BKgb.out 2).trans rfl; have fgb3 : w1.cell? ⟨gb, 3, none⟩ = some (.slice (A 2) (L 2).length (c 2)) := (blk_cell BKgb.out 3).trans rfl; have fgb4 : w1.cell? ⟨gb, 4, none⟩ = some (.slice (A 3) (L 3).length (c 3)) := (blk_cell BKgb.out 4).trans rfl; have fgb5 : w1.cell? ⟨gb, 5, none⟩ = some (.slice (A 4) (L 4).length (c 4)) := (blk_cell BKgb.out 5).trans rfl; have fgb6 : w1.cell? ⟨gb, 6, none⟩ = some (.slice (A 5) (L 5).length (c 5)) := (blk_cell BKgb.out 6).trans rfl; have fgb7 : w1.cell? ⟨gb, 7, none⟩ = some (.slice (A 6) (L 6).length (c 6)) := (blk_cell BKgb.out 7).trans rfl; have fgb8 : w1.cell? ⟨gb, 8, none⟩ = some (.slice (A 7) (L 7).length (c 7)) := (blk_cell BKgb.out 8).trans rfl; have fgbz0 := blk_frozen BKgb.out 0; have fgbz1 := blk_frozen BKgb.out 1; have fgbz2 := blk_frozen BKgb.out 2; have fgbz3 := blk_frozen BKgb.out 3; have fgbz4 := blk_frozen BKgb.out 4; have fgbz5 := blk_frozen BKgb.out 5; have fgbz6 := blk_frozen BKgb.out 6; have fgbz7 := blk_frozen BKgb.out 7; have fgbz8 := blk_frozen BKgb.out 8; rw [ea5] at fgb6; clear n0_ hbox hb hggb))
    go_ret
    exact ⟨by rw [HF.out]; rfl, HB.out⟩
  have HQ3 := Aside0.mk (HQ.out.trans (if_neg h3))
  have h3b : (o == 0) = false := beq_eq_false_iff_ne.mpr h3
  clear h3 HQ
  have hdv : wrap64 (x.tdiv 8) = x / 8 := by rw [Int.tdiv_eq_ediv_of_nonneg x0]; unfold wrap64; omega
  have x8 : (0 : Int) ≤ x / 8 := by omega
  have x9 : x / 8 < ((L 0).length : Int) := by have := H05.out; omega
  obtain ⟨ad0, v, ea0, hx0, HV⟩ := at_v (HR.out 0 (by omega)) (x / 8).toNat (by omega)
  have hvb := HPB.out (x / 8).toNat (by omega)
  rw [HV.out] at HQ3 hvb
  obtain ⟨v0, v12⟩ := hvb
  by_cases h4 : 1 ≤ v ∧ v ≤ 4
  · have HF : Aside0 (RoomV L x = (sizeN (v - 1).toNat : Int)) := ⟨by rw [HQ3.out, if_pos h4]⟩
    obtain ⟨h41, h42⟩ := h4
    obtain ⟨k, hk⟩ : ∃ k : Nat, v - 1 = (k : Int) := ⟨(v - 1).toNat, by omega⟩
    have hk4 : k < 4 := by omega
    rw [show (v - 1).toNat = k by omega] at HF
    have HK : Aside0 (kindN v = v - 1) := ⟨by unfold kindN; rw [if_neg (by omega), if_neg (by omega)]⟩
    go_enter Try.func54, Try.ntmps54
    go_wp2_with (first | ((with_reducible refine gate_dst (N := 2) rfl ?_); refine box_event rfl (N := 2) rfl (cs := bkCells s A c L) (t := 27) (by first | (go_simp; done) | (go_simp; rfl)) ?_; intro gb hggb w1 hbox hb; have n0_ := Aside0.mk (below_step HB.out hb); have BKgb := Aside0.mk hbox; have HGgb := Aside0.mk (show w.heap.size ≤ gb by rw [hggb]; exact HB.out.size); clear HB; have HB := n0_; have hx51 := (hb.cell (World.block_lt_of_cell? _ _ hx5)).trans hx5; have hx01 := (hb.cell (World.block_lt_of_cell? _ _ hx0)).trans hx0; have fgbs0 : w1.cell? ⟨gb, 0, none⟩ = some (.int .i64 _) := (blk_cell BKgb.out 0).trans rfl; have fgb1 : w1.cell? ⟨gb, 1, none⟩ = some (.slice (A 0) (L 0).length (c 0)) := (blk_cell BKgb.out 1).trans rfl; have fgb2 : w1.cell? ⟨gb, 2, none⟩ = some (.slice (A 1) (L 1).length (c 1)) := (blk_cell BKgb.out 2).trans rfl; have fgb3 : w1.cell? ⟨gb, 3, none⟩ = some (.slice (A 2) (L 2).length (c 2)) := (blk_cell BKgb.out 3).trans rfl; have fgb4 : w1.cell? ⟨gb, 4, none⟩ = some (.slice (A 3) (L 3).length (c 3)) := (blk_cell BKgb.out 4).trans rfl; have fgb5 : w1.cell? ⟨gb, 5, none⟩ = some (.slice (A 4) (L 4).length (c 4)) := (blk_cell BKgb.out 5).trans rfl; have fgb6 : w1.cell? ⟨gb, 6, none⟩ = some (.slice (A 5) (L 5).length (c 5)) := (blk_cell BKgb.out 6).trans rfl; have fgb7 : w1.cell? ⟨gb, 7, none⟩ = some (.slice (A 6) (L 6).length (c 6)) := (blk_cell BKgb.out 7).trans rfl; have fgb8 : w1.cell? ⟨gb, 8, none⟩ = some (.slice (A 7) (L 7).length (c 7)) := (blk_cell BKgb.out 8).trans rfl; have fgbz0 := blk_frozen BKgb.out 0; have fgbz1 := blk_frozen BKgb.out 1; have fgbz2 := blk_frozen BKgb.out 2; have fgbz3 := blk_frozen BKgb.out 3; have fgbz4 := blk_frozen BKgb.out 4; have fgbz5 := blk_frozen BKgb.out 5; have fgbz6 := blk_frozen BKgb.out 6; have fgbz7 := blk_frozen BKgb.out 7; have fgbz8 := blk_frozen BKgb.out 8; rw [ea5] at fgb6; rw [ea0] at fgb1; clear n0_ hbox hb hggb) | (go_at_call 66; refine (l3Kind_calls _ _).mono ?_; rintro e w' ⟨rfl, rfl⟩; rw [HK.out]))
    refine (l3Size_calls k hk4 _).mono ?_
    rintro e w3 ⟨rfl, hb⟩
    have HB3 := Aside0.mk (below_step HB.out hb)
    go_wp2
    go_ret
    exact ⟨by rw [HF.out]; rfl, HB3.out⟩
  · have HF : Aside0 (RoomV L x = (v - 8) * 8) := ⟨by rw [HQ3.out, if_neg h4]⟩
    have HK : Aside0 (kindN v = -1) := ⟨by unfold kindN; by_cases e : v < 1; exact if_pos e; rw [if_neg e, if_pos (by omega)]⟩
    clear h4
    go_enter Try.func54, Try.ntmps54
    go_wp2_with (first | ((with_reducible refine gate_dst (N := 2) rfl ?_); refine box_event rfl (N := 2) rfl (cs := bkCells s A c L) (t := 27) (by first | (go_simp; done) | (go_simp; rfl)) ?_; intro gb hggb w1 hbox hb; have n0_ := Aside0.mk (below_step HB.out hb); have BKgb := Aside0.mk hbox; have HGgb := Aside0.mk (show w.heap.size ≤ gb by rw [hggb]; exact HB.out.size); clear HB; have HB := n0_; have hx51 := (hb.cell (World.block_lt_of_cell? _ _ hx5)).trans hx5; have hx01 := (hb.cell (World.block_lt_of_cell? _ _ hx0)).trans hx0; have fgbs0 : w1.cell? ⟨gb, 0, none⟩ = some (.int .i64 _) := (blk_cell BKgb.out 0).trans rfl; have fgb1 : w1.cell? ⟨gb, 1, none⟩ = some (.slice (A 0) (L 0).length (c 0)) := (blk_cell BKgb.out 1).trans rfl; have fgb2 : w1.cell? ⟨gb, 2, none⟩ = some (.slice (A 1) (L 1).length (c 1)) := (blk_cell BKgb.out 2).trans rfl; have fgb3 : w1.cell? ⟨gb, 3, none⟩ = some (.slice (A 2) (L 2).length (c 2)) := (blk_cell BKgb.out 3).trans rfl; have fgb4 : w1.cell? ⟨gb, 4, none⟩ = some (.slice (A 3) (L 3).length (c 3)) := (blk_cell BKgb.out 4).trans rfl; have fgb5 : w1.cell? ⟨gb, 5, none⟩ = some (.slice (A 4) (L 4).length (c 4)) := (blk_cell BKgb.out 5).trans rfl; have fgb6 : w1.cell? ⟨gb, 6, none⟩ = some (.slice (A 5) (L 5).length (c 5)) := (blk_cell BKgb.out 6).trans rfl; have fgb7 : w1.cell? ⟨gb, 7, none⟩ = some (.slice (A 6) (L 6).length (c 6)) := (blk_cell BKgb.out 7).trans rfl; have fgb8 : w1.cell? ⟨gb, 8, none⟩ = some (.slice (A 7) (L 7).length (c 7)) := (blk_cell BKgb.out 8).trans rfl; have fgbz0 := blk_frozen BKgb.out 0; have fgbz1 := blk_frozen BKgb.out 1; have fgbz2 := blk_frozen BKgb.out 2; have fgbz3 := blk_frozen BKgb.out 3; have fgbz4 := blk_frozen BKgb.out 4; have fgbz5 := blk_frozen BKgb.out 5; have fgbz6 := blk_frozen BKgb.out 6; have fgbz7 := blk_frozen BKgb.out 7; have fgbz8 := blk_frozen BKgb.out 8; rw [ea5] at fgb6; rw [ea0] at fgb1; clear n0_ hbox hb hggb) | (go_at_call 66; refine (l3Kind_calls _ _).mono ?_; rintro e w' ⟨rfl, rfl⟩; rw [HK.out]))
    go_ret
    exact ⟨by rw [HF.out]; rfl, HB.out⟩
set_option maxHeartbeats 2000000 in
set_option maxRecDepth 100000 in
theorem room_calls (s : Int) (A : Nat → Option Addr) (c : Nat → Nat) (L : Nat → List Int) (x : Int) (w : World) (h : BkC w A c L) (hl : ∀ i, (L i).length ≤ 35184372088832) (h05 : (L 5).length = (L 0).length * 8) (hv : ∀ p, p < (L 0).length → 0 ≤ (L 0).getD p 0 ∧ (L 0).getD p 0 ≤ 12) :
    Calls Try.prog 55 #[.agg (bkCells s A c L), .int .i64 x] w fun e w' => e = .returned (.int .i64 (RoomV L x)) ∧ Below w.heap.size w w' := by
  have HR := Aside0.mk h
  have HPB := Aside0.mk hv
  have hl5 : ((L 5).length : Int) ≤ 35184372088832 := by have := hl 5; omega
  have H05 := Aside0.mk h05
  clear h hl hv h05
  have HB := Aside0.mk (Below.refl w.heap.size w)
  by_cases h1 : x < 0
  · have HF : Aside0 (RoomV L x = 0) := ⟨if_pos h1⟩
    have hwb : withinB x 0 (((L 5).length : Int) - 1) = false := within_f (by omega)
    go_enter Try.func55, Try.ntmps55
    go_wp2_with (first | ((with_reducible refine gate_dst (N := 2) rfl ?_); refine box_event rfl (N := 2) rfl (cs := bkCells s A c L) (t := 27) (by first | (go_simp; done) | (go_simp; rfl)) ?_; intro gb hggb w1 hbox hb; have n0_ := Aside0.mk (below_step HB.out hb); have BKgb := Aside0.mk hbox; have HGgb := Aside0.mk (show w.heap.size ≤ gb by rw [hggb]; exact HB.out.size); clear HB; have HB := n0_; have fgbs0 : w1.cell? ⟨gb, 0, none⟩ = some (.int .i64 _) := (blk_cell BKgb.out 0).trans rfl; have fgb1 : w1.cell? ⟨gb, 1, none⟩ = some (.slice (A 0) (L 0).length (c 0)) := (blk_cell BKgb.out 1).trans rfl; have fgb2 : w1.cell? ⟨gb, 2, none⟩ = some (.slice (A 1) (L 1).length (c 1)) := (blk_cell BKgb.out 2).trans rfl; have fgb3 : w1.cell? ⟨gb, 3, none⟩ = some (.slice (A 2) (L 2).length (c 2)) := (blk_cell BKgb.out 3).trans rfl; have fgb4 : w1.cell? ⟨gb, 4, none⟩ = some (.slice (A 3) (L 3).length (c 3)) := (blk_cell BKgb.out 4).trans rfl; have fgb5 : w1.cell? ⟨gb, 5, none⟩ = some (.slice (A 4) (L 4).length (c 4)) := (blk_cell BKgb.out 5).trans rfl; have fgb6 : w1.cell? ⟨gb, 6, none⟩ = some (.slice (A 5) (L 5).length (c 5)) := (blk_cell BKgb.out 6).trans rfl; have fgb7 : w1.cell? ⟨gb, 7, none⟩ = some (.slice (A 6) (L 6).length (c 6)) := (blk_cell BKgb.out 7).trans rfl; have fgb8 : w1.cell? ⟨gb, 8, none⟩ = some (.slice (A 7) (L 7).length (c 7)) := (blk_cell BKgb.out 8).trans rfl; have fgbz0 := blk_frozen BKgb.out 0; have fgbz1 := blk_frozen BKgb.out 1; have fgbz2 := blk_frozen BKgb.out 2; have fgbz3 := blk_frozen BKgb.out 3; have fgbz4 := blk_frozen BKgb.out 4; have fgbz5 := blk_frozen BKgb.out 5; have fgbz6 := blk_frozen BKgb.out 6; have fgbz7 := blk_frozen BKgb.out 7; have fgbz8 := blk_frozen BKgb.out 8; clear n0_ hbox hb hggb) | (go_at_call 53; refine (within_calls _ _ _ _).mono ?_; rintro e w' ⟨rfl, rfl⟩))
    go_ret
    exact ⟨by rw [HF.out]; rfl, HB.out⟩
  by_cases h2 : x ≥ ((L 5).length : Int)
  · have HF : Aside0 (RoomV L x = 0) := ⟨by unfold RoomV; rw [if_neg h1, if_pos h2]⟩
    have hwb : withinB x 0 (((L 5).length : Int) - 1) = false := within_f (by omega)
    go_enter Try.func55, Try.ntmps55
    go_wp2_with (first | ((with_reducible refine gate_dst (N := 2) rfl ?_); refine box_event rfl (N := 2) rfl (cs := bkCells s A c L) (t := 27) (by first | (go_simp; done) | (go_simp; rfl)) ?_; intro gb hggb w1 hbox hb; have n0_ := Aside0.mk (below_step HB.out hb); have BKgb := Aside0.mk hbox; have HGgb := Aside0.mk (show w.heap.size ≤ gb by rw [hggb]; exact HB.out.size); clear HB; have HB := n0_; have fgbs0 : w1.cell? ⟨gb, 0, none⟩ = some (.int .i64 _) := (blk_cell BKgb.out 0).trans rfl; have fgb1 : w1.cell? ⟨gb, 1, none⟩ = some (.slice (A 0) (L 0).length (c 0)) := (blk_cell BKgb.out 1).trans rfl; have fgb2 : w1.cell? ⟨gb, 2, none⟩ = some (.slice (A 1) (L 1).length (c 1)) := (blk_cell BKgb.out 2).trans rfl; have fgb3 : w1.cell? ⟨gb, 3, none⟩ = some (.slice (A 2) (L 2).length (c 2)) := (blk_cell BKgb.out 3).trans rfl; have fgb4 : w1.cell? ⟨gb, 4, none⟩ = some (.slice (A 3) (L 3).length (c 3)) := (blk_cell BKgb.out 4).trans rfl; have fgb5 : w1.cell? ⟨gb, 5, none⟩ = some (.slice (A 4) (L 4).length (c 4)) := (blk_cell BKgb.out 5).trans rfl; have fgb6 : w1.cell? ⟨gb, 6, none⟩ = some (.slice (A 5) (L 5).length (c 5)) := (blk_cell BKgb.out 6).trans rfl; have fgb7 : w1.cell? ⟨gb, 7, none⟩ = some (.slice (A 6) (L 6).length (c 6)) := (blk_cell BKgb.out 7).trans rfl; have fgb8 : w1.cell? ⟨gb, 8, none⟩ = some (.slice (A 7) (L 7).length (c 7)) := (blk_cell BKgb.out 8).trans rfl; have fgbz0 := blk_frozen BKgb.out 0; have fgbz1 := blk_frozen BKgb.out 1; have fgbz2 := blk_frozen BKgb.out 2; have fgbz3 := blk_frozen BKgb.out 3; have fgbz4 := blk_frozen BKgb.out 4; have fgbz5 := blk_frozen BKgb.out 5; have fgbz6 := blk_frozen BKgb.out 6; have fgbz7 := blk_frozen BKgb.out 7; have fgbz8 := blk_frozen BKgb.out 8; clear n0_ hbox hb hggb) | (go_at_call 53; refine (within_calls _ _ _ _).mono ?_; rintro e w' ⟨rfl, rfl⟩))
    go_ret
    exact ⟨by rw [HF.out]; rfl, HB.out⟩
  have x0 : 0 ≤ x := by omega
  have x1 : x < ((L 5).length : Int) := by omega
  have xM : x ≤ 35184372088832 := by omega
  have hwb : withinB x 0 (((L 5).length : Int) - 1) = true := within_t.mpr ⟨by omega, by omega⟩
  obtain ⟨ad5, o, ea5, hx5, HO⟩ := at_v (HR.out 5 (by omega)) x.toNat (by omega)
  have hq := show RoomV L x = if o = 0 then 0 else if 1 ≤ (L 0).getD (x / 8).toNat 0 ∧ (L 0).getD (x / 8).toNat 0 ≤ 4 then (sizeN ((L 0).getD (x / 8).toNat 0 - 1).toNat : Int) else ((L 0).getD (x / 8).toNat 0 - 8) * 8 by unfold RoomV; rw [if_neg h1, if_neg h2, HO.out]
  have HQ := Aside0.mk hq
  clear hq h1 h2
  by_cases h3 : o = 0
  · have HF : Aside0 (RoomV L x = 0) := ⟨by rw [HQ.out, if_pos h3]⟩
    have h3b : (o == 0) = true := by rw [h3]; rfl
    clear h3
    go_enter Try.func55, Try.ntmps55
    go_wp2_with (first | ((with_reducible refine gate_dst (N := 2) rfl ?_); refine box_event rfl (N := 2) rfl (cs := bkCells s A c L) (t := 27) (by first | (go_simp; done) | (go_simp; rfl)) ?_; intro gb hggb w1 hbox hb; have n0_ := Aside0.mk (below_step HB.out hb); have BKgb := Aside0.mk hbox; have HGgb := Aside0.mk (show w.heap.size ≤ gb by rw [hggb]; exact HB.out.size); clear HB; have HB := n0_; have hx51 := (hb.cell (World.block_lt_of_cell? _ _ hx5)).trans hx5; have fgbs0 : w1.cell? ⟨gb, 0, none⟩ = some (.int .i64 _) := (blk_cell BKgb.out 0).trans rfl; have fgb1 : w1.cell? ⟨gb, 1, none⟩ = some (.slice (A 0) (L 0).length (c 0)) := (blk_cell BKgb.out 1).trans rfl; have fgb2 : w1.cell? ⟨gb, 2, none⟩ = some (.slice (A 1) (L 1).length (c 1)) := (blk_cell BKgb.out 2).trans rfl; have fgb3 : w1.cell? ⟨gb, 3, none⟩ = some (.slice (A 2) (L 2).length (c 2)) := (blk_cell BKgb.out 3).trans rfl; have fgb4 : w1.cell? ⟨gb, 4, none⟩ = some (.slice (A 3) (L 3).length (c 3)) := (blk_cell BKgb.out 4).trans rfl; have fgb5 : w1.cell? ⟨gb, 5, none⟩ = some (.slice (A 4) (L 4).length (c 4)) := (blk_cell BKgb.out 5).trans rfl; have fgb6 : w1.cell? ⟨gb, 6, none⟩ = some (.slice (A 5) (L 5).length (c 5)) := (blk_cell BKgb.out 6).trans rfl; have fgb7 : w1.cell? ⟨gb, 7, none⟩ = some (.slice (A 6) (L 6).length (c 6)) := (blk_cell BKgb.out 7).trans rfl; have fgb8 : w1.cell? ⟨gb, 8, none⟩ = some (.slice (A 7) (L 7).length (c 7)) := (blk_cell BKgb.out 8).trans rfl; have fgbz0 := blk_frozen BKgb.out 0; have fgbz1 := blk_frozen BKgb.out 1; have fgbz2 := blk_frozen BKgb.out 2; have fgbz3 := blk_frozen BKgb.out 3; have fgbz4 := blk_frozen BKgb.out 4; have fgbz5 := blk_frozen BKgb.out 5; have fgbz6 := blk_frozen BKgb.out 6; have fgbz7 := blk_frozen BKgb.out 7; have fgbz8 := blk_frozen BKgb.out 8; rw [ea5] at fgb6; clear n0_ hbox hb hggb) | (go_at_call 53; refine (within_calls _ _ _ _).mono ?_; rintro e w' ⟨rfl, rfl⟩))
    go_ret
    exact ⟨by rw [HF.out]; rfl, HB.out⟩
  have HQ3 := Aside0.mk (HQ.out.trans (if_neg h3))
  have h3b : (o == 0) = false := beq_eq_false_iff_ne.mpr h3
  clear h3 HQ
  have hdv : wrap64 (x.tdiv 8) = x / 8 := by rw [Int.tdiv_eq_ediv_of_nonneg x0]; unfold wrap64; omega
  have x8 : (0 : Int) ≤ x / 8 := by omega
  have x9 : x / 8 < ((L 0).length : Int) := by have := H05.out; omega
  obtain ⟨ad0, v, ea0, hx0, HV⟩ := at_v (HR.out 0 (by omega)) (x / 8).toNat (by omega)
  have hvb := HPB.out (x / 8).toNat (by omega)
  rw [HV.out] at HQ3 hvb
  obtain ⟨v0, v12⟩ := hvb
  by_cases h4 : 1 ≤ v ∧ v ≤ 4
  · have HF : Aside0 (RoomV L x = (sizeN (v - 1).toNat : Int)) := ⟨by rw [HQ3.out, if_pos h4]⟩
    obtain ⟨h41, h42⟩ := h4
    obtain ⟨k, hk⟩ : ∃ k : Nat, v - 1 = (k : Int) := ⟨(v - 1).toNat, by omega⟩
    have hk4 : k < 4 := by omega
    rw [show (v - 1).toNat = k by omega] at HF
    have hkb : withinB v 1 4 = true := within_t.mpr ⟨h41, h42⟩
    go_enter Try.func55, Try.ntmps55
    go_wp2_with (first | ((with_reducible refine gate_dst (N := 2) rfl ?_); refine box_event rfl (N := 2) rfl (cs := bkCells s A c L) (t := 27) (by first | (go_simp; done) | (go_simp; rfl)) ?_; intro gb hggb w1 hbox hb; have n0_ := Aside0.mk (below_step HB.out hb); have BKgb := Aside0.mk hbox; have HGgb := Aside0.mk (show w.heap.size ≤ gb by rw [hggb]; exact HB.out.size); clear HB; have HB := n0_; have hx51 := (hb.cell (World.block_lt_of_cell? _ _ hx5)).trans hx5; have hx01 := (hb.cell (World.block_lt_of_cell? _ _ hx0)).trans hx0; have fgbs0 : w1.cell? ⟨gb, 0, none⟩ = some (.int .i64 _) := (blk_cell BKgb.out 0).trans rfl; have fgb1 : w1.cell? ⟨gb, 1, none⟩ = some (.slice (A 0) (L 0).length (c 0)) := (blk_cell BKgb.out 1).trans rfl; have fgb2 : w1.cell? ⟨gb, 2, none⟩ = some (.slice (A 1) (L 1).length (c 1)) := (blk_cell BKgb.out 2).trans rfl; have fgb3 : w1.cell? ⟨gb, 3, none⟩ = some (.slice (A 2) (L 2).length (c 2)) := (blk_cell BKgb.out 3).trans rfl; have fgb4 : w1.cell? ⟨gb, 4, none⟩ = some (.slice (A 3) (L 3).length (c 3)) := (blk_cell BKgb.out 4).trans rfl; have fgb5 : w1.cell? ⟨gb, 5, none⟩ = some (.slice (A 4) (L 4).length (c 4)) := (blk_cell BKgb.out 5).trans rfl; have fgb6 : w1.cell? ⟨gb, 6, none⟩ = some (.slice (A 5) (L 5).length (c 5)) := (blk_cell BKgb.out 6).trans rfl; have fgb7 : w1.cell? ⟨gb, 7, none⟩ = some (.slice (A 6) (L 6).length (c 6)) := (blk_cell BKgb.out 7).trans rfl; have fgb8 : w1.cell? ⟨gb, 8, none⟩ = some (.slice (A 7) (L 7).length (c 7)) := (blk_cell BKgb.out 8).trans rfl; have fgbz0 := blk_frozen BKgb.out 0; have fgbz1 := blk_frozen BKgb.out 1; have fgbz2 := blk_frozen BKgb.out 2; have fgbz3 := blk_frozen BKgb.out 3; have fgbz4 := blk_frozen BKgb.out 4; have fgbz5 := blk_frozen BKgb.out 5; have fgbz6 := blk_frozen BKgb.out 6; have fgbz7 := blk_frozen BKgb.out 7; have fgbz8 := blk_frozen BKgb.out 8; rw [ea5] at fgb6; rw [ea0] at fgb1; clear n0_ hbox hb hggb) | (go_at_call 53; refine (within_calls _ _ _ _).mono ?_; rintro e w' ⟨rfl, rfl⟩) | (go_at_call 51; refine (isKind_calls _ _).mono ?_; rintro e w' ⟨rfl, rfl⟩))
    refine (unitsOf_calls k hk4 _).mono ?_
    rintro e w3 ⟨rfl, rfl⟩
    have HB3 := HB
    go_wp2
    go_ret
    exact ⟨by rw [HF.out]; rfl, HB3.out⟩
  · have HF : Aside0 (RoomV L x = (v - 8) * 8) := ⟨by rw [HQ3.out, if_neg h4]⟩
    have hkb : withinB v 1 4 = false := within_f h4
    clear h4
    go_enter Try.func55, Try.ntmps55
    go_wp2_with (first | ((with_reducible refine gate_dst (N := 2) rfl ?_); refine box_event rfl (N := 2) rfl (cs := bkCells s A c L) (t := 27) (by first | (go_simp; done) | (go_simp; rfl)) ?_; intro gb hggb w1 hbox hb; have n0_ := Aside0.mk (below_step HB.out hb); have BKgb := Aside0.mk hbox; have HGgb := Aside0.mk (show w.heap.size ≤ gb by rw [hggb]; exact HB.out.size); clear HB; have HB := n0_; have hx51 := (hb.cell (World.block_lt_of_cell? _ _ hx5)).trans hx5; have hx01 := (hb.cell (World.block_lt_of_cell? _ _ hx0)).trans hx0; have fgbs0 : w1.cell? ⟨gb, 0, none⟩ = some (.int .i64 _) := (blk_cell BKgb.out 0).trans rfl; have fgb1 : w1.cell? ⟨gb, 1, none⟩ = some (.slice (A 0) (L 0).length (c 0)) := (blk_cell BKgb.out 1).trans rfl; have fgb2 : w1.cell? ⟨gb, 2, none⟩ = some (.slice (A 1) (L 1).length (c 1)) := (blk_cell BKgb.out 2).trans rfl; have fgb3 : w1.cell? ⟨gb, 3, none⟩ = some (.slice (A 2) (L 2).length (c 2)) := (blk_cell BKgb.out 3).trans rfl; have fgb4 : w1.cell? ⟨gb, 4, none⟩ = some (.slice (A 3) (L 3).length (c 3)) := (blk_cell BKgb.out 4).trans rfl; have fgb5 : w1.cell? ⟨gb, 5, none⟩ = some (.slice (A 4) (L 4).length (c 4)) := (blk_cell BKgb.out 5).trans rfl; have fgb6 : w1.cell? ⟨gb, 6, none⟩ = some (.slice (A 5) (L 5).length (c 5)) := (blk_cell BKgb.out 6).trans rfl; have fgb7 : w1.cell? ⟨gb, 7, none⟩ = some (.slice (A 6) (L 6).length (c 6)) := (blk_cell BKgb.out 7).trans rfl; have fgb8 : w1.cell? ⟨gb, 8, none⟩ = some (.slice (A 7) (L 7).length (c 7)) := (blk_cell BKgb.out 8).trans rfl; have fgbz0 := blk_frozen BKgb.out 0; have fgbz1 := blk_frozen BKgb.out 1; have fgbz2 := blk_frozen BKgb.out 2; have fgbz3 := blk_frozen BKgb.out 3; have fgbz4 := blk_frozen BKgb.out 4; have fgbz5 := blk_frozen BKgb.out 5; have fgbz6 := blk_frozen BKgb.out 6; have fgbz7 := blk_frozen BKgb.out 7; have fgbz8 := blk_frozen BKgb.out 8; rw [ea5] at fgb6; rw [ea0] at fgb1; clear n0_ hbox hb hggb) | (go_at_call 53; refine (within_calls _ _ _ _).mono ?_; rintro e w' ⟨rfl, rfl⟩) | (go_at_call 51; refine (isKind_calls _ _).mono ?_; rintro e w' ⟨rfl, rfl⟩))
    go_ret
    exact ⟨by rw [HF.out]; rfl, HB.out⟩
set_option maxHeartbeats 1000000 in
set_option maxRecDepth 100000 in
theorem implBookRoom_calls (s : Int) (A : Nat → Option Addr) (c : Nat → Nat) (L : Nat → List Int) (x : Int) (w : World) (h : BkC w A c L) (hl : ∀ i, (L i).length ≤ 35184372088832) (hw : ∀ i, Wf64 (L i)) :
    Calls Try.prog 24 #[.agg (bkCells s A c L), .int .i64 x] w fun e w' => ∃ v : Int, e = .returned (.int .i64 v) ∧ ((BookP s L → v = RoomV L x) ∧ (¬ BookP s L → v = 0)) ∧ Below w.heap.size w w' := by
  have HR := Aside0.mk h
  have HL := Aside0.mk hl
  have HW := Aside0.mk hw
  clear h hl hw
  have HB := Aside0.mk (Below.refl w.heap.size w)
  go_enter Try.func24, Try.ntmps24
  go_wp2_with (first | ((with_reducible refine gate_dst (N := 2) rfl ?_); refine box_event rfl (N := 2) rfl (cs := bkCells s A c L) (t := 27) (by first | (go_simp; done) | (go_simp; rfl)) ?_; intro gb hggb w1 hbox hb; have n0_ := Aside0.mk (below_step HB.out hb); have BKgb := Aside0.mk hbox; have HGgb := Aside0.mk (show w.heap.size ≤ gb by rw [hggb]; exact HB.out.size); clear HB; have HB := n0_; have fgbs0 : w1.cell? ⟨gb, 0, none⟩ = some (.int .i64 _) := (blk_cell BKgb.out 0).trans rfl; have fgb1 : w1.cell? ⟨gb, 1, none⟩ = some (.slice (A 0) (L 0).length (c 0)) := (blk_cell BKgb.out 1).trans rfl; have fgb2 : w1.cell? ⟨gb, 2, none⟩ = some (.slice (A 1) (L 1).length (c 1)) := (blk_cell BKgb.out 2).trans rfl; have fgb3 : w1.cell? ⟨gb, 3, none⟩ = some (.slice (A 2) (L 2).length (c 2)) := (blk_cell BKgb.out 3).trans rfl; have fgb4 : w1.cell? ⟨gb, 4, none⟩ = some (.slice (A 3) (L 3).length (c 3)) := (blk_cell BKgb.out 4).trans rfl; have fgb5 : w1.cell? ⟨gb, 5, none⟩ = some (.slice (A 4) (L 4).length (c 4)) := (blk_cell BKgb.out 5).trans rfl; have fgb6 : w1.cell? ⟨gb, 6, none⟩ = some (.slice (A 5) (L 5).length (c 5)) := (blk_cell BKgb.out 6).trans rfl; have fgb7 : w1.cell? ⟨gb, 7, none⟩ = some (.slice (A 6) (L 6).length (c 6)) := (blk_cell BKgb.out 7).trans rfl; have fgb8 : w1.cell? ⟨gb, 8, none⟩ = some (.slice (A 7) (L 7).length (c 7)) := (blk_cell BKgb.out 8).trans rfl; have fgbz0 := blk_frozen BKgb.out 0; have fgbz1 := blk_frozen BKgb.out 1; have fgbz2 := blk_frozen BKgb.out 2; have fgbz3 := blk_frozen BKgb.out 3; have fgbz4 := blk_frozen BKgb.out 4; have fgbz5 := blk_frozen BKgb.out 5; have fgbz6 := blk_frozen BKgb.out 6; have fgbz7 := blk_frozen BKgb.out 7; have fgbz8 := blk_frozen BKgb.out 8; clear n0_ hbox hb hggb))
  refine (implBookOk_calls s A c L _ (HR.out.below HB.out) HL.out (HW.out 0) (HW.out 5)).mono ?_
  rintro e w3 ⟨r, rfl, hr, hb⟩
  have HRR : Aside0 (r = true ↔ BookP s L) := ⟨hr.trans (book_iff s L).symm⟩
  have HB3 := Aside0.mk (below_step HB.out hb)
  have BK3 := Aside0.mk (blk_below BKgb.out hb)
  clear HB BKgb hb hr
  clear fgbs0 fgbz0 fgb1 fgbz1 fgb2 fgbz2 fgb3 fgbz3 fgb4 fgbz4 fgb5 fgbz5 fgb6 fgbz6 fgb7 fgbz7 fgb8 fgbz8
  cases r with
  | false =>
    have HN : Aside0 (¬ BookP s L) := ⟨fun q => by have := HRR.out.mpr q; cases this⟩
    go_wp2
    go_ret
    exact ⟨0, rfl, ⟨fun q => absurd q HN.out, fun _ => rfl⟩, HB3.out⟩
  | true =>
    have HY : Aside0 (BookP s L) := ⟨HRR.out.mp rfl⟩
    have fgbs0 : w3.cell? ⟨gb, 0, none⟩ = some (.int .i64 _) := (blk_cell BK3.out 0).trans rfl; have fgb1 : w3.cell? ⟨gb, 1, none⟩ = some (.slice (A 0) (L 0).length (c 0)) := (blk_cell BK3.out 1).trans rfl; have fgb2 : w3.cell? ⟨gb, 2, none⟩ = some (.slice (A 1) (L 1).length (c 1)) := (blk_cell BK3.out 2).trans rfl; have fgb3 : w3.cell? ⟨gb, 3, none⟩ = some (.slice (A 2) (L 2).length (c 2)) := (blk_cell BK3.out 3).trans rfl; have fgb4 : w3.cell? ⟨gb, 4, none⟩ = some (.slice (A 3) (L 3).length (c 3)) := (blk_cell BK3.out 4).trans rfl; have fgb5 : w3.cell? ⟨gb, 5, none⟩ = some (.slice (A 4) (L 4).length (c 4)) := (blk_cell BK3.out 5).trans rfl; have fgb6 : w3.cell? ⟨gb, 6, none⟩ = some (.slice (A 5) (L 5).length (c 5)) := (blk_cell BK3.out 6).trans rfl; have fgb7 : w3.cell? ⟨gb, 7, none⟩ = some (.slice (A 6) (L 6).length (c 6)) := (blk_cell BK3.out 7).trans rfl; have fgb8 : w3.cell? ⟨gb, 8, none⟩ = some (.slice (A 7) (L 7).length (c 7)) := (blk_cell BK3.out 8).trans rfl; have fgbz0 := blk_frozen BK3.out 0; have fgbz1 := blk_frozen BK3.out 1; have fgbz2 := blk_frozen BK3.out 2; have fgbz3 := blk_frozen BK3.out 3; have fgbz4 := blk_frozen BK3.out 4; have fgbz5 := blk_frozen BK3.out 5; have fgbz6 := blk_frozen BK3.out 6; have fgbz7 := blk_frozen BK3.out 7; have fgbz8 := blk_frozen BK3.out 8
    go_wp2_with fail
    refine (room_calls s A c L x _ (HR.out.below HB3.out) HL.out (by have := HY.out.1.1.2.2.2.2.2.2; omega) (fun p hp => pages_bd HY.out p hp)).mono ?_
    rintro e w4 ⟨rfl, hb⟩
    have HB4 := Aside0.mk (below_step HB3.out hb)
    clear hb
    go_wp2
    go_ret
    exact ⟨_, rfl, ⟨fun _ => rfl, fun q => absurd HY.out q⟩, HB4.out⟩
end Go.Proofs.Ytekneicikmaplaa.Bk
namespace Go.Proofs.Ytekneicikmaplaa.Bk
open Go.RowKit Go.Proofs.YtekneicikmaplaaW.PrintWords Go.Proofs.YtekneicikmaplaaW.PrintLast Go.Proofs.YtekneicikmaplaaW.PrintMore
set_option maxRecDepth 100000 in
theorem l3First_calls (s : Int) (A : Nat → Option Addr) (c : Nat → Nat) (L : Nat → List Int) (x : Int) (hx0 : -1 ≤ x) (hx1 : x ≤ 100) (w : World) (h : BkC w A c L) (hl : (L 5).length ≤ 35184372088832) :
    Calls Try.prog 99 #[.agg (bkCells s A c L), .int .i64 x] w fun e w' => ∃ r : Int, e = .returned (.int .i64 r) ∧ ((r = -1 ∧ ∀ u, u < (L 5).length → ¬ (L 5).getD u 0 = x + 1) ∨ ∃ u : Nat, r = (u : Int) ∧ u < (L 5).length ∧ (L 5).getD u 0 = x + 1) ∧ Below w.heap.size w w' := by
  have HR := Aside0.mk h
  have HLn := Aside0.mk hl
  clear h
  have HB := Aside0.mk (Below.refl w.heap.size w)
  have hy : wrap64 (x + 1) = x + 1 := by unfold wrap64; omega
  go_enter Try.func99, Try.ntmps99
  go_wp2_with (first | ((with_reducible refine gate_dst (N := 2) rfl ?_); refine box_event rfl (N := 2) rfl (cs := bkCells s A c L) (t := 27) (by first | (go_simp; done) | (go_simp; rfl)) ?_; intro gb hggb w1 hbox hb; have n0_ := Aside0.mk (below_step HB.out hb); have BKgb := Aside0.mk hbox; have HGgb := Aside0.mk (show w.heap.size ≤ gb by rw [hggb]; exact HB.out.size); clear HB; have HB := n0_; clear n0_ hbox hb hggb))
  go_loopg [5] ((L 5).length + 1) (fun kq v5 w' => ∃ k : Nat, k ≤ (L 5).length ∧ kq = (L 5).length + 1 - k ∧ v5 = .int .i64 k ∧ Aside0 (∀ u, u < k → ¬ (L 5).getD u 0 = x + 1) ∧ Aside0 (w'.heap[gb]? = some (.cells (bkCells s A c L) 27 (0, 0))) ∧ Aside0 (Below w.heap.size w w'))
  case atStart => exact ⟨0, by omega, by omega, rfl, ⟨fun u hu => by omega⟩, BKgb, HB⟩
  case round =>
    clear HB BKgb
    obtain ⟨k, hk, rfl, rfl, HU, BKgb, HB⟩ := hrel
    have hc6 : wr.cell? ⟨gb, 6, none⟩ = some (.slice (A 5) (L 5).length (c 5)) := (blk_cell BKgb.out 6).trans rfl
    have hz6 := blk_frozen BKgb.out 6
    by_cases hlt : k < (L 5).length
    · obtain ⟨ad, v, ea, hx_, HV⟩ := at_v ((HR.out 5 (by omega)).below HB.out) k hlt
      rw [ea] at hc6
      clear ea
      have hi : (k : Int) < ((L 5).length : Int) := by omega
      by_cases hv : v = x + 1
      · have hb : (v == x + 1) = true := beq_iff_eq.mpr hv
        have HE : Aside0 (∃ u : Nat, (k : Int) = (u : Int) ∧ u < (L 5).length ∧ (L 5).getD u 0 = x + 1) := ⟨k, rfl, hlt, by rw [HV.out]; exact hv⟩
        clear hv
        go_wp2
        go_ret
        exact ⟨(k : Int), rfl, .inr HE.out, HB.out⟩
      · have hb : (v == x + 1) = false := beq_eq_false_iff_ne.mpr hv
        have HZ : Aside0 (∀ u, u < k + 1 → ¬ (L 5).getD u 0 = x + 1) := ⟨fun u hu => if e : u < k then HU.out u e else (show k = u by omega) ▸ (by rw [HV.out]; exact hv)⟩
        clear hv
        go_wp2
        go_roundg ((L 5).length + 1 - (k + 1))
        case measure => omega
        case rel => exact ⟨k + 1, by omega, rfl, by go_num, HZ, BKgb, HB⟩
    · have hkl : k = (L 5).length := by omega
      subst hkl
      go_wp2
      go_ret
      exact ⟨-1, rfl, .inl ⟨rfl, HU.out⟩, HB.out⟩
set_option maxHeartbeats 2000000 in
set_option maxRecDepth 100000 in
theorem l3Run_calls (s : Int) (A : Nat → Option Addr) (c : Nat → Nat) (L : Nat → List Int) (n : Nat) (hn1 : 1 ≤ n) (hn4 : n ≤ 4) (w : World) (h : BkC w A c L) (hl : (L 0).length ≤ 6) :
    Calls Try.prog 103 #[.agg (bkCells s A c L), .int .i64 (n : Int)] w fun e w' => ∃ r : Int, e = .returned (.int .i64 r) ∧ (r = -1 ∨ ∃ p : Nat, r = (p : Int) ∧ p + n ≤ (L 0).length ∧ ∀ i, i < n → (L 0).getD (p + i) 0 = 0) ∧ Below w.heap.size w w' := by
  have HR := Aside0.mk h
  clear h
  have HB := Aside0.mk (Below.refl w.heap.size w)
  go_enter Try.func103, Try.ntmps103
  go_wp2_with (first | ((with_reducible refine gate_dst (N := 2) rfl ?_); refine box_event rfl (N := 2) rfl (cs := bkCells s A c L) (t := 27) (by first | (go_simp; done) | (go_simp; rfl)) ?_; intro gb hggb w1 hbox hb; have n0_ := Aside0.mk (below_step HB.out hb); have BKgb := Aside0.mk hbox; have HGgb := Aside0.mk (show w.heap.size ≤ gb by rw [hggb]; exact HB.out.size); clear HB; have HB := n0_; clear n0_ hbox hb hggb))
  go_loopg [5] ((L 0).length + 1) (fun kq v5 w' => ∃ k : Nat, k ≤ (L 0).length ∧ kq = (L 0).length + 1 - k ∧ v5 = .int .i64 k ∧ Aside0 (w'.heap[gb]? = some (.cells (bkCells s A c L) 27 (0, 0))) ∧ Aside0 (Below w.heap.size w w'))
  case atStart => exact ⟨0, by omega, by omega, rfl, BKgb, HB⟩
  case round =>
    clear HB BKgb
    obtain ⟨k, hk, rfl, rfl, BKgb, HB⟩ := hrel
    have hc1 : wr.cell? ⟨gb, 1, none⟩ = some (.slice (A 0) (L 0).length (c 0)) := (blk_cell BKgb.out 1).trans rfl
    have hz1 := blk_frozen BKgb.out 1
    by_cases hlt : k + n ≤ (L 0).length
    · have hi : (k : Int) + (n : Int) ≤ ((L 0).length : Int) := by omega
      go_wp2
      clear hc1 hz1
      go_loopg [6, 7] (n + 1) (fun kq v6 v7 w' => ∃ (i : Nat) (b : Bool), i ≤ n ∧ kq = n + 1 - i ∧ v6 = .bool b ∧ v7 = .int .i64 i ∧ Aside0 (b = true → ∀ j, j < i → (L 0).getD (k + j) 0 = 0) ∧ Aside0 (w'.heap[gb]? = some (.cells (bkCells s A c L) 27 (0, 0))) ∧ Aside0 (Below w.heap.size w w'))
      case atStart => exact ⟨0, true, by omega, by omega, rfl, rfl, ⟨fun _ j hj => by omega⟩, BKgb, HB⟩
      case round =>
        clear HB BKgb
        obtain ⟨i, b, hi_, rfl, rfl, rfl, HU, BKgb, HB⟩ := hrel
        rename World => wr2
        by_cases hin : i < n
        · have hi2 : (i : Int) < (n : Int) := by omega
          cases b with
          | true =>
            obtain ⟨ad, v, ea, hx_, HV⟩ := at_v ((HR.out 0 (by omega)).below HB.out) (k + i) (by omega)
            have hc1 : wr2.cell? ⟨gb, 1, none⟩ = some (.slice (some ad) (L 0).length (c 0)) := (blk_cell BKgb.out 1).trans (by rw [← ea]; rfl)
            have hz1 := blk_frozen BKgb.out 1
            clear ea
            have hj1 : (0 : Int) ≤ (k : Int) + (i : Int) := by omega
            have hj2 : (k : Int) + (i : Int) < ((L 0).length : Int) := by omega
            have HN : Aside0 ((v == 0) = true → ∀ j, j < i + 1 → (L 0).getD (k + j) 0 = 0) := ⟨fun e j hj => if q : j < i then HU.out rfl j q else (show i = j by omega) ▸ (by rw [HV.out]; exact beq_iff_eq.1 e)⟩
            obtain ⟨bb, hbb⟩ : ∃ bb, (v == 0) = bb := ⟨_, rfl⟩
            rw [hbb] at HN
            clear HU HV
            go_wp2
            go_roundg (n + 1 - (i + 1))
            case measure => omega
            case rel => exact ⟨i + 1, bb, by omega, rfl, rfl, by go_num, HN, BKgb, HB⟩
          | false =>
            go_wp2
            go_roundg (n + 1 - (i + 1))
            case measure => omega
            case rel => exact ⟨i + 1, false, by omega, rfl, rfl, by go_num, ⟨fun e => by cases e⟩, BKgb, HB⟩
        · have hin2 : i = n := by omega
          subst hin2
          cases b with
          | true =>
            have HE : Aside0 (∃ p : Nat, (k : Int) = (p : Int) ∧ p + i ≤ (L 0).length ∧ ∀ j, j < i → (L 0).getD (p + j) 0 = 0) := ⟨k, rfl, hlt, HU.out rfl⟩
            go_wp2
            go_ret
            exact ⟨(k : Int), rfl, .inr HE.out, HB.out⟩
          | false =>
            go_wp2
            go_roundg ((L 0).length + 1 - (k + 1))
            case measure => omega
            case rel => exact ⟨k + 1, by omega, rfl, by go_num, BKgb, HB⟩
    · have hi : ¬ (k : Int) + (n : Int) ≤ ((L 0).length : Int) := by omega
      go_wp2
      go_ret
      exact ⟨-1, rfl, .inl rfl, HB.out⟩
end Go.Proofs.Ytekneicikmaplaa.Bk
namespace Go.Proofs.Ytekneicikmaplaa.Bk
open Go.RowKit Go.Proofs.YtekneicikmaplaaW.PrintWords Go.Proofs.YtekneicikmaplaaW.PrintLast Go.Proofs.YtekneicikmaplaaW.PrintMore
set_option maxHeartbeats 1000000 in
set_option maxRecDepth 100000 in
theorem bookKind_calls (x : Int) (w : World) :
    Calls Try.prog 101 #[.int .i64 x] w fun e w' => ∃ r : Int, e = .returned (.int .i64 r) ∧ (r = -1 ∨ (∃ k : Nat, k < 4 ∧ r = (k : Int)) ∨ (r = 4 ∧ 8 < x ∧ x ≤ 32)) ∧ Below w.heap.size w w' := by
  have HB := Aside0.mk (Below.refl w.heap.size w)
  go_enter Try.func101, Try.ntmps101
  go_wp2
  go_loopg [3] 5 (fun kq v3 w' => ∃ k : Nat, k ≤ 4 ∧ kq = 5 - k ∧ v3 = .int .i64 k ∧ Aside0 (Below w.heap.size w w'))
  case atStart => exact ⟨0, by omega, by omega, rfl, HB⟩
  case round =>
    clear HB
    obtain ⟨k, hk, rfl, rfl, HB⟩ := hrel
    by_cases hlt : k < 4
    · have hi : (k : Int) < 4 := by omega
      by_cases hx : 1 ≤ x
      · have hb : decide (1 ≤ x) = true := decide_eq_true hx
        have HZ := Aside0.mk (fun w_ => l3Size_calls k hlt w_)
        go_wp2_with fail
        refine (HZ.out _).mono ?_
        rintro e w1 ⟨rfl, hb1⟩
        have HB1 := Aside0.mk (below_step HB.out hb1)
        clear HB hb1
        obtain ⟨z, hz⟩ : ∃ z : Nat, sizeN k = z := ⟨_, rfl⟩
        rw [hz]
        clear hz HZ
        by_cases hxz : x ≤ (z : Int)
        · have hb2 : decide (x ≤ (z : Int)) = true := decide_eq_true hxz
          have HE : Aside0 (∃ k' : Nat, k' < 4 ∧ (k : Int) = (k' : Int)) := ⟨k, hlt, rfl⟩
          go_wp2
          go_ret
          exact ⟨(k : Int), rfl, .inr (.inl HE.out), HB1.out⟩
        · have hb2 : decide (x ≤ (z : Int)) = false := decide_eq_false hxz
          go_wp2
          go_roundg (5 - (k + 1))
          case measure => omega
          case rel => exact ⟨k + 1, by omega, rfl, by go_num, HB1⟩
      · have hb : decide (1 ≤ x) = false := decide_eq_false hx
        go_wp2
        go_roundg (5 - (k + 1))
        case measure => omega
        case rel => exact ⟨k + 1, by omega, rfl, by go_num, HB⟩
    · have hk4 : k = 4 := by omega
      subst hk4
      by_cases h8 : 8 < x
      · have hb : decide (8 < x) = true := decide_eq_true h8
        by_cases h32 : x ≤ 32
        · have hb2 : decide (x ≤ 32) = true := decide_eq_true h32
          have HE : Aside0 (8 < x ∧ x ≤ 32) := ⟨h8, h32⟩
          go_wp2
          go_ret
          exact ⟨4, rfl, .inr (.inr ⟨rfl, HE.out⟩), HB.out⟩
        · have hb2 : decide (x ≤ 32) = false := decide_eq_false h32
          go_wp2
          go_ret
          exact ⟨-1, rfl, .inl rfl, HB.out⟩
      · have hb : decide (8 < x) = false := decide_eq_false h8
        go_wp2
        go_ret
        exact ⟨-1, rfl, .inl rfl, HB.out⟩
theorem room_pos {L : Nat → List Int} {x : Int} (h : ¬ RoomV L x = 0) : ∃ u : Nat, x = (u : Int) ∧ u < (L 5).length := by
  unfold RoomV at h
  by_cases h0 : x < 0
  · rw [if_pos h0] at h; exact absurd rfl h
  · rw [if_neg h0] at h
    by_cases h1 : x ≥ ((L 5).length : Int)
    · rw [if_pos h1] at h; exact absurd rfl h
    · exact ⟨x.toNat, by omega, by omega⟩
set_option maxHeartbeats 1000000 in
set_option maxRecDepth 100000 in
theorem l3Whose_calls (s : Int) (A : Nat → Option Addr) (c : Nat → Nat) (L : Nat → List Int) (sl x : Int) (hs0 : -1 ≤ sl) (hs1 : sl ≤ 100) (w : World) (h : BkC w A c L) (hl : ∀ i, (L i).length ≤ 35184372088832) (h05 : (L 5).length = (L 0).length * 8) (hv : ∀ p, p < (L 0).length → 0 ≤ (L 0).getD p 0 ∧ (L 0).getD p 0 ≤ 12) :
    Calls Try.prog 97 #[.agg (bkCells s A c L), .int .i64 sl, .int .i64 x] w fun e w' => ∃ r : Int, e = .returned (.int .i64 r) ∧ (0 < r ∨ (r = 0 ∧ ∃ u : Nat, x = (u : Int) ∧ u < (L 5).length ∧ (L 5).getD u 0 = sl + 1)) ∧ Below w.heap.size w w' := by
  have HR := Aside0.mk h
  have HZ := Aside0.mk (fun w_ h_ => l3Room_calls s A c L x w_ h_ hl h05 hv)
  have HP := Aside0.mk (fun q => room_pos (L := L) (x := x) q)
  obtain ⟨z, hz⟩ : ∃ z, RoomV L x = z := ⟨_, rfl⟩
  rw [hz] at HZ HP
  clear h hl h05 hv hz
  have HB := Aside0.mk (Below.refl w.heap.size w)
  have hy : wrap64 (sl + 1) = sl + 1 := by unfold wrap64; omega
  go_enter Try.func97, Try.ntmps97
  go_wp2_with (first | ((with_reducible refine gate_dst (N := 3) rfl ?_); refine box_event rfl (N := 3) rfl (cs := bkCells s A c L) (t := 27) (by first | (go_simp; done) | (go_simp; rfl)) ?_; intro gb hggb w1 hbox hb; have n0_ := Aside0.mk (below_step HB.out hb); have BKgb := Aside0.mk hbox; have HGgb := Aside0.mk (show w.heap.size ≤ gb by rw [hggb]; exact HB.out.size); clear HB; have HB := n0_; clear n0_ hbox hb hggb) | ((with_reducible refine gate_dst (N := 8) rfl ?_); refine Kd.event_run rfl (Row.load_row_run (g := gb) (t := 27) (cells := bkCells s A c L) rfl rfl BKgb.out Try.underlying27 rfl (by kernel_rfl)) ?_))
  refine (HZ.out _ (HR.out.below HB.out)).mono ?_
  rintro e w2 ⟨rfl, hb⟩
  have BK2 := Aside0.mk (blk_below BKgb.out hb)
  have HB2 := Aside0.mk (below_step HB.out hb)
  clear hb HB BKgb HZ
  by_cases hz0 : z = 0
  · have hb0 : (z == 0) = true := beq_iff_eq.mpr hz0
    clear hz0
    go_wp2
    go_ret
    exact ⟨3, rfl, .inl (by omega), HB2.out⟩
  · have hb0 : (z == 0) = false := beq_eq_false_iff_ne.mpr hz0
    obtain ⟨u, rfl, hu⟩ := HP.out hz0
    clear hz0 HP
    obtain ⟨ad, v, ea, hx_, HV⟩ := at_v ((HR.out 5 (by omega)).below HB2.out) u hu
    have hc6 : w2.cell? ⟨gb, 6, none⟩ = some (.slice (some ad) (L 5).length (c 5)) := (blk_cell BK2.out 6).trans (by rw [← ea]; rfl)
    have hz6 := blk_frozen BK2.out 6
    clear ea
    have hi : (u : Int) < ((L 5).length : Int) := by omega
    have hi0 : (0 : Int) ≤ (u : Int) := by omega
    by_cases hv : v = sl + 1
    · have hb : (v != sl + 1) = false := bne_eq_false_iff_eq.mpr hv
      have HE : Aside0 (∃ u' : Nat, (u : Int) = (u' : Int) ∧ u' < (L 5).length ∧ (L 5).getD u' 0 = sl + 1) := ⟨u, rfl, hu, by rw [HV.out]; exact hv⟩
      clear hv
      go_wp2
      go_ret
      exact ⟨0, rfl, .inr ⟨rfl, HE.out⟩, HB2.out⟩
    · have hb : (v != sl + 1) = true := bne_iff_ne.mpr hv
      clear hv
      go_wp2
      go_ret
      exact ⟨4, rfl, .inl (by omega), HB2.out⟩
end Go.Proofs.Ytekneicikmaplaa.Bk
namespace Go.Proofs.Ytekneicikmaplaa.Bv
abbrev g (l : List Int) (i : Nat) : Int := l.getD i 0
def sz : Nat → Nat
  | 0 => 1
  | 1 => 2
  | 2 => 4
  | _ => 8
theorem sz_mod {k : Nat} (p u : Nat) : (p * 8 + u) % sz k = u % sz k := by
  match k with
  | 0 => show (p * 8 + u) % 1 = u % 1; omega
  | 1 => show (p * 8 + u) % 2 = u % 2; omega
  | 2 => show (p * 8 + u) % 4 = u % 4; omega
  | k + 3 => show (p * 8 + u) % 8 = u % 8; omega
theorem g_set_eq (l : List Int) (a : Nat) (v : Int) (h : a < l.length) : g (l.set a v) a = v := by simp [g, h]
theorem g_set_ne (l : List Int) (a i : Nat) (v : Int) (h : i ≠ a) : g (l.set a v) i = g l i := by simp [g, List.getD, List.getElem?_set, Ne.symm h]
theorem g_out (l : List Int) (i : Nat) (h : l.length ≤ i) : g l i = 0 := by simp [g, List.getD, List.getElem?_eq_none h]
theorem g_lt {l : List Int} {i : Nat} (h : g l i ≠ 0) : i < l.length := by
  by_cases q : i < l.length
  · exact q
  · exact absurd (g_out l i (by omega)) h
def PgE (P O : List Int) (p : Nat) : Prop := g P p = 0 ∧ ∀ u, u < 8 → g O (p * 8 + u) = 0
def PgK (P O : List Int) (p : Nat) : Prop := ∃ k : Nat, k < 4 ∧ g P p = (k : Int) + 1 ∧ (∀ u, u < 8 → u % sz k ≠ 0 → g O (p * 8 + u) = 0) ∧ ∃ u, u < 8 ∧ g O (p * 8 + u) > 0
def PgL (P O : List Int) (p : Nat) : Prop := ∃ n : Nat, 2 ≤ n ∧ n ≤ 4 ∧ g P p = 8 + (n : Int) ∧ p + n ≤ P.length ∧ g O (p * 8) > 0 ∧ (∀ u, 1 ≤ u → u < 8 → g O (p * 8 + u) = 0) ∧ ∀ i, 1 ≤ i → i < n → g P (p + i) = 7
def PgR (P O : List Int) (p : Nat) : Prop := g P p = 7 ∧ (∃ q n : Nat, q < p ∧ 2 ≤ n ∧ n ≤ 4 ∧ g P q = 8 + (n : Int) ∧ p < q + n) ∧ ∀ u, u < 8 → g O (p * 8 + u) = 0
structure W (s : Int) (P O I E : List Int) (H : Nat → List Int) : Prop where
  s1 : 1 ≤ s
  s4 : s ≤ 4
  nI : (I.length : Int) = s
  nE : (E.length : Int) = s
  np1 : 1 ≤ P.length
  np6 : P.length ≤ 6
  nO : O.length = P.length * 8
  slot : ∀ i : Nat, (i : Int) < s → 0 ≤ g I i ∧ g I i ≤ 2 ∧ 0 ≤ g E i ∧ g E i ≤ 4095 ∧ (g E i = 0 → g I i = 0)
  unit : ∀ u, u < O.length → 0 ≤ g O u ∧ g O u ≤ s ∧ (g O u > 0 → g I (g O u - 1).toNat ≠ 0)
  page : ∀ p, p < P.length → PgE P O p ∨ PgK P O p ∨ PgL P O p ∨ PgR P O p
  nd : ∀ k, k < 4 → (H k).Nodup
  mem : ∀ k, k < 4 → ∀ x : Int, x ∈ H k ↔ ∃ u : Nat, x = (u : Int) ∧ u < O.length ∧ g P (u / 8) = (k : Int) + 1 ∧ u % sz k = 0 ∧ g O u = 0
variable {s : Int} {P O I E : List Int} {H : Nat → List Int}
/-- What an owner is. -/
theorem W.owner (h : W s P O I E H) (sl : Nat) (hs : (sl : Int) < s) (hI : g I sl ≠ 0) : 0 ≤ (sl : Int) + 1 ∧ (sl : Int) + 1 ≤ s ∧ ((sl : Int) + 1 > 0 → g I ((sl : Int) + 1 - 1).toNat ≠ 0) := by
  refine ⟨by omega, by omega, fun _ => ?_⟩
  rw [show ((sl : Int) + 1 - 1).toNat = sl by omega]; exact hI
/-- A free room is taken. -/
theorem W.take (h : W s P O I E H) {k : Nat} (hk : k < 4) {a : Nat} {t : List Int} (hH : H k = (a : Int) :: t) (sl : Nat) (hs : (sl : Int) < s) (hI : g I sl ≠ 0) :
    W s P (O.set a ((sl : Int) + 1)) I E (fun j => if j = k then t else H j) := by
  obtain ⟨u, e, hu, hP, hz, hO⟩ := (h.mem k hk a).1 (by rw [hH]; exact List.mem_cons_self)
  obtain rfl : a = u := by omega
  have hne : ∀ i, i ≠ a → g (O.set a ((sl : Int) + 1)) i = g O i := fun i hi => g_set_ne O a i _ hi
  have heq : g (O.set a ((sl : Int) + 1)) a = (sl : Int) + 1 := g_set_eq O a _ hu
  have hdv : a / 8 * 8 + a % 8 = a := by omega
  refine ⟨h.s1, h.s4, h.nI, h.nE, h.np1, h.np6, by rw [List.length_set]; exact h.nO, h.slot, fun v hv => ?_, fun p hp => ?_, fun j hj => ?_, fun j hj x => ?_⟩
  · rw [List.length_set] at hv
    by_cases e : v = a
    · rw [e, heq]; exact h.owner sl hs hI
    · rw [hne v e]; exact h.unit v hv
  · rcases h.page p hp with ⟨h1, h2⟩ | ⟨j, hj, h1, h2, v, hv, h3⟩ | ⟨n, h1, h2, h3, h4, h5, h6, h7⟩ | ⟨h1, h2, h3⟩
    · have hpa : p ≠ a / 8 := fun e => by rw [e] at h1; omega
      exact .inl ⟨h1, fun v hv => by rw [hne _ (by omega)]; exact h2 v hv⟩
    · refine .inr (.inl ⟨j, hj, h1, fun v hv hm => ?_, v, hv, ?_⟩)
      · by_cases e : p * 8 + v = a
        · have hpa : p = a / 8 := by omega
          rw [hpa] at h1
          have hjk : j = k := by omega
          rw [hjk] at hm
          exact absurd (by rw [← sz_mod p v, e]; exact hz) hm
        · rw [hne _ e]; exact h2 v hv hm
      · by_cases e : p * 8 + v = a
        · rw [e, heq]; omega
        · rw [hne _ e]; exact h3
    · have hpa : p ≠ a / 8 := fun e => by rw [e] at h3; omega
      exact .inr (.inr (.inl ⟨n, h1, h2, h3, h4, by rw [hne _ (by omega)]; exact h5, fun v hv hv8 => by rw [hne _ (by omega)]; exact h6 v hv hv8, h7⟩))
    · have hpa : p ≠ a / 8 := fun e => by rw [e] at h1; omega
      exact .inr (.inr (.inr ⟨h1, h2, fun v hv => by rw [hne _ (by omega)]; exact h3 v hv⟩))
  · by_cases e : j = k
    · rw [if_pos e]; have := h.nd k hk; rw [hH] at this; exact (List.nodup_cons.1 this).2
    · rw [if_neg e]; exact h.nd j hj
  · rw [List.length_set]
    by_cases e : j = k
    · rw [if_pos e, e]
      have hnd := h.nd k hk
      rw [hH] at hnd
      have hnot := (List.nodup_cons.1 hnd).1
      constructor
      · intro hx
        obtain ⟨v, h1, h2, h3, h4, h5⟩ := (h.mem k hk x).1 (by rw [hH]; exact List.mem_cons_of_mem _ hx)
        have hva : v ≠ a := fun q => hnot (by rw [← q, ← h1]; exact hx)
        exact ⟨v, h1, h2, h3, h4, by rw [hne v hva]; exact h5⟩
      · rintro ⟨v, h1, h2, h3, h4, h5⟩
        have hva : v ≠ a := fun q => by rw [q, heq] at h5; omega
        rw [hne v hva] at h5
        have := (h.mem k hk x).2 ⟨v, h1, h2, h3, h4, h5⟩
        rw [hH] at this
        rcases List.mem_cons.1 this with q | q
        · omega
        · exact q
    · rw [if_neg e]
      refine (h.mem j hj x).trans ⟨?_, ?_⟩
      · rintro ⟨v, h1, h2, h3, h4, h5⟩
        have hva : v ≠ a := fun q => by rw [q] at h3; omega
        exact ⟨v, h1, h2, h3, h4, by rw [hne v hva]; exact h5⟩
      · rintro ⟨v, h1, h2, h3, h4, h5⟩
        have hva : v ≠ a := fun q => by rw [q] at h3; omega
        rw [hne v hva] at h5
        exact ⟨v, h1, h2, h3, h4, h5⟩
/-- An owner is another one. -/
theorem W.hand (h : W s P O I E H) {a : Nat} (hO : g O a > 0) (sl : Nat) (hs : (sl : Int) < s) (hI : g I sl ≠ 0) : W s P (O.set a ((sl : Int) + 1)) I E H := by
  have hu : a < O.length := g_lt (by omega)
  have hne : ∀ i, i ≠ a → g (O.set a ((sl : Int) + 1)) i = g O i := fun i hi => g_set_ne O a i _ hi
  have heq : g (O.set a ((sl : Int) + 1)) a = (sl : Int) + 1 := g_set_eq O a _ hu
  have hz : ∀ i, g O i = 0 ↔ g (O.set a ((sl : Int) + 1)) i = 0 := fun i => by
    by_cases e : i = a
    · rw [e, heq]; omega
    · rw [hne i e]
  have hp_ : ∀ i, g O i > 0 → g (O.set a ((sl : Int) + 1)) i > 0 := fun i hi => by
    by_cases e : i = a
    · rw [e, heq]; omega
    · rw [hne i e]; exact hi
  refine ⟨h.s1, h.s4, h.nI, h.nE, h.np1, h.np6, by rw [List.length_set]; exact h.nO, h.slot, fun v hv => ?_, fun p hp => ?_, h.nd, fun j hj x => ?_⟩
  · rw [List.length_set] at hv
    by_cases e : v = a
    · rw [e, heq]; exact h.owner sl hs hI
    · rw [hne v e]; exact h.unit v hv
  · rcases h.page p hp with ⟨h1, h2⟩ | ⟨j, hj, h1, h2, v, hv, h3⟩ | ⟨n, h1, h2, h3, h4, h5, h6, h7⟩ | ⟨h1, h2, h3⟩
    · exact .inl ⟨h1, fun v hv => (hz _).1 (h2 v hv)⟩
    · exact .inr (.inl ⟨j, hj, h1, fun v hv hm => (hz _).1 (h2 v hv hm), v, hv, hp_ _ h3⟩)
    · exact .inr (.inr (.inl ⟨n, h1, h2, h3, h4, hp_ _ h5, fun v hv hv8 => (hz _).1 (h6 v hv hv8), h7⟩))
    · exact .inr (.inr (.inr ⟨h1, h2, fun v hv => (hz _).1 (h3 v hv)⟩))
  · rw [List.length_set]
    refine (h.mem j hj x).trans ⟨?_, ?_⟩
    · rintro ⟨v, h1, h2, h3, h4, h5⟩; exact ⟨v, h1, h2, h3, h4, (hz v).1 h5⟩
    · rintro ⟨v, h1, h2, h3, h4, h5⟩; exact ⟨v, h1, h2, h3, h4, (hz v).2 h5⟩
/-- What a slot is changes, and none of its rooms loses its owner. -/
theorem W.slots (h : W s P O I E H) {I' E' : List Int} (h1 : I'.length = I.length) (h2 : E'.length = E.length) (hs : ∀ i : Nat, (i : Int) < s → 0 ≤ g I' i ∧ g I' i ≤ 2 ∧ 0 ≤ g E' i ∧ g E' i ≤ 4095 ∧ (g E' i = 0 → g I' i = 0))
    (hO : ∀ u, u < O.length → g O u > 0 → g I' (g O u - 1).toNat ≠ 0) : W s P O I' E' H :=
  ⟨h.s1, h.s4, by rw [h1]; exact h.nI, by rw [h2]; exact h.nE, h.np1, h.np6, h.nO, hs, fun u hu => ⟨(h.unit u hu).1, (h.unit u hu).2.1, hO u hu⟩, h.page, h.nd, h.mem⟩
end Go.Proofs.Ytekneicikmaplaa.Bv
namespace Go.Proofs.Ytekneicikmaplaa.Bv
variable {s : Int} {P O I E : List Int} {H : Nat → List Int}
/-- The free rooms of a page that is carved, but for its first. -/
def tlC (p : Nat) : Nat → List Int
  | 0 => [(p : Int) * 8 + 1, (p : Int) * 8 + 2, (p : Int) * 8 + 3, (p : Int) * 8 + 4, (p : Int) * 8 + 5, (p : Int) * 8 + 6, (p : Int) * 8 + 7]
  | 1 => [(p : Int) * 8 + 2, (p : Int) * 8 + 4, (p : Int) * 8 + 6]
  | 2 => [(p : Int) * 8 + 4]
  | _ => []
theorem mem_tlC {k : Nat} (hk : k < 4) (p : Nat) (x : Int) : x ∈ tlC p k ↔ ∃ v : Nat, v < 8 ∧ v ≠ 0 ∧ v % sz k = 0 ∧ x = (p : Int) * 8 + (v : Int) := by
  match k, hk with
  | 0, _ =>
    constructor
    · intro h
      simp only [tlC, List.mem_cons, List.not_mem_nil, or_false] at h
      exact ⟨(x - (p : Int) * 8).toNat, by omega, by omega, by show _ % 1 = 0; omega, by omega⟩
    · rintro ⟨v, h1, h2, h3, rfl⟩
      simp only [tlC, List.mem_cons, List.not_mem_nil, or_false]
      omega
  | 1, _ =>
    constructor
    · intro h
      simp only [tlC, List.mem_cons, List.not_mem_nil, or_false] at h
      exact ⟨(x - (p : Int) * 8).toNat, by omega, by omega, by show _ % 2 = 0; omega, by omega⟩
    · rintro ⟨v, h1, h2, h3, rfl⟩
      have h3 : v % 2 = 0 := h3
      simp only [tlC, List.mem_cons, List.not_mem_nil, or_false]
      omega
  | 2, _ =>
    constructor
    · intro h
      simp only [tlC, List.mem_cons, List.not_mem_nil, or_false] at h
      exact ⟨(x - (p : Int) * 8).toNat, by omega, by omega, by show _ % 4 = 0; omega, by omega⟩
    · rintro ⟨v, h1, h2, h3, rfl⟩
      have h3 : v % 4 = 0 := h3
      simp only [tlC, List.mem_cons, List.not_mem_nil, or_false]
      omega
  | 3, _ =>
    constructor
    · intro h; exact absurd h (by simp [tlC])
    · rintro ⟨v, h1, h2, h3, rfl⟩
      have h3 : v % 8 = 0 := h3
      omega
theorem nd_tlC {k : Nat} (hk : k < 4) (p : Nat) : (tlC p k).Nodup := by
  match k, hk with
  | 0, _ => simp only [tlC, List.nodup_cons, List.mem_cons, List.not_mem_nil, or_false, not_false_eq_true, List.nodup_nil, and_true]; omega
  | 1, _ => simp only [tlC, List.nodup_cons, List.mem_cons, List.not_mem_nil, or_false, not_false_eq_true, List.nodup_nil, and_true]; omega
  | 2, _ => simp [tlC]
  | 3, _ => simp [tlC]
/-- A page is carved, and its first room taken. -/
theorem W.carve (h : W s P O I E H) {k : Nat} (hk : k < 4) (hH : H k = []) {p : Nat} (hp : p < P.length) (hP : g P p = 0) (sl : Nat) (hs : (sl : Int) < s) (hI : g I sl ≠ 0) :
    W s (P.set p ((k : Int) + 1)) (O.set (p * 8) ((sl : Int) + 1)) I E (fun j => if j = k then tlC p k else H j) := by
  have hO8 : p * 8 < O.length := by have := h.nO; omega
  have hne : ∀ i, i ≠ p * 8 → g (O.set (p * 8) ((sl : Int) + 1)) i = g O i := fun i hi => g_set_ne O _ i _ hi
  have heq : g (O.set (p * 8) ((sl : Int) + 1)) (p * 8) = (sl : Int) + 1 := g_set_eq O _ _ hO8
  have pne : ∀ i, i ≠ p → g (P.set p ((k : Int) + 1)) i = g P i := fun i hi => g_set_ne P _ i _ hi
  have peq : g (P.set p ((k : Int) + 1)) p = (k : Int) + 1 := g_set_eq P _ _ hp
  have hfree : ∀ u, u < 8 → g O (p * 8 + u) = 0 := by
    rcases h.page p hp with ⟨h1, h2⟩ | ⟨j, hj, h1, _⟩ | ⟨n, h1, h2, h3, _⟩ | ⟨h1, _⟩
    · exact h2
    · omega
    · omega
    · omega
  refine ⟨h.s1, h.s4, h.nI, h.nE, by rw [List.length_set]; exact h.np1, by rw [List.length_set]; exact h.np6, by rw [List.length_set, List.length_set]; exact h.nO, h.slot, fun v hv => ?_, fun q hq => ?_, fun j hj => ?_, fun j hj x => ?_⟩
  · rw [List.length_set] at hv
    by_cases e : v = p * 8
    · rw [e, heq]; exact h.owner sl hs hI
    · rw [hne v e]; exact h.unit v hv
  · rw [List.length_set] at hq
    by_cases e : q = p
    · subst e
      refine .inr (.inl ⟨k, hk, peq, fun v hv hm => ?_, 0, by omega, by rw [Nat.add_zero, heq]; omega⟩)
      have hv0 : v ≠ 0 := fun e0 => hm (by rw [e0]; exact Nat.zero_mod _)
      rw [hne _ (by omega)]; exact hfree v hv
    · rcases h.page q hq with ⟨h1, h2⟩ | ⟨j, hj, h1, h2, v, hv, h3⟩ | ⟨n, h1, h2, h3, h4, h5, h6, h7⟩ | ⟨h1, ⟨q0, n, a1, a2, a3, a4, a5⟩, h3⟩
      · exact .inl ⟨by rw [pne q e]; exact h1, fun v hv => by rw [hne _ (by omega)]; exact h2 v hv⟩
      · exact .inr (.inl ⟨j, hj, by rw [pne q e]; exact h1, fun v hv hm => by rw [hne _ (by omega)]; exact h2 v hv hm, v, hv, by rw [hne _ (by omega)]; exact h3⟩)
      · refine .inr (.inr (.inl ⟨n, h1, h2, by rw [pne q e]; exact h3, by rw [List.length_set]; exact h4, by rw [hne _ (by omega)]; exact h5, fun v hv hv8 => by rw [hne _ (by omega)]; exact h6 v hv hv8, fun i hi hin => ?_⟩))
        have h8 := h7 i hi hin
        rw [pne (q + i) (fun e2 => by rw [e2] at h8; omega)]; exact h8
      · refine .inr (.inr (.inr ⟨by rw [pne q e]; exact h1, ⟨q0, n, a1, a2, a3, ?_, a5⟩, fun v hv => by rw [hne _ (by omega)]; exact h3 v hv⟩))
        rw [pne q0 (fun e2 => by rw [e2] at a4; omega)]; exact a4
  · by_cases e : j = k
    · rw [if_pos e, ← e]; exact nd_tlC hj p
    · rw [if_neg e]; exact h.nd j hj
  · rw [List.length_set]
    by_cases e : j = k
    · subst e
      rw [if_pos rfl]
      refine (mem_tlC hj p x).trans ⟨?_, ?_⟩
      · rintro ⟨v, h1, h2, h3, rfl⟩
        refine ⟨p * 8 + v, by omega, by have := h.nO; omega, ?_, ?_, ?_⟩
        · rw [show (p * 8 + v) / 8 = p by omega]; exact peq
        · rw [sz_mod]; exact h3
        · rw [hne _ (by omega)]; exact hfree v h1
      · rintro ⟨u, h1, h2, h3, h4, h5⟩
        by_cases e : u / 8 = p
        · refine ⟨u % 8, by omega, fun e0 => ?_, ?_, by omega⟩
          · rw [show u = p * 8 by omega, heq] at h5; omega
          · rw [show u = p * 8 + u % 8 by omega, sz_mod] at h4; exact h4
        · rw [pne _ e] at h3
          rw [hne _ (by omega)] at h5
          have := (h.mem j hj x).2 ⟨u, h1, h2, h3, h4, h5⟩
          rw [hH] at this
          exact absurd this (by simp)
    · rw [if_neg e]
      refine (h.mem j hj x).trans ⟨?_, ?_⟩
      · rintro ⟨v, h1, h2, h3, h4, h5⟩
        have hvp : v / 8 ≠ p := fun q => by rw [q] at h3; omega
        exact ⟨v, h1, h2, by rw [pne _ hvp]; exact h3, h4, by rw [hne v (by omega)]; exact h5⟩
      · rintro ⟨v, h1, h2, h3, h4, h5⟩
        have hvp : v / 8 ≠ p := fun q => by rw [q, peq] at h3; omega
        rw [pne _ hvp] at h3
        rw [hne v (by omega)] at h5
        exact ⟨v, h1, h2, h3, h4, h5⟩
/-- Whole pages are taken. -/
theorem W.wide (h : W s P O I E H) {n p : Nat} (h2 : 2 ≤ n) (h4 : n ≤ 4) (hp : p + n ≤ P.length) (hP : ∀ i, i < n → g P (p + i) = 0) (sl : Nat) (hs : (sl : Int) < s) (hI : g I sl ≠ 0)
    {P' : List Int} (hl : P'.length = P.length) (hg : ∀ i, g P' i = if i = p then 8 + (n : Int) else if p < i ∧ i < p + n then 7 else g P i) :
    W s P' (O.set (p * 8) ((sl : Int) + 1)) I E H := by
  have hO8 : p * 8 < O.length := by have := h.nO; omega
  have hne : ∀ i, i ≠ p * 8 → g (O.set (p * 8) ((sl : Int) + 1)) i = g O i := fun i hi => g_set_ne O _ i _ hi
  have heq : g (O.set (p * 8) ((sl : Int) + 1)) (p * 8) = (sl : Int) + 1 := g_set_eq O _ _ hO8
  have pin : ∀ i, p ≤ i → i < p + n → g P i = 0 := fun i h0 h1 => by have := hP (i - p) (by omega); rwa [show p + (i - p) = i by omega] at this
  have pout : ∀ i, ¬ (p ≤ i ∧ i < p + n) → g P' i = g P i := fun i hi => by rw [hg, if_neg (by omega), if_neg (by omega)]
  have peq : g P' p = 8 + (n : Int) := by rw [hg, if_pos rfl]
  have prest : ∀ i, p < i → i < p + n → g P' i = 7 := fun i h0 h1 => by rw [hg, if_neg (by omega), if_pos ⟨h0, h1⟩]
  have hfree : ∀ q, p ≤ q → q < p + n → ∀ u, u < 8 → g O (q * 8 + u) = 0 := fun q h0 h1 => by
    have hz := pin q h0 h1
    rcases h.page q (by omega) with ⟨a1, a2⟩ | ⟨j, hj, a1, _⟩ | ⟨m, a1, a2, a3, _⟩ | ⟨a1, _⟩
    · exact a2
    · omega
    · omega
    · omega
  have pnz : ∀ i, g P i ≠ 0 → g P' i = g P i := fun i hi => pout i (fun hh => hi (pin i hh.1 hh.2))
  refine ⟨h.s1, h.s4, h.nI, h.nE, by rw [hl]; exact h.np1, by rw [hl]; exact h.np6, by rw [List.length_set, hl]; exact h.nO, h.slot, fun v hv => ?_, fun q hq => ?_, h.nd, fun j hj x => ?_⟩
  · rw [List.length_set] at hv
    by_cases e : v = p * 8
    · rw [e, heq]; exact h.owner sl hs hI
    · rw [hne v e]; exact h.unit v hv
  · rw [hl] at hq
    by_cases e : q = p
    · subst e
      exact .inr (.inr (.inl ⟨n, h2, h4, peq, by rw [hl]; exact hp, by rw [heq]; omega, fun v hv hv8 => by rw [hne _ (by omega)]; exact hfree q (by omega) (by omega) v hv8, fun i hi hin => prest _ (by omega) (by omega)⟩))
    · by_cases er : p < q ∧ q < p + n
      · exact .inr (.inr (.inr ⟨prest q er.1 er.2, ⟨p, n, er.1, h2, h4, peq, er.2⟩, fun v hv => by rw [hne _ (by omega)]; exact hfree q (by omega) er.2 v hv⟩))
      · have eq_ := pout q (by omega)
        rcases h.page q hq with ⟨a1, a2⟩ | ⟨j, hj, a1, a2, v, hv, a3⟩ | ⟨m, a1, a2, a3, a4, a5, a6, a7⟩ | ⟨a1, ⟨q0, m, b1, b2, b3, b4, b5⟩, a3⟩
        · exact .inl ⟨by rw [eq_]; exact a1, fun v hv => by rw [hne _ (by omega)]; exact a2 v hv⟩
        · exact .inr (.inl ⟨j, hj, by rw [eq_]; exact a1, fun v hv hm => by rw [hne _ (by omega)]; exact a2 v hv hm, v, hv, by rw [hne _ (by omega)]; exact a3⟩)
        · exact .inr (.inr (.inl ⟨m, a1, a2, by rw [eq_]; exact a3, by rw [hl]; exact a4, by rw [hne _ (by omega)]; exact a5, fun v hv hv8 => by rw [hne _ (by omega)]; exact a6 v hv hv8, fun i hi hin => by rw [pnz _ (by have := a7 i hi hin; omega)]; exact a7 i hi hin⟩))
        · exact .inr (.inr (.inr ⟨by rw [eq_]; exact a1, ⟨q0, m, b1, b2, b3, by rw [pnz q0 (by omega)]; exact b4, b5⟩, fun v hv => by rw [hne _ (by omega)]; exact a3 v hv⟩))
  · rw [List.length_set]
    refine (h.mem j hj x).trans ⟨?_, ?_⟩
    · rintro ⟨v, a1, a2, a3, a4, a5⟩
      have hv : ¬ (p ≤ v / 8 ∧ v / 8 < p + n) := fun hh => by rw [pin _ hh.1 hh.2] at a3; omega
      exact ⟨v, a1, a2, by rw [pout _ hv]; exact a3, a4, by rw [hne v (by omega)]; exact a5⟩
    · rintro ⟨v, a1, a2, a3, a4, a5⟩
      have hv : ¬ (p ≤ v / 8 ∧ v / 8 < p + n) := fun hh => by
        by_cases e : v / 8 = p
        · rw [e, peq] at a3; omega
        · rw [prest _ (by omega) hh.2] at a3; omega
      rw [pout _ hv] at a3
      rw [hne v (by omega)] at a5
      exact ⟨v, a1, a2, a3, a4, a5⟩
/-- Whole pages are given back. -/
theorem W.backL (h : W s P O I E H) {a n : Nat} (hO : g O a > 0) (hP : g P (a / 8) = 8 + (n : Int)) (hn : 1 ≤ n)
    {P' : List Int} (hl : P'.length = P.length) (hg : ∀ i, g P' i = if a / 8 ≤ i ∧ i < a / 8 + n then 0 else g P i) : W s P' (O.set a 0) I E H := by
  have hu : a < O.length := g_lt (by omega)
  have hpl : a / 8 < P.length := by have := h.nO; omega
  have hne : ∀ i, i ≠ a → g (O.set a 0) i = g O i := fun i hi => g_set_ne O a i _ hi
  have heq : g (O.set a 0) a = 0 := g_set_eq O a _ hu
  obtain ⟨p, hp⟩ : ∃ p, a / 8 = p := ⟨_, rfl⟩
  rw [hp] at hP hg hpl
  obtain ⟨h2, h4, hlen, h6, h7⟩ : 2 ≤ n ∧ n ≤ 4 ∧ p + n ≤ P.length ∧ (∀ u, 1 ≤ u → u < 8 → g O (p * 8 + u) = 0) ∧ ∀ i, 1 ≤ i → i < n → g P (p + i) = 7 := by
    rcases h.page p hpl with ⟨a1, a2⟩ | ⟨j, hj, a1, _⟩ | ⟨m, a1, a2, a3, a4, a5, a6, a7⟩ | ⟨a1, ⟨q0, m, b1, b2, b3, b4, b5⟩, a3⟩
    · omega
    · omega
    · obtain rfl : m = n := by omega
      exact ⟨a1, a2, a4, a6, a7⟩
    · have h0 := a3 (a % 8) (by omega)
      rw [show p * 8 + a % 8 = a by omega] at h0
      omega
  have ha : a = p * 8 := by
    by_cases e : a % 8 = 0
    · omega
    · have h0 := h6 (a % 8) (by omega) (by omega)
      rw [show p * 8 + a % 8 = a by omega] at h0
      omega
  have pin : ∀ i, p ≤ i → i < p + n → g P' i = 0 := fun i h0 h1 => by rw [hg, if_pos ⟨h0, h1⟩]
  have pout : ∀ i, ¬ (p ≤ i ∧ i < p + n) → g P' i = g P i := fun i hi => by rw [hg, if_neg hi]
  have p7 : ∀ i, p < i → i < p + n → g P i = 7 := fun i h0 h1 => by have := h7 (i - p) (by omega) (by omega); rwa [show p + (i - p) = i by omega] at this
  have hz : ∀ q, p ≤ q → q < p + n → ∀ u, u < 8 → g (O.set a 0) (q * 8 + u) = 0 := fun q h0 h1 u hu8 => by
    by_cases e : q * 8 + u = a
    · rw [e]; exact heq
    · rw [hne _ e]
      by_cases eq_ : q = p
      · rw [eq_]; exact h6 u (by omega) hu8
      · have hq7 := p7 q (by omega) h1
        rcases h.page q (by omega) with ⟨a1, a2⟩ | ⟨j, hj, a1, _⟩ | ⟨m, a1, a2, a3, _⟩ | ⟨a1, _, a3⟩
        · exact a2 u hu8
        · omega
        · omega
        · exact a3 u hu8
  refine ⟨h.s1, h.s4, h.nI, h.nE, by rw [hl]; exact h.np1, by rw [hl]; exact h.np6, by rw [List.length_set, hl]; exact h.nO, h.slot, fun v hv => ?_, fun q hq => ?_, h.nd, fun j hj x => ?_⟩
  · rw [List.length_set] at hv
    by_cases e : v = a
    · rw [e, heq]; exact ⟨by omega, by have := h.s1; omega, fun h0 => by omega⟩
    · rw [hne v e]; exact h.unit v hv
  · rw [hl] at hq
    by_cases er : p ≤ q ∧ q < p + n
    · exact .inl ⟨pin q er.1 er.2, hz q er.1 er.2⟩
    · have eq_ := pout q er
      rcases h.page q hq with ⟨a1, a2⟩ | ⟨j, hj, a1, a2, v, hv, a3⟩ | ⟨m, a1, a2, a3, a4, a5, a6, a7⟩ | ⟨a1, ⟨q0, m, b1, b2, b3, b4, b5⟩, a3⟩
      · exact .inl ⟨by rw [eq_]; exact a1, fun v hv => by rw [hne _ (by omega)]; exact a2 v hv⟩
      · exact .inr (.inl ⟨j, hj, by rw [eq_]; exact a1, fun v hv hm => by rw [hne _ (by omega)]; exact a2 v hv hm, v, hv, by rw [hne _ (by omega)]; exact a3⟩)
      · refine .inr (.inr (.inl ⟨m, a1, a2, by rw [eq_]; exact a3, by rw [hl]; exact a4, by rw [hne _ (by omega)]; exact a5, fun v hv hv8 => by rw [hne _ (by omega)]; exact a6 v hv hv8, fun i hi hin => ?_⟩))
        have h8 := a7 i hi hin
        rw [pout (q + i) (fun hh => ?_)]
        · exact h8
        · by_cases e : q < p
          · have := a7 (p - q) (by omega) (by omega)
            rw [show q + (p - q) = p by omega] at this
            omega
          · omega
      · refine .inr (.inr (.inr ⟨by rw [eq_]; exact a1, ⟨q0, m, b1, b2, b3, ?_, b5⟩, fun v hv => by rw [hne _ (by omega)]; exact a3 v hv⟩))
        rw [pout q0 (fun hh => ?_)]
        · exact b4
        · by_cases e : q0 = p
          · rw [e] at b4 b1 b5; omega
          · have := p7 q0 (by omega) hh.2; omega
  · rw [List.length_set]
    refine (h.mem j hj x).trans ⟨?_, ?_⟩
    · rintro ⟨v, a1, a2, a3, a4, a5⟩
      have hv : ¬ (p ≤ v / 8 ∧ v / 8 < p + n) := fun hh => by
        by_cases e : v / 8 = p
        · rw [e] at a3; omega
        · have := p7 (v / 8) (by omega) hh.2; omega
      exact ⟨v, a1, a2, by rw [pout _ hv]; exact a3, a4, by rw [hne v (by omega)]; exact a5⟩
    · rintro ⟨v, a1, a2, a3, a4, a5⟩
      have hv : ¬ (p ≤ v / 8 ∧ v / 8 < p + n) := fun hh => by rw [pin _ hh.1 hh.2] at a3; omega
      rw [pout _ hv] at a3
      rw [hne v (by omega)] at a5
      exact ⟨v, a1, a2, a3, a4, a5⟩
/-- A room of a page of rooms is given back. -/
theorem W.room (h : W s P O I E H) {a k : Nat} (hk : k < 4) (hO : g O a > 0) (hP : g P (a / 8) = (k : Int) + 1) : a < O.length ∧ a / 8 < P.length ∧ a % sz k = 0 ∧ (a : Int) ∉ H k := by
  have hu : a < O.length := g_lt (by omega)
  have hpl : a / 8 < P.length := by have := h.nO; omega
  refine ⟨hu, hpl, ?_, fun hm => ?_⟩
  · rcases h.page (a / 8) hpl with ⟨a1, _⟩ | ⟨j, hj, a1, a2, _⟩ | ⟨m, a1, a2, a3, _⟩ | ⟨a1, _⟩
    · omega
    · obtain rfl : j = k := by omega
      by_cases e : a % 8 % sz j = 0
      · rw [show a = a / 8 * 8 + a % 8 by omega, sz_mod]; exact e
      · have := a2 (a % 8) (by omega) e
        rw [show a / 8 * 8 + a % 8 = a by omega] at this
        omega
    · omega
    · omega
  · obtain ⟨u, a1, _, _, _, a5⟩ := (h.mem k hk a).1 hm
    obtain rfl : a = u := by omega
    omega
theorem W.backK (h : W s P O I E H) {a k : Nat} (hk : k < 4) (hO : g O a > 0) (hP : g P (a / 8) = (k : Int) + 1) (hu : ∃ u, u < 8 ∧ g (O.set a 0) (a / 8 * 8 + u) > 0) :
    W s P (O.set a 0) I E (fun j => if j = k then (a : Int) :: H k else H j) := by
  obtain ⟨hal, hpl, haz, hnm⟩ := h.room hk hO hP
  have hne : ∀ i, i ≠ a → g (O.set a 0) i = g O i := fun i hi => g_set_ne O a i _ hi
  have heq : g (O.set a 0) a = 0 := g_set_eq O a _ hal
  refine ⟨h.s1, h.s4, h.nI, h.nE, h.np1, h.np6, by rw [List.length_set]; exact h.nO, h.slot, fun v hv => ?_, fun q hq => ?_, fun j hj => ?_, fun j hj x => ?_⟩
  · rw [List.length_set] at hv
    by_cases e : v = a
    · rw [e, heq]; exact ⟨by omega, by have := h.s1; omega, fun h0 => by omega⟩
    · rw [hne v e]; exact h.unit v hv
  · rcases h.page q hq with ⟨a1, a2⟩ | ⟨j, hj, a1, a2, v, hv, a3⟩ | ⟨m, a1, a2, a3, a4, a5, a6, a7⟩ | ⟨a1, a2, a3⟩
    · have hqa : q ≠ a / 8 := fun e => by rw [e] at a1; omega
      exact .inl ⟨a1, fun v hv => by rw [hne _ (by omega)]; exact a2 v hv⟩
    · refine .inr (.inl ⟨j, hj, a1, fun v hv hm => ?_, ?_⟩)
      · by_cases e : q * 8 + v = a
        · rw [e]; exact heq
        · rw [hne _ e]; exact a2 v hv hm
      · by_cases e : q = a / 8
        · rw [e]; exact hu
        · exact ⟨v, hv, by rw [hne _ (by omega)]; exact a3⟩
    · have hqa : q ≠ a / 8 := fun e => by rw [e] at a3; omega
      exact .inr (.inr (.inl ⟨m, a1, a2, a3, a4, by rw [hne _ (by omega)]; exact a5, fun v hv hv8 => by rw [hne _ (by omega)]; exact a6 v hv hv8, a7⟩))
    · have hqa : q ≠ a / 8 := fun e => by rw [e] at a1; omega
      exact .inr (.inr (.inr ⟨a1, a2, fun v hv => by rw [hne _ (by omega)]; exact a3 v hv⟩))
  · by_cases e : j = k
    · rw [if_pos e]; exact List.nodup_cons.2 ⟨hnm, h.nd k hk⟩
    · rw [if_neg e]; exact h.nd j hj
  · rw [List.length_set]
    by_cases e : j = k
    · subst e
      rw [if_pos rfl, List.mem_cons]
      constructor
      · rintro (rfl | hx)
        · exact ⟨a, rfl, hal, hP, haz, heq⟩
        · obtain ⟨v, a1, a2, a3, a4, a5⟩ := (h.mem j hj x).1 hx
          exact ⟨v, a1, a2, a3, a4, by rw [hne v (fun q => by rw [q] at a5; omega)]; exact a5⟩
      · rintro ⟨v, a1, a2, a3, a4, a5⟩
        by_cases e : v = a
        · left; rw [a1, e]
        · right
          rw [hne v e] at a5
          exact (h.mem j hj x).2 ⟨v, a1, a2, a3, a4, a5⟩
    · rw [if_neg e]
      refine (h.mem j hj x).trans ⟨?_, ?_⟩
      · rintro ⟨v, a1, a2, a3, a4, a5⟩
        exact ⟨v, a1, a2, a3, a4, by rw [hne v (fun q => by rw [q] at a3; omega)]; exact a5⟩
      · rintro ⟨v, a1, a2, a3, a4, a5⟩
        rw [hne v (fun q => by rw [q] at a3; omega)] at a5
        exact ⟨v, a1, a2, a3, a4, a5⟩
/-- .. and its page is empty then. -/
theorem W.backE (h : W s P O I E H) {a k : Nat} (hk : k < 4) (hO : g O a > 0) (hP : g P (a / 8) = (k : Int) + 1) (hu : ∀ u, u < 8 → g (O.set a 0) (a / 8 * 8 + u) = 0)
    {T : List Int} (hT : T = ((a : Int) :: H k).filter (fun x => decide (x / 8 ≠ ((a / 8 : Nat) : Int)))) :
    W s (P.set (a / 8) 0) (O.set a 0) I E (fun j => if j = k then T else H j) := by
  obtain ⟨hal, hpl, haz, hnm⟩ := h.room hk hO hP
  have hne : ∀ i, i ≠ a → g (O.set a 0) i = g O i := fun i hi => g_set_ne O a i _ hi
  have heq : g (O.set a 0) a = 0 := g_set_eq O a _ hal
  have pne : ∀ i, i ≠ a / 8 → g (P.set (a / 8) 0) i = g P i := fun i hi => g_set_ne P _ i _ hi
  have peq : g (P.set (a / 8) 0) (a / 8) = 0 := g_set_eq P _ _ hpl
  refine ⟨h.s1, h.s4, h.nI, h.nE, by rw [List.length_set]; exact h.np1, by rw [List.length_set]; exact h.np6, by rw [List.length_set, List.length_set]; exact h.nO, h.slot, fun v hv => ?_, fun q hq => ?_, fun j hj => ?_, fun j hj x => ?_⟩
  · rw [List.length_set] at hv
    by_cases e : v = a
    · rw [e, heq]; exact ⟨by omega, by have := h.s1; omega, fun h0 => by omega⟩
    · rw [hne v e]; exact h.unit v hv
  · rw [List.length_set] at hq
    by_cases e : q = a / 8
    · rw [e]; exact .inl ⟨peq, hu⟩
    · rcases h.page q hq with ⟨a1, a2⟩ | ⟨j, hj, a1, a2, v, hv, a3⟩ | ⟨m, a1, a2, a3, a4, a5, a6, a7⟩ | ⟨a1, ⟨q0, m, b1, b2, b3, b4, b5⟩, a3⟩
      · exact .inl ⟨by rw [pne q e]; exact a1, fun v hv => by rw [hne _ (by omega)]; exact a2 v hv⟩
      · exact .inr (.inl ⟨j, hj, by rw [pne q e]; exact a1, fun v hv hm => by rw [hne _ (by omega)]; exact a2 v hv hm, v, hv, by rw [hne _ (by omega)]; exact a3⟩)
      · exact .inr (.inr (.inl ⟨m, a1, a2, by rw [pne q e]; exact a3, by rw [List.length_set]; exact a4, by rw [hne _ (by omega)]; exact a5, fun v hv hv8 => by rw [hne _ (by omega)]; exact a6 v hv hv8, fun i hi hin => by
          have := a7 i hi hin
          rw [pne _ (fun e2 => by rw [e2] at this; omega)]; exact this⟩))
      · exact .inr (.inr (.inr ⟨by rw [pne q e]; exact a1, ⟨q0, m, b1, b2, b3, by rw [pne q0 (fun e2 => by rw [e2] at b4; omega)]; exact b4, b5⟩, fun v hv => by rw [hne _ (by omega)]; exact a3 v hv⟩))
  · by_cases e : j = k
    · rw [if_pos e, hT]; exact (List.nodup_cons.2 ⟨hnm, h.nd k hk⟩).filter _
    · rw [if_neg e]; exact h.nd j hj
  · rw [List.length_set]
    by_cases e : j = k
    · subst e
      rw [if_pos rfl, hT, List.mem_filter, List.mem_cons, decide_eq_true_eq]
      constructor
      · rintro ⟨rfl | hx, h8⟩
        · omega
        · obtain ⟨v, a1, a2, a3, a4, a5⟩ := (h.mem j hj x).1 hx
          have hv : v / 8 ≠ a / 8 := by omega
          exact ⟨v, a1, a2, by rw [pne _ hv]; exact a3, a4, by rw [hne v (by omega)]; exact a5⟩
      · rintro ⟨v, a1, a2, a3, a4, a5⟩
        have hv : v / 8 ≠ a / 8 := fun q => by rw [q, peq] at a3; omega
        rw [pne _ hv] at a3
        rw [hne v (by omega)] at a5
        exact ⟨.inr ((h.mem j hj x).2 ⟨v, a1, a2, a3, a4, a5⟩), by omega⟩
    · rw [if_neg e]
      refine (h.mem j hj x).trans ⟨?_, ?_⟩
      · rintro ⟨v, a1, a2, a3, a4, a5⟩
        have hv : v / 8 ≠ a / 8 := fun q => by rw [q] at a3; omega
        exact ⟨v, a1, a2, by rw [pne _ hv]; exact a3, a4, by rw [hne v (by omega)]; exact a5⟩
      · rintro ⟨v, a1, a2, a3, a4, a5⟩
        have hv : v / 8 ≠ a / 8 := fun q => by rw [q, peq] at a3; omega
        rw [pne _ hv] at a3
        rw [hne v (by omega)] at a5
        exact ⟨v, a1, a2, a3, a4, a5⟩
end Go.Proofs.Ytekneicikmaplaa.Bv
namespace Go.Proofs.Ytekneicikmaplaa.Bv
open Go.RowKit Go.Proofs.Ytekneicikmaplaa.Bk
theorem sz_eq (k : Nat) : sizeN k = sz k := by
  match k with
  | 0 => rfl
  | 1 => rfl
  | 2 => rfl
  | k + 3 => rfl
theorem nodup_len : ∀ (n : Nat) (l : List Int), l.Nodup → (∀ x ∈ l, 0 ≤ x ∧ x < (n : Int)) → l.length ≤ n
  | 0, l, _, h => by
    cases l with
    | nil => exact Nat.le_refl _
    | cons x t => have := h x List.mem_cons_self; omega
  | n + 1, l, hd, h => by
    by_cases e : (n : Int) ∈ l
    · have h1 := nodup_len n (l.erase (n : Int)) (hd.erase _) (fun x hx => by
        have h2 := h x (List.mem_of_mem_erase hx)
        have h3 : x ≠ (n : Int) := fun q => by rw [q] at hx; exact (List.Nodup.mem_erase_iff hd).1 hx |>.1 rfl
        omega)
      rw [List.length_erase_of_mem e] at h1
      omega
    · have h1 := nodup_len n l hd (fun x hx => by
        have h2 := h x hx
        have h3 : x ≠ (n : Int) := fun q => e (q ▸ hx)
        omega)
      omega
theorem cnt_pos {l : List Int} {x : Int} : cnt l x > 0 ↔ x ∈ l := List.count_pos_iff
theorem cnt_one {l : List Int} {x : Int} (h : l.Nodup) : cnt l x ≤ 1 := List.nodup_iff_count.1 h x
theorem W.book {s : Int} {L : Nat → List Int} (h : W s (L 0) (L 5) (L 6) (L 7) (fun k => L (k + 1))) : BookP s L := by
  have hnO := h.nO
  refine ⟨⟨⟨?_, ?_, h.nI, h.nE, ?_, ?_, ?_⟩, fun i hi => ?_, fun u hu => ?_⟩, fun k hk => ⟨?_, fun i hi => ?_⟩, fun p hp => ?_⟩
  · have := h.s1; omega
  · have := h.s4; omega
  · have := h.np1; omega
  · have := h.np6; omega
  · omega
  · obtain ⟨h1, h2, h3, h4, h5⟩ := h.slot i hi
    unfold g at h1 h2 h3 h4 h5
    exact ⟨by omega, by omega, by omega, by omega, fun q => by have := h5 q.1; omega⟩
  · obtain ⟨h1, h2, h3⟩ := h.unit u hu
    unfold g at h1 h2 h3
    exact ⟨by omega, by omega, fun q => h3 q.1 q.2⟩
  · refine nodup_len _ _ (h.nd k hk) (fun x hx => ?_)
    obtain ⟨u, h1, h2, _⟩ := (h.mem k hk x).1 hx
    omega
  · have hx : (L (k + 1)).getD i 0 ∈ L (k + 1) := by
      have : (L (k + 1)).getD i 0 = (L (k + 1))[i] := by simp [List.getD, hi]
      rw [this]; exact List.getElem_mem hi
    obtain ⟨u, h1, h2, h3, h4, h5⟩ := (h.mem k hk _).1 hx
    have h3 : (L 0).getD (u / 8) 0 = (k : Int) + 1 := h3
    refine ⟨by omega, by omega, ?_, ?_⟩
    · rw [h1, show ((u : Int) / 8).toNat = u / 8 by omega, h3]
      unfold kindN
      rw [if_neg (by omega), if_neg (by omega)]
      omega
    · rw [h1, sz_eq]
      have : ((u : Int) % (sz k : Int)) = ((u % sz k : Nat) : Int) := rfl
      rw [this, h4]; omega
  · unfold PageP
    rcases h.page p hp with ⟨a1, a2⟩ | ⟨k, hk, a1, a2, v, hv, a3⟩ | ⟨n, a1, a2, a3, a4, a5, a6, a7⟩ | ⟨a1, ⟨q, n, b1, b2, b3, b4, b5⟩, a3⟩
    · have a1 : (L 0).getD p 0 = 0 := a1
      rw [if_pos a1]
      exact fun u _ hu => by have : (L 5).getD (p * 8 + u) 0 = 0 := a2 u hu; omega
    · have a1 : (L 0).getD p 0 = (k : Int) + 1 := a1
      rw [if_neg (by omega), if_pos (by omega), a1, show ((k : Int) + 1 - 1).toNat = k by omega, sz_eq]
      have hmem : ∀ u : Nat, u < 8 → ((p : Int) * 8 + (u : Int) ∈ L (k + 1) ↔ (u % sz k = 0 ∧ (L 5).getD (p * 8 + u) 0 = 0)) := fun u hu => by
        refine (h.mem k hk _).trans ⟨?_, ?_⟩
        · rintro ⟨u', h1, h2, h3, h4, h5⟩
          obtain rfl : u' = p * 8 + u := by omega
          rw [sz_mod] at h4
          exact ⟨h4, h5⟩
        · rintro ⟨h1, h2⟩
          exact ⟨p * 8 + u, by omega, by omega, by rw [show (p * 8 + u) / 8 = p by omega]; exact a1, by rw [sz_mod]; exact h1, h2⟩
      refine ⟨fun u hu => ?_, v, hv, ?_, a3⟩
      · have h0 := (h.unit (p * 8 + u) (by omega)).1
        have h0 : 0 ≤ (L 5).getD (p * 8 + u) 0 := h0
        unfold RoomU
        split
        · rename_i hz
          rintro (h1 | h1)
          · have : (L 5).getD (p * 8 + u) 0 = 0 := a2 u hu (by omega)
            omega
          · have := (hmem u hu).1 (cnt_pos.1 h1)
            omega
        · rename_i hz
          rintro (h1 | h1)
          · by_cases e : (L 5).getD (p * 8 + u) 0 > 0
            · have := (hmem u hu).1 (cnt_pos.1 (h1.1 e))
              omega
            · exact e (h1.2 (cnt_pos.2 ((hmem u hu).2 ⟨by omega, by omega⟩)))
          · have := cnt_one (x := (p : Int) * 8 + (u : Int)) (h.nd k hk)
            omega
      · by_cases e : v % sz k = 0
        · exact e
        · have := a2 v hv e; omega
    · have a3' : (L 0).getD p 0 = 8 + (n : Int) := a3
      rw [if_neg (by omega), if_neg (by omega), if_neg (by omega)]
      refine ⟨by omega, by omega, by omega, ?_, fun u h1 h2 => ?_, fun i h1 h2 => a7 i h1 (by omega)⟩
      · have : (L 5).getD (p * 8) 0 > 0 := a5
        omega
      · have : (L 5).getD (p * 8 + u) 0 = 0 := a6 u h1 h2
        omega
    · have a1' : (L 0).getD p 0 = 7 := a1
      have b4' : (L 0).getD q 0 = 8 + (n : Int) := b4
      rw [if_neg (by omega), if_neg (by omega), if_pos a1']
      have h7 : ∀ i, 1 ≤ i → i < n → (L 0).getD (q + i) 0 = 7 := by
        rcases h.page q (by omega) with ⟨c1, _⟩ | ⟨j, hj, c1, _⟩ | ⟨m, c1, c2, c3, c4, c5, c6, c7⟩ | ⟨c1, _⟩
        · omega
        · omega
        · obtain rfl : m = n := by omega
          exact c7
        · omega
      refine ⟨q, ⟨by omega, fun j h1 h2 => ?_, .inr (by omega)⟩, by omega, ?_, fun u _ hu => ?_⟩
      · have := h7 (j - q) (by omega) (by omega)
        rwa [show q + (j - q) = j by omega] at this
      · rw [b4']
        have h6 := h.np6
        have e1 : wrap64 ((q : Int) + (8 + (n : Int))) = (q : Int) + (8 + (n : Int)) := by unfold wrap64; omega
        rw [e1]
        have e2 : wrap64 ((q : Int) + (8 + (n : Int)) - 8) = (q : Int) + (n : Int) := by unfold wrap64; omega
        rw [e2]; omega
      · have : (L 5).getD (p * 8 + u) 0 = 0 := a3 u hu
        omega
end Go.Proofs.Ytekneicikmaplaa.Bv
namespace Go.Proofs.Ytekneicikmaplaa.Bk
open Go.RowKit Go.Proofs.YtekneicikmaplaaW.PrintWords Go.Proofs.YtekneicikmaplaaW.PrintLast Go.Proofs.YtekneicikmaplaaW.PrintMore
/-- A book is valid. -/
def Wd (s : Int) (L : Nat → List Int) : Prop := Bv.W s (L 0) (L 5) (L 6) (L 7) (fun k => L (k + 1))
theorem Wcong {s : Int} {P O I E : List Int} {H H' : Nat → List Int} (h : Bv.W s P O I E H) (e : ∀ k, k < 4 → H' k = H k) : Bv.W s P O I E H' :=
  ⟨h.s1, h.s4, h.nI, h.nE, h.np1, h.np6, h.nO, h.slot, h.unit, h.page, fun k hk => by rw [e k hk]; exact h.nd k hk, fun k hk x => by rw [e k hk]; exact h.mem k hk x⟩
/-- What a call leaves of a book that it was given. -/
def OutV (V V' : Nat → Value) (L' : Nat → List Int) (w w' : World) : Prop := BoV V' L' w' ∧ Fr (ownV V) w w' ∧ ∀ j, ownV V' j → (ownV V j ∨ w.heap.size ≤ j) ∧ j < w'.heap.size
theorem Sx.out {V V' : Nat → Value} {L' : Nat → List Int} {w w' : World} {rs : List Rx} (h : Sx (ownV V) w w' rs) (i : Nat) (hi : rs[i]? = some (Rb V' L')) : OutV V V' L' w w' :=
  ⟨h.get i hi, h.base, fun j hj => ⟨h.arg i hi j hj, h.lt i hi j hj⟩⟩
/-- A caller's memory behind such a call. -/
theorem Sx.back {ar : Nat → Prop} {w0 w w' : World} {rs : List Rx} {V V' : Nat → Value} {L L' : Nat → List Int} (h : Sx ar w0 w rs) (i : Nat) (hi : rs[i]? = some (Rb V L)) (o : OutV V V' L' w w') {rs' : List Rx} (e : rs.set i (Rb V' L') = rs') : Sx ar w0 w' rs' :=
  h.put i hi o.2.1 o.1 (Rb.stable _ _) o.2.2 e
/-- A book and two numbers are returned, the book valid. -/
def Ret3 (s : Int) (V : Nat → Value) (w : World) (e : Ending) (w' : World) : Prop := ∃ (V' : Nat → Value) (L' : Nat → List Int) (r1 r2 : Int), e = .returned (.tuple #[.agg (bkV s V'), .int .i64 r1, .int .i64 r2]) ∧ Wd s L' ∧ OutV V V' L' w w'
theorem IR.eqlen {w : World} {l : List Int} {A : Option Addr} {m cap : Nat} (h : IR w (.slice A m cap) l) : m = l.length := by
  obtain ⟨A', c', e⟩ := h.form
  injection e
theorem Sx.rowCell {ar : Nat → Prop} {w0 w : World} {rs : List Rx} (h : Sx ar w0 w rs) (q : Nat) {V : Nat → Value} {L : Nat → List Int} (hq : rs[q]? = some (Rb V L)) {i : Nat} (hi : i < 8) {g o m cap : Nat} (hv : V i = .slice (some ⟨g, o, none⟩) m cap) (k : Nat) (hk : k < (L i).length) :
    w.cell? ⟨g, o + k, none⟩ = some (.int .i64 ((L i).getD k 0)) ∧ w.frozen? ⟨g, o + k, none⟩ = false := by
  obtain ⟨g', o', cap', e, h1, h2⟩ := h.rowAt q hq hi k hk
  rw [hv] at e
  injection e with e1 e2 e3
  injection e1 with e1
  injection e1 with e1 e4
  subst e1 e4
  exact ⟨h1, h2⟩
theorem Sx.rowSet' {ar : Nat → Prop} {w0 w : World} {rs : List Rx} (h : Sx ar w0 w rs) (q : Nat) {V : Nat → Value} {L : Nat → List Int} (hq : rs[q]? = some (Rb V L)) {i : Nat} (hi : i < 8) {g o m cap : Nat} (hv : V i = .slice (some ⟨g, o, none⟩) m cap) (k : Nat) (hk : k < (L i).length) (n : Int)
    {rs' : List Rx} (e : rs.set q (Rb V (upd L i ((L i).set k n))) = rs') : Sx ar w0 (w.setCell ⟨g, o + k, none⟩ (.int .i64 n)) rs' := by
  have hI := (h.get q hq).1 i hi
  rw [hv] at hI
  obtain rfl := hI.eqlen
  exact h.rowSet q hq hi hv k hk n e
theorem BoV.one {V : Nat → Value} {L : Nat → List Int} {w : World} (h : BoV V L w) (s : Int) : (bkV s V).all (·.oneCell') = true := by
  rw [h.cells s]; simp [bkCells, Value.oneCell']
theorem l3RunV (s : Int) (V : Nat → Value) (L : Nat → List Int) (n : Nat) (hn1 : 1 ≤ n) (hn4 : n ≤ 4) (hl : (L 0).length ≤ 6) (w : World) (h : BoV V L w) :
    Calls Try.prog 103 #[.agg (bkV s V), .int .i64 (n : Int)] w fun e w' => ∃ r : Int, e = .returned (.int .i64 r) ∧ (r = -1 ∨ ∃ p : Nat, r = (p : Int) ∧ p + n ≤ (L 0).length ∧ ∀ i, i < n → (L 0).getD (p + i) 0 = 0) ∧ Below w.heap.size w w' := by
  rw [h.cells s]; exact l3Run_calls s _ _ L n hn1 hn4 w h.bkC hl
theorem l3FirstV (s : Int) (V : Nat → Value) (L : Nat → List Int) (x : Int) (hx0 : -1 ≤ x) (hx1 : x ≤ 100) (hl : (L 5).length ≤ 48) (w : World) (h : BoV V L w) :
    Calls Try.prog 99 #[.agg (bkV s V), .int .i64 x] w fun e w' => ∃ r : Int, e = .returned (.int .i64 r) ∧ ((r = -1 ∧ ∀ u, u < (L 5).length → ¬ (L 5).getD u 0 = x + 1) ∨ ∃ u : Nat, r = (u : Int) ∧ u < (L 5).length ∧ (L 5).getD u 0 = x + 1) ∧ Below w.heap.size w w' := by
  rw [h.cells s]; exact l3First_calls s _ _ L x hx0 hx1 w h.bkC (by omega)
theorem IR.tail0 {w : World} {x : Int} {t : List Int} {g o : Nat} (h : IR w (.slice (some ⟨g, o, none⟩) (x :: t).length 1) (x :: t)) : IR w (.slice (some ⟨g, o, none⟩) t.length 0) t := by
  rcases h with ⟨e, h⟩ | ⟨g', o', cap', cells, e, hg, h1, h2, h3, h4⟩
  · cases e
  · injection e with e1 e2 e3
    injection e1 with e1
    injection e1 with e1 e4
    subst e1 e4 e3
    rw [List.length_cons] at h1
    exact .inr ⟨g, o, 0, cells, rfl, hg, by omega, by omega, by omega, fun j hj => by omega⟩
theorem Wd.rows {s : Int} {L : Nat → List Int} (h : Wd s L) : (L 0).length ≤ 6 ∧ 1 ≤ (L 0).length ∧ (L 5).length = (L 0).length * 8 ∧ (L 5).length ≤ 48 ∧ ((L 6).length : Int) = s ∧ ((L 7).length : Int) = s ∧ 1 ≤ s ∧ s ≤ 4 := by
  have h1 := h.np6
  have h2 := h.np1
  have h3 := h.nO
  exact ⟨h1, h2, h3, by omega, h.nI, h.nE, h.s1, h.s4⟩
end Go.Proofs.Ytekneicikmaplaa.Bk
namespace Go.Proofs.Ytekneicikmaplaa.Bk
open Go.RowKit Go.Proofs.YtekneicikmaplaaW.PrintWords Go.Proofs.YtekneicikmaplaaW.PrintLast Go.Proofs.YtekneicikmaplaaW.PrintMore
/-- The units ahead of n at which y stands. -/
def blkL (O : List Int) (y : Int) : Nat → List Int
  | 0 => []
  | n + 1 => blkL O y n ++ (if O.getD n 0 = y then [(n : Int)] else [])
theorem blkL_len (O : List Int) (y : Int) (n : Nat) : (blkL O y n).length ≤ n := by
  induction n with
  | zero => simp [blkL]
  | succ n ih => unfold blkL; split <;> simp <;> omega
theorem blkL_yes {O : List Int} {y : Int} {n : Nat} (h : O.getD n 0 = y) : blkL O y (n + 1) = blkL O y n ++ [(n : Int)] := by
  rw [show blkL O y (n + 1) = blkL O y n ++ (if O.getD n 0 = y then [(n : Int)] else []) from rfl, if_pos h]
theorem blkL_no {O : List Int} {y : Int} {n : Nat} (h : ¬ O.getD n 0 = y) : blkL O y (n + 1) = blkL O y n := by
  rw [show blkL O y (n + 1) = blkL O y n ++ (if O.getD n 0 = y then [(n : Int)] else []) from rfl, if_neg h, List.append_nil]
theorem blkL_none {O : List Int} {y : Int} {n : Nat} (h : ∀ u, u < n → ¬ O.getD u 0 = y) : blkL O y n = [] := by
  induction n with
  | zero => rfl
  | succ n ih => rw [blkL_no (h n (by omega)), ih (fun u hu => h u (by omega))]
/-- A row of the call's own is returned. -/
def RetL (P : List Int → Prop) (w : World) (e : Ending) (w' : World) : Prop := ∃ (l : List Int) (A : Option Addr) (c : Nat), e = .returned (.slice A l.length c) ∧ P l ∧ SlO w' w.heap.size w'.heap.size A c l ∧ Below w.heap.size w w'
theorem RetL.mk {P : List Int → Prop} {w w' : World} {e : Ending} {v : Value} {l : List Int} (he : e = .returned v) (hp : P l) (ho : Kd.R (Kd.int .i64) 3 w' w.heap.size (fun _ => True) v l) (hb : Below w.heap.size w w') : RetL P w e w' := by
  obtain ⟨A, c, rfl, h⟩ := SlO.of ho
  exact ⟨l, A, c, he, hp, h, hb⟩
set_option maxHeartbeats 2000000 in
set_option maxRecDepth 100000 in
theorem blocks_calls (s : Int) (A : Nat → Option Addr) (c : Nat → Nat) (L : Nat → List Int) (x : Int) (w : World) (h : BkC w A c L) (hl : ∀ i, (L i).length ≤ 1048576) (h0 : 0 ≤ x) (h4 : x ≤ 3) :
    Calls Try.prog 57 #[.agg (bkCells s A c L), .int .i64 x] w (RetL (fun l => l = blkL (L 5) (x + 1) (L 5).length) w) := by
  have HR := Aside0.mk h
  have hl5 : ((L 5).length : Int) ≤ 1048576 := by have := hl 5; omega
  clear h hl
  have HB := Aside0.mk (Below.refl w.heap.size w)
  go_enter Try.func57, Try.ntmps57
  go_wp2_with (first | ((with_reducible refine gate_dst (N := 2) rfl ?_); refine box_event rfl (N := 2) rfl (cs := bkCells s A c L) (t := 27) (by first | (go_simp; done) | (go_simp; rfl)) ?_; intro gb hggb w1 hbox hb; have n0_ := Aside0.mk (below_step HB.out hb); have BKgb := Aside0.mk hbox; have HGgb := Aside0.mk (show w.heap.size ≤ gb by rw [hggb]; exact HB.out.size); clear HB; have HB := n0_; have fgbs0 : w1.cell? ⟨gb, 0, none⟩ = some (.int .i64 _) := (blk_cell BKgb.out 0).trans rfl; have fgb1 : w1.cell? ⟨gb, 1, none⟩ = some (.slice (A 0) (L 0).length (c 0)) := (blk_cell BKgb.out 1).trans rfl; have fgb2 : w1.cell? ⟨gb, 2, none⟩ = some (.slice (A 1) (L 1).length (c 1)) := (blk_cell BKgb.out 2).trans rfl; have fgb3 : w1.cell? ⟨gb, 3, none⟩ = some (.slice (A 2) (L 2).length (c 2)) := (blk_cell BKgb.out 3).trans rfl; have fgb4 : w1.cell? ⟨gb, 4, none⟩ = some (.slice (A 3) (L 3).length (c 3)) := (blk_cell BKgb.out 4).trans rfl; have fgb5 : w1.cell? ⟨gb, 5, none⟩ = some (.slice (A 4) (L 4).length (c 4)) := (blk_cell BKgb.out 5).trans rfl; have fgb6 : w1.cell? ⟨gb, 6, none⟩ = some (.slice (A 5) (L 5).length (c 5)) := (blk_cell BKgb.out 6).trans rfl; have fgb7 : w1.cell? ⟨gb, 7, none⟩ = some (.slice (A 6) (L 6).length (c 6)) := (blk_cell BKgb.out 7).trans rfl; have fgb8 : w1.cell? ⟨gb, 8, none⟩ = some (.slice (A 7) (L 7).length (c 7)) := (blk_cell BKgb.out 8).trans rfl; have fgbz0 := blk_frozen BKgb.out 0; have fgbz1 := blk_frozen BKgb.out 1; have fgbz2 := blk_frozen BKgb.out 2; have fgbz3 := blk_frozen BKgb.out 3; have fgbz4 := blk_frozen BKgb.out 4; have fgbz5 := blk_frozen BKgb.out 5; have fgbz6 := blk_frozen BKgb.out 6; have fgbz7 := blk_frozen BKgb.out 7; have fgbz8 := blk_frozen BKgb.out 8; clear n0_ hbox hb hggb))
  go_loopg [5, 11] ((L 5).length + 1) (fun kq v5 v11 w' => ∃ u : Nat, u ≤ (L 5).length ∧ kq = (L 5).length + 1 - u ∧ v11 = .int .i64 u ∧ Aside0 (Kd.R (Kd.int .i64) 3 w' w.heap.size (fun _ => True) v5 (blkL (L 5) (x + 1) u)) ∧ Aside0 (w'.heap[gb]? = some (.cells (bkCells s A c L) 27 (0, 0))) ∧ Aside0 (Below w.heap.size w w'))
  case atStart => exact ⟨0, by omega, rfl, rfl, ⟨Kd.R_nil _ _ _ _ _⟩, BKgb, HB⟩
  case round =>
    clear HB BKgb
    clear fgbs0 fgbz0 fgb1 fgbz1 fgb2 fgbz2 fgb3 fgbz3 fgb4 fgbz4 fgb5 fgbz5 fgb6 fgbz6 fgb7 fgbz7 fgb8 fgbz8
    obtain ⟨u, hu, rfl, rfl, HO, BKgb, HB⟩ := hrel
    by_cases hlt : u < (L 5).length
    · have u0 : (0 : Int) ≤ (u : Int) := by omega
      have u1 : (u : Int) < ((L 5).length : Int) := by omega
      obtain ⟨ad5, o, ea5, hx5, HV⟩ := at_v ((HR.out 5 (by omega)).below HB.out) u hlt
      have HE5 := Aside0.mk ea5
      by_cases ho : o = x + 1
      · have HOY : Aside0 (blkL (L 5) (x + 1) (u + 1) = blkL (L 5) (x + 1) u ++ [(u : Int)]) := ⟨blkL_yes (by rw [HV.out]; exact ho)⟩
        have hob : (o == x + 1) = true := beq_iff_eq.mpr ho
        have HLEN := Aside0.mk (show (blkL (L 5) (x + 1) u).length ≤ 1048576 by have := blkL_len (L 5) (x + 1) u; omega)
        clear ho
        go_wp2_with (first | ((with_reducible refine gate_builtin (b := .append) (xs := #[.tmp 20, .tmp 22]) rfl ?_); at_builtin; refine Kd.R_append (Kd.int .i64) (w0 := w) w.heap.size rfl (.tmp 20) (.tmp 22) 24 3 (.int .i64 0) 8 rfl Try.underlying24 info3 rfl (by decide) (by omega) u5 (blkL (L 5) (x + 1) u) (u : Int) [.int .i64 (u : Int)] (fun _ => True) (fun _ => False) rfl rfl ?aP (fun _ hk => hk.elim) ?aF ?aO ?aB ?aS ?aL ?_; (case aP => exact rfl); (case aB => exact HB.out); (case aF => exact (fun _ _ => trivial)); (case aO => exact HO.out); (case aS => exact below_size HB.out); (case aL => have := HLEN.out; omega); intro v2 w2 ho hb hg hat; have BK2 := Aside0.mk (blk_grown BKgb.out hg (Kd.R_ne HO.out BKgb.out (by decide))); have HO2 := Aside0.mk ho; have HB2 := Aside0.mk hb; clear ho hb hg hat HO HB BKgb))
        try rw [← HE5.out]
        go_roundg ((L 5).length + 1 - (u + 1))
        case measure => omega
        case rel => exact ⟨u + 1, by omega, rfl, by go_num, ⟨by rw [HOY.out]; exact HO2.out⟩, BK2, HB2⟩
      · have HOY : Aside0 (blkL (L 5) (x + 1) (u + 1) = blkL (L 5) (x + 1) u) := ⟨blkL_no (by rw [HV.out]; exact ho)⟩
        have hob : (o == x + 1) = false := beq_eq_false_iff_ne.mpr ho
        clear ho
        go_wp2
        try rw [← HE5.out]
        go_roundg ((L 5).length + 1 - (u + 1))
        case measure => omega
        case rel => exact ⟨u + 1, by omega, rfl, by go_num, ⟨by rw [HOY.out]; exact HO.out⟩, BKgb, HB⟩
    · have hul : u = (L 5).length := by omega
      have HO3 := Aside0.mk (show Kd.R (Kd.int .i64) 3 wr w.heap.size (fun _ => True) u5 (blkL (L 5) (x + 1) (L 5).length) by rw [← hul]; exact HO.out)
      clear hul
      have hnu : ¬ (u : Int) < ((L 5).length : Int) := by omega
      go_wp2
      go_ret
      exact RetL.mk rfl rfl HO3.out HB.out
def OfP (s : Int) (L : Nat → List Int) (x : Int) (l : List Int) : Prop := (BookP s L → l = if 0 ≤ x ∧ x ≤ s - 1 then blkL (L 5) (x + 1) (L 5).length else []) ∧ (¬ BookP s L → l = [])
set_option maxHeartbeats 2000000 in
set_option maxRecDepth 100000 in
theorem implBookOf_calls (s : Int) (A : Nat → Option Addr) (c : Nat → Nat) (L : Nat → List Int) (x : Int) (w : World) (h : BkC w A c L) (hl : ∀ i, (L i).length ≤ 1048576) (hw : ∀ i, Wf64 (L i)) :
    Calls Try.prog 26 #[.agg (bkCells s A c L), .int .i64 x] w (RetL (OfP s L x) w) := by
  have HR := Aside0.mk h
  have HL := Aside0.mk hl
  have HL2 : Aside0 (∀ i, (L i).length ≤ 35184372088832) := ⟨fun i => by have := hl i; omega⟩
  have HW := Aside0.mk hw
  clear h hl hw
  have HB := Aside0.mk (Below.refl w.heap.size w)
  go_enter Try.func26, Try.ntmps26
  go_wp2_with (first | ((with_reducible refine gate_dst (N := 2) rfl ?_); refine box_event rfl (N := 2) rfl (cs := bkCells s A c L) (t := 27) (by first | (go_simp; done) | (go_simp; rfl)) ?_; intro gb hggb w1 hbox hb; have n0_ := Aside0.mk (below_step HB.out hb); have BKgb := Aside0.mk hbox; have HGgb := Aside0.mk (show w.heap.size ≤ gb by rw [hggb]; exact HB.out.size); clear HB; have HB := n0_; have fgbs0 : w1.cell? ⟨gb, 0, none⟩ = some (.int .i64 _) := (blk_cell BKgb.out 0).trans rfl; have fgb1 : w1.cell? ⟨gb, 1, none⟩ = some (.slice (A 0) (L 0).length (c 0)) := (blk_cell BKgb.out 1).trans rfl; have fgb2 : w1.cell? ⟨gb, 2, none⟩ = some (.slice (A 1) (L 1).length (c 1)) := (blk_cell BKgb.out 2).trans rfl; have fgb3 : w1.cell? ⟨gb, 3, none⟩ = some (.slice (A 2) (L 2).length (c 2)) := (blk_cell BKgb.out 3).trans rfl; have fgb4 : w1.cell? ⟨gb, 4, none⟩ = some (.slice (A 3) (L 3).length (c 3)) := (blk_cell BKgb.out 4).trans rfl; have fgb5 : w1.cell? ⟨gb, 5, none⟩ = some (.slice (A 4) (L 4).length (c 4)) := (blk_cell BKgb.out 5).trans rfl; have fgb6 : w1.cell? ⟨gb, 6, none⟩ = some (.slice (A 5) (L 5).length (c 5)) := (blk_cell BKgb.out 6).trans rfl; have fgb7 : w1.cell? ⟨gb, 7, none⟩ = some (.slice (A 6) (L 6).length (c 6)) := (blk_cell BKgb.out 7).trans rfl; have fgb8 : w1.cell? ⟨gb, 8, none⟩ = some (.slice (A 7) (L 7).length (c 7)) := (blk_cell BKgb.out 8).trans rfl; have fgbz0 := blk_frozen BKgb.out 0; have fgbz1 := blk_frozen BKgb.out 1; have fgbz2 := blk_frozen BKgb.out 2; have fgbz3 := blk_frozen BKgb.out 3; have fgbz4 := blk_frozen BKgb.out 4; have fgbz5 := blk_frozen BKgb.out 5; have fgbz6 := blk_frozen BKgb.out 6; have fgbz7 := blk_frozen BKgb.out 7; have fgbz8 := blk_frozen BKgb.out 8; clear n0_ hbox hb hggb))
  refine (implBookOk_calls s A c L _ (HR.out.below HB.out) HL2.out (HW.out 0) (HW.out 5)).mono ?_
  rintro e w3 ⟨r, rfl, hr, hb⟩
  have HRR : Aside0 (r = true ↔ BookP s L) := ⟨hr.trans (book_iff s L).symm⟩
  have HB3 := Aside0.mk (below_step HB.out hb)
  have BK3 := Aside0.mk (blk_below BKgb.out hb)
  clear HB BKgb hb hr
  clear fgbs0 fgbz0 fgb1 fgbz1 fgb2 fgbz2 fgb3 fgbz3 fgb4 fgbz4 fgb5 fgbz5 fgb6 fgbz6 fgb7 fgbz7 fgb8 fgbz8
  cases r with
  | false =>
    have HN : Aside0 (¬ BookP s L) := ⟨fun q => by have := HRR.out.mpr q; cases this⟩
    go_wp2
    go_ret
    exact RetL.mk (l := []) rfl ⟨fun q => absurd q HN.out, fun _ => rfl⟩ (Kd.R_nil _ _ _ _ _) HB3.out
  | true =>
    have HY : Aside0 (BookP s L) := ⟨HRR.out.mp rfl⟩
    have hs1 : 1 ≤ s := by have := HY.out.1.1.1; omega
    have hs4 : s ≤ 4 := by have := HY.out.1.1.2.1; omega
    have fgbs0 : w3.cell? ⟨gb, 0, none⟩ = some (.int .i64 _) := (blk_cell BK3.out 0).trans rfl; have fgb1 : w3.cell? ⟨gb, 1, none⟩ = some (.slice (A 0) (L 0).length (c 0)) := (blk_cell BK3.out 1).trans rfl; have fgb2 : w3.cell? ⟨gb, 2, none⟩ = some (.slice (A 1) (L 1).length (c 1)) := (blk_cell BK3.out 2).trans rfl; have fgb3 : w3.cell? ⟨gb, 3, none⟩ = some (.slice (A 2) (L 2).length (c 2)) := (blk_cell BK3.out 3).trans rfl; have fgb4 : w3.cell? ⟨gb, 4, none⟩ = some (.slice (A 3) (L 3).length (c 3)) := (blk_cell BK3.out 4).trans rfl; have fgb5 : w3.cell? ⟨gb, 5, none⟩ = some (.slice (A 4) (L 4).length (c 4)) := (blk_cell BK3.out 5).trans rfl; have fgb6 : w3.cell? ⟨gb, 6, none⟩ = some (.slice (A 5) (L 5).length (c 5)) := (blk_cell BK3.out 6).trans rfl; have fgb7 : w3.cell? ⟨gb, 7, none⟩ = some (.slice (A 6) (L 6).length (c 6)) := (blk_cell BK3.out 7).trans rfl; have fgb8 : w3.cell? ⟨gb, 8, none⟩ = some (.slice (A 7) (L 7).length (c 7)) := (blk_cell BK3.out 8).trans rfl; have fgbz0 := blk_frozen BK3.out 0; have fgbz1 := blk_frozen BK3.out 1; have fgbz2 := blk_frozen BK3.out 2; have fgbz3 := blk_frozen BK3.out 3; have fgbz4 := blk_frozen BK3.out 4; have fgbz5 := blk_frozen BK3.out 5; have fgbz6 := blk_frozen BK3.out 6; have fgbz7 := blk_frozen BK3.out 7; have fgbz8 := blk_frozen BK3.out 8
    by_cases hx : 0 ≤ x ∧ x ≤ s - 1
    · have hxb : withinB x 0 (s - 1) = true := within_t.mpr hx
      have HX := Aside0.mk hx
      obtain ⟨hx0, hx1⟩ := hx
      go_wp2_with fail
      refine (isSlot_calls s A c L x _ hs1 hs4).mono ?_
      rintro e w4 ⟨rfl, hb⟩
      have HB4 := Aside0.mk (below_step HB3.out hb)
      have BK4 := Aside0.mk (blk_below BK3.out hb)
      clear hb HB3 BK3
      clear fgbs0 fgbz0 fgb1 fgbz1 fgb2 fgbz2 fgb3 fgbz3 fgb4 fgbz4 fgb5 fgbz5 fgb6 fgbz6 fgb7 fgbz7 fgb8 fgbz8
      have fgbs0 : w4.cell? ⟨gb, 0, none⟩ = some (.int .i64 _) := (blk_cell BK4.out 0).trans rfl; have fgb1 : w4.cell? ⟨gb, 1, none⟩ = some (.slice (A 0) (L 0).length (c 0)) := (blk_cell BK4.out 1).trans rfl; have fgb2 : w4.cell? ⟨gb, 2, none⟩ = some (.slice (A 1) (L 1).length (c 1)) := (blk_cell BK4.out 2).trans rfl; have fgb3 : w4.cell? ⟨gb, 3, none⟩ = some (.slice (A 2) (L 2).length (c 2)) := (blk_cell BK4.out 3).trans rfl; have fgb4 : w4.cell? ⟨gb, 4, none⟩ = some (.slice (A 3) (L 3).length (c 3)) := (blk_cell BK4.out 4).trans rfl; have fgb5 : w4.cell? ⟨gb, 5, none⟩ = some (.slice (A 4) (L 4).length (c 4)) := (blk_cell BK4.out 5).trans rfl; have fgb6 : w4.cell? ⟨gb, 6, none⟩ = some (.slice (A 5) (L 5).length (c 5)) := (blk_cell BK4.out 6).trans rfl; have fgb7 : w4.cell? ⟨gb, 7, none⟩ = some (.slice (A 6) (L 6).length (c 6)) := (blk_cell BK4.out 7).trans rfl; have fgb8 : w4.cell? ⟨gb, 8, none⟩ = some (.slice (A 7) (L 7).length (c 7)) := (blk_cell BK4.out 8).trans rfl; have fgbz0 := blk_frozen BK4.out 0; have fgbz1 := blk_frozen BK4.out 1; have fgbz2 := blk_frozen BK4.out 2; have fgbz3 := blk_frozen BK4.out 3; have fgbz4 := blk_frozen BK4.out 4; have fgbz5 := blk_frozen BK4.out 5; have fgbz6 := blk_frozen BK4.out 6; have fgbz7 := blk_frozen BK4.out 7; have fgbz8 := blk_frozen BK4.out 8
      go_wp2_with fail
      refine (blocks_calls s A c L x _ (HR.out.below HB4.out) HL.out hx0 (by omega)).mono ?_
      rintro e w5 ⟨l, A', c', rfl, hl, ho, hb⟩
      have HB5 := Aside0.mk (below_step HB4.out hb)
      have HO5 := Aside0.mk (ho.wide HB4.out.size (Nat.le_refl _))
      have HLL := Aside0.mk hl
      clear hb ho hl
      go_wp2
      go_ret
      exact ⟨l, A', c', rfl, ⟨fun _ => by rw [if_pos HX.out]; exact HLL.out, fun q => absurd HY.out q⟩, HO5.out, HB5.out⟩
    · have hxb : withinB x 0 (s - 1) = false := within_f hx
      have HX := Aside0.mk hx
      clear hx
      go_wp2_with fail
      refine (isSlot_calls s A c L x _ hs1 hs4).mono ?_
      rintro e w4 ⟨rfl, hb⟩
      have HB4 := Aside0.mk (below_step HB3.out hb)
      clear hb
      go_wp2
      go_ret
      exact RetL.mk (l := []) rfl ⟨fun _ => by rw [if_neg HX.out], fun q => absurd HY.out q⟩ (Kd.R_nil _ _ _ _ _) HB4.out
set_option maxHeartbeats 2000000 in
set_option maxRecDepth 100000 in
theorem of_eq {s x : Int} {L : Nat → List Int} (h : BookP s L) (h0 : -9223372036854775808 ≤ x) (h1 : x ≤ 9223372036854775807) : (if 0 ≤ x then blkL (L 5) (wrap64 (x + 1)) (L 5).length else []) = if 0 ≤ x ∧ x ≤ s - 1 then blkL (L 5) (x + 1) (L 5).length else [] := by
  have hs4 : s ≤ 4 := by have := h.1.1.2.1; omega
  by_cases hx0 : 0 ≤ x
  · rw [if_pos hx0]
    by_cases hx1 : x ≤ s - 1
    · rw [if_pos ⟨hx0, hx1⟩, show wrap64 (x + 1) = x + 1 by unfold wrap64; omega]
    · rw [if_neg (fun q => hx1 q.2)]
      refine blkL_none fun u hu e => ?_
      have h2 := (h.1.2.2 u hu).1
      have h3 := (h.1.2.2 u hu).2.1
      rw [e] at h2 h3
      have : wrap64 (x + 1) = x + 1 ∨ wrap64 (x + 1) = -9223372036854775808 := by unfold wrap64; omega
      omega
  · rw [if_neg hx0, if_neg (fun q => hx0 q.1)]
set_option maxHeartbeats 2000000 in
set_option maxRecDepth 100000 in
theorem specBookOf_calls (s : Int) (A : Nat → Option Addr) (c : Nat → Nat) (L : Nat → List Int) (x : Int) (w : World) (h : BkC w A c L) (hl : ∀ i, (L i).length ≤ 1048576) (hw : ∀ i, Wf64 (L i)) (hxr : -9223372036854775808 ≤ x ∧ x ≤ 9223372036854775807) :
    Calls Try.prog 25 #[.agg (bkCells s A c L), .int .i64 x] w (RetL (OfP s L x) w) := by
  have HR := Aside0.mk h
  have HL := Aside0.mk hl
  have HL2 : Aside0 (∀ i, (L i).length ≤ 35184372088832) := ⟨fun i => by have := hl i; omega⟩
  have HW := Aside0.mk hw
  have HX := Aside0.mk hxr
  have hl5 : ((L 5).length : Int) ≤ 1048576 := by have := hl 5; omega
  obtain ⟨y, hy⟩ : ∃ y, wrap64 (x + 1) = y := ⟨_, rfl⟩
  have HYE := Aside0.mk hy
  clear h hl hw hxr
  have HB := Aside0.mk (Below.refl w.heap.size w)
  go_enter Try.func25, Try.ntmps25
  go_wp2_with (first | ((with_reducible refine gate_dst (N := 2) rfl ?_); refine box_event rfl (N := 2) rfl (cs := bkCells s A c L) (t := 27) (by first | (go_simp; done) | (go_simp; rfl)) ?_; intro gb hggb w1 hbox hb; have n0_ := Aside0.mk (below_step HB.out hb); have BKgb := Aside0.mk hbox; have HGgb := Aside0.mk (show w.heap.size ≤ gb by rw [hggb]; exact HB.out.size); clear HB; have HB := n0_; clear n0_ hbox hb hggb) | ((with_reducible refine gate_dst (N := 7) rfl ?_); refine Kd.R_lit (Kd.int .i64) _ 3 ?hg (N := 7) ?hd (xs := ([] : List Int)) (inner := []) (ok := fun _ => True) (okp := fun _ => True) ?hr ?hp (fun _ hk => hk) trivial (Below.refl _ _) (Nat.le_refl _) (by simp) ?_; (case hd => rfl); (case hg => rfl); (case hr => first | (go_simp; done) | (go_simp; rfl)); (case hp => exact (Reps.none _ _)); intro v0 w3 ho4 hb hg_ hnew_; clear hg_ hnew_; have HO := Aside0.mk (Kd.R_lower ho4 (below_size HB.out)); have HB2 := Aside0.mk (below_step HB.out hb); have BK2 := Aside0.mk (blk_below BKgb.out hb); clear hb ho4 HB BKgb))
  go_loopg [5, 6] ((L 5).length + 1) (fun kq v5 v6 w' => ∃ u : Nat, u ≤ (L 5).length ∧ kq = (L 5).length + 1 - u ∧ v6 = .int .i64 u ∧ Aside0 (¬ BookP s L → u = 0) ∧ Aside0 (Kd.R (Kd.int .i64) 3 w' w.heap.size (fun _ => True) v5 (if 0 ≤ x then blkL (L 5) y u else [])) ∧ Aside0 (w'.heap[gb]? = some (.cells (bkCells s A c L) 27 (0, 0))) ∧ Aside0 (Below w.heap.size w w'))
  case atStart => exact ⟨0, by omega, rfl, rfl, ⟨fun _ => rfl⟩, ⟨by rw [show (if 0 ≤ x then blkL (L 5) y 0 else []) = ([] : List Int) by split <;> rfl]; exact HO.out⟩, BK2, HB2⟩
  case round =>
    clear HO HB2 BK2
    obtain ⟨u, hu, rfl, rfl, HN0, HO, BKgb, HB⟩ := hrel
    have fgbs0 : wr.cell? ⟨gb, 0, none⟩ = some (.int .i64 _) := (blk_cell BKgb.out 0).trans rfl; have fgb1 : wr.cell? ⟨gb, 1, none⟩ = some (.slice (A 0) (L 0).length (c 0)) := (blk_cell BKgb.out 1).trans rfl; have fgb2 : wr.cell? ⟨gb, 2, none⟩ = some (.slice (A 1) (L 1).length (c 1)) := (blk_cell BKgb.out 2).trans rfl; have fgb3 : wr.cell? ⟨gb, 3, none⟩ = some (.slice (A 2) (L 2).length (c 2)) := (blk_cell BKgb.out 3).trans rfl; have fgb4 : wr.cell? ⟨gb, 4, none⟩ = some (.slice (A 3) (L 3).length (c 3)) := (blk_cell BKgb.out 4).trans rfl; have fgb5 : wr.cell? ⟨gb, 5, none⟩ = some (.slice (A 4) (L 4).length (c 4)) := (blk_cell BKgb.out 5).trans rfl; have fgb6 : wr.cell? ⟨gb, 6, none⟩ = some (.slice (A 5) (L 5).length (c 5)) := (blk_cell BKgb.out 6).trans rfl; have fgb7 : wr.cell? ⟨gb, 7, none⟩ = some (.slice (A 6) (L 6).length (c 6)) := (blk_cell BKgb.out 7).trans rfl; have fgb8 : wr.cell? ⟨gb, 8, none⟩ = some (.slice (A 7) (L 7).length (c 7)) := (blk_cell BKgb.out 8).trans rfl; have fgbz0 := blk_frozen BKgb.out 0; have fgbz1 := blk_frozen BKgb.out 1; have fgbz2 := blk_frozen BKgb.out 2; have fgbz3 := blk_frozen BKgb.out 3; have fgbz4 := blk_frozen BKgb.out 4; have fgbz5 := blk_frozen BKgb.out 5; have fgbz6 := blk_frozen BKgb.out 6; have fgbz7 := blk_frozen BKgb.out 7; have fgbz8 := blk_frozen BKgb.out 8
    go_wp2_with fail
    refine (specBookOk_calls s A c L _ (HR.out.below HB.out) HL2.out (HW.out 0)).mono ?_
    rintro e w3 ⟨r, rfl, hr, hb⟩
    have HRR := Aside0.mk hr
    have HB3 := Aside0.mk (below_step HB.out hb)
    have BK3 := Aside0.mk (blk_below BKgb.out hb)
    have HO3 := Aside0.mk (Kd.R_below HO.out hb)
    clear HB BKgb hb hr HO
    clear fgbs0 fgbz0 fgb1 fgbz1 fgb2 fgbz2 fgb3 fgbz3 fgb4 fgbz4 fgb5 fgbz5 fgb6 fgbz6 fgb7 fgbz7 fgb8 fgbz8
    have HB := HB3
    have BKgb := BK3
    have HO := HO3
    clear HB3 BK3 HO3
    cases r with
    | false =>
      have HN : Aside0 (¬ BookP s L) := ⟨fun q => by have := HRR.out.mpr q; cases this⟩
      have HO3 := Aside0.mk (show Kd.R (Kd.int .i64) 3 w3 w.heap.size (fun _ => True) u5 [] by have := HO.out; rw [HN0.out HN.out, show (if 0 ≤ x then blkL (L 5) y 0 else []) = ([] : List Int) by split <;> rfl] at this; exact this)
      go_wp2
      go_ret
      exact RetL.mk rfl ⟨fun q => absurd q HN.out, fun _ => rfl⟩ HO3.out HB.out
    | true =>
      have HY : Aside0 (BookP s L) := ⟨HRR.out.mp rfl⟩
      by_cases hlt : u < (L 5).length
      · have u0 : (0 : Int) ≤ (u : Int) := by omega
        have u1 : (u : Int) < ((L 5).length : Int) := by omega
        obtain ⟨ad5, o, ea5, hx5, HV⟩ := at_v ((HR.out 5 (by omega)).below HB.out) u hlt
        have hc6 : w3.cell? ⟨gb, 6, none⟩ = some (.slice (some ad5) (L 5).length (c 5)) := (blk_cell BKgb.out 6).trans (by rw [← ea5]; rfl)
        have hz6 := blk_frozen BKgb.out 6
        clear ea5
        have HNN : Aside0 (¬ BookP s L → u + 1 = 0) := ⟨fun q => absurd HY.out q⟩
        by_cases ho : o = y
        · have hob : (o == y) = true := beq_iff_eq.mpr ho
          by_cases hx0 : 0 ≤ x
          · have HOY : Aside0 ((if 0 ≤ x then blkL (L 5) y (u + 1) else []) = blkL (L 5) y u ++ [(u : Int)]) := ⟨by rw [if_pos hx0]; exact blkL_yes (by rw [HV.out]; exact ho)⟩
            have HO1 := Aside0.mk (show Kd.R (Kd.int .i64) 3 w3 w.heap.size (fun _ => True) u5 (blkL (L 5) y u) by have := HO.out; rw [if_pos hx0] at this; exact this)
            clear HO ho
            have HO := HO1
            clear HO1
            have HLEN := Aside0.mk (show (blkL (L 5) y u).length ≤ 1048576 by have := blkL_len (L 5) y u; omega)
            go_wp2_with (first | ((with_reducible refine gate_builtin (b := .append) (xs := #[.tmp 31, .tmp 33]) rfl ?_); at_builtin; refine Kd.R_append (Kd.int .i64) (w0 := w) w.heap.size rfl (.tmp 31) (.tmp 33) 24 3 (.int .i64 0) 8 rfl Try.underlying24 info3 rfl (by decide) (by omega) u5 (blkL (L 5) y u) (u : Int) [.int .i64 (u : Int)] (fun _ => True) (fun _ => False) rfl rfl ?aP (fun _ hk => hk.elim) ?aF ?aO ?aB ?aS ?aL ?_; (case aP => exact rfl); (case aB => exact HB.out); (case aF => exact (fun _ _ => trivial)); (case aO => exact HO.out); (case aS => exact below_size HB.out); (case aL => have := HLEN.out; omega); intro v2 w2 ho hb hg hat; have BK2 := Aside0.mk (blk_grown BKgb.out hg (Kd.R_ne HO.out BKgb.out (by decide))); have HO2 := Aside0.mk ho; have HB2 := Aside0.mk hb; clear ho hb hg hat HO HB BKgb))
            go_roundg ((L 5).length + 1 - (u + 1))
            case measure => omega
            case rel => exact ⟨u + 1, by omega, rfl, by go_num, HNN, ⟨by rw [HOY.out]; exact HO2.out⟩, BK2, HB2⟩
          · have HOY : Aside0 ((if 0 ≤ x then blkL (L 5) y (u + 1) else []) = (if 0 ≤ x then blkL (L 5) y u else [])) := ⟨by rw [if_neg hx0, if_neg hx0]⟩
            clear ho
            go_wp2
            go_roundg ((L 5).length + 1 - (u + 1))
            case measure => omega
            case rel => exact ⟨u + 1, by omega, rfl, by go_num, HNN, ⟨by rw [HOY.out]; exact HO.out⟩, BKgb, HB⟩
        · have HOY : Aside0 ((if 0 ≤ x then blkL (L 5) y (u + 1) else []) = (if 0 ≤ x then blkL (L 5) y u else [])) := ⟨by rw [blkL_no (by rw [HV.out]; exact ho)]⟩
          have hob : (o == y) = false := beq_eq_false_iff_ne.mpr ho
          clear ho
          go_wp2
          go_roundg ((L 5).length + 1 - (u + 1))
          case measure => omega
          case rel => exact ⟨u + 1, by omega, rfl, by go_num, HNN, ⟨by rw [HOY.out]; exact HO.out⟩, BKgb, HB⟩
      · have hul : u = (L 5).length := by omega
        have HO3 := Aside0.mk (show Kd.R (Kd.int .i64) 3 w3 w.heap.size (fun _ => True) u5 (if 0 ≤ x then blkL (L 5) y (L 5).length else []) by rw [← hul]; exact HO.out)
        have HFN : Aside0 ((if 0 ≤ x then blkL (L 5) y (L 5).length else []) = if 0 ≤ x ∧ x ≤ s - 1 then blkL (L 5) (x + 1) (L 5).length else []) := ⟨by rw [← HYE.out]; exact of_eq HY.out HX.out.1 HX.out.2⟩
        clear hul
        have hnu : ¬ (u : Int) < ((L 5).length : Int) := by omega
        have fgbs0 : w3.cell? ⟨gb, 0, none⟩ = some (.int .i64 _) := (blk_cell BKgb.out 0).trans rfl; have fgb1 : w3.cell? ⟨gb, 1, none⟩ = some (.slice (A 0) (L 0).length (c 0)) := (blk_cell BKgb.out 1).trans rfl; have fgb2 : w3.cell? ⟨gb, 2, none⟩ = some (.slice (A 1) (L 1).length (c 1)) := (blk_cell BKgb.out 2).trans rfl; have fgb3 : w3.cell? ⟨gb, 3, none⟩ = some (.slice (A 2) (L 2).length (c 2)) := (blk_cell BKgb.out 3).trans rfl; have fgb4 : w3.cell? ⟨gb, 4, none⟩ = some (.slice (A 3) (L 3).length (c 3)) := (blk_cell BKgb.out 4).trans rfl; have fgb5 : w3.cell? ⟨gb, 5, none⟩ = some (.slice (A 4) (L 4).length (c 4)) := (blk_cell BKgb.out 5).trans rfl; have fgb6 : w3.cell? ⟨gb, 6, none⟩ = some (.slice (A 5) (L 5).length (c 5)) := (blk_cell BKgb.out 6).trans rfl; have fgb7 : w3.cell? ⟨gb, 7, none⟩ = some (.slice (A 6) (L 6).length (c 6)) := (blk_cell BKgb.out 7).trans rfl; have fgb8 : w3.cell? ⟨gb, 8, none⟩ = some (.slice (A 7) (L 7).length (c 7)) := (blk_cell BKgb.out 8).trans rfl; have fgbz0 := blk_frozen BKgb.out 0; have fgbz1 := blk_frozen BKgb.out 1; have fgbz2 := blk_frozen BKgb.out 2; have fgbz3 := blk_frozen BKgb.out 3; have fgbz4 := blk_frozen BKgb.out 4; have fgbz5 := blk_frozen BKgb.out 5; have fgbz6 := blk_frozen BKgb.out 6; have fgbz7 := blk_frozen BKgb.out 7; have fgbz8 := blk_frozen BKgb.out 8
        go_wp2
        go_ret
        exact RetL.mk rfl ⟨fun _ => HFN.out, fun q => absurd HY.out q⟩ HO3.out HB.out
theorem OfP.one {s : Int} {L : Nat → List Int} {x : Int} {l l' : List Int} (h : OfP s L x l) (h' : OfP s L x l') : l = l' := by
  by_cases q : BookP s L
  · rw [h.1 q, h'.1 q]
  · rw [h.2 q, h'.2 q]
theorem OfP.len {s : Int} {L : Nat → List Int} {x : Int} {l : List Int} (h : OfP s L x l) : l.length ≤ (L 5).length := by
  by_cases q : BookP s L
  · rw [h.1 q]
    split
    · exact blkL_len _ _ _
    · simp
  · rw [h.2 q]; simp
end Go.Proofs.Ytekneicikmaplaa.Bk
namespace Go.Proofs.Ytekneicikmaplaa.Bv
open Go.RowKit Go.Proofs.Ytekneicikmaplaa.Bk
variable {s : Int} {L : Nat → List Int}
/-- What an owned unit is: a room of a kind, or of whole pages. -/
theorem owned (h : BookP s L) {u : Nat} (hu : u < (L 5).length) (hO : (L 5).getD u 0 > 0) :
    (∃ k : Nat, k < 4 ∧ (L 0).getD (u / 8) 0 = (k : Int) + 1 ∧ u % sz k = 0 ∧ RoomV L (u : Int) = (sz k : Int)) ∨
    (∃ n : Nat, 2 ≤ n ∧ n ≤ 4 ∧ (L 0).getD (u / 8) 0 = 8 + (n : Int) ∧ u % 8 = 0 ∧ RoomV L (u : Int) = (n : Int) * 8 ∧ (∀ v, 1 ≤ v → v < 8 → ¬ (L 5).getD (u / 8 * 8 + v) 0 > 0) ∧ ∀ i, 1 ≤ i → i < n → (L 0).getD (u / 8 + i) 0 = 7) := by
  have hn : (L 5).length = (L 0).length * 8 := by have := h.1.1.2.2.2.2.2.2; omega
  have hp := h.2.2 (u / 8) (by omega)
  have hr : RoomV L (u : Int) = if 1 ≤ (L 0).getD (u / 8) 0 ∧ (L 0).getD (u / 8) 0 ≤ 4 then (sizeN ((L 0).getD (u / 8) 0 - 1).toNat : Int) else ((L 0).getD (u / 8) 0 - 8) * 8 := by
    unfold RoomV
    rw [if_neg (by omega), if_neg (by omega), Int.toNat_natCast, if_neg (by omega), show ((u : Int) / 8).toNat = u / 8 by omega]
  have e8 : u / 8 * 8 + u % 8 = u := by omega
  unfold PageP at hp
  split at hp
  · have := hp (u % 8) (by omega) (by omega)
    rw [e8] at this; omega
  · split at hp
    · rename_i h0 h4
      obtain ⟨k, hk⟩ : ∃ k : Nat, (L 0).getD (u / 8) 0 = (k : Int) + 1 := ⟨((L 0).getD (u / 8) 0 - 1).toNat, by omega⟩
      have hk4 : k < 4 := by omega
      rw [if_pos h4, hk, show ((k : Int) + 1 - 1).toNat = k by omega, sz_eq] at hr
      rw [hk, show ((k : Int) + 1 - 1).toNat = k by omega, sz_eq] at hp
      refine .inl ⟨k, hk4, hk, ?_, hr⟩
      have := hp.1 (u % 8) (by omega)
      unfold RoomU at this
      rw [e8] at this
      by_cases e : u % 8 % sz k = 0
      · rw [show u = u / 8 * 8 + u % 8 by omega, sz_mod]; exact e
      · rw [if_pos (by omega)] at this
        exact absurd (.inl hO) this
    · split at hp
      · obtain ⟨q, _, _, _, hf⟩ := hp
        have := hf (u % 8) (by omega) (by omega)
        rw [e8] at this; omega
      · rename_i h0 h4 h7
        obtain ⟨w1, w2, w3, w4, w5, w6⟩ := hp
        rw [if_neg h4] at hr
        obtain ⟨n, hn2⟩ : ∃ n : Nat, (L 0).getD (u / 8) 0 = 8 + (n : Int) := ⟨((L 0).getD (u / 8) 0 - 8).toNat, by omega⟩
        refine .inr ⟨n, by omega, by omega, hn2, ?_, by rw [hr, hn2]; omega, fun v h1 h2 => w5 v h1 h2, fun i h1 h2 => w6 i h1 (by omega)⟩
        by_cases e : u % 8 = 0
        · exact e
        · have := w5 (u % 8) (by omega) (by omega)
          rw [e8] at this; omega
theorem sz_cases {k : Nat} (hk : k < 4) : sz k = 1 ∨ sz k = 2 ∨ sz k = 4 ∨ sz k = 8 := by
  match k, hk with
  | 0, _ => exact .inl rfl
  | 1, _ => exact .inr (.inl rfl)
  | 2, _ => exact .inr (.inr (.inl rfl))
  | 3, _ => exact .inr (.inr (.inr rfl))
theorem room_ok (h : BookP s L) {u : Nat} (hu : u < (L 5).length) (hO : (L 5).getD u 0 > 0) :
    1 ≤ RoomV L (u : Int) ∧ RoomV L (u : Int) ≤ 32 ∧ (RoomV L (u : Int) < 8 → (u : Int) % RoomV L (u : Int) = 0) ∧ (RoomV L (u : Int) ≥ 8 → (u : Int) % 8 = 0) := by
  rcases owned h hu hO with ⟨k, hk, h1, h2, h3⟩ | ⟨n, h1, h2, h3, h4, h5, _⟩
  · rw [h3]
    rcases sz_cases hk with e | e | e | e <;> rw [e] at h2 ⊢ <;> refine ⟨by omega, by omega, fun _ => by omega, fun _ => by omega⟩
  · rw [h5]; refine ⟨by omega, by omega, fun _ => by omega, fun _ => by omega⟩
theorem room_next (h : BookP s L) {u v : Nat} (hu : u < (L 5).length) (hO : (L 5).getD u 0 > 0) (hv : v < (L 5).length) (hOv : (L 5).getD v 0 > 0) (huv : u < v) : (u : Int) + RoomV L (u : Int) ≤ (v : Int) := by
  have hn : (L 5).length = (L 0).length * 8 := by have := h.1.1.2.2.2.2.2.2; omega
  rcases owned h hu hO with ⟨k, hk, h1, h2, h3⟩ | ⟨n, h1, h2, h3, h4, h5, h6, h7⟩
  · rw [h3]
    rcases owned h hv hOv with ⟨j, hj, j1, j2, j3⟩ | ⟨n, j1, j2, j3, j4, j5, _⟩
    · by_cases e : v / 8 = u / 8
      · rw [e, h1] at j1
        obtain rfl : j = k := by omega
        rcases sz_cases hk with e | e | e | e <;> rw [e] at h2 j2 ⊢ <;> omega
      · rcases sz_cases hk with e | e | e | e <;> rw [e] at h2 ⊢ <;> omega
    · by_cases e : v / 8 = u / 8
      · rw [e] at j3; omega
      · rcases sz_cases hk with e | e | e | e <;> rw [e] at h2 ⊢ <;> omega
  · rw [h5]
    by_cases e : v / 8 = u / 8
    · exact absurd hOv (by have := h6 (v % 8) (by omega) (by omega); rwa [show u / 8 * 8 + v % 8 = v by omega] at this)
    · by_cases e2 : v / 8 < u / 8 + n
      · have h8 := h7 (v / 8 - u / 8) (by omega) (by omega)
        rw [show u / 8 + (v / 8 - u / 8) = v / 8 by omega] at h8
        rcases owned h hv hOv with ⟨j, hj, j1, _⟩ | ⟨m, _, _, j3, _⟩ <;> omega
      · omega
/-- A slot's rooms: what stands in its list. -/
theorem blkL_mem {O : List Int} {y : Int} : ∀ {n : Nat} {x : Int}, x ∈ blkL O y n → ∃ u : Nat, x = (u : Int) ∧ u < n ∧ O.getD u 0 = y
  | 0, x, h => by simp [blkL] at h
  | n + 1, x, h => by
    by_cases e : O.getD n 0 = y
    · rw [blkL_yes e] at h
      rcases List.mem_append.1 h with h | h
      · obtain ⟨u, h1, h2, h3⟩ := blkL_mem h; exact ⟨u, h1, by omega, h3⟩
      · exact ⟨n, by simpa using h, by omega, e⟩
    · rw [blkL_no e] at h
      obtain ⟨u, h1, h2, h3⟩ := blkL_mem h; exact ⟨u, h1, by omega, h3⟩
theorem blkL_asc {O : List Int} {y : Int} : ∀ (n : Nat), (blkL O y n).Pairwise (· < ·)
  | 0 => List.Pairwise.nil
  | n + 1 => by
    by_cases e : O.getD n 0 = y
    · rw [blkL_yes e]
      refine List.pairwise_append.2 ⟨blkL_asc n, List.pairwise_singleton _ _, fun a ha b hb => ?_⟩
      obtain ⟨u, h1, h2, _⟩ := blkL_mem ha
      have : b = (n : Int) := by simpa using hb
      omega
    · rw [blkL_no e]; exact blkL_asc n
theorem blkL_at (h : BookP s L) (y : Int) (hy : 0 < y) {i : Nat} (hi : i < (blkL (L 5) y (L 5).length).length) :
    ∃ u : Nat, (blkL (L 5) y (L 5).length).getD i 0 = (u : Int) ∧ u < (L 5).length ∧ (L 5).getD u 0 = y := by
  have : (blkL (L 5) y (L 5).length).getD i 0 ∈ blkL (L 5) y (L 5).length := by
    have e : (blkL (L 5) y (L 5).length).getD i 0 = (blkL (L 5) y (L 5).length)[i] := by simp [List.getD, hi]
    rw [e]; exact List.getElem_mem hi
  exact blkL_mem this
theorem blkL_next (h : BookP s L) (y : Int) (hy : 0 < y) {i : Nat} (hi : i + 1 < (blkL (L 5) y (L 5).length).length) :
    (blkL (L 5) y (L 5).length).getD i 0 + RoomV L ((blkL (L 5) y (L 5).length).getD i 0) ≤ (blkL (L 5) y (L 5).length).getD (i + 1) 0 := by
  obtain ⟨u, e1, hu, hO⟩ := blkL_at h y hy (i := i) (by omega)
  obtain ⟨v, e2, hv, hOv⟩ := blkL_at h y hy (i := i + 1) hi
  have hlt : (blkL (L 5) y (L 5).length).getD i 0 < (blkL (L 5) y (L 5).length).getD (i + 1) 0 := by
    have := List.pairwise_iff_getElem.1 (blkL_asc (O := L 5) (y := y) (L 5).length) i (i + 1) (by omega) hi (by omega)
    simpa [List.getD, hi, show i < (blkL (L 5) y (L 5).length).length by omega] using this
  rw [e1, e2] at hlt ⊢
  exact room_next h hu (by omega) hv (by omega) (by omega)
/-- How many of the first n units have an owner. -/
def ownC (O : List Int) : Nat → Nat
  | 0 => 0
  | n + 1 => ownC O n + if O.getD n 0 > 0 then 1 else 0
theorem ownC_le (O : List Int) (n : Nat) : ownC O n ≤ n := by
  induction n with
  | zero => exact Nat.le_refl _
  | succ n ih => unfold ownC; split <;> omega
theorem own_sum {O : List Int} {s : Int} (hs : s ≤ 4) : ∀ (n : Nat), (∀ u, u < n → 0 ≤ O.getD u 0 ∧ O.getD u 0 ≤ s) → (blkL O 1 n).length + (blkL O 2 n).length + (blkL O 3 n).length + (blkL O 4 n).length = ownC O n
  | 0, _ => rfl
  | n + 1, h => by
    have ih := own_sum hs n (fun u hu => h u (by omega))
    have hn := h n (by omega)
    unfold ownC
    rcases (show O.getD n 0 = 0 ∨ O.getD n 0 = 1 ∨ O.getD n 0 = 2 ∨ O.getD n 0 = 3 ∨ O.getD n 0 = 4 by omega) with e | e | e | e | e
    · rw [blkL_no (by omega), blkL_no (by omega), blkL_no (by omega), blkL_no (by omega), if_neg (by omega)]; omega
    · rw [blkL_yes e, blkL_no (by omega), blkL_no (by omega), blkL_no (by omega), if_pos (by omega), List.length_append, List.length_singleton]; omega
    · rw [blkL_no (by omega), blkL_yes e, blkL_no (by omega), blkL_no (by omega), if_pos (by omega), List.length_append, List.length_singleton]; omega
    · rw [blkL_no (by omega), blkL_no (by omega), blkL_yes e, blkL_no (by omega), if_pos (by omega), List.length_append, List.length_singleton]; omega
    · rw [blkL_no (by omega), blkL_no (by omega), blkL_no (by omega), blkL_yes e, if_pos (by omega), List.length_append, List.length_singleton]; omega
theorem book_sum (h : BookP s L) : (blkL (L 5) 1 (L 5).length).length + (blkL (L 5) 2 (L 5).length).length + (blkL (L 5) 3 (L 5).length).length + (blkL (L 5) 4 (L 5).length).length = ownC (L 5) (L 5).length := by
  refine own_sum (s := s) (by have := h.1.1.2.1; omega) _ (fun u hu => ?_)
  obtain ⟨h1, h2, _⟩ := h.1.2.2 u hu
  omega
end Go.Proofs.Ytekneicikmaplaa.Bv

/- How many units of some are owned: a walk. -/
import Derived.Test.YtekneicikmaplaaBk20
import Derived.DataElems
set_option linter.unusedVariables false
set_option linter.unusedSimpArgs false
namespace Go.Proofs.Ytekneicikmaplaa.Bk
open Go.RowKit Go.Proofs.YtekneicikmaplaaW.PrintWords Go.Proofs.YtekneicikmaplaaW.PrintLast Go.Proofs.YtekneicikmaplaaW.PrintMore

/-- How many of the n units from f on have an owner. -/
def NzN (O : List Int) (f : Nat) : Nat → Nat
  | 0 => 0
  | n + 1 => NzN O f n + if O.getD (f + n) 0 ≠ 0 then 1 else 0
theorem NzN_le (O : List Int) (f n : Nat) : NzN O f n ≤ n := by
  induction n with
  | zero => simp [NzN]
  | succ n ih => unfold NzN; split <;> omega
set_option maxHeartbeats 1000000 in
set_option maxRecDepth 100000 in
theorem owned_calls (s : Int) (A : Nat → Option Addr) (c : Nat → Nat) (L : Nat → List Int) (x t : Int) (f n : Nat) (w : World) (h : BkC w A c L) (hx : x = (f : Int)) (ht : t = (f : Int) + (n : Int)) (hn : 0 < n) (hf : f + n ≤ (L 5).length) (hl : (L 5).length ≤ 35184372088832) :
    Calls Try.prog 50 #[.agg (bkCells s A c L), .int .i64 x, .int .i64 t] w fun e w' => e = .returned (.int .i64 (NzN (L 5) f n : Nat)) ∧ Below w.heap.size w w' := by
  subst hx ht
  have HR := Aside0.mk h
  have HFN := Aside0.mk hf
  have hc5 := (h 5 (by omega)).2
  have HC5 := Aside0.mk hc5
  have HLn := Aside0.mk hl
  clear h
  have HB := Aside0.mk (Below.refl w.heap.size w)
  have q1 : (f : Int) + (n : Int) ≤ 35184372088832 := by omega
  have q2 : (f : Int) + (n : Int) ≤ (c 5 : Int) := by omega
  have q3 : ¬ (c 5 = f) := by omega
  have q4 : f + n ≤ c 5 := by omega
  have hu24 := Try.underlying24
  go_enter Try.func50, Try.ntmps50
  go_wp2_with (first | ((with_reducible refine gate_dst (N := 3) rfl ?_); refine box_event rfl (N := 3) rfl (cs := bkCells s A c L) (t := 27) (by first | (go_simp; done) | (go_simp; rfl)) ?_; intro gb hggb w1 hbox hb; have n0_ := Aside0.mk (below_step HB.out hb); have BKgb := Aside0.mk hbox; have HGgb := Aside0.mk (show w.heap.size ≤ gb by rw [hggb]; exact HB.out.size); clear HB; have HB := n0_; have fgbs0 : w1.cell? ⟨gb, 0, none⟩ = some (.int .i64 _) := (blk_cell BKgb.out 0).trans rfl; have fgb1 : w1.cell? ⟨gb, 1, none⟩ = some (.slice (A 0) (L 0).length (c 0)) := (blk_cell BKgb.out 1).trans rfl; have fgb2 : w1.cell? ⟨gb, 2, none⟩ = some (.slice (A 1) (L 1).length (c 1)) := (blk_cell BKgb.out 2).trans rfl; have fgb3 : w1.cell? ⟨gb, 3, none⟩ = some (.slice (A 2) (L 2).length (c 2)) := (blk_cell BKgb.out 3).trans rfl; have fgb4 : w1.cell? ⟨gb, 4, none⟩ = some (.slice (A 3) (L 3).length (c 3)) := (blk_cell BKgb.out 4).trans rfl; have fgb5 : w1.cell? ⟨gb, 5, none⟩ = some (.slice (A 4) (L 4).length (c 4)) := (blk_cell BKgb.out 5).trans rfl; have fgb6 : w1.cell? ⟨gb, 6, none⟩ = some (.slice (A 5) (L 5).length (c 5)) := (blk_cell BKgb.out 6).trans rfl; have fgb7 : w1.cell? ⟨gb, 7, none⟩ = some (.slice (A 6) (L 6).length (c 6)) := (blk_cell BKgb.out 7).trans rfl; have fgb8 : w1.cell? ⟨gb, 8, none⟩ = some (.slice (A 7) (L 7).length (c 7)) := (blk_cell BKgb.out 8).trans rfl; have fgbz0 := blk_frozen BKgb.out 0; have fgbz1 := blk_frozen BKgb.out 1; have fgbz2 := blk_frozen BKgb.out 2; have fgbz3 := blk_frozen BKgb.out 3; have fgbz4 := blk_frozen BKgb.out 4; have fgbz5 := blk_frozen BKgb.out 5; have fgbz6 := blk_frozen BKgb.out 6; have fgbz7 := blk_frozen BKgb.out 7; have fgbz8 := blk_frozen BKgb.out 8; clear n0_ hbox hb hggb))
  go_loopg [7, 16] (n + 1) (fun kq v7 v16 w' => ∃ j m : Nat, j ≤ n ∧ kq = n + 1 - j ∧ v16 = .int .i64 j ∧ v7 = .int .i64 m ∧ m ≤ j ∧ Aside0 (m = NzN (L 5) f j) ∧ Aside0 (Below w.heap.size w w'))
  case atStart => exact ⟨0, 0, by omega, rfl, rfl, rfl, by omega, ⟨rfl⟩, HB⟩
  case round =>
    clear HB BKgb fgbs0 fgbz0 fgb1 fgbz1 fgb2 fgbz2 fgb3 fgbz3 fgb4 fgbz4 fgb5 fgbz5 fgb6 fgbz6 fgb7 fgbz7 fgb8 fgbz8
    obtain ⟨j, m, hj, rfl, rfl, rfl, hm, HM, HB⟩ := hrel
    have hn64 : (n : Int) ≤ 35184372088832 := by omega
    have hm64 : (m : Int) ≤ 35184372088832 := by omega
    by_cases hlt : j < n
    · have j0 : (0 : Int) ≤ (j : Int) := by omega
      have j1 : (j : Int) < (n : Int) := by omega
      obtain ⟨ad, v, ea, hx, HV⟩ := at_v ((HR.out 5 (by omega)).below HB.out) (f + j) (by have := HFN.out; omega)
      have hx2 : wr.cell? ((ad.add f).add j) = some (.int .i64 v) := by rw [Go.Addr.add_add]; exact hx
      by_cases hv : v = 0
      · have HM2 : Aside0 (m = NzN (L 5) f (j + 1)) := ⟨by unfold NzN; rw [← HM.out, HV.out, if_neg (by simp [hv]), Nat.add_zero]⟩
        have hv' : (v != 0) = false := by rw [hv]; rfl
        clear hv
        go_wp2
        go_roundg (n + 1 - (j + 1))
        case measure => omega
        case rel => exact ⟨j + 1, m, by omega, rfl, by go_num, rfl, by omega, HM2, HB⟩
      · have HM2 : Aside0 (m + 1 = NzN (L 5) f (j + 1)) := ⟨by unfold NzN; rw [← HM.out, HV.out, if_pos hv]⟩
        have hv' : (v != 0) = true := bne_iff_ne.mpr hv
        clear hv
        go_wp2
        go_roundg (n + 1 - (j + 1))
        case measure => omega
        case rel => exact ⟨j + 1, m + 1, by omega, rfl, by go_num, by go_num, by omega, HM2, HB⟩
    · have HZ : Aside0 (NzN (L 5) f n = m) := ⟨by rw [HM.out, show j = n by omega]⟩
      go_wp2
      go_ret
      exact ⟨by rw [HZ.out]; rfl, HB.out⟩
end Go.Proofs.Ytekneicikmaplaa.Bk

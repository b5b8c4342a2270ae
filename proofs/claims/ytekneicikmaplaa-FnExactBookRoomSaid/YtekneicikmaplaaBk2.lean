/- The law's small functions: two books that are the same. -/
import Derived.Test.YtekneicikmaplaaBk1
set_option linter.unusedVariables false
set_option linter.unusedSimpArgs false
namespace Go.Proofs.Ytekneicikmaplaa.Bk
open Go.RowKit Go.Proofs.YtekneicikmaplaaW.PrintWords Go.Proofs.YtekneicikmaplaaW.PrintLast Go.Proofs.YtekneicikmaplaaW.PrintMore

theorem rd_nat (l : List Int) (k : Nat) : rd l (k : Int) = l.getD k 0 := by simp [rd]
theorem at_nat {w : World} {A : Option Addr} {c : Nat} {l : List Int} (h : SlC w A c l) (k : Nat) (hk : k < l.length) : ∃ ad, A = some ad ∧ w.cell? (ad.add k) = some (.int .i64 (l.getD k 0)) := by
  obtain ⟨ad, h1, h2⟩ := Kd.at_int h.1 (k : Int) (by omega) (by omega)
  exact ⟨ad, h1, by rw [Int.toNat_natCast, rd_nat] at h2; exact h2⟩
set_option maxRecDepth 100000 in
theorem eqIntS_same (A : Option Addr) (c : Nat) (A' : Option Addr) (c' : Nat) (l : List Int) (w : World) (h : SlC w A c l) (h' : SlC w A' c' l) (hl : l.length ≤ 9223372036854775807) :
    Calls Try.prog 27 #[.slice A l.length c, .slice A' l.length c'] w fun e w' => e = .returned (.bool true) ∧ Drawn0 w w' := by
  have HR := Aside0.mk h
  have HR' := Aside0.mk h'
  clear h h'
  go_enter Try.func27, Try.ntmps27
  go_wp2
  go_loopg [5] (l.length + 1) (fun kq v5 w' => ∃ k : Nat, k ≤ l.length ∧ kq = l.length + 1 - k ∧ v5 = .int .i64 k ∧ Drawn0 w w')
  case atStart => exact ⟨0, by omega, by omega, rfl, Drawn0.refl _⟩
  case round =>
    obtain ⟨k, hk, rfl, rfl, ⟨m, rfl⟩⟩ := hrel
    by_cases hlt : k < l.length
    · obtain ⟨ad, rfl, hc⟩ := at_nat HR.out k hlt
      obtain ⟨ad', rfl, hc'⟩ := at_nat HR'.out k hlt
      have hi : (k : Int) < (l.length : Int) := by omega
      go_wp2
      go_quiet (fail)
      go_wp2
      go_roundg (l.length + 1 - (k + 1))
      case measure => omega
      case rel => exact ⟨k + 1, by omega, rfl, by go_num, by repeat (first | exact Drawn0.refl _ | apply Drawn0.step)⟩
    · go_wp2
      go_ret
      exact ⟨rfl, by repeat (first | exact Drawn0.refl _ | apply Drawn0.step)⟩

theorem SlC.drawn {w w1 : World} {A : Option Addr} {c : Nat} {l : List Int} (h : SlC w A c l) (hb : Drawn0 w w1) : SlC w1 A c l := by obtain ⟨n, rfl⟩ := hb.out; exact h
def ArC (w : World) (A : Nat → Option Addr) (c : Nat → Nat) (L : Nat → List Int) : Prop := ∀ i, i < 4 → SlC w (A i) (c i) (L i)
theorem ArC.below {w w1 : World} {A : Nat → Option Addr} {c : Nat → Nat} {L : Nat → List Int} (h : ArC w A c L) (hb : Below w.heap.size w w1) : ArC w1 A c L := fun i hi => (h i hi).below hb
set_option maxRecDepth 100000 in
theorem eqIntSA4_same (A : Nat → Option Addr) (c : Nat → Nat) (A' : Nat → Option Addr) (c' : Nat → Nat) (L : Nat → List Int) (w : World) (h : ArC w A c L) (h' : ArC w A' c' L) (hl : ∀ i, (L i).length ≤ 9223372036854775807) :
    Calls Try.prog 37 #[.agg (arrV A c L), .agg (arrV A' c' L)] w fun e w' => e = .returned (.bool true) ∧ Below w.heap.size w w' := by
  have HR := Aside0.mk h
  have HR' := Aside0.mk h'
  have HL := Aside0.mk hl
  clear h h' hl
  have HB := Aside0.mk (Below.refl w.heap.size w)
  go_enter Try.func37, Try.ntmps37
  go_wp2_with (first | ((with_reducible refine gate_dst (N := 2) rfl ?_); refine box_event rfl (N := 2) rfl (cs := arrV A c L) (t := 25) (by first | (go_simp; done) | (go_simp; rfl)) ?_; intro gb hggb w1 hbox hb; have n0_ := Aside0.mk (below_step HB.out hb); have BKgb := Aside0.mk hbox; have HGgb := Aside0.mk (show w.heap.size ≤ gb by rw [hggb]; exact HB.out.size); clear HB; have HB := n0_; clear n0_ hbox hb hggb) | ((with_reducible refine gate_dst (N := 3) rfl ?_); refine box_event rfl (N := 3) rfl (cs := arrV A' c' L) (t := 25) (by first | (go_simp; done) | (go_simp; rfl)) ?_; intro gc hggc w2 hbox hb; have n0_ := Aside0.mk (below_step HB.out hb); have BKgc := Aside0.mk hbox; have HGgc := Aside0.mk (show w.heap.size ≤ gc by rw [hggc]; exact HB.out.size); clear HB; have HB := n0_; have BKgb := Aside0.mk (blk_below BKgb.out hb); clear n0_ hbox hb hggc))
  go_loopg [5] 5 (fun kq v5 w' => ∃ k : Nat, k ≤ 4 ∧ kq = 5 - k ∧ v5 = .int .i64 k ∧ Aside0 (w'.heap[gb]? = some (.cells (arrV A c L) 25 (0, 0))) ∧ Aside0 (w'.heap[gc]? = some (.cells (arrV A' c' L) 25 (0, 0))) ∧ Aside0 (Below w.heap.size w w'))
  case atStart => exact ⟨0, by omega, by omega, rfl, BKgb, BKgc, HB⟩
  case round =>
    obtain ⟨k, hk, rfl, rfl, BKgb, BKgc, HB⟩ := hrel
    by_cases hlt : k < 4
    · have hcell : wr.cell? ⟨gb, k, none⟩ = some (.slice (A k) (L k).length (c k)) := (blk_cell BKgb.out k).trans (arrV_at A c L k hlt)
      have hfz := blk_frozen BKgb.out k
      have hcell' : wr.cell? ⟨gc, k, none⟩ = some (.slice (A' k) (L k).length (c' k)) := (blk_cell BKgc.out k).trans (arrV_at A' c' L k hlt)
      have hfz' := blk_frozen BKgc.out k
      have hi : (k : Int) < 4 := by omega
      have HC := Aside0.mk ((HR.out k hlt).below HB.out)
      have HC' := Aside0.mk ((HR'.out k hlt).below HB.out)
      go_wp2
      go_quiet ((go_at_call 27; exact Calls.quiet_of ((eqIntS_same _ _ _ _ _ _ (HC.out.drewN _) (HC'.out.drewN _) (HL.out k)).mono fun _ _ ⟨he, hd⟩ => ⟨he, hd.out⟩)))
      go_wp2
      go_roundg (5 - (k + 1))
      case measure => omega
      case rel => exact ⟨k + 1, by omega, rfl, by go_num, BKgb, BKgc, ⟨pw_below_drewN HB.out _⟩⟩
    · go_wp2
      go_ret
      exact ⟨rfl, HB.out⟩

theorem BkC.ar {w : World} {A : Nat → Option Addr} {c : Nat → Nat} {L : Nat → List Int} (h : BkC w A c L) : ArC w (fun i => A (i + 1)) (fun i => c (i + 1)) (fun i => L (i + 1)) := fun i hi => h (i + 1) (by omega)
set_option maxHeartbeats 1000000 in
set_option maxRecDepth 100000 in
theorem eqBook_same (s : Int) (A : Nat → Option Addr) (c : Nat → Nat) (A' : Nat → Option Addr) (c' : Nat → Nat) (L : Nat → List Int) (w : World) (h : BkC w A c L) (h' : BkC w A' c' L) (hl : ∀ i, (L i).length ≤ 9223372036854775807) :
    Calls Try.prog 14 #[.agg (bkCells s A c L), .agg (bkCells s A' c' L)] w fun e w' => e = .returned (.bool true) ∧ Below w.heap.size w w' := by
  have HR := Aside0.mk h
  have HR' := Aside0.mk h'
  have HL := Aside0.mk hl
  clear h h' hl
  have HB := Aside0.mk (Below.refl w.heap.size w)
  go_enter Try.func14, Try.ntmps14
  go_wp2_with (first | ((with_reducible refine gate_dst (N := 2) rfl ?_); refine box_event rfl (N := 2) rfl (cs := bkCells s A c L) (t := 27) (by first | (go_simp; done) | (go_simp; rfl)) ?_; intro gb hggb w1 hbox hb; have n0_ := Aside0.mk (below_step HB.out hb); have BKgb := Aside0.mk hbox; have HGgb := Aside0.mk (show w.heap.size ≤ gb by rw [hggb]; exact HB.out.size); clear HB; have HB := n0_; clear n0_ hbox hb hggb) | ((with_reducible refine gate_dst (N := 3) rfl ?_); refine box_event rfl (N := 3) rfl (cs := bkCells s A' c' L) (t := 27) (by first | (go_simp; done) | (go_simp; rfl)) ?_; intro gc hggc w2 hbox hb; have n0_ := Aside0.mk (below_step HB.out hb); have BKgc := Aside0.mk hbox; have HGgc := Aside0.mk (show w.heap.size ≤ gc by rw [hggc]; exact HB.out.size); clear HB; have HB := n0_; have BKgb := Aside0.mk (blk_below BKgb.out hb); have fgbs0 : w2.cell? ⟨gb, 0, none⟩ = some (.int .i64 _) := (blk_cell BKgb.out 0).trans rfl; have fgb1 : w2.cell? ⟨gb, 1, none⟩ = some (.slice (A 0) (L 0).length (c 0)) := (blk_cell BKgb.out 1).trans rfl; have fgb2 : w2.cell? ⟨gb, 2, none⟩ = some (.slice (A 1) (L 1).length (c 1)) := (blk_cell BKgb.out 2).trans rfl; have fgb3 : w2.cell? ⟨gb, 3, none⟩ = some (.slice (A 2) (L 2).length (c 2)) := (blk_cell BKgb.out 3).trans rfl; have fgb4 : w2.cell? ⟨gb, 4, none⟩ = some (.slice (A 3) (L 3).length (c 3)) := (blk_cell BKgb.out 4).trans rfl; have fgb5 : w2.cell? ⟨gb, 5, none⟩ = some (.slice (A 4) (L 4).length (c 4)) := (blk_cell BKgb.out 5).trans rfl; have fgb6 : w2.cell? ⟨gb, 6, none⟩ = some (.slice (A 5) (L 5).length (c 5)) := (blk_cell BKgb.out 6).trans rfl; have fgb7 : w2.cell? ⟨gb, 7, none⟩ = some (.slice (A 6) (L 6).length (c 6)) := (blk_cell BKgb.out 7).trans rfl; have fgb8 : w2.cell? ⟨gb, 8, none⟩ = some (.slice (A 7) (L 7).length (c 7)) := (blk_cell BKgb.out 8).trans rfl; have fgbz0 := blk_frozen BKgb.out 0; have fgbz1 := blk_frozen BKgb.out 1; have fgbz2 := blk_frozen BKgb.out 2; have fgbz3 := blk_frozen BKgb.out 3; have fgbz4 := blk_frozen BKgb.out 4; have fgbz5 := blk_frozen BKgb.out 5; have fgbz6 := blk_frozen BKgb.out 6; have fgbz7 := blk_frozen BKgb.out 7; have fgbz8 := blk_frozen BKgb.out 8; have fgcs0 : w2.cell? ⟨gc, 0, none⟩ = some (.int .i64 _) := (blk_cell BKgc.out 0).trans rfl; have fgc1 : w2.cell? ⟨gc, 1, none⟩ = some (.slice (A' 0) (L 0).length (c' 0)) := (blk_cell BKgc.out 1).trans rfl; have fgc2 : w2.cell? ⟨gc, 2, none⟩ = some (.slice (A' 1) (L 1).length (c' 1)) := (blk_cell BKgc.out 2).trans rfl; have fgc3 : w2.cell? ⟨gc, 3, none⟩ = some (.slice (A' 2) (L 2).length (c' 2)) := (blk_cell BKgc.out 3).trans rfl; have fgc4 : w2.cell? ⟨gc, 4, none⟩ = some (.slice (A' 3) (L 3).length (c' 3)) := (blk_cell BKgc.out 4).trans rfl; have fgc5 : w2.cell? ⟨gc, 5, none⟩ = some (.slice (A' 4) (L 4).length (c' 4)) := (blk_cell BKgc.out 5).trans rfl; have fgc6 : w2.cell? ⟨gc, 6, none⟩ = some (.slice (A' 5) (L 5).length (c' 5)) := (blk_cell BKgc.out 6).trans rfl; have fgc7 : w2.cell? ⟨gc, 7, none⟩ = some (.slice (A' 6) (L 6).length (c' 6)) := (blk_cell BKgc.out 7).trans rfl; have fgc8 : w2.cell? ⟨gc, 8, none⟩ = some (.slice (A' 7) (L 7).length (c' 7)) := (blk_cell BKgc.out 8).trans rfl; have fgcz0 := blk_frozen BKgc.out 0; have fgcz1 := blk_frozen BKgc.out 1; have fgcz2 := blk_frozen BKgc.out 2; have fgcz3 := blk_frozen BKgc.out 3; have fgcz4 := blk_frozen BKgc.out 4; have fgcz5 := blk_frozen BKgc.out 5; have fgcz6 := blk_frozen BKgc.out 6; have fgcz7 := blk_frozen BKgc.out 7; have fgcz8 := blk_frozen BKgc.out 8; have HC := Aside0.mk (HR.out.below HB.out); have HC' := Aside0.mk (HR'.out.below HB.out); clear n0_ hbox hb hggc))
  refine (eqIntS_same _ _ _ _ _ _ (HC.out 0 (by omega)) (HC'.out 0 (by omega)) (HL.out 0)).mono ?_
  rintro e w3 ⟨rfl, ⟨n, rfl⟩⟩
  go_wp2_with fail
  refine (eqIntSA4_same (fun i => A (i + 1)) (fun i => c (i + 1)) (fun i => A' (i + 1)) (fun i => c' (i + 1)) (fun i => L (i + 1)) _ (HC.out.ar.below (Drawn0.below ⟨n, rfl⟩)) (HC'.out.ar.below (Drawn0.below ⟨n, rfl⟩)) (fun i => HL.out (i + 1))).mono ?_
  rintro e w4 ⟨rfl, hb4⟩
  have HB4 := Aside0.mk (below_step (pw_below_drewN HB.out n) hb4)
  have BKgb4 := Aside0.mk (blk_below (blk_drewN BKgb.out n) hb4)
  have BKgc4 := Aside0.mk (blk_below (blk_drewN BKgc.out n) hb4)
  clear hb4 fgbs0 fgbz0 fgb1 fgbz1 fgb2 fgbz2 fgb3 fgbz3 fgb4 fgbz4 fgb5 fgbz5 fgb6 fgbz6 fgb7 fgbz7 fgb8 fgbz8 fgcs0 fgcz0 fgc1 fgcz1 fgc2 fgcz2 fgc3 fgcz3 fgc4 fgcz4 fgc5 fgcz5 fgc6 fgcz6 fgc7 fgcz7 fgc8 fgcz8 HB HC HC' BKgb BKgc
  have fgbs0 : w4.cell? ⟨gb, 0, none⟩ = some (.int .i64 _) := (blk_cell BKgb4.out 0).trans rfl; have fgb1 : w4.cell? ⟨gb, 1, none⟩ = some (.slice (A 0) (L 0).length (c 0)) := (blk_cell BKgb4.out 1).trans rfl; have fgb2 : w4.cell? ⟨gb, 2, none⟩ = some (.slice (A 1) (L 1).length (c 1)) := (blk_cell BKgb4.out 2).trans rfl; have fgb3 : w4.cell? ⟨gb, 3, none⟩ = some (.slice (A 2) (L 2).length (c 2)) := (blk_cell BKgb4.out 3).trans rfl; have fgb4 : w4.cell? ⟨gb, 4, none⟩ = some (.slice (A 3) (L 3).length (c 3)) := (blk_cell BKgb4.out 4).trans rfl; have fgb5 : w4.cell? ⟨gb, 5, none⟩ = some (.slice (A 4) (L 4).length (c 4)) := (blk_cell BKgb4.out 5).trans rfl; have fgb6 : w4.cell? ⟨gb, 6, none⟩ = some (.slice (A 5) (L 5).length (c 5)) := (blk_cell BKgb4.out 6).trans rfl; have fgb7 : w4.cell? ⟨gb, 7, none⟩ = some (.slice (A 6) (L 6).length (c 6)) := (blk_cell BKgb4.out 7).trans rfl; have fgb8 : w4.cell? ⟨gb, 8, none⟩ = some (.slice (A 7) (L 7).length (c 7)) := (blk_cell BKgb4.out 8).trans rfl; have fgbz0 := blk_frozen BKgb4.out 0; have fgbz1 := blk_frozen BKgb4.out 1; have fgbz2 := blk_frozen BKgb4.out 2; have fgbz3 := blk_frozen BKgb4.out 3; have fgbz4 := blk_frozen BKgb4.out 4; have fgbz5 := blk_frozen BKgb4.out 5; have fgbz6 := blk_frozen BKgb4.out 6; have fgbz7 := blk_frozen BKgb4.out 7; have fgbz8 := blk_frozen BKgb4.out 8
  have fgcs0 : w4.cell? ⟨gc, 0, none⟩ = some (.int .i64 _) := (blk_cell BKgc4.out 0).trans rfl; have fgc1 : w4.cell? ⟨gc, 1, none⟩ = some (.slice (A' 0) (L 0).length (c' 0)) := (blk_cell BKgc4.out 1).trans rfl; have fgc2 : w4.cell? ⟨gc, 2, none⟩ = some (.slice (A' 1) (L 1).length (c' 1)) := (blk_cell BKgc4.out 2).trans rfl; have fgc3 : w4.cell? ⟨gc, 3, none⟩ = some (.slice (A' 2) (L 2).length (c' 2)) := (blk_cell BKgc4.out 3).trans rfl; have fgc4 : w4.cell? ⟨gc, 4, none⟩ = some (.slice (A' 3) (L 3).length (c' 3)) := (blk_cell BKgc4.out 4).trans rfl; have fgc5 : w4.cell? ⟨gc, 5, none⟩ = some (.slice (A' 4) (L 4).length (c' 4)) := (blk_cell BKgc4.out 5).trans rfl; have fgc6 : w4.cell? ⟨gc, 6, none⟩ = some (.slice (A' 5) (L 5).length (c' 5)) := (blk_cell BKgc4.out 6).trans rfl; have fgc7 : w4.cell? ⟨gc, 7, none⟩ = some (.slice (A' 6) (L 6).length (c' 6)) := (blk_cell BKgc4.out 7).trans rfl; have fgc8 : w4.cell? ⟨gc, 8, none⟩ = some (.slice (A' 7) (L 7).length (c' 7)) := (blk_cell BKgc4.out 8).trans rfl; have fgcz0 := blk_frozen BKgc4.out 0; have fgcz1 := blk_frozen BKgc4.out 1; have fgcz2 := blk_frozen BKgc4.out 2; have fgcz3 := blk_frozen BKgc4.out 3; have fgcz4 := blk_frozen BKgc4.out 4; have fgcz5 := blk_frozen BKgc4.out 5; have fgcz6 := blk_frozen BKgc4.out 6; have fgcz7 := blk_frozen BKgc4.out 7; have fgcz8 := blk_frozen BKgc4.out 8
  have HC := Aside0.mk (HR.out.below HB4.out)
  have HC' := Aside0.mk (HR'.out.below HB4.out)
  go_wp2_with fail
  refine (eqIntS_same _ _ _ _ _ _ (HC.out 5 (by omega)) (HC'.out 5 (by omega)) (HL.out 5)).mono ?_
  rintro e w3 ⟨rfl, ⟨n1, rfl⟩⟩
  go_wp2_with fail
  refine (eqIntS_same _ _ _ _ _ _ ((HC.out 6 (by omega)).drewN _) ((HC'.out 6 (by omega)).drewN _) (HL.out 6)).mono ?_
  rintro e w3 ⟨rfl, ⟨n2, rfl⟩⟩
  go_wp2_with fail
  refine (eqIntS_same _ _ _ _ _ _ ((HC.out 7 (by omega)).drewN _) ((HC'.out 7 (by omega)).drewN _) (HL.out 7)).mono ?_
  rintro e w3 ⟨rfl, ⟨n3, rfl⟩⟩
  go_wp2_with fail
  go_ret
  exact ⟨rfl, pw_below_drewN HB4.out _⟩
end Go.Proofs.Ytekneicikmaplaa.Bk

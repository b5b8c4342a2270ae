/- Walks and plain laws that this claim's texts name, part 5. -/
import Derived.Test.YtekneicikmaplaaBx1
import Derived.Test.YtekneicikmaplaaBx4
import Derived.Test.YtekneicikmaplaaBx2
import Derived.Test.YtekneicikmaplaaBx3
set_option linter.unusedVariables false
set_option linter.unusedSimpArgs false
namespace Go.Proofs.Ytekneicikmaplaa.Bk
open Go.RowKit Go.Proofs.YtekneicikmaplaaW.PrintWords Go.Proofs.YtekneicikmaplaaW.PrintLast Go.Proofs.YtekneicikmaplaaW.PrintMore
theorem MarkR.same {b : Int} {L0 L1 L : Nat → List Int} {i : Nat} (h : MarkR b L0 L i) (hl : ∀ i, (L0 i).length = (L1 i).length) : MarkR b L1 L i := fun j hj => by rw [← off_same hl i]; exact h j hj
theorem SlO.kept {w w1 : World} {lo hi lo' hi' : Nat} {A : Option Addr} {c : Nat} {l : List Int} (h : SlO w lo hi A c l) (hk : Keep lo' hi' w w1) (hd : hi ≤ lo' ∨ hi' ≤ lo) : SlO w1 lo hi A c l := h.move fun k h1 h2 h3 => hk.block k h3 (by omega)
end Go.Proofs.Ytekneicikmaplaa.Bk
namespace Go.Proofs.Ytekneicikmaplaa.Bk
open Go.RowKit Go.Proofs.YtekneicikmaplaaW.PrintWords Go.Proofs.YtekneicikmaplaaW.PrintLast Go.Proofs.YtekneicikmaplaaW.PrintMore
def CutC (s : Int) (L : Nat → List Int) (x : Int) : Prop := 0 ≤ x ∧ x < s ∧ (L 6).getD x.toNat 0 = 1
def cutL (L : Nat → List Int) (x : Int) : Nat → List Int := upd L 6 ((L 6).set x.toNat 2)
/-- What comes of cutting. -/
def CutP (s : Int) (L : Nat → List Int) (x : Int) (s' : Int) (L' : Nat → List Int) : Prop := (BookP s L → s' = s ∧ (CutC s L x → L' = cutL L x) ∧ (¬ CutC s L x → L' = L)) ∧ (¬ BookP s L → s' = 0 ∧ L' = fun _ => [])
def RetK (s : Int) (L : Nat → List Int) (x : Int) (w : World) (e : Ending) (w' : World) : Prop := ∃ s' L' A' c', e = .returned (.agg (bkCells s' A' c' L')) ∧ CutP s L x s' L' ∧ BkO w' w.heap.size w'.heap.size A' c' L' ∧ Below w.heap.size w w'
theorem CutP.one {s : Int} {L : Nat → List Int} {x s1 s2 : Int} {L1 L2 : Nat → List Int} (h1 : CutP s L x s1 L1) (h2 : CutP s L x s2 L2) : s1 = s2 ∧ L1 = L2 := by
  by_cases hb : BookP s L
  · obtain ⟨a, b, c⟩ := h1.1 hb
    obtain ⟨a', b', c'⟩ := h2.1 hb
    refine ⟨a.trans a'.symm, ?_⟩
    by_cases hc : CutC s L x
    · rw [b hc, b' hc]
    · rw [c hc, c' hc]
  · obtain ⟨a, b⟩ := h1.2 hb
    obtain ⟨a', b'⟩ := h2.2 hb
    exact ⟨a.trans a'.symm, b.trans b'.symm⟩
theorem SlO.elem {w : World} {lo hi : Nat} {A : Option Addr} {c : Nat} {l : List Int} (h : SlO w lo hi A c l) (k : Nat) (hk : k < l.length) : ∃ g, A = some ⟨g, 0, none⟩ ∧ w.cell? ⟨g, k, none⟩ = some (.int .i64 (l.getD k 0)) ∧ w.frozen? ⟨g, k, none⟩ = false ∧ lo ≤ g ∧ (∃ cells, w.heap[g]? = some (.cells cells 3 (0, 0))) ∧ ∀ u, SlO (w.setCell ⟨g, k, none⟩ (.int .i64 u)) lo hi A c (l.set k u) := by
  obtain ⟨g, co, eo, hg, gl, cl⟩ := Kd.R_form h (by omega)
  have eA : A = some ⟨g, 0, none⟩ := by injection eo
  subst eA
  obtain ⟨ad, e1, hc⟩ := at_nat h.c k hk
  cases e1
  obtain ⟨hx, hf⟩ := Kd.R_celln 0 h (k : Int) (by omega) (by omega)
  rw [Int.toNat_natCast] at hx hf
  have hc2 : w.cell? ⟨g, k, none⟩ = some (.int .i64 (l.getD k 0)) := by rw [← hc]; congr 1; unfold Addr.add; split <;> simp_all
  refine ⟨g, rfl, hc2, hf, hg, cl, fun u => ?_⟩
  have HP := Kd.R_putg h (k : Int) u
  rw [Int.toNat_natCast] at HP
  unfold SlO
  rw [List.length_set]
  exact HP.1
theorem bkO_cut {w : World} {lo hi : Nat} {A : Nat → Option Addr} {c : Nat → Nat} {L : Nat → List Int} (h : BkO w lo hi A c L) (k g : Nat) (hg : A 6 = some ⟨g, 0, none⟩) (hs : SlO (w.setCell ⟨g, k, none⟩ (.int .i64 2)) lo hi (A 6) (c 6) ((L 6).set k 2)) : BkO (w.setCell ⟨g, k, none⟩ (.int .i64 2)) lo hi A c (cutL L (k : Int)) := by
  unfold cutL
  rw [Int.toNat_natCast]
  refine BkO.mark h 6 (by omega) (by simp) hs ?_
  rw [hg]
  exact (KeepV.refl _ w).set k _
theorem cutL_len (L : Nat → List Int) (x : Int) (i : Nat) : (cutL L x i).length = (L i).length := upd_len L 6 _ (by simp) i
theorem bkCells_len {s : Int} {A : Nat → Option Addr} {c : Nat → Nat} {L L' : Nat → List Int} (h : ∀ i, (L' i).length = (L i).length) : bkCells s A c L = bkCells s A c L' := by simp only [bkCells, h]
theorem bkO_none (w : World) (lo hi : Nat) : BkO w lo hi (fun _ => none) (fun _ => 0) (fun _ => []) := ⟨fun i hi => ⟨none, 0, rfl, Kd.R_nil _ _ _ _ _⟩, fun i j hi hj hne k hk => by simp [slV, Value.ownBlock] at hk⟩
set_option maxHeartbeats 8000000 in
set_option maxRecDepth 100000 in
theorem specCut_calls (s : Int) (A : Nat → Option Addr) (c : Nat → Nat) (L : Nat → List Int) (x : Int) (w : World) (h : BkC w A c L) (hl : ∀ i, (L i).length ≤ 1048576) (hw : ∀ i, Wf64 (L i)) (hx : -9223372036854775808 ≤ x ∧ x ≤ 9223372036854775807) :
    Calls Try.prog 30 #[.agg (bkCells s A c L), .int .i64 x] w (RetK s L x w) := by
  have HR := Aside0.mk h
  have HL := Aside0.mk hl
  have HW := Aside0.mk hw
  have HL2 : Aside0 (∀ i, (L i).length ≤ 35184372088832) := ⟨fun i => by have := hl i; omega⟩
  clear h hl hw
  have HB := Aside0.mk (Below.refl w.heap.size w)
  go_enter Try.func30, Try.ntmps30
  go_wp2_with (first | ((with_reducible refine gate_dst (N := 2) rfl ?_); refine box_event rfl (N := 2) rfl (cs := bkCells s A c L) (t := 27) (by first | (go_simp; done) | (go_simp; rfl)) ?_; intro gb hggb w1 hbox hb; have n0_ := Aside0.mk (below_step HB.out hb); have BKgb := Aside0.mk hbox; have HGgb := Aside0.mk (show w.heap.size ≤ gb by rw [hggb]; exact HB.out.size); clear HB; have HB := n0_; have fgbs0 : w1.cell? ⟨gb, 0, none⟩ = some (.int .i64 _) := (blk_cell BKgb.out 0).trans rfl; have fgb1 : w1.cell? ⟨gb, 1, none⟩ = some (.slice (A 0) (L 0).length (c 0)) := (blk_cell BKgb.out 1).trans rfl; have fgb2 : w1.cell? ⟨gb, 2, none⟩ = some (.slice (A 1) (L 1).length (c 1)) := (blk_cell BKgb.out 2).trans rfl; have fgb3 : w1.cell? ⟨gb, 3, none⟩ = some (.slice (A 2) (L 2).length (c 2)) := (blk_cell BKgb.out 3).trans rfl; have fgb4 : w1.cell? ⟨gb, 4, none⟩ = some (.slice (A 3) (L 3).length (c 3)) := (blk_cell BKgb.out 4).trans rfl; have fgb5 : w1.cell? ⟨gb, 5, none⟩ = some (.slice (A 4) (L 4).length (c 4)) := (blk_cell BKgb.out 5).trans rfl; have fgb6 : w1.cell? ⟨gb, 6, none⟩ = some (.slice (A 5) (L 5).length (c 5)) := (blk_cell BKgb.out 6).trans rfl; have fgb7 : w1.cell? ⟨gb, 7, none⟩ = some (.slice (A 6) (L 6).length (c 6)) := (blk_cell BKgb.out 7).trans rfl; have fgb8 : w1.cell? ⟨gb, 8, none⟩ = some (.slice (A 7) (L 7).length (c 7)) := (blk_cell BKgb.out 8).trans rfl; have fgbz0 := blk_frozen BKgb.out 0; have fgbz1 := blk_frozen BKgb.out 1; have fgbz2 := blk_frozen BKgb.out 2; have fgbz3 := blk_frozen BKgb.out 3; have fgbz4 := blk_frozen BKgb.out 4; have fgbz5 := blk_frozen BKgb.out 5; have fgbz6 := blk_frozen BKgb.out 6; have fgbz7 := blk_frozen BKgb.out 7; have fgbz8 := blk_frozen BKgb.out 8; clear n0_ hbox hb hggb) | ((with_reducible refine gate_dst (N := 4) rfl ?_); refine box_event rfl (N := 4) rfl (cs := #[.int .i64 0, .slice none 0 0, .slice none 0 0, .slice none 0 0, .slice none 0 0, .slice none 0 0, .slice none 0 0, .slice none 0 0, .slice none 0 0]) (t := 27) (by first | (go_simp; done) | (go_simp; rfl)) ?_; intro gr hggr w2 hbox hb; have n0_ := Aside0.mk (below_step HB.out hb); have BKgr := Aside0.mk hbox; have HGgr := Aside0.mk (show w.heap.size ≤ gr by rw [hggr]; exact HB.out.size); clear HB; have HB := n0_; have NE := Aside0.mk (show gb ≠ gr by have := blk_lt BKgb.out; omega); have BKgbn := Aside0.mk (blk_below BKgb.out hb); clear BKgb fgbs0 fgbz0 fgb1 fgbz1 fgb2 fgbz2 fgb3 fgbz3 fgb4 fgbz4 fgb5 fgbz5 fgb6 fgbz6 fgb7 fgbz7 fgb8 fgbz8; have BKgb := BKgbn; clear BKgbn; have fgbs0 : w2.cell? ⟨gb, 0, none⟩ = some (.int .i64 _) := (blk_cell BKgb.out 0).trans rfl; have fgb1 : w2.cell? ⟨gb, 1, none⟩ = some (.slice (A 0) (L 0).length (c 0)) := (blk_cell BKgb.out 1).trans rfl; have fgb2 : w2.cell? ⟨gb, 2, none⟩ = some (.slice (A 1) (L 1).length (c 1)) := (blk_cell BKgb.out 2).trans rfl; have fgb3 : w2.cell? ⟨gb, 3, none⟩ = some (.slice (A 2) (L 2).length (c 2)) := (blk_cell BKgb.out 3).trans rfl; have fgb4 : w2.cell? ⟨gb, 4, none⟩ = some (.slice (A 3) (L 3).length (c 3)) := (blk_cell BKgb.out 4).trans rfl; have fgb5 : w2.cell? ⟨gb, 5, none⟩ = some (.slice (A 4) (L 4).length (c 4)) := (blk_cell BKgb.out 5).trans rfl; have fgb6 : w2.cell? ⟨gb, 6, none⟩ = some (.slice (A 5) (L 5).length (c 5)) := (blk_cell BKgb.out 6).trans rfl; have fgb7 : w2.cell? ⟨gb, 7, none⟩ = some (.slice (A 6) (L 6).length (c 6)) := (blk_cell BKgb.out 7).trans rfl; have fgb8 : w2.cell? ⟨gb, 8, none⟩ = some (.slice (A 7) (L 7).length (c 7)) := (blk_cell BKgb.out 8).trans rfl; have fgbz0 := blk_frozen BKgb.out 0; have fgbz1 := blk_frozen BKgb.out 1; have fgbz2 := blk_frozen BKgb.out 2; have fgbz3 := blk_frozen BKgb.out 3; have fgbz4 := blk_frozen BKgb.out 4; have fgbz5 := blk_frozen BKgb.out 5; have fgbz6 := blk_frozen BKgb.out 6; have fgbz7 := blk_frozen BKgb.out 7; have fgbz8 := blk_frozen BKgb.out 8; clear n0_ hbox hb hggr))
  refine (specBookOk_calls s A c L _ (HR.out.below HB.out) HL2.out (HW.out 0)).mono ?_
  rintro e w3 ⟨r, rfl, hr, hb⟩
  clear fgbs0 fgbz0 fgb1 fgbz1 fgb2 fgbz2 fgb3 fgbz3 fgb4 fgbz4 fgb5 fgbz5 fgb6 fgbz6 fgb7 fgbz7 fgb8 fgbz8
  have HBn := Aside0.mk (below_step HB.out hb)
  have BKgbn := Aside0.mk (blk_below BKgb.out hb)
  have BKgrn := Aside0.mk (blk_below BKgr.out hb)
  clear HB BKgb BKgr hb
  have HB := HBn
  have BKgb := BKgbn
  have BKgr := BKgrn
  clear HBn BKgbn BKgrn
  have HRR := Aside0.mk hr
  clear hr
  cases r with
  | false =>
    have HN : Aside0 (¬ BookP s L) := ⟨fun q => by have := HRR.out.mpr q; cases this⟩
    go_wp2_with (first | ((with_reducible refine gate_store (t := 27) (p := 4) rfl ?_); refine store_event (t := 27) (p := 4) (v := ?vo_1) (w1 := w3.setRow gr (#[.int .i64 0, .slice none 0 0, .slice none 0 0, .slice none 0 0, .slice none 0 0, .slice none 0 0, .slice none 0 0, .slice none 0 0, .slice none 0 0])) ?hg ?ho ?hn ?hr ?_; (case ho => rfl); (case hg => rfl); (case hn => rfl); (case hr => exact (Row.store_row_run (g := gr) (cells := #[.int .i64 0, .slice none 0 0, .slice none 0 0, .slice none 0 0, .slice none 0 0, .slice none 0 0, .slice none 0 0, .slice none 0 0, .slice none 0 0]) (t := 27) (old := #[.int .i64 0, .slice none 0 0, .slice none 0 0, .slice none 0 0, .slice none 0 0, .slice none 0 0, .slice none 0 0, .slice none 0 0, .slice none 0 0]) rfl (by rfl) (by rfl) BKgr.out (by kernel_rfl) rfl (by simp [Value.oneCell']))); intro w5 hw; have HB5 := Aside0.mk (Row.row_below hw HB.out HGgr.out); have BK5 := Aside0.mk (Row.row_here hw BKgr.out); clear hw))
    refine bodyPost_ret (results_cell_row rfl _ _ gr 27 #[.int .i64 0, .slice none 0 0, .slice none 0 0, .slice none 0 0, .slice none 0 0, .slice none 0 0, .slice none 0 0, .slice none 0 0, .slice none 0 0] (0, 0) _ rfl BK5.out Try.underlying27 rfl (by kernel_rfl)) rfl ?_
    exact ⟨0, fun _ => [], fun _ => none, fun _ => 0, rfl, ⟨fun q => absurd q HN.out, fun _ => ⟨rfl, rfl⟩⟩, bkO_none _ _ _, HB5.out⟩
  | true =>
    have HP : Aside0 (BookP s L) := ⟨HRR.out.mp rfl⟩
    clear HRR
    have hs0 : 1 ≤ s := by have := HP.out.1.1.1; omega
    have hs4 : s ≤ 4 := by have := HP.out.1.1.2.1; omega
    have HS6 : Aside0 (((L 6).length : Int) = s) := ⟨HP.out.1.1.2.2.1⟩
    have fgbs0 : w3.cell? ⟨gb, 0, none⟩ = some (.int .i64 _) := (blk_cell BKgb.out 0).trans rfl; have fgb1 : w3.cell? ⟨gb, 1, none⟩ = some (.slice (A 0) (L 0).length (c 0)) := (blk_cell BKgb.out 1).trans rfl; have fgb2 : w3.cell? ⟨gb, 2, none⟩ = some (.slice (A 1) (L 1).length (c 1)) := (blk_cell BKgb.out 2).trans rfl; have fgb3 : w3.cell? ⟨gb, 3, none⟩ = some (.slice (A 2) (L 2).length (c 2)) := (blk_cell BKgb.out 3).trans rfl; have fgb4 : w3.cell? ⟨gb, 4, none⟩ = some (.slice (A 3) (L 3).length (c 3)) := (blk_cell BKgb.out 4).trans rfl; have fgb5 : w3.cell? ⟨gb, 5, none⟩ = some (.slice (A 4) (L 4).length (c 4)) := (blk_cell BKgb.out 5).trans rfl; have fgb6 : w3.cell? ⟨gb, 6, none⟩ = some (.slice (A 5) (L 5).length (c 5)) := (blk_cell BKgb.out 6).trans rfl; have fgb7 : w3.cell? ⟨gb, 7, none⟩ = some (.slice (A 6) (L 6).length (c 6)) := (blk_cell BKgb.out 7).trans rfl; have fgb8 : w3.cell? ⟨gb, 8, none⟩ = some (.slice (A 7) (L 7).length (c 7)) := (blk_cell BKgb.out 8).trans rfl; have fgbz0 := blk_frozen BKgb.out 0; have fgbz1 := blk_frozen BKgb.out 1; have fgbz2 := blk_frozen BKgb.out 2; have fgbz3 := blk_frozen BKgb.out 3; have fgbz4 := blk_frozen BKgb.out 4; have fgbz5 := blk_frozen BKgb.out 5; have fgbz6 := blk_frozen BKgb.out 6; have fgbz7 := blk_frozen BKgb.out 7; have fgbz8 := blk_frozen BKgb.out 8
    go_wp2_with fail
    refine (l3Copy_calls s A c L _ (HR.out.below HB.out) HL.out).mono ?_
    rintro e w4 ⟨A', c', rfl, ho, hb⟩
    have HI : Aside0 (w.heap.size ≤ w3.heap.size) := ⟨HB.out.size⟩
    clear fgbs0 fgbz0 fgb1 fgbz1 fgb2 fgbz2 fgb3 fgbz3 fgb4 fgbz4 fgb5 fgbz5 fgb6 fgbz6 fgb7 fgbz7 fgb8 fgbz8
    have HO := Aside0.mk ho
    have HBn := Aside0.mk (below_step HB.out hb)
    have BKgbn := Aside0.mk (blk_below BKgb.out hb)
    have BKgrn := Aside0.mk (blk_below BKgr.out hb)
    clear HB BKgb BKgr hb ho
    have HB := HBn
    have BKgb := BKgbn
    have BKgr := BKgrn
    clear HBn BKgbn BKgrn
    by_cases hx0 : 0 ≤ x
    · obtain ⟨k, rfl⟩ := Int.eq_ofNat_of_zero_le hx0
      have hd0 : decide (0 ≤ (k : Int)) = true := decide_eq_true hx0
      by_cases hx1 : (k : Int) < s
      · have hd1 : decide ((k : Int) < s) = true := decide_eq_true hx1
        have hk6 : (k : Int) < ((L 6).length : Int) := by have := HS6.out; omega
        obtain ⟨v, hv⟩ : ∃ v, (L 6).getD k 0 = v := ⟨_, rfl⟩
        have HV := Aside0.mk hv
        clear hv
        by_cases hv1 : v = 1
        · subst hv1
          have HC : Aside0 (CutC s L (k : Int)) := ⟨⟨hx0, hx1, by rw [Int.toNat_natCast]; exact HV.out⟩⟩
          go_wp2_with (first | ((with_reducible refine gate_store (t := 27) (p := 2) rfl ?_); refine store_event (t := 27) (p := 2) (v := ?vo_2) (w1 := w4.setRow gb (bkCells s A' c' L)) ?hg ?ho ?hn ?hr ?_; (case ho => rfl); (case hg => rfl); (case hn => rfl); (case hr => exact (Row.store_row_run (g := gb) (cells := bkCells s A' c' L) (t := 27) (old := bkCells s A c L) rfl (by rfl) (by rfl) BKgb.out (by kernel_rfl) rfl (by simp [Value.oneCell']))); intro w5 hw; have HB5 := Aside0.mk (Row.row_below hw HB.out HGgb.out); have BKgr5 := Aside0.mk (Row.row_there hw BKgr.out (Ne.symm NE.out)); have HO5 := Aside0.mk (show BkO w5 w3.heap.size w4.heap.size A' c' L by rw [hw]; exact VO.row HO.out BKgb.out (by decide) _); have HS5 : Aside0 (w4.heap.size ≤ w5.heap.size) := ⟨by rw [hw, size_row]; exact Nat.le_refl _⟩; have BKgb5 := Aside0.mk (Row.row_here hw BKgb.out); clear HB BKgr HO BKgb; have f0 : w5.cell? ⟨gb, 0, none⟩ = some (.int .i64 s) := (blk_cell BKgb5.out 0).trans rfl; have z0 := blk_frozen BKgb5.out 0; obtain ⟨g, hg6, he, hf, hge, ⟨cs6, hcs⟩, hput⟩ := (VO.s HO5.out 6 (by omega)).elem k (by have := HS6.out; omega); have HG6 := Aside0.mk hg6; have HGE := Aside0.mk hge; have HCS := Aside0.mk hcs; have HPUT := Aside0.mk hput; have f7 : w5.cell? ⟨gb, 7, none⟩ = some (.slice (some ⟨g, 0, none⟩) (L 6).length (c' 6)) := (blk_cell BKgb5.out 7).trans (by rw [← HG6.out]; rfl); have z7 := blk_frozen BKgb5.out 7; have HVV := Aside0.mk he; clear hg6 hge hcs hput he; have he : w5.cell? ⟨g, k, none⟩ = some (.int .i64 1) := HVV.out.trans (congrArg (fun q => some (Value.int .i64 q)) HV.out); clear hw) | ((with_reducible refine gate_store (t := 3) (p := 30) rfl ?_); refine store_event (t := 3) (p := 30) (v := ?vo_3) (w1 := (w5.setCell ⟨g, k, none⟩ (.int .i64 2))) ?hg ?ho ?hn ?hr ?_; (case ho => rfl); (case hg => rfl); (case hn => rfl); (case hr => first | (go_simp; done) | (go_simp; rfl)); intro w8 hw; have HO8 := Aside0.mk (show BkO w8 w3.heap.size w4.heap.size A' c' (cutL L (k : Int)) by rw [hw]; exact bkO_cut HO5.out k g HG6.out (HPUT.out 2)); have HB8 := Aside0.mk (show Below w.heap.size w w8 by rw [hw]; exact below_set HB5.out (Nat.le_trans HI.out HGE.out)); have HS8 : Aside0 (w4.heap.size ≤ w8.heap.size) := ⟨by rw [hw, size_set]; exact HS5.out⟩; have BKgb58 := Aside0.mk ((show w8.heap[gb]? = w5.heap[gb]? by rw [hw]; exact (Below.heap_setCell w5 ⟨g, k, none⟩ _ gb (fun e => by have h1 := HCS.out; have e2 : gb = g := e; rw [← e2, BKgb5.out] at h1; simp at h1))).trans BKgb5.out); have BKgr58 := Aside0.mk ((show w8.heap[gr]? = w5.heap[gr]? by rw [hw]; exact (Below.heap_setCell w5 ⟨g, k, none⟩ _ gr (fun e => by have h1 := HCS.out; have e2 : gr = g := e; rw [← e2, BKgr5.out] at h1; simp at h1))).trans BKgr5.out); clear hw) | ((with_reducible refine gate_dst (N := 31) rfl ?_); refine Kd.event_run rfl (Row.load_row_run (g := gb) (t := 27) (cells := bkCells s A' c' L) rfl rfl BKgb58.out Try.underlying27 rfl (by kernel_rfl)) ?_) | ((with_reducible refine gate_store (t := 27) (p := 4) rfl ?_); refine store_event (t := 27) (p := 4) (v := ?vo_4) (w1 := w8.setRow gr (bkCells s A' c' L)) ?hg ?ho ?hn ?hr ?_; (case ho => rfl); (case hg => rfl); (case hn => rfl); (case hr => exact (Row.store_row_run (g := gr) (cells := bkCells s A' c' L) (t := 27) (old := #[.int .i64 0, .slice none 0 0, .slice none 0 0, .slice none 0 0, .slice none 0 0, .slice none 0 0, .slice none 0 0, .slice none 0 0, .slice none 0 0]) rfl (by rfl) (by rfl) BKgr58.out (by kernel_rfl) rfl (by simp [Value.oneCell']))); intro w9 hw; have HB9 := Aside0.mk (Row.row_below hw HB8.out HGgr.out); have HO9 := Aside0.mk (show BkO w9 w.heap.size w9.heap.size A' c' (cutL L (k : Int)) by rw [hw, size_row]; exact VO.row (VO.wide HO8.out HI.out HS8.out) BKgr58.out (by decide) _); have BK9 := Aside0.mk (Row.row_here hw BKgr58.out); clear hw))
          refine bodyPost_ret (results_cell_row rfl _ _ gr 27 (bkCells s A' c' L) (0, 0) _ rfl BK9.out Try.underlying27 rfl (by kernel_rfl)) rfl ?_
          exact ⟨s, cutL L (k : Int), A', c', by rw [← bkCells_len (s := s) (A := A') (c := c') (cutL_len L (k : Int))], ⟨fun _ => ⟨rfl, fun _ => rfl, fun q => absurd HC.out q⟩, fun q => absurd HP.out q⟩, HO9.out, HB9.out⟩
        · have hdv : decide (v = 1) = false := decide_eq_false hv1
          have HC : Aside0 (¬ CutC s L (k : Int)) := ⟨fun q => hv1 (by have := q.2.2; rw [Int.toNat_natCast, HV.out] at this; exact this)⟩
          go_wp2_with (first | ((with_reducible refine gate_store (t := 27) (p := 2) rfl ?_); refine store_event (t := 27) (p := 2) (v := ?vo_5) (w1 := w4.setRow gb (bkCells s A' c' L)) ?hg ?ho ?hn ?hr ?_; (case ho => rfl); (case hg => rfl); (case hn => rfl); (case hr => exact (Row.store_row_run (g := gb) (cells := bkCells s A' c' L) (t := 27) (old := bkCells s A c L) rfl (by rfl) (by rfl) BKgb.out (by kernel_rfl) rfl (by simp [Value.oneCell']))); intro w5 hw; have HB5 := Aside0.mk (Row.row_below hw HB.out HGgb.out); have BKgr5 := Aside0.mk (Row.row_there hw BKgr.out (Ne.symm NE.out)); have HO5 := Aside0.mk (show BkO w5 w3.heap.size w4.heap.size A' c' L by rw [hw]; exact VO.row HO.out BKgb.out (by decide) _); have HS5 : Aside0 (w4.heap.size ≤ w5.heap.size) := ⟨by rw [hw, size_row]; exact Nat.le_refl _⟩; have BKgb5 := Aside0.mk (Row.row_here hw BKgb.out); clear HB BKgr HO BKgb; have f0 : w5.cell? ⟨gb, 0, none⟩ = some (.int .i64 s) := (blk_cell BKgb5.out 0).trans rfl; have z0 := blk_frozen BKgb5.out 0; obtain ⟨g, hg6, he, hf, hge, ⟨cs6, hcs⟩, hput⟩ := (VO.s HO5.out 6 (by omega)).elem k (by have := HS6.out; omega); have HG6 := Aside0.mk hg6; have HGE := Aside0.mk hge; have HCS := Aside0.mk hcs; have HPUT := Aside0.mk hput; have f7 : w5.cell? ⟨gb, 7, none⟩ = some (.slice (some ⟨g, 0, none⟩) (L 6).length (c' 6)) := (blk_cell BKgb5.out 7).trans (by rw [← HG6.out]; rfl); have z7 := blk_frozen BKgb5.out 7; have HVV := Aside0.mk he; clear hg6 hge hcs hput he; have he : w5.cell? ⟨g, k, none⟩ = some (.int .i64 v) := HVV.out.trans (congrArg (fun q => some (Value.int .i64 q)) HV.out); clear hw) | ((with_reducible refine gate_dst (N := 31) rfl ?_); refine Kd.event_run rfl (Row.load_row_run (g := gb) (t := 27) (cells := bkCells s A' c' L) rfl rfl BKgb5.out Try.underlying27 rfl (by kernel_rfl)) ?_) | ((with_reducible refine gate_store (t := 27) (p := 4) rfl ?_); refine store_event (t := 27) (p := 4) (v := ?vo_6) (w1 := w5.setRow gr (bkCells s A' c' L)) ?hg ?ho ?hn ?hr ?_; (case ho => rfl); (case hg => rfl); (case hn => rfl); (case hr => exact (Row.store_row_run (g := gr) (cells := bkCells s A' c' L) (t := 27) (old := #[.int .i64 0, .slice none 0 0, .slice none 0 0, .slice none 0 0, .slice none 0 0, .slice none 0 0, .slice none 0 0, .slice none 0 0, .slice none 0 0]) rfl (by rfl) (by rfl) BKgr5.out (by kernel_rfl) rfl (by simp [Value.oneCell']))); intro w9 hw; have HB9 := Aside0.mk (Row.row_below hw HB5.out HGgr.out); have HO9 := Aside0.mk (show BkO w9 w.heap.size w9.heap.size A' c' (L) by rw [hw, size_row]; exact VO.row (VO.wide HO5.out HI.out HS5.out) BKgr5.out (by decide) _); have BK9 := Aside0.mk (Row.row_here hw BKgr5.out); clear hw))
          refine bodyPost_ret (results_cell_row rfl _ _ gr 27 (bkCells s A' c' L) (0, 0) _ rfl BK9.out Try.underlying27 rfl (by kernel_rfl)) rfl ?_
          exact ⟨s, L, A', c', rfl, ⟨fun _ => ⟨rfl, fun q => absurd q HC.out, fun _ => rfl⟩, fun q => absurd HP.out q⟩, HO9.out, HB9.out⟩
      · have hd1 : decide ((k : Int) < s) = false := decide_eq_false hx1
        have HC : Aside0 (¬ CutC s L (k : Int)) := ⟨fun q => hx1 q.2.1⟩
        go_wp2_with (first | ((with_reducible refine gate_store (t := 27) (p := 2) rfl ?_); refine store_event (t := 27) (p := 2) (v := ?vo_7) (w1 := w4.setRow gb (bkCells s A' c' L)) ?hg ?ho ?hn ?hr ?_; (case ho => rfl); (case hg => rfl); (case hn => rfl); (case hr => exact (Row.store_row_run (g := gb) (cells := bkCells s A' c' L) (t := 27) (old := bkCells s A c L) rfl (by rfl) (by rfl) BKgb.out (by kernel_rfl) rfl (by simp [Value.oneCell']))); intro w5 hw; have HB5 := Aside0.mk (Row.row_below hw HB.out HGgb.out); have BKgr5 := Aside0.mk (Row.row_there hw BKgr.out (Ne.symm NE.out)); have HO5 := Aside0.mk (show BkO w5 w3.heap.size w4.heap.size A' c' L by rw [hw]; exact VO.row HO.out BKgb.out (by decide) _); have HS5 : Aside0 (w4.heap.size ≤ w5.heap.size) := ⟨by rw [hw, size_row]; exact Nat.le_refl _⟩; have BKgb5 := Aside0.mk (Row.row_here hw BKgb.out); clear HB BKgr HO BKgb; have f0 : w5.cell? ⟨gb, 0, none⟩ = some (.int .i64 s) := (blk_cell BKgb5.out 0).trans rfl; have z0 := blk_frozen BKgb5.out 0; clear hw) | ((with_reducible refine gate_dst (N := 31) rfl ?_); refine Kd.event_run rfl (Row.load_row_run (g := gb) (t := 27) (cells := bkCells s A' c' L) rfl rfl BKgb5.out Try.underlying27 rfl (by kernel_rfl)) ?_) | ((with_reducible refine gate_store (t := 27) (p := 4) rfl ?_); refine store_event (t := 27) (p := 4) (v := ?vo_8) (w1 := w5.setRow gr (bkCells s A' c' L)) ?hg ?ho ?hn ?hr ?_; (case ho => rfl); (case hg => rfl); (case hn => rfl); (case hr => exact (Row.store_row_run (g := gr) (cells := bkCells s A' c' L) (t := 27) (old := #[.int .i64 0, .slice none 0 0, .slice none 0 0, .slice none 0 0, .slice none 0 0, .slice none 0 0, .slice none 0 0, .slice none 0 0, .slice none 0 0]) rfl (by rfl) (by rfl) BKgr5.out (by kernel_rfl) rfl (by simp [Value.oneCell']))); intro w9 hw; have HB9 := Aside0.mk (Row.row_below hw HB5.out HGgr.out); have HO9 := Aside0.mk (show BkO w9 w.heap.size w9.heap.size A' c' (L) by rw [hw, size_row]; exact VO.row (VO.wide HO5.out HI.out HS5.out) BKgr5.out (by decide) _); have BK9 := Aside0.mk (Row.row_here hw BKgr5.out); clear hw))
        refine bodyPost_ret (results_cell_row rfl _ _ gr 27 (bkCells s A' c' L) (0, 0) _ rfl BK9.out Try.underlying27 rfl (by kernel_rfl)) rfl ?_
        exact ⟨s, L, A', c', rfl, ⟨fun _ => ⟨rfl, fun q => absurd q HC.out, fun _ => rfl⟩, fun q => absurd HP.out q⟩, HO9.out, HB9.out⟩
    · have hd0 : decide (0 ≤ x) = false := decide_eq_false hx0
      have HC : Aside0 (¬ CutC s L x) := ⟨fun q => hx0 q.1⟩
      go_wp2_with (first | ((with_reducible refine gate_store (t := 27) (p := 2) rfl ?_); refine store_event (t := 27) (p := 2) (v := ?vo_9) (w1 := w4.setRow gb (bkCells s A' c' L)) ?hg ?ho ?hn ?hr ?_; (case ho => rfl); (case hg => rfl); (case hn => rfl); (case hr => exact (Row.store_row_run (g := gb) (cells := bkCells s A' c' L) (t := 27) (old := bkCells s A c L) rfl (by rfl) (by rfl) BKgb.out (by kernel_rfl) rfl (by simp [Value.oneCell']))); intro w5 hw; have HB5 := Aside0.mk (Row.row_below hw HB.out HGgb.out); have BKgr5 := Aside0.mk (Row.row_there hw BKgr.out (Ne.symm NE.out)); have HO5 := Aside0.mk (show BkO w5 w3.heap.size w4.heap.size A' c' L by rw [hw]; exact VO.row HO.out BKgb.out (by decide) _); have HS5 : Aside0 (w4.heap.size ≤ w5.heap.size) := ⟨by rw [hw, size_row]; exact Nat.le_refl _⟩; have BKgb5 := Aside0.mk (Row.row_here hw BKgb.out); clear HB BKgr HO BKgb; have f0 : w5.cell? ⟨gb, 0, none⟩ = some (.int .i64 s) := (blk_cell BKgb5.out 0).trans rfl; have z0 := blk_frozen BKgb5.out 0; clear hw) | ((with_reducible refine gate_dst (N := 31) rfl ?_); refine Kd.event_run rfl (Row.load_row_run (g := gb) (t := 27) (cells := bkCells s A' c' L) rfl rfl BKgb5.out Try.underlying27 rfl (by kernel_rfl)) ?_) | ((with_reducible refine gate_store (t := 27) (p := 4) rfl ?_); refine store_event (t := 27) (p := 4) (v := ?vo_10) (w1 := w5.setRow gr (bkCells s A' c' L)) ?hg ?ho ?hn ?hr ?_; (case ho => rfl); (case hg => rfl); (case hn => rfl); (case hr => exact (Row.store_row_run (g := gr) (cells := bkCells s A' c' L) (t := 27) (old := #[.int .i64 0, .slice none 0 0, .slice none 0 0, .slice none 0 0, .slice none 0 0, .slice none 0 0, .slice none 0 0, .slice none 0 0, .slice none 0 0]) rfl (by rfl) (by rfl) BKgr5.out (by kernel_rfl) rfl (by simp [Value.oneCell']))); intro w9 hw; have HB9 := Aside0.mk (Row.row_below hw HB5.out HGgr.out); have HO9 := Aside0.mk (show BkO w9 w.heap.size w9.heap.size A' c' (L) by rw [hw, size_row]; exact VO.row (VO.wide HO5.out HI.out HS5.out) BKgr5.out (by decide) _); have BK9 := Aside0.mk (Row.row_here hw BKgr5.out); clear hw))
      refine bodyPost_ret (results_cell_row rfl _ _ gr 27 (bkCells s A' c' L) (0, 0) _ rfl BK9.out Try.underlying27 rfl (by kernel_rfl)) rfl ?_
      exact ⟨s, L, A', c', rfl, ⟨fun _ => ⟨rfl, fun q => absurd q HC.out, fun _ => rfl⟩, fun q => absurd HP.out q⟩, HO9.out, HB9.out⟩
end Go.Proofs.Ytekneicikmaplaa.Bk
namespace Go.Proofs.Ytekneicikmaplaa.Bk
open Go.RowKit Go.Proofs.Ytekneicikmaplaa.PFnBookOf Go.Proofs.YtekneicikmaplaaW.PrintWords Go.Proofs.YtekneicikmaplaaW.PrintLast Go.Proofs.YtekneicikmaplaaW.PrintMore
/-- A book that is new: from lo on. -/
def NewB (lo : Nat) (V : Nat → Value) (L : Nat → List Int) (w : World) : Prop := BoV V L w ∧ ∀ k, ownV V k → lo ≤ k ∧ k < w.heap.size
theorem NewB.of {w : World} {lo : Nat} {A : Nat → Option Addr} {c : Nat → Nat} {L : Nat → List Int} (h : BkO w lo w.heap.size A c L) : NewB lo (slV A c L) L w := BoV.of_VO h
theorem getD_rep (n j : Nat) : (List.replicate n (0 : Int)).getD j 0 = 0 := by
  rw [List.getD_eq_getElem?_getD, List.getElem?_replicate]
  split <;> rfl
theorem Wd.open_ {a b c : Int} (ha : 1 ≤ a) (ha3 : a ≤ 3) (hb : 1 ≤ b) (hb3 : b ≤ 3) (hc : 1 ≤ c) (hc3 : c ≤ 3) : opS a b c = a ∧ Wd a (opL a b c) := by
  have ho : okCfg a b c = true := by simp [okCfg]; omega
  have e8 : (wrap64 (b * 8)).toNat = b.toNat * 8 := by unfold wrap64; omega
  refine ⟨if_pos ho, ?_⟩
  have hL : ∀ i, opL a b c i = opLN a b c i := fun i => if_pos ho
  have h0 : opL a b c 0 = List.replicate b.toNat 0 := hL 0
  have h5 : opL a b c 5 = List.replicate (b.toNat * 8) 0 := by rw [hL 5, ← e8]; rfl
  have h6 : opL a b c 6 = List.replicate a.toNat 0 := hL 6
  have h7 : opL a b c 7 = List.replicate a.toNat 0 := hL 7
  unfold Wd
  rw [h0, h5, h6, h7]
  refine ⟨ha, by omega, by simp; omega, by simp; omega, by simp; omega, by simp; omega, by simp, fun i hi => ?_, fun u hu => ?_, fun p hp => ?_, fun k hk => ?_, fun k hk x => ?_⟩
  · unfold Bv.g; simp only [getD_rep]; exact ⟨by omega, by omega, by omega, by omega, fun _ => by trivial⟩
  · unfold Bv.g; rw [getD_rep]; exact ⟨by omega, by omega, fun q => by omega⟩
  · refine .inl ⟨getD_rep _ _, fun u hu => getD_rep _ _⟩
  · rw [hL]; match k, hk with
    | 0, _ => exact List.nodup_nil
    | 1, _ => exact List.nodup_nil
    | 2, _ => exact List.nodup_nil
    | 3, _ => exact List.nodup_nil
  · have : opL a b c (k + 1) = [] := by
      rw [hL]; match k, hk with
      | 0, _ => rfl
      | 1, _ => rfl
      | 2, _ => rfl
      | 3, _ => rfl
    rw [this]
    refine ⟨fun h => (by cases h), ?_⟩
    rintro ⟨u, _, _, hP, _⟩
    unfold Bv.g at hP
    rw [getD_rep] at hP
    omega
theorem openB (a b c : Int) (ha : 1 ≤ a) (ha3 : a ≤ 3) (hb : 1 ≤ b) (hb3 : b ≤ 3) (hc : 1 ≤ c) (hc3 : c ≤ 3) (w : World) : Calls Try.prog 11 #[.agg #[.int .i64 a, .int .i64 b, .int .i64 c]] w fun e w' => ∃ V L, e = .returned (.agg (bkV a V)) ∧ Wd a L ∧ NewB w.heap.size V L w' ∧ Below w.heap.size w w' := by
  obtain ⟨e1, e2⟩ := Wd.open_ ha ha3 hb hb3 hc hc3
  refine (specOpen_calls a b c w).mono ?_
  rintro e w' ⟨A, k, rfl, ho, hb⟩
  exact ⟨slV A k (opL a b c), opL a b c, by rw [e1], e2, NewB.of ho, hb⟩
theorem Wd.l8 {s : Int} {L : Nat → List Int} (h : Wd s L) : Wd s (L8 L) := by
  unfold Wd
  rw [L8_lt (show 0 < 8 by omega), L8_lt (show 5 < 8 by omega), L8_lt (show 6 < 8 by omega), L8_lt (show 7 < 8 by omega)]
  exact Wcong h (fun k hk => L8_lt (by omega))
theorem wf_of {l : List Int} (h : ∀ k, k < l.length → -1000000 ≤ l.getD k 0 ∧ l.getD k 0 ≤ 1000000) : Wf64 l := fun k => by
  by_cases q : k < l.length
  · have := h k q; omega
  · have : l.getD k 0 = 0 := Bv.g_out l k (by omega)
    omega
/-- The rows' numbers are small. -/
theorem Wd.small {s : Int} {L : Nat → List Int} (h : Wd s L) {i : Nat} (hi : i < 8) : ∀ k, k < (L i).length → -1000 ≤ (L i).getD k 0 ∧ (L i).getD k 0 ≤ 5000 := by
  obtain ⟨hl6, hl1, hl5, hl48, hlI, hlE, hs1, hs4⟩ := h.rows
  intro k hk
  match i, hi with
  | 0, _ =>
    rcases Bv.W.page h k hk with ⟨a1, _⟩ | ⟨j, hj, a1, _⟩ | ⟨m, _, m4, a3, _⟩ | ⟨a1, _⟩
    · have a1 : (L 0).getD k 0 = 0 := a1
      omega
    · have a1 : (L 0).getD k 0 = (j : Int) + 1 := a1
      omega
    · have a3 : (L 0).getD k 0 = 8 + (m : Int) := a3
      omega
    · have a1 : (L 0).getD k 0 = 7 := a1
      omega
  | 5, _ =>
    have a1 := Bv.W.unit h k hk
    have a2 : 0 ≤ (L 5).getD k 0 := a1.1
    have a3 : (L 5).getD k 0 ≤ s := a1.2.1
    omega
  | 6, _ =>
    have a1 := Bv.W.slot h k (by omega)
    have a2 : 0 ≤ (L 6).getD k 0 := a1.1
    have a3 : (L 6).getD k 0 ≤ 2 := a1.2.1
    omega
  | 7, _ =>
    have a1 := Bv.W.slot h k (by omega)
    have a2 : 0 ≤ (L 7).getD k 0 := a1.2.2.1
    have a3 : (L 7).getD k 0 ≤ 4095 := a1.2.2.2.1
    omega
  | j + 1, hj =>
    by_cases h4 : j < 4
    · have hm : (L (j + 1)).getD k 0 ∈ L (j + 1) := by rw [List.getD_eq_getElem?_getD, List.getElem?_eq_getElem hk]; exact List.getElem_mem _
      obtain ⟨u, e1, e2, _⟩ := (Bv.W.mem h j h4 _).1 hm
      have e2 : u < (L 5).length := e2
      omega
    · rcases (show j = 4 ∨ j = 5 ∨ j = 6 by omega) with rfl | rfl | rfl
      · have hk : k < (L 5).length := hk
        have a1 := Bv.W.unit h k hk
        have a2 : 0 ≤ (L 5).getD k 0 := a1.1
        have a3 : (L 5).getD k 0 ≤ s := a1.2.1
        show -1000 ≤ (L 5).getD k 0 ∧ (L 5).getD k 0 ≤ 5000
        omega
      · have hk : k < (L 6).length := hk
        have a1 := Bv.W.slot h k (by omega)
        have a2 : 0 ≤ (L 6).getD k 0 := a1.1
        have a3 : (L 6).getD k 0 ≤ 2 := a1.2.1
        show -1000 ≤ (L 6).getD k 0 ∧ (L 6).getD k 0 ≤ 5000
        omega
      · have hk : k < (L 7).length := hk
        have a1 := Bv.W.slot h k (by omega)
        have a2 : 0 ≤ (L 7).getD k 0 := a1.2.2.1
        have a3 : (L 7).getD k 0 ≤ 4095 := a1.2.2.2.1
        show -1000 ≤ (L 7).getD k 0 ∧ (L 7).getD k 0 ≤ 5000
        omega
theorem Wd.cut {s : Int} {L : Nat → List Int} (h : Wd s L) {x : Int} (hx : CutC s L x) : Wd s (cutL L x) := by
  obtain ⟨h0, h1, h2⟩ := hx
  refine Wd.slotSet h (u := x.toNat) (by omega) (v := 2) (by omega) (by omega) (fun q => ?_) (fun q => by omega)
  have a1 := Bv.W.slot h x.toNat (by omega)
  have a2 : (L 6).getD x.toNat 0 = 0 := a1.2.2.2.2 q
  omega
theorem cutB (s : Int) (V : Nat → Value) (L : Nat → List Int) (hW : Wd s L) (x : Int) (hx0 : 0 ≤ x) (hx1 : x ≤ 1000) (w : World) (h : BoV V L w) : Calls Try.prog 30 #[.agg (bkV s V), .int .i64 x] w fun e w' => ∃ V' L', e = .returned (.agg (bkV s V')) ∧ Wd s L' ∧ NewB w.heap.size V' L' w' ∧ Below w.heap.size w w' := by
  have e : bkV s V = bkCells s (fun i => aOf (V i)) (fun i => cOf (V i)) (L8 L) := by rw [h.cells s]; rfl
  have hc : BkC w (fun i => aOf (V i)) (fun i => cOf (V i)) (L8 L) := fun i hi => by rw [L8_lt hi]; exact h.bkC i hi
  rw [e]
  refine (specCut_calls s _ _ (L8 L) x w hc (fun i => by have := hW.len8 i; omega) (fun i => ?_) ⟨by omega, by omega⟩).mono ?_
  · by_cases hi : i < 8
    · rw [L8_lt hi]; exact wf_of (fun k hk => by have := hW.small hi k hk; omega)
    · have : L8 L i = [] := if_neg hi
      rw [this]; exact wf_of (fun k hk => by simp at hk)
  rintro e w' ⟨s', L', A', c', rfl, hP, ho, hb⟩
  obtain ⟨rfl, h1, h2⟩ := hP.1 (Bv.W.book (L := L8 L) hW.l8)
  refine ⟨slV A' c' L', L', rfl, ?_, NewB.of ho, hb⟩
  by_cases hq : CutC s' (L8 L) x
  · rw [h1 hq]; exact hW.l8.cut hq
  · rw [h2 hq]; exact hW.l8
theorem NewB.drew {lo : Nat} {V : Nat → Value} {L : Nat → List Int} {w : World} (h : NewB lo V L w) : NewB lo V L w.drew :=
  ⟨Rb.stable V L w w.drew h.1 (Nat.le_refl _) (fun _ _ => rfl), h.2⟩
theorem Sx.newB {ar : Nat → Prop} {w0 w w' : World} {rs : List Rx} {V : Nat → Value} {L : Nat → List Int} (h : Sx ar w0 w rs) (hn : NewB w.heap.size V L w') (hb : Below w.heap.size w w') : Sx ar w0 w' (Rb V L :: rs) :=
  h.new hb hn.1 (Rb.stable _ _) hn.2
set_option maxHeartbeats 16000000 in
set_option maxRecDepth 100000 in
theorem l3Book_calls {w0 : World} {g : Nat} {bs : List Int} {p : Int} (hs : BsOk bs) (p0 : 0 ≤ p) (p1 : p ≤ 100000) (a b c : Int) (ha : 1 ≤ a) (ha3 : a ≤ 3) (hb : 1 ≤ b) (hb3 : b ≤ 3) (hc : 1 ≤ c) (hc3 : c ≤ 3) (n : Nat) (hn : n ≤ 45) (w : World) (hI : IsS74 w0 w g bs p) (hB : Below w0.heap.size w0 w) :
    Calls Try.prog 87 #[.pointer (some ⟨g, 0, none⟩), .agg #[.int .i64 a, .int .i64 b, .int .i64 c], .int .i64 (n : Int)] w fun e w' => ∃ V L p', e = .returned (.agg (bkV a V)) ∧ Wd a L ∧ BoV V L w' ∧ (∀ k, ownV V k → w.heap.size ≤ k ∧ k < w'.heap.size) ∧ IsS74 w0 w' g bs p' ∧ p ≤ p' ∧ p' ≤ p + 20 * n ∧ Fr (fun k => k = g) w w' := by
  have HBS := Aside0.mk hs
  have S : Aside0 (Sx (fun k => k = g) w w [Rr w0 g bs p]) := ⟨Sx.one (r := Rr w0 g bs p) hI (Rr.stable _ _ _ _) (fun k hk => by have hk : k = g := hk; rw [hk]; exact hI.lt)⟩
  have HBW : Aside0 (∀ w', Fr (fun k => k = g) w w' → Below w0.heap.size w0 w') := ⟨fun w' hf => below_fr hB hf (fun k hk => by have hk : k = g := hk; rw [hk]; exact hI.ge)⟩
  have HOP := Aside0.mk (fun w_ => openB a b c ha ha3 hb hb3 hc hc3 w_)
  clear hI hB hs hb hb3 hc hc3
  go_enter Try.func87, Try.ntmps87
  go_upto_region 1 with (first | ((with_reducible refine gate_dst (N := 4) rfl ?_); refine box_event rfl (N := 4) rfl (cs := #[.int .i64 a, .int .i64 b, .int .i64 c]) (t := 29) (by first | (go_simp; done) | (go_simp; rfl)) ?_; intro gc hg_ w1 hbox_ hb_; have Sn_ := Aside0.mk (S.out.box hg_ hbox_ hb_); clear hbox_ hb_ hg_ S; have S := Sn_; clear Sn_) | ((with_reducible refine gate_dst (N := 6) rfl ?_); refine box_event rfl (N := 6) rfl (cs := #[.int .i64 0, .slice none 0 0, .slice none 0 0, .slice none 0 0, .slice none 0 0, .slice none 0 0, .slice none 0 0, .slice none 0 0, .slice none 0 0]) (t := 27) (by first | (go_simp; done) | (go_simp; rfl)) ?_; intro gr hg_ w2 hbox_ hb_; have Sn_ := Aside0.mk (S.out.box hg_ hbox_ hb_); clear hbox_ hb_ hg_ S; have S := Sn_; clear Sn_))
  go_wp2_with (first | ((with_reducible refine gate_dst (N := 10) rfl ?_); refine Kd.event_run rfl (Row.load_row_run (g := gc) (t := 29) (cells := #[.int .i64 a, .int .i64 b, .int .i64 c]) rfl rfl (S.out.blk 1 rfl) Try.underlying29 rfl (by kernel_rfl)) ?_))
  refine (HOP.out _).mono ?_
  rintro e w3 ⟨V0, L0, rfl, hWd, hN, hb⟩
  have HWD := Aside0.mk hWd
  have HONE := Aside0.mk (hN.1.one a)
  clear hWd
  have Sn_ := Aside0.mk (S.out.newB hN hb)
  clear S hN hb HOP
  have S := Sn_
  clear Sn_
  go_upto_region 2 with (first | ((with_reducible refine gate_dst (N := 7) rfl ?_); refine box_event rfl (N := 7) rfl (cs := #[.int .i64 0, .slice none 0 0, .slice none 0 0, .slice none 0 0, .slice none 0 0, .slice none 0 0, .slice none 0 0, .slice none 0 0, .slice none 0 0]) (t := 27) (by first | (go_simp; done) | (go_simp; rfl)) ?_; intro gb hg_ w4 hbox_ hb_; have Sn_ := Aside0.mk (S.out.box hg_ hbox_ hb_); clear hbox_ hb_ hg_ S; have S := Sn_; clear Sn_) | ((with_reducible refine gate_store (t := 27) (p := 7) rfl ?_); refine store_event (t := 27) (p := 7) (v := ?vo_1) (w1 := w4.setRow gb (bkV a V0)) ?hg ?ho ?hn ?hr ?_; (case ho => rfl); (case hg => rfl); (case hn => rfl); (case hr => exact (Row.store_row_run (g := gb) (cells := bkV a V0) (t := 27) (old := #[.int .i64 0, .slice none 0 0, .slice none 0 0, .slice none 0 0, .slice none 0 0, .slice none 0 0, .slice none 0 0, .slice none 0 0, .slice none 0 0]) rfl (by rfl) (by rfl) (S.out.blk 0 rfl) (by kernel_rfl) rfl (HONE.out))); intro w5 hw_; have Sn_ := Aside0.mk ((S.out.setRow (cs' := bkV a V0) (rs' := [Bx gb (bkV a V0) 27, Rb V0 (L0), Bx gr (#[.int .i64 0, .slice none 0 0, .slice none 0 0, .slice none 0 0, .slice none 0 0, .slice none 0 0, .slice none 0 0, .slice none 0 0, .slice none 0 0]) 27, Bx gc (#[.int .i64 a, .int .i64 b, .int .i64 c]) 29, Rr w0 g bs p]) 0 rfl rfl).of hw_); clear S hw_; have S := Sn_; clear Sn_))
  have Sn_ := Aside0.mk (S.out.drop (rs' := [Bx gb (bkV a V0) 27, Rb V0 (L0), Bx gr (#[.int .i64 0, .slice none 0 0, .slice none 0 0, .slice none 0 0, .slice none 0 0, .slice none 0 0, .slice none 0 0, .slice none 0 0, .slice none 0 0]) 27, Rr w0 g bs p]) 3 rfl)
  clear S
  have S := Sn_
  clear Sn_
  clear HONE
  go_wp2_with fail
  go_loopg [8] (n + 1) (fun kq v8 w' => ∃ (i : Nat) (V : Nat → Value) (L : Nat → List Int) (p' : Int), i ≤ n ∧ kq = n + 1 - i ∧ v8 = .int .i64 i ∧ Aside0 (Wd a L) ∧ p ≤ p' ∧ p' ≤ p + 20 * i ∧ Aside0 (Sx (fun k => k = g) w w' [Bx gb (bkV a V) 27, Rb V (L), Bx gr (#[.int .i64 0, .slice none 0 0, .slice none 0 0, .slice none 0 0, .slice none 0 0, .slice none 0 0, .slice none 0 0, .slice none 0 0, .slice none 0 0]) 27, Rr w0 g bs p']))
  case atStart => exact ⟨0, V0, L0, p, by omega, by omega, rfl, HWD, by omega, by omega, S⟩
  case round =>
    clear S HWD
    obtain ⟨i, V, L, q, hi, rfl, rfl, HWD, hq0, hq1, S⟩ := hrel
    by_cases hlt : i < n
    · have hi2 : (i : Int) < (n : Int) := by omega
      have hq2 : q ≤ 200000 := by omega
      have hq3 : 0 ≤ q := by omega
      go_wp2_with fail
      refine (pickS HBS.out (S.out.get 3 rfl) (HBW.out _ S.out.base) (by omega) (by omega) (14) (by omega)).mono ?_
      rintro e w6 ⟨z, rfl, z0, z1, hI_, hf_⟩
      have Sn_ := Aside0.mk (S.out.read (rs' := [Bx gb (bkV a V) 27, Rb V (L), Bx gr (#[.int .i64 0, .slice none 0 0, .slice none 0 0, .slice none 0 0, .slice none 0 0, .slice none 0 0, .slice none 0 0, .slice none 0 0, .slice none 0 0]) 27, Rr w0 g bs (q + 1)]) 3 rfl hI_ hf_ rfl)
      clear S hI_ hf_
      have S := Sn_
      clear Sn_
      clear z1
      by_cases hz : z = 0
      · have bz : (z == 0) = true := beq_iff_eq.mpr hz
        clear hz z0
        go_wp2_with fail
        have Sn_ := Aside0.mk (S.out.drew)
        clear S
        have S := Sn_
        clear Sn_
        refine start_ (n := 5) (S := fun w_ => w_.heap[gb]? = some (.cells (bkV a V) 27 (0, 0))) (ds := [4]) #[false, false, false, false, false] (by kernel_rfl) rfl rfl (S.out.blk 0 rfl) (fun hH_ => ?_)
        refine take_ (i := 0) (N := some 20) (v := .agg (bkV a V)) (a' := ?_) #[true, false, false, false, false] rfl rfl (by kernel_rfl) (fun _ _ _ h => h) (Or.inl ⟨by rfl, fun w' s0 => Row.load_row_run (g := gb) (t := 27) (cells := bkV a V) rfl rfl s0 Try.underlying27 rfl (by kernel_rfl)⟩) hH_ ?_ ?_
        rotate_left
        · simp only [Act.put, List.setIfInBounds_toArray, List.set_cons_zero, List.set_cons_succ, i64_w, i32_w]
          rfl
        refine pure_ (i := 1) (N := some 21) (v := ?_) (a' := ?_) #[true, true, false, false, false] rfl rfl (by kernel_rfl) (fun _ _ _ h => h) (Or.inl ⟨by rfl, ?_⟩) ?_ ?_
        rotate_left
        · intro w'
          go_simp
          with_reducible rfl
        rotate_left
        · simp only [Act.put, List.setIfInBounds_toArray, List.set_cons_zero, List.set_cons_succ, i64_w, i32_w]
          rfl
        refine one_ (i := 2) (N := some 22) #[true, true, true, false, false] rfl rfl (by kernel_rfl) (by decide) (fun K hK => ?_)
        refine goes_ Try.func65 (by kernel_rfl) rfl #[.pointer (some ⟨g, 0, none⟩), .int .i64 3] (by rfl) rfl rfl (by (try simp only [List.map_toArray, List.map_cons, List.map_nil]); first | done | rfl) ?_
        refine (pickS HBS.out (S.out.get 3 rfl) (HBW.out _ S.out.base) (by omega) (by omega) 3 (by omega)).mono ?_
        rintro e w7 ⟨x, rfl, x0, x1, hI_, hf_⟩
        have Sn_ := Aside0.mk (S.out.read (rs' := [Bx gb (bkV a V) 27, Rb V (L), Bx gr (#[.int .i64 0, .slice none 0 0, .slice none 0 0, .slice none 0 0, .slice none 0 0, .slice none 0 0, .slice none 0 0, .slice none 0 0, .slice none 0 0]) 27, Rr w0 g bs ((q + 1) + 1)]) 3 rfl hI_ hf_ rfl)
        clear S hI_ hf_
        have S := Sn_
        clear Sn_
        refine ⟨_, rfl, hK.out _ _ (S.out.blk 0 rfl) (fun hX_ => ?_)⟩
        clear hK K hX_
        refine norm_ (a' := ?_) ?_ ?_
        rotate_left
        · show Act.put _ (some 22) _ = _
          simp only [Act.put, List.setIfInBounds_toArray, List.set_cons_zero, List.set_cons_succ, i64_w, i32_w]
          rfl
        refine one_ (i := 3) (N := some 23) #[true, true, true, true, false] rfl rfl (by kernel_rfl) (by decide) (fun K hK => ?_)
        refine goes_ Try.func30 (by kernel_rfl) rfl #[.agg (bkV a V), .int .i64 x] (by rfl) rfl rfl (by (try simp only [List.map_toArray, List.map_cons, List.map_nil]); first | done | rfl) ?_
        refine (cutB a V L HWD.out x x0 (by omega) _ (S.out.get 1 rfl)).mono ?_
        rintro e w8 ⟨V2, L2, rfl, hWd, hN, hb⟩
        have HWD2 := Aside0.mk hWd
        have HONE := Aside0.mk (hN.1.one a)
        clear hWd
        have Sn_ := Aside0.mk (S.out.newB hN hb)
        clear S hN hb
        have S := Sn_
        clear Sn_
        refine ⟨_, rfl, hK.out _ _ (S.out.blk 1 rfl) (fun hX_ => ?_)⟩
        clear hK K hX_
        refine norm_ (a' := ?_) ?_ ?_
        rotate_left
        · show Act.put _ (some 23) _ = _
          simp only [Act.put, List.setIfInBounds_toArray, List.set_cons_zero, List.set_cons_succ, i64_w, i32_w]
          rfl
        refine last_ (i := 4) (N := none) #[true, true, true, true, true] rfl rfl (by kernel_rfl) (by decide) (fun K hK => ?_)
        have SN := Aside0.mk (Sx.setRow (cs' := bkV a V2) (rs' := [Rb V2 (L2), Bx gb (bkV a V2) 27, Rb V (L), Bx gr (#[.int .i64 0, .slice none 0 0, .slice none 0 0, .slice none 0 0, .slice none 0 0, .slice none 0 0, .slice none 0 0, .slice none 0 0, .slice none 0 0]) 27, Rr w0 g bs ((q + 1) + 1)]) S.out 1 rfl rfl)
        refine skip_ (w1 := w8.setRow gb (bkV a V2)) (by rfl) rfl (Row.store_row_run (g := gb) (cells := bkV a V2) (t := 27) (old := bkV a V) rfl (by rfl) (by rfl) (S.out.blk 1 rfl) (by kernel_rfl) rfl HONE.out) ?_
        refine hK.out _ _ ?_
        clear hK K S hH_
        have S := SN
        clear SN
        obtain ⟨w9, hw_⟩ : ∃ w_, w8.setRow gb (bkV a V2) = w_ := ⟨_, rfl⟩
        rw [hw_] at S
        rw [hw_]
        clear hw_
        refine done_ (by kernel_rfl) ?_
        have Sn_ := Aside0.mk (S.out.drop (rs' := [Rb V2 (L2), Bx gb (bkV a V2) 27, Bx gr (#[.int .i64 0, .slice none 0 0, .slice none 0 0, .slice none 0 0, .slice none 0 0, .slice none 0 0, .slice none 0 0, .slice none 0 0, .slice none 0 0]) 27, Rr w0 g bs ((q + 1) + 1)]) 2 rfl)
        clear S
        have S := Sn_
        clear Sn_
        -- ['rb', 'gb', 'gr', 'rd'] -> ['gb', 'rb', 'gr', 'rd']
        have Sn_ := Aside0.mk (S.out.perm (rs' := [Bx gb (bkV a V2) 27, Rb V2 (L2), Bx gr (#[.int .i64 0, .slice none 0 0, .slice none 0 0, .slice none 0 0, .slice none 0 0, .slice none 0 0, .slice none 0 0, .slice none 0 0, .slice none 0 0]) 27, Rr w0 g bs ((q + 1) + 1)]) (List.perm_middle (l₁ := [Bx gb (bkV a V2) 27])).symm)
        clear S
        have S := Sn_
        clear Sn_
        go_wp2_with fail
        go_roundg (n + 1 - (i + 1))
        case measure => omega
        case rel => exact ⟨i + 1, V2, L2, ((q + 1) + 1), by omega, rfl, by go_num, HWD2, by omega, by omega, S⟩
      have bz : (z == 0) = false := beq_eq_false_iff_ne.mpr hz
      clear hz z0
      go_wp2_with (first | ((with_reducible refine gate_dst (N := 25) rfl ?_); refine Kd.event_run rfl (Row.load_row_run (g := gb) (t := 27) (cells := bkV a V) rfl rfl (S.out.blk 0 rfl) Try.underlying27 rfl (by kernel_rfl)) ?_))
      refine (l3Op_calls HBS.out (by omega) (by omega) a V L HWD.out _ (S.out.get 3 rfl) (HBW.out _ S.out.base) (S.out.get 1 rfl) (fun k hk hk2 => S.out.ne 1 3 rfl rfl (by omega) k hk hk2)).mono ?_
      rintro e w10 ⟨kd, x, A, B, p2, rfl, ⟨hx0, hx1⟩, ⟨hA0, hA1⟩, ⟨hB0, hB1⟩, hI_, hp0, hp1, hf_⟩
      have Sn_ := Aside0.mk (S.out.read (rs' := [Bx gb (bkV a V) 27, Rb V (L), Bx gr (#[.int .i64 0, .slice none 0 0, .slice none 0 0, .slice none 0 0, .slice none 0 0, .slice none 0 0, .slice none 0 0, .slice none 0 0, .slice none 0 0]) 27, Rr w0 g bs p2]) 3 rfl hI_ hf_ rfl)
      clear S hI_ hf_
      have S := Sn_
      clear Sn_
      go_upto_region 8 with (first | ((with_reducible refine gate_dst (N := 9) rfl ?_); refine box_event rfl (N := 9) rfl (cs := #[.int .i64 0, .int .i64 0, .int .i64 0, .int .i64 0]) (t := 80) (by first | (go_simp; done) | (go_simp; rfl)) ?_; intro go hg_ w11 hbox_ hb_; have Sn_ := Aside0.mk (S.out.box hg_ hbox_ hb_); clear hbox_ hb_ hg_ S; have S := Sn_; clear Sn_) | ((with_reducible refine gate_store (t := 80) (p := 9) rfl ?_); refine store_event (t := 80) (p := 9) (v := ?vo_2) (w1 := w11.setRow go (#[.int .i64 kd, .int .i64 x, .int .i64 A, .int .i64 B])) ?hg ?ho ?hn ?hr ?_; (case ho => rfl); (case hg => rfl); (case hn => rfl); (case hr => exact (Row.store_row_run (g := go) (cells := #[.int .i64 kd, .int .i64 x, .int .i64 A, .int .i64 B]) (t := 80) (old := #[.int .i64 0, .int .i64 0, .int .i64 0, .int .i64 0]) rfl (by rfl) (by rfl) (S.out.blk 0 rfl) (by kernel_rfl) rfl (by simp [Value.oneCell']))); intro w12 hw_; have Sn_ := Aside0.mk ((S.out.setRow (cs' := #[.int .i64 kd, .int .i64 x, .int .i64 A, .int .i64 B]) (rs' := [Bx go (#[.int .i64 kd, .int .i64 x, .int .i64 A, .int .i64 B]) 80, Bx gb (bkV a V) 27, Rb V (L), Bx gr (#[.int .i64 0, .slice none 0 0, .slice none 0 0, .slice none 0 0, .slice none 0 0, .slice none 0 0, .slice none 0 0, .slice none 0 0, .slice none 0 0]) 27, Rr w0 g bs p2]) 0 rfl rfl).of hw_); clear S hw_; have S := Sn_; clear Sn_))
      have f_gb_0 : w12.cell? ⟨gb, 0, none⟩ = some (.int .i64 a) := (S.out.cell 1 rfl 0).trans rfl
      by_cases hia : (i : Int) < a
      · have bi : decide ((i : Int) < a) = true := decide_eq_true hia
        go_wp2_with (first | ((with_reducible refine gate_store (t := 80) (p := 9) rfl ?_); refine store_event (t := 80) (p := 9) (v := ?vo_3) (w1 := w12.setRow go (#[.int .i64 1, .int .i64 (i : Int), .int .i64 0, .int .i64 0])) ?hg ?ho ?hn ?hr ?_; (case ho => rfl); (case hg => rfl); (case hn => rfl); (case hr => exact (Row.store_row_run (g := go) (cells := #[.int .i64 1, .int .i64 (i : Int), .int .i64 0, .int .i64 0]) (t := 80) (old := #[.int .i64 kd, .int .i64 x, .int .i64 A, .int .i64 B]) rfl (by rfl) (by rfl) (S.out.blk 0 rfl) (by kernel_rfl) rfl (by simp [Value.oneCell']))); intro w13 hw_; have Sn_ := Aside0.mk ((S.out.setRow (cs' := #[.int .i64 1, .int .i64 (i : Int), .int .i64 0, .int .i64 0]) (rs' := [Bx go (#[.int .i64 1, .int .i64 (i : Int), .int .i64 0, .int .i64 0]) 80, Bx gb (bkV a V) 27, Rb V (L), Bx gr (#[.int .i64 0, .slice none 0 0, .slice none 0 0, .slice none 0 0, .slice none 0 0, .slice none 0 0, .slice none 0 0, .slice none 0 0, .slice none 0 0]) 27, Rr w0 g bs p2]) 0 rfl rfl).of hw_); clear S hw_; have S := Sn_; clear Sn_) | ((with_reducible refine gate_dst (N := 34) rfl ?_); refine Kd.event_run rfl (Row.load_row_run (g := gb) (t := 27) (cells := bkV a V) rfl rfl (S.out.blk 1 rfl) Try.underlying27 rfl (by kernel_rfl)) ?_) | ((with_reducible refine gate_dst (N := 35) rfl ?_); refine Kd.event_run rfl (Row.load_row_run (g := go) (t := 80) (cells := #[.int .i64 1, .int .i64 (i : Int), .int .i64 0, .int .i64 0]) rfl rfl (S.out.blk 0 rfl) Try.underlying80 rfl (by kernel_rfl)) ?_))
        refine (l3Do_calls l3Back_calls a V L HWD.out 1 (i : Int) (by omega) (by omega) 0 0 (by omega) (by omega) (by omega) (by omega) _ (S.out.get 2 rfl)).mono ?_
        rintro e w14 ⟨V1, L1, r1, r2, rfl, hWd, hO⟩
        have HWD1 := Aside0.mk hWd
        have HONE := Aside0.mk (hO.1.one a)
        clear hWd
        have Sn_ := Aside0.mk (S.out.back (rs' := [Bx go (#[.int .i64 1, .int .i64 (i : Int), .int .i64 0, .int .i64 0]) 80, Bx gb (bkV a V) 27, Rb V1 (L1), Bx gr (#[.int .i64 0, .slice none 0 0, .slice none 0 0, .slice none 0 0, .slice none 0 0, .slice none 0 0, .slice none 0 0, .slice none 0 0, .slice none 0 0]) 27, Rr w0 g bs p2]) 2 rfl hO rfl)
        clear S hO
        have S := Sn_
        clear Sn_
        go_upto_region 4 with (first | ((with_reducible refine gate_store (t := 27) (p := 7) rfl ?_); refine store_event (t := 27) (p := 7) (v := ?vo_4) (w1 := w14.setRow gb (bkV a V1)) ?hg ?ho ?hn ?hr ?_; (case ho => rfl); (case hg => rfl); (case hn => rfl); (case hr => exact (Row.store_row_run (g := gb) (cells := bkV a V1) (t := 27) (old := bkV a V) rfl (by rfl) (by rfl) (S.out.blk 1 rfl) (by kernel_rfl) rfl (HONE.out))); intro w15 hw_; have Sn_ := Aside0.mk ((S.out.setRow (cs' := bkV a V1) (rs' := [Bx go (#[.int .i64 1, .int .i64 (i : Int), .int .i64 0, .int .i64 0]) 80, Bx gb (bkV a V1) 27, Rb V1 (L1), Bx gr (#[.int .i64 0, .slice none 0 0, .slice none 0 0, .slice none 0 0, .slice none 0 0, .slice none 0 0, .slice none 0 0, .slice none 0 0, .slice none 0 0]) 27, Rr w0 g bs p2]) 1 rfl rfl).of hw_); clear S hw_; have S := Sn_; clear Sn_))
        have Sn_ := Aside0.mk (S.out.drop (rs' := [Bx gb (bkV a V1) 27, Rb V1 (L1), Bx gr (#[.int .i64 0, .slice none 0 0, .slice none 0 0, .slice none 0 0, .slice none 0 0, .slice none 0 0, .slice none 0 0, .slice none 0 0, .slice none 0 0]) 27, Rr w0 g bs p2]) 0 rfl)
        clear S
        have S := Sn_
        clear Sn_
        go_wp2_with fail
        go_roundg (n + 1 - (i + 1))
        case measure => omega
        case rel => exact ⟨i + 1, V1, L1, p2, by omega, rfl, by go_num, HWD1, by omega, by omega, S⟩
      have bi : decide ((i : Int) < a) = false := decide_eq_false hia
      clear hia
      go_wp2_with (first | ((with_reducible refine gate_dst (N := 34) rfl ?_); refine Kd.event_run rfl (Row.load_row_run (g := gb) (t := 27) (cells := bkV a V) rfl rfl (S.out.blk 1 rfl) Try.underlying27 rfl (by kernel_rfl)) ?_) | ((with_reducible refine gate_dst (N := 35) rfl ?_); refine Kd.event_run rfl (Row.load_row_run (g := go) (t := 80) (cells := #[.int .i64 kd, .int .i64 x, .int .i64 A, .int .i64 B]) rfl rfl (S.out.blk 0 rfl) Try.underlying80 rfl (by kernel_rfl)) ?_))
      refine (l3Do_calls l3Back_calls a V L HWD.out kd x hx0 hx1 A B hA0 hA1 hB0 hB1 _ (S.out.get 2 rfl)).mono ?_
      rintro e w16 ⟨V1, L1, r1, r2, rfl, hWd, hO⟩
      have HWD1 := Aside0.mk hWd
      have HONE := Aside0.mk (hO.1.one a)
      clear hWd
      have Sn_ := Aside0.mk (S.out.back (rs' := [Bx go (#[.int .i64 kd, .int .i64 x, .int .i64 A, .int .i64 B]) 80, Bx gb (bkV a V) 27, Rb V1 (L1), Bx gr (#[.int .i64 0, .slice none 0 0, .slice none 0 0, .slice none 0 0, .slice none 0 0, .slice none 0 0, .slice none 0 0, .slice none 0 0, .slice none 0 0]) 27, Rr w0 g bs p2]) 2 rfl hO rfl)
      clear S hO
      have S := Sn_
      clear Sn_
      go_upto_region 4 with (first | ((with_reducible refine gate_store (t := 27) (p := 7) rfl ?_); refine store_event (t := 27) (p := 7) (v := ?vo_5) (w1 := w16.setRow gb (bkV a V1)) ?hg ?ho ?hn ?hr ?_; (case ho => rfl); (case hg => rfl); (case hn => rfl); (case hr => exact (Row.store_row_run (g := gb) (cells := bkV a V1) (t := 27) (old := bkV a V) rfl (by rfl) (by rfl) (S.out.blk 1 rfl) (by kernel_rfl) rfl (HONE.out))); intro w17 hw_; have Sn_ := Aside0.mk ((S.out.setRow (cs' := bkV a V1) (rs' := [Bx go (#[.int .i64 kd, .int .i64 x, .int .i64 A, .int .i64 B]) 80, Bx gb (bkV a V1) 27, Rb V1 (L1), Bx gr (#[.int .i64 0, .slice none 0 0, .slice none 0 0, .slice none 0 0, .slice none 0 0, .slice none 0 0, .slice none 0 0, .slice none 0 0, .slice none 0 0]) 27, Rr w0 g bs p2]) 1 rfl rfl).of hw_); clear S hw_; have S := Sn_; clear Sn_))
      have Sn_ := Aside0.mk (S.out.drop (rs' := [Bx gb (bkV a V1) 27, Rb V1 (L1), Bx gr (#[.int .i64 0, .slice none 0 0, .slice none 0 0, .slice none 0 0, .slice none 0 0, .slice none 0 0, .slice none 0 0, .slice none 0 0, .slice none 0 0]) 27, Rr w0 g bs p2]) 0 rfl)
      clear S
      have S := Sn_
      clear Sn_
      go_wp2_with fail
      go_roundg (n + 1 - (i + 1))
      case measure => omega
      case rel => exact ⟨i + 1, V1, L1, p2, by omega, rfl, by go_num, HWD1, by omega, by omega, S⟩
    · have hie : i = n := by omega
      subst hie
      clear hlt
      have HONE := Aside0.mk ((S.out.get 1 rfl).one a)
      go_wp2_with (first | ((with_reducible refine gate_dst (N := 40) rfl ?_); refine Kd.event_run rfl (Row.load_row_run (g := gb) (t := 27) (cells := bkV a V) rfl rfl (S.out.blk 0 rfl) Try.underlying27 rfl (by kernel_rfl)) ?_) | ((with_reducible refine gate_store (t := 27) (p := 6) rfl ?_); refine store_event (t := 27) (p := 6) (v := ?vo_6) (w1 := wr.setRow gr (bkV a V)) ?hg ?ho ?hn ?hr ?_; (case ho => rfl); (case hg => rfl); (case hn => rfl); (case hr => exact (Row.store_row_run (g := gr) (cells := bkV a V) (t := 27) (old := #[.int .i64 0, .slice none 0 0, .slice none 0 0, .slice none 0 0, .slice none 0 0, .slice none 0 0, .slice none 0 0, .slice none 0 0, .slice none 0 0]) rfl (by rfl) (by rfl) (S.out.blk 2 rfl) (by kernel_rfl) rfl (HONE.out))); intro w18 hw_; have Sn_ := Aside0.mk ((S.out.setRow (cs' := bkV a V) (rs' := [Bx gb (bkV a V) 27, Rb V (L), Bx gr (bkV a V) 27, Rr w0 g bs q]) 2 rfl rfl).of hw_); clear S hw_; have S := Sn_; clear Sn_))
      refine bodyPost_ret (results_cell_row rfl _ _ gr 27 (bkV a V) (0, 0) _ rfl (S.out.blk 2 rfl) Try.underlying27 rfl (by kernel_rfl)) rfl ?_
      exact ⟨V, L, q, rfl, HWD.out, S.out.get 1 rfl, fun k hk => ⟨(S.out.arg 1 rfl k hk).elim (fun e => absurd e (S.out.ne 1 3 rfl rfl (by omega) k hk)) (fun e => e), S.out.lt 1 rfl k hk⟩, S.out.get 3 rfl, hq0, hq1, S.out.base⟩
end Go.Proofs.Ytekneicikmaplaa.Bk
namespace Go.Proofs.Ytekneicikmaplaa.Bk
open Go.RowKit Go.Proofs.YtekneicikmaplaaW.PrintWords Go.Proofs.YtekneicikmaplaaW.PrintLast Go.Proofs.YtekneicikmaplaaW.PrintMore
theorem ir_run {P : Program} {W : World} (t ty : TypeId) (ht : P.underlying t = some (.slice 3)) (hinfo : (P.info? 3).map (fun i => (i.zero, i.size, i.bytes)) = some (some (.int .i64 0), 1, 8))
    (v : Value) (l : List Int) (p : Int) (HO : IR W v l) (hl : l.length ≤ 1048576) :
    ∃ v1 w1, (Builtin.append_ #[t, t] ty #[v, .slice (some ⟨W.heap.size, 0, none⟩) 1 1]).run P (W.alloc (.cells #[.int .i64 p] 3)) = .ok v1 w1 ∧ IR w1 v1 (l ++ [p]) ∧ Fr (fun k => v.ownBlock = some k) W w1 ∧ (∀ k, v1.ownBlock = some k → (v.ownBlock = some k ∨ W.heap.size ≤ k) ∧ k < w1.heap.size) := by
  obtain ⟨i0, hi, hzz⟩ := Option.map_eq_some_iff.1 hinfo
  simp only [Prod.mk.injEq] at hzz
  obtain ⟨hz0, hz1, hz2⟩ := hzz
  have hnew : ∀ j u, [Value.int .i64 p][j]? = some u → (W.alloc (.cells #[.int .i64 p] 3)).cell? ((⟨W.heap.size, 0, none⟩ : Addr).add j) = some u := by
    simpa using World.news_of_block (cs := #[Value.int .i64 p]) (t := 3) (fr := (0, 0)) (heap_alloc_new W (.cells #[.int .i64 p] 3))
  have hfA : Below W.heap.size W (W.alloc (.cells #[.int .i64 p] 3)) := below_alloc (Below.refl _ _) _
  have hszA : (W.alloc (.cells #[.int .i64 p] 3)).heap.size = W.heap.size + 1 := by simp
  have grown : ∀ {v' : Value} {w' : World}, w'.ownsRow (W.alloc (.cells #[.int .i64 p] 3)).heap.size 3 1 v' (l.length + 1) (l.map (Value.int .i64) ++ [.int .i64 p]) → (W.alloc (.cells #[.int .i64 p] 3)).grownBy w' none → IR w' v' (l ++ [p]) ∧ Fr (fun k => v.ownBlock = some k) W w' ∧ (∀ k, v'.ownBlock = some k → (v.ownBlock = some k ∨ W.heap.size ≤ k) ∧ k < w'.heap.size) := fun {v' w'} hown hg => by
    have hown' : w'.ownsRow (W.alloc (.cells #[.int .i64 p] 3)).heap.size 3 1 v' (l ++ [p]).length ((l ++ [p]).map (Value.int .i64)) := by
      rw [List.length_append, List.length_singleton, List.map_append, List.map_singleton]; exact hown
    refine ⟨IR.of_own hown', ⟨hg.os.trans hfA.os, hg.tape.trans hfA.tape, hg.output.trans hfA.output, Nat.le_trans hfA.size hg.size, fun k hk _ => (hg.block k (by rw [hszA]; omega) (by simp)).trans (hfA.block k hk)⟩, fun k hk => ?_⟩
    have := hown.lt k hk
    rw [hszA] at this
    exact ⟨.inr (by omega), this.2⟩
  rcases HO with ⟨rfl, rfl⟩ | ⟨g, oo, cap, cells, rfl, hg, h1, h2, h3, h4⟩
  · obtain ⟨v', w', hrun, r1, r2, _⟩ := run_append_own (P := P) (W.alloc (.cells #[.int .i64 p] 3)) (W.alloc (.cells #[.int .i64 p] 3)).heap.size t ty 3 i0 (.int .i64 0) 1 8 ht hi hz0 hz1 hz2 rfl (by decide) (.slice none 0 0) 0 [] (World.ownsRow_nil _ _ 3 1) ⟨W.heap.size, 0, none⟩ 1 1 [.int .i64 p] rfl hnew (by simp [Value.oneCell']) (by simp [maxLen]) (by omega) (Nat.le_refl _)
    exact ⟨v', w', hrun, grown r1 r2⟩
  · have hgl := blk_lt hg
    have hgA : (W.alloc (.cells #[.int .i64 p] 3)).heap[g]? = some (.cells cells 3 (0, 0)) := (hfA.block g hgl).trans hg
    by_cases hr : l.length + 1 ≤ cap
    · have hj0 : ∀ j, j < [Value.int .i64 p].length → j = 0 := fun j hj => by simpa using hj
      have hrun := run_append_room_cells (P := P) (W.alloc (.cells #[.int .i64 p] 3)) t ty 3 i0 ht hi g oo l.length cap ⟨W.heap.size, 0, none⟩ 1 1 [.int .i64 p] (by rw [hz1]; rfl) hnew (by simp [Value.oneCell']) hr
        (fun j hj => by
          obtain rfl := hj0 j hj
          rw [hz1, blk_cell hgA, Array.getElem?_eq_getElem (by omega)]; rfl)
        (fun j hj => blk_frozen hgA _)
      have hw : (W.alloc (.cells #[.int .i64 p] 3)).setCells g (oo + l.length * i0.size) [.int .i64 p] = (W.alloc (.cells #[.int .i64 p] 3)).setCell ⟨g, oo + l.length, none⟩ (.int .i64 p) := by
        rw [hz1, Nat.mul_one]; rfl
      rw [hw] at hrun
      refine ⟨_, _, hrun, ?_⟩
      have hFr : Fr (fun k => k = g) W ((W.alloc (.cells #[.int .i64 p] 3)).setCell ⟨g, oo + l.length, none⟩ (.int .i64 p)) :=
        (Fr.of_below (own := fun k => k = g) hfA).trans (Fr.setCell (own := fun k => k = g) _ g _ _ rfl) (fun j q => .inl q)
      refine ⟨.inr ⟨g, oo, cap, cells.setIfInBounds (oo + l.length) (.int .i64 p), by rw [List.length_append, List.length_singleton], blk_set hgA _ _, by rw [List.length_append, List.length_singleton]; omega, h2, by simpa using h3, fun j hj => ?_⟩, hFr.wide (fun k hk => by rw [hk]; rfl), fun k hk => ?_⟩
      · rw [List.length_append, List.length_singleton] at hj
        rw [Array.getElem?_setIfInBounds]
        by_cases e : j = l.length
        · subst e
          rw [if_pos rfl, if_pos (by omega)]
          simp [List.getD]
        · rw [if_neg (by omega), h4 j (by omega)]
          simp [List.getD, List.getElem?_append_left (show j < l.length by omega)]
      · obtain rfl := Option.some.inj hk
        refine ⟨.inl rfl, ?_⟩
        exact Nat.lt_of_lt_of_le hgl hFr.size
    · obtain ⟨v', w', hrun, r1, r2⟩ := run_append_arg_grows (P := P) (W.alloc (.cells #[.int .i64 p] 3)) t ty 3 i0 (.int .i64 0) 1 8 ht hi hz0 hz1 hz2 rfl (by decide) ⟨g, oo, none⟩ l.length cap (l.map (Value.int .i64)) (by simp) (fun j u hj => by
        rw [Addr.add_lit]
        rw [List.getElem?_map] at hj
        obtain ⟨y, hy, rfl⟩ := Option.map_eq_some_iff.1 hj
        have hjl : j < l.length := (List.getElem?_eq_some_iff.1 hy).1
        have := h4 j hjl
        rw [show l.getD j 0 = y by simp [List.getD, hy]] at this
        exact (blk_cell hgA _).trans this) ⟨W.heap.size, 0, none⟩ 1 1 [.int .i64 p] rfl hnew (by omega) (by simp only [maxLen]; omega) (by omega)
      exact ⟨v', w', hrun, grown r1 r2⟩
/-- The step: behind 'one_'. -/
theorem ir_step {P : Program} {ops : Array Oper} {Q : Exit → Act → World → Prop} {oi : Oper} {N : Option Tmp} {a : Act} {W : World} {K : Act → World → Prop} (hw : Region.wanted oi (yielded ops a.tmps) = true) (hN : oi.dst = N) (s x : Operand) (t : TypeId)
    (hop : oi.op = .call { callee := .builtin .append, args := #[s, x], argTypes := #[t, t] }) (ht : P.underlying t = some (.slice 3)) (hinfo : (P.info? 3).map (fun i => (i.zero, i.size, i.bytes)) = some (some (.int .i64 0), 1, 8))
    (v : Value) (l : List Int) (p : Int) (hs : a.eval s = v) (hx : a.eval x = .slice (some ⟨W.heap.size, 0, none⟩) 1 1) (HO : IR W v l) (hl : l.length ≤ 1048576)
    (h : ∀ v1 w1, IR w1 v1 (l ++ [p]) → Fr (fun k => v.ownBlock = some k) W w1 → (∀ k, v1.ownBlock = some k → (v.ownBlock = some k ∨ W.heap.size ≤ k) ∧ k < w1.heap.size) → K (a.put N v1) w1) :
    if Region.wanted oi (yielded ops a.tmps) = true then Oper.wp P oi a (W.alloc (.cells #[.int .i64 p] 3)) K Q else K (a.put N undef) (W.alloc (.cells #[.int .i64 p] 3)) := by
  obtain ⟨v1, w1, hrun, h1, h2, h3⟩ := ir_run (P := P) (W := W) t oi.type ht hinfo v l p HO hl
  refine value_ hw hN (w1 := w1) (v := v1) ?_ (h v1 w1 h1 h2 h3)
  simp [execOp, hop, resolve, invoke, builtin, hs, hx, hrun, Result.andThen]
end Go.Proofs.Ytekneicikmaplaa.Bk
namespace Go.Proofs.Ytekneicikmaplaa.Bk
open Go.RowKit Go.Proofs.Ytekneicikmaplaa.PFnBookOf Go.Proofs.YtekneicikmaplaaW.PrintWords Go.Proofs.YtekneicikmaplaaW.PrintLast Go.Proofs.YtekneicikmaplaaW.PrintMore
/-- Rows of no more than m small numbers. -/
def Sm (m : Nat) (L : Nat → List Int) : Prop := ∀ i, i < 8 → (L i).length ≤ m ∧ ∀ k, k < (L i).length → -10000 ≤ (L i).getD k 0 ∧ (L i).getD k 0 ≤ 10000
theorem Wd.sm {s : Int} {L : Nat → List Int} (h : Wd s L) : Sm 48 L := fun i hi => ⟨by have := h.len8 i; rwa [L8_lt hi] at this, fun k hk => by have := h.small hi k hk; omega⟩
theorem Sm.wide {m n : Nat} {L : Nat → List Int} (h : Sm m L) (e : m ≤ n) : Sm n L := fun i hi => ⟨Nat.le_trans (h i hi).1 e, (h i hi).2⟩
theorem Sm.set {m : Nat} {L : Nat → List Int} (h : Sm m L) (i k : Nat) (hi : i < 8) {v : Int} (v0 : -10000 ≤ v) (v1 : v ≤ 10000) : Sm m (upd L i ((L i).set k v)) := fun j hj => by
  by_cases e : j = i
  · subst e
    rw [upd_at]
    refine ⟨by rw [List.length_set]; exact (h j hj).1, fun q hq => ?_⟩
    rw [List.length_set] at hq
    by_cases e : q = k
    · subst e; rw [getD_set_self' _ _ _ hq]; exact ⟨v0, v1⟩
    · rw [getD_set_ne' _ _ _ _ e]; exact (h j hj).2 q hq
  · rw [upd_ne _ _ _ _ e]; exact h j hj
theorem Sm.app {m : Nat} {L : Nat → List Int} (h : Sm m L) (i : Nat) (hi : i < 8) {v : Int} (v0 : -10000 ≤ v) (v1 : v ≤ 10000) : Sm (m + 1) (upd L i (L i ++ [v])) := fun j hj => by
  by_cases e : j = i
  · subst e
    rw [upd_at]
    refine ⟨by rw [List.length_append, List.length_singleton]; have := (h j hj).1; omega, fun q hq => ?_⟩
    rw [List.length_append, List.length_singleton] at hq
    by_cases e : q < (L j).length
    · rw [List.getD_eq_getElem?_getD, List.getElem?_append_left e, ← List.getD_eq_getElem?_getD]; exact (h j hj).2 q e
    · have : q = (L j).length := by omega
      subst this
      rw [List.getD_eq_getElem?_getD, List.getElem?_append_right (Nat.le_refl _)]
      simp only [Nat.sub_self, List.getElem?_cons_zero, Option.getD_some]
      exact ⟨v0, v1⟩
  · rw [upd_ne _ _ _ _ e]; have := h j hj; exact ⟨by omega, this.2⟩
theorem Sx.readNew {ar : Nat → Prop} {w0 w1 w w' : World} {rs : List Rx} {g : Nat} {bs : List Int} {p p' : Int} {V : Nat → Value} {L : Nat → List Int} (h : Sx ar w1 w rs) (i : Nat) (hi : rs[i]? = some (Rr w0 g bs p)) (hI : IsS74 w0 w' g bs p') (hf : Fr (fun k => k = g) w w')
    (hn : BoV V L w') (ho : ∀ k, ownV V k → w.heap.size ≤ k ∧ k < w'.heap.size) {rs' : List Rx} (e : rs.set i (Rr w0 g bs p') = rs') : Sx ar w1 w' (Rb V L :: rs') := by
  have h1 := h.read i hi hI hf e
  refine ⟨h1.base, fun r hr => ?_, List.pairwise_cons.2 ⟨fun r hr k hk hk' => ?_, h1.apart⟩⟩
  · rcases List.mem_cons.1 hr with rfl | hr
    · exact ⟨hn, Rb.stable _ _, fun k hk => ⟨.inr (Nat.le_trans h.size (ho k hk).1), (ho k hk).2⟩⟩
    · exact h1.has r hr
  · have hk := (ho k hk).1
    subst e
    rcases List.mem_or_eq_of_mem_set hr with hr | rfl
    · have := ((h.has r hr).2.2 k hk').2; omega
    · have := h.lt i hi k hk'; omega
theorem lit_IR (w : World) (l : List Int) (hl : l.length ≤ 1000) : IR (w.alloc (.cells ((l.map (Value.int .i64)).toArray) 3)) (.slice (some ⟨w.heap.size, 0, none⟩) l.length l.length) l := .inr ⟨w.heap.size, 0, l.length, _, rfl, heap_alloc_new w (.cells ((l.map (Value.int .i64)).toArray) 3), Nat.le_refl _, by omega, by simp, fun j hj => by
    rw [show (l.map (Value.int .i64)).toArray[0 + j]? = (l.map (Value.int .i64))[j]? by rw [Nat.zero_add]; simp, List.getElem?_map, List.getElem?_eq_getElem hj]
    simp [List.getD, List.getElem?_eq_getElem hj]⟩
/-- A literal laid, kept as a row. -/
theorem Sx.lit {ar : Nat → Prop} {w1 w : World} {rs : List Rx} (h : Sx ar w1 w rs) (l : List Int) (hl : l.length ≤ 1000) : Sx ar w1 (w.alloc (.cells ((l.map (Value.int .i64)).toArray) 3)) (Rl (.slice (some ⟨w.heap.size, 0, none⟩) l.length l.length) l :: rs) :=
  h.new (below_alloc (Below.refl _ _) _) (lit_IR w l hl) (Rl.stable _ _) (fun k hk => by obtain rfl := Option.some.inj hk; exact ⟨Nat.le_refl _, by simp⟩)
/-- A number drawn out of a row that is kept. -/
theorem numK {ar : Nat → Prop} {w0 w1 w : World} {rs : List Rx} {g : Nat} {bs : List Int} {p : Int} {b : Nat} {l : List Int} (hs : BsOk bs) (h : Sx ar w1 w rs) (i j : Nat) (hi : rs[i]? = some (Rr w0 g bs p)) (hj : rs[j]? = some (Rl (.slice (some ⟨b, 0, none⟩) l.length l.length) l)) (hij : j ≠ i) (hB : Below w0.heap.size w0 w) (p0 : 0 ≤ p) (p1 : p ≤ 1000000000) (hl : 0 < l.length) :
    Calls Try.prog 89 #[.pointer (some ⟨g, 0, none⟩), .slice (some ⟨b, 0, none⟩) l.length l.length] w (NumR w0 g bs p l w) :=
  numS hs (h.get i hi) hB p0 p1 (some ⟨b, 0, none⟩) l.length l hl (Nat.le_refl _) (h.get j hj).slC.1 (fun ad e _ => by cases e; exact fun q => h.ne j i hj hi hij b rfl q)
set_option maxHeartbeats 16000000 in
set_option maxRecDepth 100000 in
theorem l3Bent_calls {w0 : World} {g : Nat} {bs : List Int} {p : Int} (hs : BsOk bs) (p0 : 0 ≤ p) (p1 : p ≤ 10000) (w : World) (hI : IsS74 w0 w g bs p) (hB : Below w0.heap.size w0 w) :
    Calls Try.prog 64 #[.pointer (some ⟨g, 0, none⟩)] w fun e w' => ∃ s V L p', e = .returned (.agg (bkV s V)) ∧ (-10 ≤ s ∧ s ≤ 10) ∧ Sm 60 L ∧ BoV V L w' ∧ (∀ k, ownV V k → w.heap.size ≤ k ∧ k < w'.heap.size) ∧ IsS74 w0 w' g bs p' ∧ p ≤ p' ∧ p' ≤ p + 2000 ∧ Fr (fun k => k = g) w w' := by
  have HBS := Aside0.mk hs
  have S : Aside0 (Sx (fun k => k = g) w w [Rr w0 g bs p]) := ⟨Sx.one (r := Rr w0 g bs p) hI (Rr.stable _ _ _ _) (fun k hk => by have hk : k = g := hk; rw [hk]; exact hI.lt)⟩
  have HBW : Aside0 (∀ w', Fr (fun k => k = g) w w' → Below w0.heap.size w0 w') := ⟨fun w' hf => below_fr hB hf (fun k hk => by have hk : k = g := hk; rw [hk]; exact hI.ge)⟩
  clear hI hB hs
  go_enter Try.func64, Try.ntmps64
  go_upto_region 1 with (first | ((with_reducible refine gate_dst (N := 2) rfl ?_); refine box_event rfl (N := 2) rfl (cs := #[.int .i64 0, .slice none 0 0, .slice none 0 0, .slice none 0 0, .slice none 0 0, .slice none 0 0, .slice none 0 0, .slice none 0 0, .slice none 0 0]) (t := 27) (by first | (go_simp; done) | (go_simp; rfl)) ?_; intro gr hg_ w1 hbox_ hb_; have Sn_ := Aside0.mk (S.out.box hg_ hbox_ hb_); clear hbox_ hb_ hg_ S; have S := Sn_; clear Sn_))
  go_wp2_with fail
  refine (cfgS HBS.out (S.out.get 1 rfl) (HBW.out _ S.out.base) (by omega) (by omega)).mono ?_
  rintro e w2 ⟨a, b, c, rfl, ha, ha3, hb, hb3, hc, hc3, hI_, hf_⟩
  have Sn_ := Aside0.mk (S.out.read (rs' := [Bx gr (#[.int .i64 0, .slice none 0 0, .slice none 0 0, .slice none 0 0, .slice none 0 0, .slice none 0 0, .slice none 0 0, .slice none 0 0, .slice none 0 0]) 27, Rr w0 g bs (p + 3)]) 1 rfl hI_ hf_ rfl)
  clear S hI_ hf_
  have S := Sn_
  clear Sn_
  go_wp2_with fail
  refine (numL HBS.out (S.out.get 1 rfl) (HBW.out _ S.out.base) (by omega) (by omega) [0, 3, 8, 16, 30, 45] (by decide) (by decide)).mono ?_
  rintro e w3 ⟨nn, rfl, hm_nn, hI_, hf_⟩
  have Sn_ := Aside0.mk (S.out.read (rs' := [Bx gr (#[.int .i64 0, .slice none 0 0, .slice none 0 0, .slice none 0 0, .slice none 0 0, .slice none 0 0, .slice none 0 0, .slice none 0 0, .slice none 0 0]) 27, Rr w0 g bs ((p + 3) + 1)]) 1 rfl hI_ hf_ rfl)
  clear S hI_ hf_
  have S := Sn_
  clear Sn_
  have hb_nn : 0 ≤ nn ∧ nn ≤ 45 := by
    simp only [List.mem_cons, List.not_mem_nil, or_false] at hm_nn
    omega
  obtain ⟨nnl, nnh⟩ := hb_nn
  clear hm_nn
  obtain ⟨n, rfl⟩ := Int.eq_ofNat_of_zero_le nnl
  go_wp2_with fail
  refine (l3Book_calls HBS.out (by omega) (by omega) a b c ha ha3 hb hb3 hc hc3 n (by omega) _ (S.out.get 1 rfl) (HBW.out _ S.out.base)).mono ?_
  rintro e w4 ⟨V, L, q, rfl, hWd, hBo, hown, hI_, hq0, hq1, hf_⟩
  have Sn_ := Aside0.mk (S.out.readNew (rs' := [Bx gr (#[.int .i64 0, .slice none 0 0, .slice none 0 0, .slice none 0 0, .slice none 0 0, .slice none 0 0, .slice none 0 0, .slice none 0 0, .slice none 0 0]) 27, Rr w0 g bs q]) 1 rfl hI_ hf_ hBo hown rfl)
  clear S
  have S := Sn_
  clear Sn_
  have HONE := Aside0.mk (hBo.one a)
  obtain ⟨hl6, hl1, hl5, hl48, hlI, hlE, hs1, hs4⟩ := hWd.rows
  have HSM := Aside0.mk hWd.sm
  have hq2 : q ≤ p + 1000 := by omega
  have hq3 : p ≤ q := by omega
  clear hq0 hq1 hWd hBo hown hI_ hf_ hb hb3 hc hc3
  go_upto_region 2 with (first | ((with_reducible refine gate_dst (N := 3) rfl ?_); refine box_event rfl (N := 3) rfl (cs := #[.int .i64 0, .slice none 0 0, .slice none 0 0, .slice none 0 0, .slice none 0 0, .slice none 0 0, .slice none 0 0, .slice none 0 0, .slice none 0 0]) (t := 27) (by first | (go_simp; done) | (go_simp; rfl)) ?_; intro gb hg_ w5 hbox_ hb_; have Sn_ := Aside0.mk (S.out.box hg_ hbox_ hb_); clear hbox_ hb_ hg_ S; have S := Sn_; clear Sn_) | ((with_reducible refine gate_store (t := 27) (p := 3) rfl ?_); refine store_event (t := 27) (p := 3) (v := ?vo_1) (w1 := w5.setRow gb (bkV a V)) ?hg ?ho ?hn ?hr ?_; (case ho => rfl); (case hg => rfl); (case hn => rfl); (case hr => exact (Row.store_row_run (g := gb) (cells := bkV a V) (t := 27) (old := #[.int .i64 0, .slice none 0 0, .slice none 0 0, .slice none 0 0, .slice none 0 0, .slice none 0 0, .slice none 0 0, .slice none 0 0, .slice none 0 0]) rfl (by rfl) (by rfl) (S.out.blk 0 rfl) (by kernel_rfl) rfl (HONE.out))); intro w6 hw_; have Sn_ := Aside0.mk ((S.out.setRow (cs' := bkV a V) (rs' := [Bx gb (bkV a V) 27, Rb V (L), Bx gr (#[.int .i64 0, .slice none 0 0, .slice none 0 0, .slice none 0 0, .slice none 0 0, .slice none 0 0, .slice none 0 0, .slice none 0 0, .slice none 0 0]) 27, Rr w0 g bs q]) 0 rfl rfl).of hw_); clear S hw_; have S := Sn_; clear Sn_))
  go_wp2_with fail
  refine (pickS HBS.out (S.out.get 3 rfl) (HBW.out _ S.out.base) (by omega) (by omega) (36) (by omega)).mono ?_
  rintro e w7 ⟨z, rfl, z0, z1, hI_, hf_⟩
  have Sn_ := Aside0.mk (S.out.read (rs' := [Bx gb (bkV a V) 27, Rb V (L), Bx gr (#[.int .i64 0, .slice none 0 0, .slice none 0 0, .slice none 0 0, .slice none 0 0, .slice none 0 0, .slice none 0 0, .slice none 0 0, .slice none 0 0]) 27, Rr w0 g bs (q + 1)]) 3 rfl hI_ hf_ rfl)
  clear S hI_ hf_
  have S := Sn_
  clear Sn_
  clear z0 z1 nnl nnh HONE hl6
  by_cases z0 : z = 0
  · have b0 : (z == 0) = true := beq_iff_eq.mpr z0
    clear z0
    go_wp2_with fail
    refine (numL HBS.out (S.out.get 3 rfl) (HBW.out _ S.out.base) (by omega) (by omega) [0, 5, 1] (by decide) (by decide)).mono ?_
    rintro e w8 ⟨r, rfl, hm_r, hI_, hf_⟩
    have Sn_ := Aside0.mk (S.out.read (rs' := [Bx gb (bkV a V) 27, Rb V (L), Bx gr (#[.int .i64 0, .slice none 0 0, .slice none 0 0, .slice none 0 0, .slice none 0 0, .slice none 0 0, .slice none 0 0, .slice none 0 0, .slice none 0 0]) 27, Rr w0 g bs ((q + 1) + 1)]) 3 rfl hI_ hf_ rfl)
    clear S hI_ hf_
    have S := Sn_
    clear Sn_
    have hb_r : 0 ≤ r ∧ r ≤ 5 := by
      simp only [List.mem_cons, List.not_mem_nil, or_false] at hm_r
      omega
    obtain ⟨rl, rh⟩ := hb_r
    clear hm_r
    have f_gb_0 : w8.cell? ⟨gb, 0, none⟩ = some (.int .i64 a) := (S.out.cell 0 rfl 0).trans rfl
    have z_gb_0 := S.out.frozen 0 rfl 0
    go_upto_region 16 with (first | ((with_reducible refine gate_store (t := 3) (p := 19) rfl ?_); refine store_event (t := 3) (p := 19) (v := ?vo_2) (w1 := w8.setCell ⟨gb, 0, none⟩ (.int .i64 r)) ?hg ?ho ?hn ?hr ?_; (case ho => rfl); (case hg => rfl); (case hn => rfl); (case hr => first | (go_simp; done) | (go_simp; rfl)); intro w9 hw_; have Sn_ := Aside0.mk ((S.out.setCell (cs' := bkV r V) (rs' := [Bx gb (bkV r V) 27, Rb V (L), Bx gr (#[.int .i64 0, .slice none 0 0, .slice none 0 0, .slice none 0 0, .slice none 0 0, .slice none 0 0, .slice none 0 0, .slice none 0 0, .slice none 0 0]) 27, Rr w0 g bs ((q + 1) + 1)]) 0 rfl 0 (.int .i64 r) (by simp only [bkV, List.setIfInBounds_toArray, List.set_cons_zero, List.set_cons_succ]) rfl).of hw_); clear S hw_; have S := Sn_; clear Sn_))
    have HONE := Aside0.mk ((S.out.get 1 rfl).one (r))
    go_wp2_with (first | ((with_reducible refine gate_dst (N := 77) rfl ?_); refine Kd.event_run rfl (Row.load_row_run (g := gb) (t := 27) (cells := bkV r V) rfl rfl (S.out.blk 0 rfl) Try.underlying27 rfl (by kernel_rfl)) ?_) | ((with_reducible refine gate_store (t := 27) (p := 2) rfl ?_); refine store_event (t := 27) (p := 2) (v := ?vo_3) (w1 := w9.setRow gr (bkV (r) V)) ?hg ?ho ?hn ?hr ?_; (case ho => rfl); (case hg => rfl); (case hn => rfl); (case hr => exact (Row.store_row_run (g := gr) (cells := bkV (r) V) (t := 27) (old := #[.int .i64 0, .slice none 0 0, .slice none 0 0, .slice none 0 0, .slice none 0 0, .slice none 0 0, .slice none 0 0, .slice none 0 0, .slice none 0 0]) rfl (by rfl) (by rfl) (S.out.blk 2 rfl) (by kernel_rfl) rfl (HONE.out))); intro w10 hw_; have Sn_ := Aside0.mk ((S.out.setRow (cs' := bkV (r) V) (rs' := [Bx gb (bkV r V) 27, Rb V (L), Bx gr (bkV (r) V) 27, Rr w0 g bs ((q + 1) + 1)]) 2 rfl rfl).of hw_); clear S hw_; have S := Sn_; clear Sn_))
    refine bodyPost_ret (results_cell_row rfl _ _ gr 27 (bkV (r) V) (0, 0) _ rfl (S.out.blk 2 rfl) Try.underlying27 rfl (by kernel_rfl)) rfl ?_
    exact ⟨r, V, L, ((q + 1) + 1), rfl, (by constructor <;> omega), HSM.out.wide (by omega), S.out.get 1 rfl, fun k hk => ⟨(S.out.arg 1 rfl k hk).elim (fun e => absurd e (S.out.ne 1 3 rfl rfl (by omega) k hk)) (fun e => e), S.out.lt 1 rfl k hk⟩, S.out.get 3 rfl, by omega, by omega, S.out.base⟩
  have b0 : (z == 0) = false := beq_eq_false_iff_ne.mpr z0
  clear z0
  by_cases z1 : z = 1
  · have b1 : (z == 1) = true := beq_iff_eq.mpr z1
    clear z1
    obtain ⟨g0, o0, cap0, hv0, _, _⟩ := ((S.out.get 1 rfl).1 0 (by omega)).at 0 (by omega)
    have hpl : (1 : Int) ≤ ((L 0).length : Int) := by omega
    clear hl5 hl48 hlI hlE
    go_wp2_with fail
    have Sn_ := Aside0.mk (S.out.drew)
    clear S
    have S := Sn_
    clear Sn_
    refine start_ (n := 12) (S := fun w_ => w_.heap[gb]? = some (.cells (bkV a V) 27 (0, 0))) (ds := [11]) #[false, false, false, false, false, false, false, false, false, false, false, false] (by kernel_rfl) rfl rfl (S.out.blk 0 rfl) (fun hH_ => ?_)
    refine pure_ (i := 0) (N := some 22) (v := ?_) (a' := ?_) #[true, false, false, false, false, false, false, false, false, false, false, false] rfl rfl (by kernel_rfl) (fun _ _ _ h => h) (Or.inl ⟨by rfl, ?_⟩) ?_ ?_
    rotate_left
    · intro w'
      go_simp
      with_reducible rfl
    rotate_left
    · simp only [Act.put, List.setIfInBounds_toArray, List.set_cons_zero, List.set_cons_succ, i64_w, i32_w]
      rfl
    refine take_ (i := 1) (N := some 23) (v := ?_) (a' := ?_) #[true, true, false, false, false, false, false, false, false, false, false, false] rfl rfl (by kernel_rfl) (fun _ _ _ h => h) (Or.inl ⟨by rfl, ?_⟩) hH_ ?_ ?_
    rotate_left
    · intro w' s0
      have f_ : w'.cell? ⟨gb, 1, none⟩ = some (.slice (some ⟨g0, o0, none⟩) (L 0).length cap0) := (blk_cell s0 1).trans (by rw [← hv0]; rfl)
      clear s0
      go_simp
      with_reducible rfl
    rotate_left
    · simp only [Act.put, List.setIfInBounds_toArray, List.set_cons_zero, List.set_cons_succ, i64_w, i32_w]
      rfl
    refine pure_ (i := 2) (N := some 24) (v := ?_) (a' := ?_) #[true, true, true, false, false, false, false, false, false, false, false, false] rfl rfl (by kernel_rfl) (fun _ _ _ h => h) (Or.inl ⟨by rfl, ?_⟩) ?_ ?_
    rotate_left
    · intro w'
      go_simp
      with_reducible rfl
    rotate_left
    · simp only [Act.put, List.setIfInBounds_toArray, List.set_cons_zero, List.set_cons_succ, i64_w, i32_w]
      rfl
    refine pure_ (i := 3) (N := some 25) (v := ?_) (a' := ?_) #[true, true, true, true, false, false, false, false, false, false, false, false] rfl rfl (by kernel_rfl) (fun _ _ _ h => h) (Or.inl ⟨by rfl, ?_⟩) ?_ ?_
    rotate_left
    · intro w'
      go_simp
      with_reducible rfl
    rotate_left
    · simp only [Act.put, List.setIfInBounds_toArray, List.set_cons_zero, List.set_cons_succ, i64_w, i32_w]
      rfl
    refine take_ (i := 4) (N := some 26) (v := ?_) (a' := ?_) #[true, true, true, true, true, false, false, false, false, false, false, false] rfl rfl (by kernel_rfl) (fun _ _ _ h => h) (Or.inl ⟨by rfl, ?_⟩) hH_ ?_ ?_
    rotate_left
    · intro w' s0
      have f_ : w'.cell? ⟨gb, 1, none⟩ = some (.slice (some ⟨g0, o0, none⟩) (L 0).length cap0) := (blk_cell s0 1).trans (by rw [← hv0]; rfl)
      clear s0
      go_simp
      with_reducible rfl
    rotate_left
    · simp only [Act.put, List.setIfInBounds_toArray, List.set_cons_zero, List.set_cons_succ, i64_w, i32_w]
      rfl
    refine pure_ (i := 5) (N := some 27) (v := ?_) (a' := ?_) #[true, true, true, true, true, true, false, false, false, false, false, false] rfl rfl (by kernel_rfl) (fun _ _ _ h => h) (Or.inl ⟨by rfl, ?_⟩) ?_ ?_
    rotate_left
    · intro w'
      go_simp
      with_reducible rfl
    rotate_left
    · simp only [Act.put, List.setIfInBounds_toArray, List.set_cons_zero, List.set_cons_succ, i64_w, i32_w]
      rfl
    refine pure_ (i := 7) (N := some 29) (v := ?_) (a' := ?_) #[true, true, true, true, true, true, false, true, false, false, false, false] rfl rfl (by kernel_rfl) (fun _ _ _ h => h) (Or.inl ⟨by rfl, ?_⟩) ?_ ?_
    rotate_left
    · intro w'
      go_simp
      with_reducible rfl
    rotate_left
    · simp only [Act.put, List.setIfInBounds_toArray, List.set_cons_zero, List.set_cons_succ, i64_w, i32_w]
      rfl
    refine two_ (i := 6) (j := 8) (Ni := some 28) (Nj := some 30) #[true, true, true, true, true, true, true, true, false, false, false, false] #[true, true, true, true, true, true, false, true, true, false, false, false] rfl rfl rfl rfl (by kernel_rfl) (by decide) (by decide) (fun K hK => ?_) (fun K hK => ?_)
    · skip
      refine goes_ Try.func65 (by kernel_rfl) rfl #[.pointer (some ⟨g, 0, none⟩), .int .i64 ((L 0).length : Int)] (by rfl) rfl rfl (by (try simp only [List.map_toArray, List.map_cons, List.map_nil]); first | done | rfl) ?_
      refine (pickS HBS.out (S.out.get 3 rfl) (HBW.out _ S.out.base) (by omega) (by omega) _ (by omega)).mono ?_
      rintro e w11 ⟨r, rfl, r0, r1, hI_, hf_⟩
      have Sn_ := Aside0.mk (S.out.read (rs' := [Bx gb (bkV a V) 27, Rb V (L), Bx gr (#[.int .i64 0, .slice none 0 0, .slice none 0 0, .slice none 0 0, .slice none 0 0, .slice none 0 0, .slice none 0 0, .slice none 0 0, .slice none 0 0]) 27, Rr w0 g bs ((q + 1) + 1)]) 3 rfl hI_ hf_ rfl)
      clear S hI_ hf_
      have S := Sn_
      clear Sn_
      refine ⟨_, rfl, ?_⟩
      refine hK.out _ _ (S.out.blk 0 rfl) (fun hX_ => ?_)
      clear hK K hX_
      refine norm_ (a' := ?_) ?_ ?_
      rotate_left
      · show Act.put _ (some 28) _ = _
        simp only [Act.put, List.setIfInBounds_toArray, List.set_cons_zero, List.set_cons_succ, i64_w, i32_w]
        rfl
      refine one_ (i := 8) (N := some 30) #[true, true, true, true, true, true, true, true, true, false, false, false] rfl rfl (by kernel_rfl) (by decide) (fun K hK => ?_)
      refine value_ (w1 := (w11.alloc (.cells #[.int .i64 (0), .int .i64 (1), .int .i64 (2), .int .i64 (5), .int .i64 (6), .int .i64 (7), .int .i64 (8), .int .i64 (9), .int .i64 (10), .int .i64 (13)] 3))) (v := .slice (some ⟨w11.heap.size, 0, none⟩) 10 10) (by rfl) rfl (by first | (go_simp; done) | (go_simp; rfl)) ?_
      refine hK.out _ _ ((below_alloc (Below.refl _ _) _).block gb (S.out.lt 0 rfl gb rfl) |>.trans (S.out.blk 0 rfl)) (fun hX_ => ?_)
      clear hK K hX_
      refine norm_ (a' := ?_) ?_ ?_
      rotate_left
      · show Act.put _ (some 30) _ = _
        simp only [Act.put, List.setIfInBounds_toArray, List.set_cons_zero, List.set_cons_succ, i64_w, i32_w]
        rfl
      refine one_ (i := 9) (N := some 31) #[true, true, true, true, true, true, true, true, true, true, false, false] rfl rfl (by kernel_rfl) (by decide) (fun K hK => ?_)
      refine goes_ Try.func89 (by kernel_rfl) rfl #[.pointer (some ⟨g, 0, none⟩), .slice (some ⟨w11.heap.size, 0, none⟩) 10 10] (by rfl) rfl rfl (by (try simp only [List.map_toArray, List.map_cons, List.map_nil]); first | done | rfl) ?_
      refine (numL HBS.out (S.out.get 3 rfl) (HBW.out _ S.out.base) (by omega) (by omega) [0, 1, 2, 5, 6, 7, 8, 9, 10, 13] (by decide) (by decide)).mono ?_
      rintro e w12 ⟨v, rfl, hm_v, hI_, hf_⟩
      have Sn_ := Aside0.mk (S.out.read (rs' := [Bx gb (bkV a V) 27, Rb V (L), Bx gr (#[.int .i64 0, .slice none 0 0, .slice none 0 0, .slice none 0 0, .slice none 0 0, .slice none 0 0, .slice none 0 0, .slice none 0 0, .slice none 0 0]) 27, Rr w0 g bs (((q + 1) + 1) + 1)]) 3 rfl hI_ hf_ rfl)
      clear S hI_ hf_
      have S := Sn_
      clear Sn_
      refine ⟨_, rfl, ?_⟩
      refine hK.out _ _ (S.out.blk 0 rfl) (fun hX_ => ?_)
      clear hK K hX_
      refine norm_ (a' := ?_) ?_ ?_
      rotate_left
      · show Act.put _ (some 31) _ = _
        simp only [Act.put, List.setIfInBounds_toArray, List.set_cons_zero, List.set_cons_succ, i64_w, i32_w]
        rfl
      have hb_v : 0 ≤ v ∧ v ≤ 13 := by
        simp only [List.mem_cons, List.not_mem_nil, or_false] at hm_v
        omega
      obtain ⟨vl, vh⟩ := hb_v
      clear hm_v
      obtain ⟨m, rfl⟩ := Int.eq_ofNat_of_zero_le r0
      have hm : m < (L 0).length := by omega
      refine pure_ (i := 10) (N := some 32) (v := ?_) (a' := ?_) #[true, true, true, true, true, true, true, true, true, true, true, false] rfl rfl (by kernel_rfl) (fun _ _ _ h => h) (Or.inl ⟨by rfl, ?_⟩) ?_ ?_
      rotate_left
      · intro w'
        go_simp
        with_reducible rfl
      rotate_left
      · simp only [Act.put, List.setIfInBounds_toArray, List.set_cons_zero, List.set_cons_succ, i64_w, i32_w]
        rfl
      obtain ⟨hcx, hzx⟩ := S.out.rowCell 1 rfl (i := 0) (by omega) hv0 m hm
      refine last_ (i := 11) (N := none) #[true, true, true, true, true, true, true, true, true, true, true, true] rfl rfl (by kernel_rfl) (by decide) (fun K hK => ?_)
      refine skip_ (w1 := w12.setCell ⟨g0, o0 + m, none⟩ (.int .i64 (v))) (by rfl) rfl (by first | (go_simp; done) | (go_simp; rfl)) ?_
      refine hK.out _ _ ?_
      clear hK K
      have Sn_ := Aside0.mk ((show Sx (fun k => k = g) w (w12.setCell ⟨g0, o0 + m, none⟩ (.int .i64 (v))) [Bx gb (bkV a V) 27, Rb V (upd L 0 ((L 0).set m (v))), Bx gr (#[.int .i64 0, .slice none 0 0, .slice none 0 0, .slice none 0 0, .slice none 0 0, .slice none 0 0, .slice none 0 0, .slice none 0 0, .slice none 0 0]) 27, Rr w0 g bs (((q + 1) + 1) + 1)] from Sx.rowSet' (rs' := [Bx gb (bkV a V) 27, Rb V (upd L 0 ((L 0).set m (v))), Bx gr (#[.int .i64 0, .slice none 0 0, .slice none 0 0, .slice none 0 0, .slice none 0 0, .slice none 0 0, .slice none 0 0, .slice none 0 0, .slice none 0 0]) 27, Rr w0 g bs (((q + 1) + 1) + 1)]) S.out 1 rfl (i := 0) (by omega) hv0 m hm (v) rfl))
      clear S hH_ hcx hzx
      have S := Sn_
      clear Sn_
      obtain ⟨w13, hw_⟩ : ∃ w_, w12.setCell ⟨g0, o0 + m, none⟩ (.int .i64 (v)) = w_ := ⟨_, rfl⟩
      rw [hw_] at S
      rw [hw_]
      clear hw_
      refine done_ (by kernel_rfl) ?_
      have HONE := Aside0.mk ((S.out.get 1 rfl).one (a))
      go_wp2_with (first | ((with_reducible refine gate_dst (N := 77) rfl ?_); refine Kd.event_run rfl (Row.load_row_run (g := gb) (t := 27) (cells := bkV a V) rfl rfl (S.out.blk 0 rfl) Try.underlying27 rfl (by kernel_rfl)) ?_) | ((with_reducible refine gate_store (t := 27) (p := 2) rfl ?_); refine store_event (t := 27) (p := 2) (v := ?vo_4) (w1 := w13.setRow gr (bkV (a) V)) ?hg ?ho ?hn ?hr ?_; (case ho => rfl); (case hg => rfl); (case hn => rfl); (case hr => exact (Row.store_row_run (g := gr) (cells := bkV (a) V) (t := 27) (old := #[.int .i64 0, .slice none 0 0, .slice none 0 0, .slice none 0 0, .slice none 0 0, .slice none 0 0, .slice none 0 0, .slice none 0 0, .slice none 0 0]) rfl (by rfl) (by rfl) (S.out.blk 2 rfl) (by kernel_rfl) rfl (HONE.out))); intro w14 hw_; have Sn_ := Aside0.mk ((S.out.setRow (cs' := bkV (a) V) (rs' := [Bx gb (bkV a V) 27, Rb V (upd L 0 ((L 0).set m (v))), Bx gr (bkV (a) V) 27, Rr w0 g bs (((q + 1) + 1) + 1)]) 2 rfl rfl).of hw_); clear S hw_; have S := Sn_; clear Sn_))
      refine bodyPost_ret (results_cell_row rfl _ _ gr 27 (bkV (a) V) (0, 0) _ rfl (S.out.blk 2 rfl) Try.underlying27 rfl (by kernel_rfl)) rfl ?_
      exact ⟨a, V, (upd L 0 ((L 0).set m (v))), (((q + 1) + 1) + 1), rfl, (by constructor <;> omega), (HSM.out.set 0 m (by omega) (by omega) (by omega)).wide (by omega), S.out.get 1 rfl, fun k hk => ⟨(S.out.arg 1 rfl k hk).elim (fun e => absurd e (S.out.ne 1 3 rfl rfl (by omega) k hk)) (fun e => e), S.out.lt 1 rfl k hk⟩, S.out.get 3 rfl, by omega, by omega, S.out.base⟩
    · skip
      refine value_ (w1 := (w7.drew.alloc (.cells #[.int .i64 (0), .int .i64 (1), .int .i64 (2), .int .i64 (5), .int .i64 (6), .int .i64 (7), .int .i64 (8), .int .i64 (9), .int .i64 (10), .int .i64 (13)] 3))) (v := .slice (some ⟨w7.drew.heap.size, 0, none⟩) 10 10) (by rfl) rfl (by first | (go_simp; done) | (go_simp; rfl)) ?_
      have Sn_ := Aside0.mk (S.out.lit [0, 1, 2, 5, 6, 7, 8, 9, 10, 13] (by decide))
      clear S
      have S : Aside0 (Sx (fun k => k = g) w (w7.drew.alloc (.cells #[.int .i64 (0), .int .i64 (1), .int .i64 (2), .int .i64 (5), .int .i64 (6), .int .i64 (7), .int .i64 (8), .int .i64 (9), .int .i64 (10), .int .i64 (13)] 3)) (Rl (.slice (some ⟨w7.drew.heap.size, 0, none⟩) [0, 1, 2, 5, 6, 7, 8, 9, 10, 13].length [0, 1, 2, 5, 6, 7, 8, 9, 10, 13].length) [0, 1, 2, 5, 6, 7, 8, 9, 10, 13] :: [Bx gb (bkV a V) 27, Rb V (L), Bx gr (#[.int .i64 0, .slice none 0 0, .slice none 0 0, .slice none 0 0, .slice none 0 0, .slice none 0 0, .slice none 0 0, .slice none 0 0, .slice none 0 0]) 27, Rr w0 g bs (q + 1)])) := Sn_
      clear Sn_
      obtain ⟨lb, hlb⟩ : ∃ lb, w7.drew.heap.size = lb := ⟨_, rfl⟩
      rw [hlb] at S
      rw [hlb]
      obtain ⟨w15, hw_⟩ : ∃ w_, (w7.drew.alloc (.cells #[.int .i64 (0), .int .i64 (1), .int .i64 (2), .int .i64 (5), .int .i64 (6), .int .i64 (7), .int .i64 (8), .int .i64 (9), .int .i64 (10), .int .i64 (13)] 3)) = w_ := ⟨_, rfl⟩
      rw [hw_] at S
      rw [hw_]
      clear hw_ hlb
      refine hK.out _ _ (S.out.blk 1 rfl) (fun hX_ => ?_)
      clear hK K hX_
      refine norm_ (a' := ?_) ?_ ?_
      rotate_left
      · show Act.put _ (some 30) _ = _
        simp only [Act.put, List.setIfInBounds_toArray, List.set_cons_zero, List.set_cons_succ, i64_w, i32_w]
        rfl
      refine one_ (i := 6) (N := some 28) #[true, true, true, true, true, true, true, true, true, false, false, false] rfl rfl (by kernel_rfl) (by decide) (fun K hK => ?_)
      refine goes_ Try.func65 (by kernel_rfl) rfl #[.pointer (some ⟨g, 0, none⟩), .int .i64 ((L 0).length : Int)] (by rfl) rfl rfl (by (try simp only [List.map_toArray, List.map_cons, List.map_nil]); first | done | rfl) ?_
      refine (pickS HBS.out (S.out.get 4 rfl) (HBW.out _ S.out.base) (by omega) (by omega) _ (by omega)).mono ?_
      rintro e w16 ⟨r, rfl, r0, r1, hI_, hf_⟩
      have Sn_ := Aside0.mk (S.out.read (rs' := [Rl (.slice (some ⟨lb, 0, none⟩) [0, 1, 2, 5, 6, 7, 8, 9, 10, 13].length [0, 1, 2, 5, 6, 7, 8, 9, 10, 13].length) [0, 1, 2, 5, 6, 7, 8, 9, 10, 13], Bx gb (bkV a V) 27, Rb V (L), Bx gr (#[.int .i64 0, .slice none 0 0, .slice none 0 0, .slice none 0 0, .slice none 0 0, .slice none 0 0, .slice none 0 0, .slice none 0 0, .slice none 0 0]) 27, Rr w0 g bs ((q + 1) + 1)]) 4 rfl hI_ hf_ rfl)
      clear S hI_ hf_
      have S := Sn_
      clear Sn_
      refine ⟨_, rfl, ?_⟩
      refine hK.out _ _ (S.out.blk 1 rfl) (fun hX_ => ?_)
      clear hK K hX_
      refine norm_ (a' := ?_) ?_ ?_
      rotate_left
      · show Act.put _ (some 28) _ = _
        simp only [Act.put, List.setIfInBounds_toArray, List.set_cons_zero, List.set_cons_succ, i64_w, i32_w]
        rfl
      refine one_ (i := 9) (N := some 31) #[true, true, true, true, true, true, true, true, true, true, false, false] rfl rfl (by kernel_rfl) (by decide) (fun K hK => ?_)
      refine goes_ Try.func89 (by kernel_rfl) rfl #[.pointer (some ⟨g, 0, none⟩), .slice (some ⟨lb, 0, none⟩) 10 10] (by rfl) rfl rfl (by (try simp only [List.map_toArray, List.map_cons, List.map_nil]); first | done | rfl) ?_
      refine (numK (l := [0, 1, 2, 5, 6, 7, 8, 9, 10, 13]) HBS.out S.out 4 0 rfl rfl (by omega) (HBW.out _ S.out.base) (by omega) (by omega) (by decide)).mono ?_
      rintro e w17 ⟨v, rfl, hm_v, hI_, hf_⟩
      have Sn_ := Aside0.mk (S.out.read (rs' := [Rl (.slice (some ⟨lb, 0, none⟩) [0, 1, 2, 5, 6, 7, 8, 9, 10, 13].length [0, 1, 2, 5, 6, 7, 8, 9, 10, 13].length) [0, 1, 2, 5, 6, 7, 8, 9, 10, 13], Bx gb (bkV a V) 27, Rb V (L), Bx gr (#[.int .i64 0, .slice none 0 0, .slice none 0 0, .slice none 0 0, .slice none 0 0, .slice none 0 0, .slice none 0 0, .slice none 0 0, .slice none 0 0]) 27, Rr w0 g bs (((q + 1) + 1) + 1)]) 4 rfl hI_ hf_ rfl)
      clear S hI_ hf_
      have S := Sn_
      clear Sn_
      refine ⟨_, rfl, ?_⟩
      refine hK.out _ _ (S.out.blk 1 rfl) (fun hX_ => ?_)
      clear hK K hX_
      refine norm_ (a' := ?_) ?_ ?_
      rotate_left
      · show Act.put _ (some 31) _ = _
        simp only [Act.put, List.setIfInBounds_toArray, List.set_cons_zero, List.set_cons_succ, i64_w, i32_w]
        rfl
      have Sn_ := Aside0.mk (S.out.drop (rs' := [Bx gb (bkV a V) 27, Rb V (L), Bx gr (#[.int .i64 0, .slice none 0 0, .slice none 0 0, .slice none 0 0, .slice none 0 0, .slice none 0 0, .slice none 0 0, .slice none 0 0, .slice none 0 0]) 27, Rr w0 g bs (((q + 1) + 1) + 1)]) 0 rfl)
      clear S
      have S := Sn_
      clear Sn_
      have hb_v : 0 ≤ v ∧ v ≤ 13 := by
        simp only [List.mem_cons, List.not_mem_nil, or_false] at hm_v
        omega
      obtain ⟨vl, vh⟩ := hb_v
      clear hm_v
      obtain ⟨m, rfl⟩ := Int.eq_ofNat_of_zero_le r0
      have hm : m < (L 0).length := by omega
      refine pure_ (i := 10) (N := some 32) (v := ?_) (a' := ?_) #[true, true, true, true, true, true, true, true, true, true, true, false] rfl rfl (by kernel_rfl) (fun _ _ _ h => h) (Or.inl ⟨by rfl, ?_⟩) ?_ ?_
      rotate_left
      · intro w'
        go_simp
        with_reducible rfl
      rotate_left
      · simp only [Act.put, List.setIfInBounds_toArray, List.set_cons_zero, List.set_cons_succ, i64_w, i32_w]
        rfl
      obtain ⟨hcx, hzx⟩ := S.out.rowCell 1 rfl (i := 0) (by omega) hv0 m hm
      refine last_ (i := 11) (N := none) #[true, true, true, true, true, true, true, true, true, true, true, true] rfl rfl (by kernel_rfl) (by decide) (fun K hK => ?_)
      refine skip_ (w1 := w17.setCell ⟨g0, o0 + m, none⟩ (.int .i64 (v))) (by rfl) rfl (by first | (go_simp; done) | (go_simp; rfl)) ?_
      refine hK.out _ _ ?_
      clear hK K
      have Sn_ := Aside0.mk ((show Sx (fun k => k = g) w (w17.setCell ⟨g0, o0 + m, none⟩ (.int .i64 (v))) [Bx gb (bkV a V) 27, Rb V (upd L 0 ((L 0).set m (v))), Bx gr (#[.int .i64 0, .slice none 0 0, .slice none 0 0, .slice none 0 0, .slice none 0 0, .slice none 0 0, .slice none 0 0, .slice none 0 0, .slice none 0 0]) 27, Rr w0 g bs (((q + 1) + 1) + 1)] from Sx.rowSet' (rs' := [Bx gb (bkV a V) 27, Rb V (upd L 0 ((L 0).set m (v))), Bx gr (#[.int .i64 0, .slice none 0 0, .slice none 0 0, .slice none 0 0, .slice none 0 0, .slice none 0 0, .slice none 0 0, .slice none 0 0, .slice none 0 0]) 27, Rr w0 g bs (((q + 1) + 1) + 1)]) S.out 1 rfl (i := 0) (by omega) hv0 m hm (v) rfl))
      clear S hH_ hcx hzx
      have S := Sn_
      clear Sn_
      obtain ⟨w18, hw_⟩ : ∃ w_, w17.setCell ⟨g0, o0 + m, none⟩ (.int .i64 (v)) = w_ := ⟨_, rfl⟩
      rw [hw_] at S
      rw [hw_]
      clear hw_
      refine done_ (by kernel_rfl) ?_
      have HONE := Aside0.mk ((S.out.get 1 rfl).one (a))
      go_wp2_with (first | ((with_reducible refine gate_dst (N := 77) rfl ?_); refine Kd.event_run rfl (Row.load_row_run (g := gb) (t := 27) (cells := bkV a V) rfl rfl (S.out.blk 0 rfl) Try.underlying27 rfl (by kernel_rfl)) ?_) | ((with_reducible refine gate_store (t := 27) (p := 2) rfl ?_); refine store_event (t := 27) (p := 2) (v := ?vo_5) (w1 := w18.setRow gr (bkV (a) V)) ?hg ?ho ?hn ?hr ?_; (case ho => rfl); (case hg => rfl); (case hn => rfl); (case hr => exact (Row.store_row_run (g := gr) (cells := bkV (a) V) (t := 27) (old := #[.int .i64 0, .slice none 0 0, .slice none 0 0, .slice none 0 0, .slice none 0 0, .slice none 0 0, .slice none 0 0, .slice none 0 0, .slice none 0 0]) rfl (by rfl) (by rfl) (S.out.blk 2 rfl) (by kernel_rfl) rfl (HONE.out))); intro w19 hw_; have Sn_ := Aside0.mk ((S.out.setRow (cs' := bkV (a) V) (rs' := [Bx gb (bkV a V) 27, Rb V (upd L 0 ((L 0).set m (v))), Bx gr (bkV (a) V) 27, Rr w0 g bs (((q + 1) + 1) + 1)]) 2 rfl rfl).of hw_); clear S hw_; have S := Sn_; clear Sn_))
      refine bodyPost_ret (results_cell_row rfl _ _ gr 27 (bkV (a) V) (0, 0) _ rfl (S.out.blk 2 rfl) Try.underlying27 rfl (by kernel_rfl)) rfl ?_
      exact ⟨a, V, (upd L 0 ((L 0).set m (v))), (((q + 1) + 1) + 1), rfl, (by constructor <;> omega), (HSM.out.set 0 m (by omega) (by omega) (by omega)).wide (by omega), S.out.get 1 rfl, fun k hk => ⟨(S.out.arg 1 rfl k hk).elim (fun e => absurd e (S.out.ne 1 3 rfl rfl (by omega) k hk)) (fun e => e), S.out.lt 1 rfl k hk⟩, S.out.get 3 rfl, by omega, by omega, S.out.base⟩
  have b1 : (z == 1) = false := beq_eq_false_iff_ne.mpr z1
  clear z1
  by_cases z2 : z = 2
  · have b2 : (z == 2) = true := beq_iff_eq.mpr z2
    clear z2
    clear hl5 hl48 hlI hlE
    go_wp2_with fail
    refine (pickS HBS.out (S.out.get 3 rfl) (HBW.out _ S.out.base) (by omega) (by omega) (4) (by omega)).mono ?_
    rintro e w20 ⟨kk, rfl, kk0, kk1, hI_, hf_⟩
    have Sn_ := Aside0.mk (S.out.read (rs' := [Bx gb (bkV a V) 27, Rb V (L), Bx gr (#[.int .i64 0, .slice none 0 0, .slice none 0 0, .slice none 0 0, .slice none 0 0, .slice none 0 0, .slice none 0 0, .slice none 0 0, .slice none 0 0]) 27, Rr w0 g bs ((q + 1) + 1)]) 3 rfl hI_ hf_ rfl)
    clear S hI_ hf_
    have S := Sn_
    clear Sn_
    obtain ⟨k, rfl⟩ := Int.eq_ofNat_of_zero_le kk0
    have hk : k < 4 := by omega
    have hk4 : (k : Int) < 4 := by omega
    have hIR : Aside0 (IR w20 (V (k + 1)) (L (k + 1))) := ⟨(S.out.get 1 rfl).1 (k + 1) (by omega)⟩
    obtain ⟨Ak, ck, evk⟩ := hIR.out.form
    have HLL : Aside0 ((L (k + 1)).length ≤ 48) := ⟨(HSM.out (k + 1) (by omega)).1⟩
    clear hIR
    go_upto_region 9 with fail
    have Sn_ := Aside0.mk (S.out.drew)
    clear S
    have S := Sn_
    clear Sn_
    refine start_ (n := 13) (S := fun w_ => w_.heap[gb]? = some (.cells (bkV a V) 27 (0, 0))) (ds := [12]) #[false, false, false, false, false, false, false, false, false, false, false, false, false] (by kernel_rfl) rfl rfl (S.out.blk 0 rfl) (fun hH_ => ?_)
    refine pure_ (i := 0) (N := some 37) (v := ?_) (a' := ?_) #[true, false, false, false, false, false, false, false, false, false, false, false, false] rfl rfl (by kernel_rfl) (fun _ _ _ h => h) (Or.inl ⟨by rfl, ?_⟩) ?_ ?_
    rotate_left
    · intro w'
      go_simp
      with_reducible rfl
    rotate_left
    · simp only [Act.put, List.setIfInBounds_toArray, List.set_cons_zero, List.set_cons_succ, i64_w, i32_w]
      rfl
    refine pure_ (i := 1) (N := some 38) (v := ?_) (a' := ?_) #[true, true, false, false, false, false, false, false, false, false, false, false, false] rfl rfl (by kernel_rfl) (fun _ _ _ h => h) (Or.inl ⟨by rfl, ?_⟩) ?_ ?_
    rotate_left
    · intro w'
      go_simp
      with_reducible rfl
    rotate_left
    · simp only [Act.put, List.setIfInBounds_toArray, List.set_cons_zero, List.set_cons_succ, i64_w, i32_w]
      rfl
    refine pure_ (i := 2) (N := some 39) (v := ?_) (a' := ?_) #[true, true, true, false, false, false, false, false, false, false, false, false, false] rfl rfl (by kernel_rfl) (fun _ _ _ h => h) (Or.inl ⟨by rfl, ?_⟩) ?_ ?_
    rotate_left
    · intro w'
      go_simp
      with_reducible rfl
    rotate_left
    · simp only [Act.put, List.setIfInBounds_toArray, List.set_cons_zero, List.set_cons_succ, i64_w, i32_w]
      rfl
    refine pure_ (i := 3) (N := some 40) (v := ?_) (a' := ?_) #[true, true, true, true, false, false, false, false, false, false, false, false, false] rfl rfl (by kernel_rfl) (fun _ _ _ h => h) (Or.inl ⟨by rfl, ?_⟩) ?_ ?_
    rotate_left
    · intro w'
      go_simp
      with_reducible rfl
    rotate_left
    · simp only [Act.put, List.setIfInBounds_toArray, List.set_cons_zero, List.set_cons_succ, i64_w, i32_w]
      rfl
    refine take_ (i := 4) (N := some 41) (v := ?_) (a' := ?_) #[true, true, true, true, true, false, false, false, false, false, false, false, false] rfl rfl (by kernel_rfl) (fun _ _ _ h => h) (Or.inl ⟨by rfl, ?_⟩) hH_ ?_ ?_
    rotate_left
    · intro w' s0
      have f_ : w'.cell? ⟨gb, 2 + k, none⟩ = some (.slice Ak (L (k + 1)).length ck) := (blk_cell s0 (2 + k)).trans ((bkV_at a V k hk).trans (by rw [evk]))
      clear s0
      go_simp
      with_reducible rfl
    rotate_left
    · simp only [Act.put, List.setIfInBounds_toArray, List.set_cons_zero, List.set_cons_succ, i64_w, i32_w]
      rfl
    refine pure_ (i := 5) (N := some 42) (v := ?_) (a' := ?_) #[true, true, true, true, true, true, false, false, false, false, false, false, false] rfl rfl (by kernel_rfl) (fun _ _ _ h => h) (Or.inl ⟨by rfl, ?_⟩) ?_ ?_
    rotate_left
    · intro w'
      go_simp
      with_reducible rfl
    rotate_left
    · simp only [Act.put, List.setIfInBounds_toArray, List.set_cons_zero, List.set_cons_succ, i64_w, i32_w]
      rfl
    refine pure_ (i := 10) (N := some 47) (v := ?_) (a' := ?_) #[true, true, true, true, true, true, false, false, false, false, true, false, false] rfl rfl (by kernel_rfl) (fun _ _ _ h => h) (Or.inl ⟨by rfl, ?_⟩) ?_ ?_
    rotate_left
    · intro w'
      go_simp
      with_reducible rfl
    rotate_left
    · simp only [Act.put, List.setIfInBounds_toArray, List.set_cons_zero, List.set_cons_succ, i64_w, i32_w]
      rfl
    refine one_ (i := 6) (N := some 43) #[true, true, true, true, true, true, true, false, false, false, true, false, false] rfl rfl (by kernel_rfl) (by decide) (fun K hK => ?_)
    refine value_ (w1 := (w20.drew.alloc (.cells #[.int .i64 (-1), .int .i64 (0), .int .i64 (1), .int .i64 (2), .int .i64 (8), .int .i64 (99)] 3))) (v := .slice (some ⟨w20.drew.heap.size, 0, none⟩) 6 6) (by rfl) rfl (by first | (go_simp; done) | (go_simp; rfl)) ?_
    refine hK.out _ _ ((below_alloc (Below.refl _ _) _).block gb (S.out.lt 0 rfl gb rfl) |>.trans (S.out.blk 0 rfl)) (fun hX_ => ?_)
    clear hK K hX_
    refine norm_ (a' := ?_) ?_ ?_
    rotate_left
    · show Act.put _ (some 43) _ = _
      simp only [Act.put, List.setIfInBounds_toArray, List.set_cons_zero, List.set_cons_succ, i64_w, i32_w]
      rfl
    refine one_ (i := 7) (N := some 44) #[true, true, true, true, true, true, true, true, false, false, true, false, false] rfl rfl (by kernel_rfl) (by decide) (fun K hK => ?_)
    refine goes_ Try.func89 (by kernel_rfl) rfl #[.pointer (some ⟨g, 0, none⟩), .slice (some ⟨w20.drew.heap.size, 0, none⟩) 6 6] (by rfl) rfl rfl (by (try simp only [List.map_toArray, List.map_cons, List.map_nil]); first | done | rfl) ?_
    refine (numL HBS.out (S.out.get 3 rfl) (HBW.out _ S.out.base) (by omega) (by omega) [-1, 0, 1, 2, 8, 99] (by decide) (by decide)).mono ?_
    rintro e w21 ⟨v, rfl, hm_v, hI_, hf_⟩
    have Sn_ := Aside0.mk (S.out.read (rs' := [Bx gb (bkV a V) 27, Rb V (L), Bx gr (#[.int .i64 0, .slice none 0 0, .slice none 0 0, .slice none 0 0, .slice none 0 0, .slice none 0 0, .slice none 0 0, .slice none 0 0, .slice none 0 0]) 27, Rr w0 g bs (((q + 1) + 1) + 1)]) 3 rfl hI_ hf_ rfl)
    clear S hI_ hf_
    have S := Sn_
    clear Sn_
    refine ⟨_, rfl, ?_⟩
    refine hK.out _ _ (S.out.blk 0 rfl) (fun hX_ => ?_)
    clear hK K hX_
    refine norm_ (a' := ?_) ?_ ?_
    rotate_left
    · show Act.put _ (some 44) _ = _
      simp only [Act.put, List.setIfInBounds_toArray, List.set_cons_zero, List.set_cons_succ, i64_w, i32_w]
      rfl
    have hb_v : -1 ≤ v ∧ v ≤ 99 := by
      simp only [List.mem_cons, List.not_mem_nil, or_false] at hm_v
      omega
    obtain ⟨vl, vh⟩ := hb_v
    clear hm_v
    refine one_ (i := 8) (N := some 45) #[true, true, true, true, true, true, true, true, true, false, true, false, false] rfl rfl (by kernel_rfl) (by decide) (fun K hK => ?_)
    refine value_ (w1 := (w21.alloc (.cells #[.int .i64 (v)] 3))) (v := .slice (some ⟨w21.heap.size, 0, none⟩) 1 1) (by rfl) rfl (by first | (go_simp; done) | (go_simp; rfl)) ?_
    refine hK.out _ _ ((below_alloc (Below.refl _ _) _).block gb (S.out.lt 0 rfl gb rfl) |>.trans (S.out.blk 0 rfl)) (fun hX_ => ?_)
    clear hK K hX_
    refine norm_ (a' := ?_) ?_ ?_
    rotate_left
    · show Act.put _ (some 45) _ = _
      simp only [Act.put, List.setIfInBounds_toArray, List.set_cons_zero, List.set_cons_succ, i64_w, i32_w]
      rfl
    refine one_ (i := 9) (N := some 46) #[true, true, true, true, true, true, true, true, true, true, true, false, false] rfl rfl (by kernel_rfl) (by decide) (fun K hK => ?_)
    refine ir_step (by rfl) rfl (.tmp 41) (.tmp 45) 24 rfl Try.underlying24 info3 (V (k + 1)) (L (k + 1)) v (by rw [evk]; rfl) rfl ((S.out.get 1 rfl).1 (k + 1) (by omega)) (by have := HLL.out; omega) ?_
    intro v1 w22 ho_ hf_ hown_
    have Sn_ := Aside0.mk (S.out.row (rs' := [Bx gb (bkV a V) 27, Rb (updV V (k + 1) v1) (upd L (k + 1) (L (k + 1) ++ [v])), Bx gr (#[.int .i64 0, .slice none 0 0, .slice none 0 0, .slice none 0 0, .slice none 0 0, .slice none 0 0, .slice none 0 0, .slice none 0 0, .slice none 0 0]) 27, Rr w0 g bs (((q + 1) + 1) + 1)]) 1 rfl (i := k + 1) (by omega) (v' := v1) ho_ hf_ hown_ rfl)
    clear S hf_ hown_
    have S := Sn_
    clear Sn_
    obtain ⟨A1, c1, e1_⟩ := ho_.form
    clear ho_
    refine hK.out _ _ (S.out.blk 0 rfl) (fun hX_ => ?_)
    clear hK K hX_
    refine norm_ (a' := ?_) ?_ ?_
    rotate_left
    · show Act.put _ (some 46) _ = _
      simp only [Act.put, List.setIfInBounds_toArray, List.set_cons_zero, List.set_cons_succ, i64_w, i32_w]
      rfl
    have f_gb_k : w22.cell? ⟨gb, 2 + k, none⟩ = some (.slice Ak (L (k + 1)).length ck) := (S.out.cell 0 rfl (2 + k)).trans ((bkV_at a V k hk).trans (by rw [evk]))
    have z_gb_k := S.out.frozen 0 rfl (2 + k)
    have h1c : v1.oneCell' = true := by rw [e1_]; rfl
    refine pure_ (i := 11) (N := some 48) (v := ?_) (a' := ?_) #[true, true, true, true, true, true, true, true, true, true, true, true, false] rfl rfl (by kernel_rfl) (fun _ _ _ h => h) (Or.inl ⟨by rfl, ?_⟩) ?_ ?_
    rotate_left
    · intro w'
      go_simp
      with_reducible rfl
    rotate_left
    · simp only [Act.put, List.setIfInBounds_toArray, List.set_cons_zero, List.set_cons_succ, i64_w, i32_w]
      rfl
    subst e1_
    refine last_ (i := 12) (N := none) #[true, true, true, true, true, true, true, true, true, true, true, true, true] rfl rfl (by kernel_rfl) (by decide) (fun K hK => ?_)
    refine skip_ (w1 := w22.setCell ⟨gb, 2 + k, none⟩ (.slice A1 (L (k + 1) ++ [v]).length c1)) (by rfl) rfl (by first | (go_simp; done) | (go_simp; rfl)) ?_
    refine hK.out _ _ ?_
    clear hK K
    have Sn_ := Aside0.mk (S.out.setCell (cs' := bkV a (updV V (k + 1) (.slice A1 (L (k + 1) ++ [v]).length c1))) (rs' := [Bx gb (bkV a (updV V (k + 1) (.slice A1 (L (k + 1) ++ [v]).length c1))) 27, Rb (updV V (k + 1) (.slice A1 (L (k + 1) ++ [v]).length c1)) (upd L (k + 1) (L (k + 1) ++ [v])), Bx gr (#[.int .i64 0, .slice none 0 0, .slice none 0 0, .slice none 0 0, .slice none 0 0, .slice none 0 0, .slice none 0 0, .slice none 0 0, .slice none 0 0]) 27, Rr w0 g bs (((q + 1) + 1) + 1)]) 0 rfl (2 + k) (.slice A1 (L (k + 1) ++ [v]).length c1) (bkV_set a V k (.slice A1 (L (k + 1) ++ [v]).length c1) hk) rfl)
    clear S hH_ f_gb_k z_gb_k h1c
    have S := Sn_
    clear Sn_
    obtain ⟨w23, hw_⟩ : ∃ w_, w22.setCell ⟨gb, 2 + k, none⟩ (.slice A1 (L (k + 1) ++ [v]).length c1) = w_ := ⟨_, rfl⟩
    rw [hw_] at S
    rw [hw_]
    clear hw_
    refine done_ (by kernel_rfl) ?_
    have HONE := Aside0.mk ((S.out.get 1 rfl).one (a))
    go_wp2_with (first | ((with_reducible refine gate_dst (N := 77) rfl ?_); refine Kd.event_run rfl (Row.load_row_run (g := gb) (t := 27) (cells := bkV a (updV V (k + 1) (.slice A1 (L (k + 1) ++ [v]).length c1))) rfl rfl (S.out.blk 0 rfl) Try.underlying27 rfl (by kernel_rfl)) ?_) | ((with_reducible refine gate_store (t := 27) (p := 2) rfl ?_); refine store_event (t := 27) (p := 2) (v := ?vo_6) (w1 := w23.setRow gr (bkV (a) (updV V (k + 1) (.slice A1 (L (k + 1) ++ [v]).length c1)))) ?hg ?ho ?hn ?hr ?_; (case ho => rfl); (case hg => rfl); (case hn => rfl); (case hr => exact (Row.store_row_run (g := gr) (cells := bkV (a) (updV V (k + 1) (.slice A1 (L (k + 1) ++ [v]).length c1))) (t := 27) (old := #[.int .i64 0, .slice none 0 0, .slice none 0 0, .slice none 0 0, .slice none 0 0, .slice none 0 0, .slice none 0 0, .slice none 0 0, .slice none 0 0]) rfl (by rfl) (by rfl) (S.out.blk 2 rfl) (by kernel_rfl) rfl (HONE.out))); intro w24 hw_; have Sn_ := Aside0.mk ((S.out.setRow (cs' := bkV (a) (updV V (k + 1) (.slice A1 (L (k + 1) ++ [v]).length c1))) (rs' := [Bx gb (bkV a (updV V (k + 1) (.slice A1 (L (k + 1) ++ [v]).length c1))) 27, Rb (updV V (k + 1) (.slice A1 (L (k + 1) ++ [v]).length c1)) (upd L (k + 1) (L (k + 1) ++ [v])), Bx gr (bkV (a) (updV V (k + 1) (.slice A1 (L (k + 1) ++ [v]).length c1))) 27, Rr w0 g bs (((q + 1) + 1) + 1)]) 2 rfl rfl).of hw_); clear S hw_; have S := Sn_; clear Sn_))
    refine bodyPost_ret (results_cell_row rfl _ _ gr 27 (bkV (a) (updV V (k + 1) (.slice A1 (L (k + 1) ++ [v]).length c1))) (0, 0) _ rfl (S.out.blk 2 rfl) Try.underlying27 rfl (by kernel_rfl)) rfl ?_
    exact ⟨a, (updV V (k + 1) (.slice A1 (L (k + 1) ++ [v]).length c1)), (upd L (k + 1) (L (k + 1) ++ [v])), (((q + 1) + 1) + 1), rfl, (by constructor <;> omega), (HSM.out.app (k + 1) (by omega) (by omega) (by omega)).wide (by omega), S.out.get 1 rfl, fun k hk => ⟨(S.out.arg 1 rfl k hk).elim (fun e => absurd e (S.out.ne 1 3 rfl rfl (by omega) k hk)) (fun e => e), S.out.lt 1 rfl k hk⟩, S.out.get 3 rfl, by omega, by omega, S.out.base⟩
  have b2 : (z == 2) = false := beq_eq_false_iff_ne.mpr z2
  clear z2
  by_cases z3 : z = 3
  · have b3 : (z == 3) = true := beq_iff_eq.mpr z3
    clear z3
    obtain ⟨g5, o5, cap5, hv5, _, _⟩ := ((S.out.get 1 rfl).1 5 (by omega)).at 0 (by omega)
    have hpl : (1 : Int) ≤ ((L 5).length : Int) := by omega
    clear hl5 hl48 hlI hlE
    go_wp2_with fail
    have Sn_ := Aside0.mk (S.out.drew)
    clear S
    have S := Sn_
    clear Sn_
    refine start_ (n := 11) (S := fun w_ => w_.heap[gb]? = some (.cells (bkV a V) 27 (0, 0))) (ds := [10]) #[false, false, false, false, false, false, false, false, false, false, false] (by kernel_rfl) rfl rfl (S.out.blk 0 rfl) (fun hH_ => ?_)
    refine pure_ (i := 0) (N := some 51) (v := ?_) (a' := ?_) #[true, false, false, false, false, false, false, false, false, false, false] rfl rfl (by kernel_rfl) (fun _ _ _ h => h) (Or.inl ⟨by rfl, ?_⟩) ?_ ?_
    rotate_left
    · intro w'
      go_simp
      with_reducible rfl
    rotate_left
    · simp only [Act.put, List.setIfInBounds_toArray, List.set_cons_zero, List.set_cons_succ, i64_w, i32_w]
      rfl
    refine take_ (i := 1) (N := some 52) (v := ?_) (a' := ?_) #[true, true, false, false, false, false, false, false, false, false, false] rfl rfl (by kernel_rfl) (fun _ _ _ h => h) (Or.inl ⟨by rfl, ?_⟩) hH_ ?_ ?_
    rotate_left
    · intro w' s0
      have f_ : w'.cell? ⟨gb, 6, none⟩ = some (.slice (some ⟨g5, o5, none⟩) (L 5).length cap5) := (blk_cell s0 6).trans (by rw [← hv5]; rfl)
      clear s0
      go_simp
      with_reducible rfl
    rotate_left
    · simp only [Act.put, List.setIfInBounds_toArray, List.set_cons_zero, List.set_cons_succ, i64_w, i32_w]
      rfl
    refine pure_ (i := 2) (N := some 53) (v := ?_) (a' := ?_) #[true, true, true, false, false, false, false, false, false, false, false] rfl rfl (by kernel_rfl) (fun _ _ _ h => h) (Or.inl ⟨by rfl, ?_⟩) ?_ ?_
    rotate_left
    · intro w'
      go_simp
      with_reducible rfl
    rotate_left
    · simp only [Act.put, List.setIfInBounds_toArray, List.set_cons_zero, List.set_cons_succ, i64_w, i32_w]
      rfl
    refine pure_ (i := 3) (N := some 54) (v := ?_) (a' := ?_) #[true, true, true, true, false, false, false, false, false, false, false] rfl rfl (by kernel_rfl) (fun _ _ _ h => h) (Or.inl ⟨by rfl, ?_⟩) ?_ ?_
    rotate_left
    · intro w'
      go_simp
      with_reducible rfl
    rotate_left
    · simp only [Act.put, List.setIfInBounds_toArray, List.set_cons_zero, List.set_cons_succ, i64_w, i32_w]
      rfl
    refine take_ (i := 4) (N := some 55) (v := ?_) (a' := ?_) #[true, true, true, true, true, false, false, false, false, false, false] rfl rfl (by kernel_rfl) (fun _ _ _ h => h) (Or.inl ⟨by rfl, ?_⟩) hH_ ?_ ?_
    rotate_left
    · intro w' s0
      have f_ : w'.cell? ⟨gb, 6, none⟩ = some (.slice (some ⟨g5, o5, none⟩) (L 5).length cap5) := (blk_cell s0 6).trans (by rw [← hv5]; rfl)
      clear s0
      go_simp
      with_reducible rfl
    rotate_left
    · simp only [Act.put, List.setIfInBounds_toArray, List.set_cons_zero, List.set_cons_succ, i64_w, i32_w]
      rfl
    refine pure_ (i := 5) (N := some 56) (v := ?_) (a' := ?_) #[true, true, true, true, true, true, false, false, false, false, false] rfl rfl (by kernel_rfl) (fun _ _ _ h => h) (Or.inl ⟨by rfl, ?_⟩) ?_ ?_
    rotate_left
    · intro w'
      go_simp
      with_reducible rfl
    rotate_left
    · simp only [Act.put, List.setIfInBounds_toArray, List.set_cons_zero, List.set_cons_succ, i64_w, i32_w]
      rfl
    refine pure_ (i := 7) (N := some 58) (v := ?_) (a' := ?_) #[true, true, true, true, true, true, false, true, false, false, false] rfl rfl (by kernel_rfl) (fun _ _ _ h => h) (Or.inl ⟨by rfl, ?_⟩) ?_ ?_
    rotate_left
    · intro w'
      go_simp
      with_reducible rfl
    rotate_left
    · simp only [Act.put, List.setIfInBounds_toArray, List.set_cons_zero, List.set_cons_succ, i64_w, i32_w]
      rfl
    refine one_ (i := 6) (N := some 57) #[true, true, true, true, true, true, true, true, false, false, false] rfl rfl (by kernel_rfl) (by decide) (fun K hK => ?_)
    refine goes_ Try.func65 (by kernel_rfl) rfl #[.pointer (some ⟨g, 0, none⟩), .int .i64 ((L 5).length : Int)] (by rfl) rfl rfl (by (try simp only [List.map_toArray, List.map_cons, List.map_nil]); first | done | rfl) ?_
    refine (pickS HBS.out (S.out.get 3 rfl) (HBW.out _ S.out.base) (by omega) (by omega) _ (by omega)).mono ?_
    rintro e w25 ⟨r, rfl, r0, r1, hI_, hf_⟩
    have Sn_ := Aside0.mk (S.out.read (rs' := [Bx gb (bkV a V) 27, Rb V (L), Bx gr (#[.int .i64 0, .slice none 0 0, .slice none 0 0, .slice none 0 0, .slice none 0 0, .slice none 0 0, .slice none 0 0, .slice none 0 0, .slice none 0 0]) 27, Rr w0 g bs ((q + 1) + 1)]) 3 rfl hI_ hf_ rfl)
    clear S hI_ hf_
    have S := Sn_
    clear Sn_
    refine ⟨_, rfl, ?_⟩
    refine hK.out _ _ (S.out.blk 0 rfl) (fun hX_ => ?_)
    clear hK K hX_
    refine norm_ (a' := ?_) ?_ ?_
    rotate_left
    · show Act.put _ (some 57) _ = _
      simp only [Act.put, List.setIfInBounds_toArray, List.set_cons_zero, List.set_cons_succ, i64_w, i32_w]
      rfl
    refine one_ (i := 8) (N := some 59) #[true, true, true, true, true, true, true, true, true, false, false] rfl rfl (by kernel_rfl) (by decide) (fun K hK => ?_)
    refine goes_ Try.func65 (by kernel_rfl) rfl #[.pointer (some ⟨g, 0, none⟩), .int .i64 5] (by rfl) rfl rfl (by (try simp only [List.map_toArray, List.map_cons, List.map_nil]); first | done | rfl) ?_
    refine (pickS HBS.out (S.out.get 3 rfl) (HBW.out _ S.out.base) (by omega) (by omega) 5 (by omega)).mono ?_
    rintro e w26 ⟨v, rfl, vl, vh, hI_, hf_⟩
    have Sn_ := Aside0.mk (S.out.read (rs' := [Bx gb (bkV a V) 27, Rb V (L), Bx gr (#[.int .i64 0, .slice none 0 0, .slice none 0 0, .slice none 0 0, .slice none 0 0, .slice none 0 0, .slice none 0 0, .slice none 0 0, .slice none 0 0]) 27, Rr w0 g bs (((q + 1) + 1) + 1)]) 3 rfl hI_ hf_ rfl)
    clear S hI_ hf_
    have S := Sn_
    clear Sn_
    refine ⟨_, rfl, ?_⟩
    refine hK.out _ _ (S.out.blk 0 rfl) (fun hX_ => ?_)
    clear hK K hX_
    refine norm_ (a' := ?_) ?_ ?_
    rotate_left
    · show Act.put _ (some 59) _ = _
      simp only [Act.put, List.setIfInBounds_toArray, List.set_cons_zero, List.set_cons_succ, i64_w, i32_w]
      rfl
    obtain ⟨m, rfl⟩ := Int.eq_ofNat_of_zero_le r0
    have hm : m < (L 5).length := by omega
    refine pure_ (i := 9) (N := some 60) (v := ?_) (a' := ?_) #[true, true, true, true, true, true, true, true, true, true, false] rfl rfl (by kernel_rfl) (fun _ _ _ h => h) (Or.inl ⟨by rfl, ?_⟩) ?_ ?_
    rotate_left
    · intro w'
      go_simp
      with_reducible rfl
    rotate_left
    · simp only [Act.put, List.setIfInBounds_toArray, List.set_cons_zero, List.set_cons_succ, i64_w, i32_w]
      rfl
    obtain ⟨hcx, hzx⟩ := S.out.rowCell 1 rfl (i := 5) (by omega) hv5 m hm
    refine last_ (i := 10) (N := none) #[true, true, true, true, true, true, true, true, true, true, true] rfl rfl (by kernel_rfl) (by decide) (fun K hK => ?_)
    refine skip_ (w1 := w26.setCell ⟨g5, o5 + m, none⟩ (.int .i64 (v))) (by rfl) rfl (by first | (go_simp; done) | (go_simp; rfl)) ?_
    refine hK.out _ _ ?_
    clear hK K
    have Sn_ := Aside0.mk ((show Sx (fun k => k = g) w (w26.setCell ⟨g5, o5 + m, none⟩ (.int .i64 (v))) [Bx gb (bkV a V) 27, Rb V (upd L 5 ((L 5).set m (v))), Bx gr (#[.int .i64 0, .slice none 0 0, .slice none 0 0, .slice none 0 0, .slice none 0 0, .slice none 0 0, .slice none 0 0, .slice none 0 0, .slice none 0 0]) 27, Rr w0 g bs (((q + 1) + 1) + 1)] from Sx.rowSet' (rs' := [Bx gb (bkV a V) 27, Rb V (upd L 5 ((L 5).set m (v))), Bx gr (#[.int .i64 0, .slice none 0 0, .slice none 0 0, .slice none 0 0, .slice none 0 0, .slice none 0 0, .slice none 0 0, .slice none 0 0, .slice none 0 0]) 27, Rr w0 g bs (((q + 1) + 1) + 1)]) S.out 1 rfl (i := 5) (by omega) hv5 m hm (v) rfl))
    clear S hH_ hcx hzx
    have S := Sn_
    clear Sn_
    obtain ⟨w27, hw_⟩ : ∃ w_, w26.setCell ⟨g5, o5 + m, none⟩ (.int .i64 (v)) = w_ := ⟨_, rfl⟩
    rw [hw_] at S
    rw [hw_]
    clear hw_
    refine done_ (by kernel_rfl) ?_
    have HONE := Aside0.mk ((S.out.get 1 rfl).one (a))
    go_wp2_with (first | ((with_reducible refine gate_dst (N := 77) rfl ?_); refine Kd.event_run rfl (Row.load_row_run (g := gb) (t := 27) (cells := bkV a V) rfl rfl (S.out.blk 0 rfl) Try.underlying27 rfl (by kernel_rfl)) ?_) | ((with_reducible refine gate_store (t := 27) (p := 2) rfl ?_); refine store_event (t := 27) (p := 2) (v := ?vo_7) (w1 := w27.setRow gr (bkV (a) V)) ?hg ?ho ?hn ?hr ?_; (case ho => rfl); (case hg => rfl); (case hn => rfl); (case hr => exact (Row.store_row_run (g := gr) (cells := bkV (a) V) (t := 27) (old := #[.int .i64 0, .slice none 0 0, .slice none 0 0, .slice none 0 0, .slice none 0 0, .slice none 0 0, .slice none 0 0, .slice none 0 0, .slice none 0 0]) rfl (by rfl) (by rfl) (S.out.blk 2 rfl) (by kernel_rfl) rfl (HONE.out))); intro w28 hw_; have Sn_ := Aside0.mk ((S.out.setRow (cs' := bkV (a) V) (rs' := [Bx gb (bkV a V) 27, Rb V (upd L 5 ((L 5).set m (v))), Bx gr (bkV (a) V) 27, Rr w0 g bs (((q + 1) + 1) + 1)]) 2 rfl rfl).of hw_); clear S hw_; have S := Sn_; clear Sn_))
    refine bodyPost_ret (results_cell_row rfl _ _ gr 27 (bkV (a) V) (0, 0) _ rfl (S.out.blk 2 rfl) Try.underlying27 rfl (by kernel_rfl)) rfl ?_
    exact ⟨a, V, (upd L 5 ((L 5).set m (v))), (((q + 1) + 1) + 1), rfl, (by constructor <;> omega), (HSM.out.set 5 m (by omega) (by omega) (by omega)).wide (by omega), S.out.get 1 rfl, fun k hk => ⟨(S.out.arg 1 rfl k hk).elim (fun e => absurd e (S.out.ne 1 3 rfl rfl (by omega) k hk)) (fun e => e), S.out.lt 1 rfl k hk⟩, S.out.get 3 rfl, by omega, by omega, S.out.base⟩
  have b3 : (z == 3) = false := beq_eq_false_iff_ne.mpr z3
  clear z3
  by_cases z4 : z = 4
  · have b4 : (z == 4) = true := beq_iff_eq.mpr z4
    clear z4
    obtain ⟨g6, o6, cap6, hv6, _, _⟩ := ((S.out.get 1 rfl).1 6 (by omega)).at 0 (by omega)
    have hm : 0 < (L 6).length := by omega
    have hpl : (0 : Int) < ((L 6).length : Int) := by omega
    clear hl5 hl48 hlI hlE
    go_wp2_with fail
    have Sn_ := Aside0.mk (S.out.drew)
    clear S
    have S := Sn_
    clear Sn_
    refine start_ (n := 7) (S := fun w_ => w_.heap[gb]? = some (.cells (bkV a V) 27 (0, 0))) (ds := [6]) #[false, false, false, false, false, false, false] (by kernel_rfl) rfl rfl (S.out.blk 0 rfl) (fun hH_ => ?_)
    refine pure_ (i := 0) (N := some 63) (v := ?_) (a' := ?_) #[true, false, false, false, false, false, false] rfl rfl (by kernel_rfl) (fun _ _ _ h => h) (Or.inl ⟨by rfl, ?_⟩) ?_ ?_
    rotate_left
    · intro w'
      go_simp
      with_reducible rfl
    rotate_left
    · simp only [Act.put, List.setIfInBounds_toArray, List.set_cons_zero, List.set_cons_succ, i64_w, i32_w]
      rfl
    refine take_ (i := 1) (N := some 64) (v := ?_) (a' := ?_) #[true, true, false, false, false, false, false] rfl rfl (by kernel_rfl) (fun _ _ _ h => h) (Or.inl ⟨by rfl, ?_⟩) hH_ ?_ ?_
    rotate_left
    · intro w' s0
      have f_ : w'.cell? ⟨gb, 7, none⟩ = some (.slice (some ⟨g6, o6, none⟩) (L 6).length cap6) := (blk_cell s0 7).trans (by rw [← hv6]; rfl)
      clear s0
      go_simp
      with_reducible rfl
    rotate_left
    · simp only [Act.put, List.setIfInBounds_toArray, List.set_cons_zero, List.set_cons_succ, i64_w, i32_w]
      rfl
    refine pure_ (i := 2) (N := some 65) (v := ?_) (a' := ?_) #[true, true, true, false, false, false, false] rfl rfl (by kernel_rfl) (fun _ _ _ h => h) (Or.inl ⟨by rfl, ?_⟩) ?_ ?_
    rotate_left
    · intro w'
      go_simp
      with_reducible rfl
    rotate_left
    · simp only [Act.put, List.setIfInBounds_toArray, List.set_cons_zero, List.set_cons_succ, i64_w, i32_w]
      rfl
    refine one_ (i := 3) (N := some 66) #[true, true, true, true, false, false, false] rfl rfl (by kernel_rfl) (by decide) (fun K hK => ?_)
    refine value_ (w1 := (w7.drew.alloc (.cells #[.int .i64 (-1), .int .i64 (0), .int .i64 (1), .int .i64 (2), .int .i64 (3)] 3))) (v := .slice (some ⟨w7.drew.heap.size, 0, none⟩) 5 5) (by rfl) rfl (by first | (go_simp; done) | (go_simp; rfl)) ?_
    refine hK.out _ _ ((below_alloc (Below.refl _ _) _).block gb (S.out.lt 0 rfl gb rfl) |>.trans (S.out.blk 0 rfl)) (fun hX_ => ?_)
    clear hK K hX_
    refine norm_ (a' := ?_) ?_ ?_
    rotate_left
    · show Act.put _ (some 66) _ = _
      simp only [Act.put, List.setIfInBounds_toArray, List.set_cons_zero, List.set_cons_succ, i64_w, i32_w]
      rfl
    refine one_ (i := 4) (N := some 67) #[true, true, true, true, true, false, false] rfl rfl (by kernel_rfl) (by decide) (fun K hK => ?_)
    refine goes_ Try.func89 (by kernel_rfl) rfl #[.pointer (some ⟨g, 0, none⟩), .slice (some ⟨w7.drew.heap.size, 0, none⟩) 5 5] (by rfl) rfl rfl (by (try simp only [List.map_toArray, List.map_cons, List.map_nil]); first | done | rfl) ?_
    refine (numL HBS.out (S.out.get 3 rfl) (HBW.out _ S.out.base) (by omega) (by omega) [-1, 0, 1, 2, 3] (by decide) (by decide)).mono ?_
    rintro e w29 ⟨v, rfl, hm_v, hI_, hf_⟩
    have Sn_ := Aside0.mk (S.out.read (rs' := [Bx gb (bkV a V) 27, Rb V (L), Bx gr (#[.int .i64 0, .slice none 0 0, .slice none 0 0, .slice none 0 0, .slice none 0 0, .slice none 0 0, .slice none 0 0, .slice none 0 0, .slice none 0 0]) 27, Rr w0 g bs ((q + 1) + 1)]) 3 rfl hI_ hf_ rfl)
    clear S hI_ hf_
    have S := Sn_
    clear Sn_
    refine ⟨_, rfl, ?_⟩
    refine hK.out _ _ (S.out.blk 0 rfl) (fun hX_ => ?_)
    clear hK K hX_
    refine norm_ (a' := ?_) ?_ ?_
    rotate_left
    · show Act.put _ (some 67) _ = _
      simp only [Act.put, List.setIfInBounds_toArray, List.set_cons_zero, List.set_cons_succ, i64_w, i32_w]
      rfl
    have hb_v : -1 ≤ v ∧ v ≤ 3 := by
      simp only [List.mem_cons, List.not_mem_nil, or_false] at hm_v
      omega
    obtain ⟨vl, vh⟩ := hb_v
    clear hm_v
    refine pure_ (i := 5) (N := some 68) (v := ?_) (a' := ?_) #[true, true, true, true, true, true, false] rfl rfl (by kernel_rfl) (fun _ _ _ h => h) (Or.inl ⟨by rfl, ?_⟩) ?_ ?_
    rotate_left
    · intro w'
      go_simp
      with_reducible rfl
    rotate_left
    · simp only [Act.put, List.setIfInBounds_toArray, List.set_cons_zero, List.set_cons_succ, i64_w, i32_w]
      rfl
    obtain ⟨hcx, hzx⟩ := S.out.rowCell 1 rfl (i := 6) (by omega) hv6 0 hm
    rw [Nat.add_zero] at hcx hzx
    refine last_ (i := 6) (N := none) #[true, true, true, true, true, true, true] rfl rfl (by kernel_rfl) (by decide) (fun K hK => ?_)
    refine skip_ (w1 := w29.setCell ⟨g6, o6, none⟩ (.int .i64 (v))) (by rfl) rfl (by first | (go_simp; done) | (go_simp; rfl)) ?_
    refine hK.out _ _ ?_
    clear hK K
    have Sn_ := Aside0.mk ((show Sx (fun k => k = g) w (w29.setCell ⟨g6, o6, none⟩ (.int .i64 (v))) [Bx gb (bkV a V) 27, Rb V (upd L 6 ((L 6).set 0 (v))), Bx gr (#[.int .i64 0, .slice none 0 0, .slice none 0 0, .slice none 0 0, .slice none 0 0, .slice none 0 0, .slice none 0 0, .slice none 0 0, .slice none 0 0]) 27, Rr w0 g bs ((q + 1) + 1)] from Sx.rowSet' (rs' := [Bx gb (bkV a V) 27, Rb V (upd L 6 ((L 6).set 0 (v))), Bx gr (#[.int .i64 0, .slice none 0 0, .slice none 0 0, .slice none 0 0, .slice none 0 0, .slice none 0 0, .slice none 0 0, .slice none 0 0, .slice none 0 0]) 27, Rr w0 g bs ((q + 1) + 1)]) S.out 1 rfl (i := 6) (by omega) hv6 0 hm (v) rfl))
    clear S hH_ hcx hzx
    have S := Sn_
    clear Sn_
    obtain ⟨w30, hw_⟩ : ∃ w_, w29.setCell ⟨g6, o6, none⟩ (.int .i64 (v)) = w_ := ⟨_, rfl⟩
    rw [hw_] at S
    rw [hw_]
    clear hw_
    refine done_ (by kernel_rfl) ?_
    have HONE := Aside0.mk ((S.out.get 1 rfl).one (a))
    go_wp2_with (first | ((with_reducible refine gate_dst (N := 77) rfl ?_); refine Kd.event_run rfl (Row.load_row_run (g := gb) (t := 27) (cells := bkV a V) rfl rfl (S.out.blk 0 rfl) Try.underlying27 rfl (by kernel_rfl)) ?_) | ((with_reducible refine gate_store (t := 27) (p := 2) rfl ?_); refine store_event (t := 27) (p := 2) (v := ?vo_8) (w1 := w30.setRow gr (bkV (a) V)) ?hg ?ho ?hn ?hr ?_; (case ho => rfl); (case hg => rfl); (case hn => rfl); (case hr => exact (Row.store_row_run (g := gr) (cells := bkV (a) V) (t := 27) (old := #[.int .i64 0, .slice none 0 0, .slice none 0 0, .slice none 0 0, .slice none 0 0, .slice none 0 0, .slice none 0 0, .slice none 0 0, .slice none 0 0]) rfl (by rfl) (by rfl) (S.out.blk 2 rfl) (by kernel_rfl) rfl (HONE.out))); intro w31 hw_; have Sn_ := Aside0.mk ((S.out.setRow (cs' := bkV (a) V) (rs' := [Bx gb (bkV a V) 27, Rb V (upd L 6 ((L 6).set 0 (v))), Bx gr (bkV (a) V) 27, Rr w0 g bs ((q + 1) + 1)]) 2 rfl rfl).of hw_); clear S hw_; have S := Sn_; clear Sn_))
    refine bodyPost_ret (results_cell_row rfl _ _ gr 27 (bkV (a) V) (0, 0) _ rfl (S.out.blk 2 rfl) Try.underlying27 rfl (by kernel_rfl)) rfl ?_
    exact ⟨a, V, (upd L 6 ((L 6).set 0 (v))), ((q + 1) + 1), rfl, (by constructor <;> omega), (HSM.out.set 6 0 (by omega) (by omega) (by omega)).wide (by omega), S.out.get 1 rfl, fun k hk => ⟨(S.out.arg 1 rfl k hk).elim (fun e => absurd e (S.out.ne 1 3 rfl rfl (by omega) k hk)) (fun e => e), S.out.lt 1 rfl k hk⟩, S.out.get 3 rfl, by omega, by omega, S.out.base⟩
  have b4 : (z == 4) = false := beq_eq_false_iff_ne.mpr z4
  clear z4
  by_cases z5 : z = 5
  · have b5 : (z == 5) = true := beq_iff_eq.mpr z5
    clear z5
    obtain ⟨g7, o7, cap7, hv7, _, _⟩ := ((S.out.get 1 rfl).1 7 (by omega)).at 0 (by omega)
    have hm : 0 < (L 7).length := by omega
    have hpl : (0 : Int) < ((L 7).length : Int) := by omega
    clear hl5 hl48 hlI hlE
    go_wp2_with fail
    have Sn_ := Aside0.mk (S.out.drew)
    clear S
    have S := Sn_
    clear Sn_
    refine start_ (n := 7) (S := fun w_ => w_.heap[gb]? = some (.cells (bkV a V) 27 (0, 0))) (ds := [6]) #[false, false, false, false, false, false, false] (by kernel_rfl) rfl rfl (S.out.blk 0 rfl) (fun hH_ => ?_)
    refine pure_ (i := 0) (N := some 71) (v := ?_) (a' := ?_) #[true, false, false, false, false, false, false] rfl rfl (by kernel_rfl) (fun _ _ _ h => h) (Or.inl ⟨by rfl, ?_⟩) ?_ ?_
    rotate_left
    · intro w'
      go_simp
      with_reducible rfl
    rotate_left
    · simp only [Act.put, List.setIfInBounds_toArray, List.set_cons_zero, List.set_cons_succ, i64_w, i32_w]
      rfl
    refine take_ (i := 1) (N := some 72) (v := ?_) (a' := ?_) #[true, true, false, false, false, false, false] rfl rfl (by kernel_rfl) (fun _ _ _ h => h) (Or.inl ⟨by rfl, ?_⟩) hH_ ?_ ?_
    rotate_left
    · intro w' s0
      have f_ : w'.cell? ⟨gb, 8, none⟩ = some (.slice (some ⟨g7, o7, none⟩) (L 7).length cap7) := (blk_cell s0 8).trans (by rw [← hv7]; rfl)
      clear s0
      go_simp
      with_reducible rfl
    rotate_left
    · simp only [Act.put, List.setIfInBounds_toArray, List.set_cons_zero, List.set_cons_succ, i64_w, i32_w]
      rfl
    refine pure_ (i := 2) (N := some 73) (v := ?_) (a' := ?_) #[true, true, true, false, false, false, false] rfl rfl (by kernel_rfl) (fun _ _ _ h => h) (Or.inl ⟨by rfl, ?_⟩) ?_ ?_
    rotate_left
    · intro w'
      go_simp
      with_reducible rfl
    rotate_left
    · simp only [Act.put, List.setIfInBounds_toArray, List.set_cons_zero, List.set_cons_succ, i64_w, i32_w]
      rfl
    refine one_ (i := 3) (N := some 74) #[true, true, true, true, false, false, false] rfl rfl (by kernel_rfl) (by decide) (fun K hK => ?_)
    refine value_ (w1 := (w7.drew.alloc (.cells #[.int .i64 (-1), .int .i64 (0), .int .i64 (4095), .int .i64 (4096)] 3))) (v := .slice (some ⟨w7.drew.heap.size, 0, none⟩) 4 4) (by rfl) rfl (by first | (go_simp; done) | (go_simp; rfl)) ?_
    refine hK.out _ _ ((below_alloc (Below.refl _ _) _).block gb (S.out.lt 0 rfl gb rfl) |>.trans (S.out.blk 0 rfl)) (fun hX_ => ?_)
    clear hK K hX_
    refine norm_ (a' := ?_) ?_ ?_
    rotate_left
    · show Act.put _ (some 74) _ = _
      simp only [Act.put, List.setIfInBounds_toArray, List.set_cons_zero, List.set_cons_succ, i64_w, i32_w]
      rfl
    refine one_ (i := 4) (N := some 75) #[true, true, true, true, true, false, false] rfl rfl (by kernel_rfl) (by decide) (fun K hK => ?_)
    refine goes_ Try.func89 (by kernel_rfl) rfl #[.pointer (some ⟨g, 0, none⟩), .slice (some ⟨w7.drew.heap.size, 0, none⟩) 4 4] (by rfl) rfl rfl (by (try simp only [List.map_toArray, List.map_cons, List.map_nil]); first | done | rfl) ?_
    refine (numL HBS.out (S.out.get 3 rfl) (HBW.out _ S.out.base) (by omega) (by omega) [-1, 0, 4095, 4096] (by decide) (by decide)).mono ?_
    rintro e w32 ⟨v, rfl, hm_v, hI_, hf_⟩
    have Sn_ := Aside0.mk (S.out.read (rs' := [Bx gb (bkV a V) 27, Rb V (L), Bx gr (#[.int .i64 0, .slice none 0 0, .slice none 0 0, .slice none 0 0, .slice none 0 0, .slice none 0 0, .slice none 0 0, .slice none 0 0, .slice none 0 0]) 27, Rr w0 g bs ((q + 1) + 1)]) 3 rfl hI_ hf_ rfl)
    clear S hI_ hf_
    have S := Sn_
    clear Sn_
    refine ⟨_, rfl, ?_⟩
    refine hK.out _ _ (S.out.blk 0 rfl) (fun hX_ => ?_)
    clear hK K hX_
    refine norm_ (a' := ?_) ?_ ?_
    rotate_left
    · show Act.put _ (some 75) _ = _
      simp only [Act.put, List.setIfInBounds_toArray, List.set_cons_zero, List.set_cons_succ, i64_w, i32_w]
      rfl
    have hb_v : -1 ≤ v ∧ v ≤ 4096 := by
      simp only [List.mem_cons, List.not_mem_nil, or_false] at hm_v
      omega
    obtain ⟨vl, vh⟩ := hb_v
    clear hm_v
    refine pure_ (i := 5) (N := some 76) (v := ?_) (a' := ?_) #[true, true, true, true, true, true, false] rfl rfl (by kernel_rfl) (fun _ _ _ h => h) (Or.inl ⟨by rfl, ?_⟩) ?_ ?_
    rotate_left
    · intro w'
      go_simp
      with_reducible rfl
    rotate_left
    · simp only [Act.put, List.setIfInBounds_toArray, List.set_cons_zero, List.set_cons_succ, i64_w, i32_w]
      rfl
    obtain ⟨hcx, hzx⟩ := S.out.rowCell 1 rfl (i := 7) (by omega) hv7 0 hm
    rw [Nat.add_zero] at hcx hzx
    refine last_ (i := 6) (N := none) #[true, true, true, true, true, true, true] rfl rfl (by kernel_rfl) (by decide) (fun K hK => ?_)
    refine skip_ (w1 := w32.setCell ⟨g7, o7, none⟩ (.int .i64 (v))) (by rfl) rfl (by first | (go_simp; done) | (go_simp; rfl)) ?_
    refine hK.out _ _ ?_
    clear hK K
    have Sn_ := Aside0.mk ((show Sx (fun k => k = g) w (w32.setCell ⟨g7, o7, none⟩ (.int .i64 (v))) [Bx gb (bkV a V) 27, Rb V (upd L 7 ((L 7).set 0 (v))), Bx gr (#[.int .i64 0, .slice none 0 0, .slice none 0 0, .slice none 0 0, .slice none 0 0, .slice none 0 0, .slice none 0 0, .slice none 0 0, .slice none 0 0]) 27, Rr w0 g bs ((q + 1) + 1)] from Sx.rowSet' (rs' := [Bx gb (bkV a V) 27, Rb V (upd L 7 ((L 7).set 0 (v))), Bx gr (#[.int .i64 0, .slice none 0 0, .slice none 0 0, .slice none 0 0, .slice none 0 0, .slice none 0 0, .slice none 0 0, .slice none 0 0, .slice none 0 0]) 27, Rr w0 g bs ((q + 1) + 1)]) S.out 1 rfl (i := 7) (by omega) hv7 0 hm (v) rfl))
    clear S hH_ hcx hzx
    have S := Sn_
    clear Sn_
    obtain ⟨w33, hw_⟩ : ∃ w_, w32.setCell ⟨g7, o7, none⟩ (.int .i64 (v)) = w_ := ⟨_, rfl⟩
    rw [hw_] at S
    rw [hw_]
    clear hw_
    refine done_ (by kernel_rfl) ?_
    have HONE := Aside0.mk ((S.out.get 1 rfl).one (a))
    go_wp2_with (first | ((with_reducible refine gate_dst (N := 77) rfl ?_); refine Kd.event_run rfl (Row.load_row_run (g := gb) (t := 27) (cells := bkV a V) rfl rfl (S.out.blk 0 rfl) Try.underlying27 rfl (by kernel_rfl)) ?_) | ((with_reducible refine gate_store (t := 27) (p := 2) rfl ?_); refine store_event (t := 27) (p := 2) (v := ?vo_9) (w1 := w33.setRow gr (bkV (a) V)) ?hg ?ho ?hn ?hr ?_; (case ho => rfl); (case hg => rfl); (case hn => rfl); (case hr => exact (Row.store_row_run (g := gr) (cells := bkV (a) V) (t := 27) (old := #[.int .i64 0, .slice none 0 0, .slice none 0 0, .slice none 0 0, .slice none 0 0, .slice none 0 0, .slice none 0 0, .slice none 0 0, .slice none 0 0]) rfl (by rfl) (by rfl) (S.out.blk 2 rfl) (by kernel_rfl) rfl (HONE.out))); intro w34 hw_; have Sn_ := Aside0.mk ((S.out.setRow (cs' := bkV (a) V) (rs' := [Bx gb (bkV a V) 27, Rb V (upd L 7 ((L 7).set 0 (v))), Bx gr (bkV (a) V) 27, Rr w0 g bs ((q + 1) + 1)]) 2 rfl rfl).of hw_); clear S hw_; have S := Sn_; clear Sn_))
    refine bodyPost_ret (results_cell_row rfl _ _ gr 27 (bkV (a) V) (0, 0) _ rfl (S.out.blk 2 rfl) Try.underlying27 rfl (by kernel_rfl)) rfl ?_
    exact ⟨a, V, (upd L 7 ((L 7).set 0 (v))), ((q + 1) + 1), rfl, (by constructor <;> omega), (HSM.out.set 7 0 (by omega) (by omega) (by omega)).wide (by omega), S.out.get 1 rfl, fun k hk => ⟨(S.out.arg 1 rfl k hk).elim (fun e => absurd e (S.out.ne 1 3 rfl rfl (by omega) k hk)) (fun e => e), S.out.lt 1 rfl k hk⟩, S.out.get 3 rfl, by omega, by omega, S.out.base⟩
  have b5 : (z == 5) = false := beq_eq_false_iff_ne.mpr z5
  clear z5
  have HONE := Aside0.mk ((S.out.get 1 rfl).one (a))
  go_wp2_with (first | ((with_reducible refine gate_dst (N := 77) rfl ?_); refine Kd.event_run rfl (Row.load_row_run (g := gb) (t := 27) (cells := bkV a V) rfl rfl (S.out.blk 0 rfl) Try.underlying27 rfl (by kernel_rfl)) ?_) | ((with_reducible refine gate_store (t := 27) (p := 2) rfl ?_); refine store_event (t := 27) (p := 2) (v := ?vo_10) (w1 := w7.setRow gr (bkV (a) V)) ?hg ?ho ?hn ?hr ?_; (case ho => rfl); (case hg => rfl); (case hn => rfl); (case hr => exact (Row.store_row_run (g := gr) (cells := bkV (a) V) (t := 27) (old := #[.int .i64 0, .slice none 0 0, .slice none 0 0, .slice none 0 0, .slice none 0 0, .slice none 0 0, .slice none 0 0, .slice none 0 0, .slice none 0 0]) rfl (by rfl) (by rfl) (S.out.blk 2 rfl) (by kernel_rfl) rfl (HONE.out))); intro w35 hw_; have Sn_ := Aside0.mk ((S.out.setRow (cs' := bkV (a) V) (rs' := [Bx gb (bkV a V) 27, Rb V (L), Bx gr (bkV (a) V) 27, Rr w0 g bs (q + 1)]) 2 rfl rfl).of hw_); clear S hw_; have S := Sn_; clear Sn_))
  refine bodyPost_ret (results_cell_row rfl _ _ gr 27 (bkV (a) V) (0, 0) _ rfl (S.out.blk 2 rfl) Try.underlying27 rfl (by kernel_rfl)) rfl ?_
  exact ⟨a, V, L, (q + 1), rfl, (by constructor <;> omega), HSM.out.wide (by omega), S.out.get 1 rfl, fun k hk => ⟨(S.out.arg 1 rfl k hk).elim (fun e => absurd e (S.out.ne 1 3 rfl rfl (by omega) k hk)) (fun e => e), S.out.lt 1 rfl k hk⟩, S.out.get 3 rfl, by omega, by omega, S.out.base⟩
end Go.Proofs.Ytekneicikmaplaa.Bk
namespace Go.Proofs.Ytekneicikmaplaa.Bk
open Go.RowKit Go.Proofs.Ytekneicikmaplaa.PFnBookOf Go.Proofs.YtekneicikmaplaaW.PrintWords Go.Proofs.YtekneicikmaplaaW.PrintLast Go.Proofs.YtekneicikmaplaaW.PrintMore
theorem Sx.add {ar : Nat → Prop} {w1 w w' : World} {rs : List Rx} (h : Sx ar w1 w rs) (hb : Below w.heap.size w w') {r : Rx} (hP : r.P w') (hs : r.Stable) (ho : ∀ k, r.own k → (ar k ∨ w1.heap.size ≤ k) ∧ k < w'.heap.size) (ha : ∀ q ∈ rs, ∀ k, r.own k → ¬ q.own k) : Sx ar w1 w' (r :: rs) := by
  have h1 := h.call hb
  refine ⟨h1.base, fun q hq => ?_, List.pairwise_cons.2 ⟨ha, h1.apart⟩⟩
  rcases List.mem_cons.1 hq with rfl | hq
  · exact ⟨hP, hs, ho⟩
  · exact h1.has q hq
set_option maxHeartbeats 8000000 in
set_option maxRecDepth 100000 in
theorem drawBookOf_calls (w : World) (A0 : Option Addr) (c0 : Nat) (l0 : List Int) (hr0 : Kd.C (Kd.int .u8) w A0 l0.length l0) (hc0 : l0.length ≤ c0) (hl : l0.length ≤ 1048576) (hb : ∀ x ∈ l0, (Lit.int .u8 x).wf = true) :
    Calls Try.prog 34 #[.slice A0 l0.length c0] w fun e w' => ∃ s V L r, e = .returned (.tuple #[.agg (bkV s V), .int .i64 r]) ∧ (-10 ≤ s ∧ s ≤ 10) ∧ Sm 60 L ∧ NewB w.heap.size V L w' ∧ Below w.heap.size w w' := by
  have HCR := Aside0.mk (fun (w_ : World) (hB : Below w.heap.size w w_) => openS w w_ hB A0 c0 l0 hr0 hc0 hl hb)
  have S := Aside0.mk (Sx.start (ar := fun _ => False) w)
  clear hr0 hb hc0 hl
  go_enter Try.func34, Try.ntmps34
  go_upto_region 1 with (first | ((with_reducible refine gate_dst (N := 2) rfl ?_); refine box_event rfl (N := 2) rfl (cs := #[.int .i64 0, .slice none 0 0, .slice none 0 0, .slice none 0 0, .slice none 0 0, .slice none 0 0, .slice none 0 0, .slice none 0 0, .slice none 0 0]) (t := 27) (by first | (go_simp; done) | (go_simp; rfl)) ?_; intro gr hg_ w1 hbox_ hb_; have Sn_ := Aside0.mk (S.out.box hg_ hbox_ hb_); clear hbox_ hb_ hg_ S; have S := Sn_; clear Sn_))
  go_wp2_with fail
  refine (HCR.out _ (S.out.base.below (fun _ q => q.elim))).mono ?_
  rintro e w2 ⟨g, bs, rfl, hs, hI, hb⟩
  have HBS := Aside0.mk hs
  have HGE := Aside0.mk hI.ge
  have S1 := Aside0.mk (S.out.add hb (r := Rr w g bs 0) hI (Rr.stable _ _ _ _) (fun k hk => by have hk : k = g := hk; rw [hk]; exact ⟨.inr hI.ge, hI.lt⟩) (fun q hq k hk hk2 => by
    obtain rfl := List.mem_singleton.1 hq
    have hk : k = g := hk
    have hk2 : k = gr := hk2
    exact hI.ne_blk ((S.out.call hb).blk 0 rfl) (by decide) (hk.symm.trans hk2)))
  clear S hs hI hb HCR
  have S := S1
  clear S1
  go_upto_region 2 with fail
  go_wp2_with fail
  refine (l3Bent_calls HBS.out (by omega) (by omega) _ (S.out.get 0 rfl) (S.out.base.below (fun _ q => q.elim))).mono ?_
  rintro e w3 ⟨s, V, L, q, rfl, hsb, hsm, hBo, hown, hI_, hq0, hq1, hf_⟩
  have HONE := Aside0.mk (hBo.one s)
  have HSM := Aside0.mk hsm
  have HSB := Aside0.mk hsb
  have Sn_ := Aside0.mk (S.out.readNew (rs' := [Rr w g bs q, Bx gr (#[.int .i64 0, .slice none 0 0, .slice none 0 0, .slice none 0 0, .slice none 0 0, .slice none 0 0, .slice none 0 0, .slice none 0 0, .slice none 0 0]) 27]) 0 rfl hI_ hf_ hBo hown rfl)
  clear S hI_ hf_ hBo hown hsm hsb
  have S := Sn_
  clear Sn_
  go_upto_region 3 with (first | ((with_reducible refine gate_dst (N := 5) rfl ?_); refine box_event rfl (N := 5) rfl (cs := #[.int .i64 0, .slice none 0 0, .slice none 0 0, .slice none 0 0, .slice none 0 0, .slice none 0 0, .slice none 0 0, .slice none 0 0, .slice none 0 0]) (t := 27) (by first | (go_simp; done) | (go_simp; rfl)) ?_; intro gb hg_ w4 hbox_ hb_; have Sn_ := Aside0.mk (S.out.box hg_ hbox_ hb_); clear hbox_ hb_ hg_ S; have S := Sn_; clear Sn_) | ((with_reducible refine gate_store (t := 27) (p := 5) rfl ?_); refine store_event (t := 27) (p := 5) (v := ?vo_1) (w1 := w4.setRow gb (bkV s V)) ?hg ?ho ?hn ?hr ?_; (case ho => rfl); (case hg => rfl); (case hn => rfl); (case hr => exact (Row.store_row_run (g := gb) (cells := bkV s V) (t := 27) (old := #[.int .i64 0, .slice none 0 0, .slice none 0 0, .slice none 0 0, .slice none 0 0, .slice none 0 0, .slice none 0 0, .slice none 0 0, .slice none 0 0]) rfl (by rfl) (by rfl) (S.out.blk 0 rfl) (by kernel_rfl) rfl (HONE.out))); intro w5 hw_; have Sn_ := Aside0.mk ((S.out.setRow (cs' := bkV s V) (rs' := [Bx gb (bkV s V) 27, Rb V (L), Rr w g bs q, Bx gr (#[.int .i64 0, .slice none 0 0, .slice none 0 0, .slice none 0 0, .slice none 0 0, .slice none 0 0, .slice none 0 0, .slice none 0 0, .slice none 0 0]) 27]) 0 rfl rfl).of hw_); clear S hw_; have S := Sn_; clear Sn_))
  have Sn_ := Aside0.mk (S.out.drew)
  clear S
  have S := Sn_
  clear Sn_
  refine start_ (n := 6) (S := fun w_ => w_.heap[gb]? = some (.cells (bkV s V) 27 (0, 0))) (ds := []) #[false, false, false, false, false, false] (by kernel_rfl) rfl rfl (S.out.blk 0 rfl) (fun hH_ => ?_)
  refine take_ (i := 0) (N := some 10) (v := .agg (bkV s V)) (a' := ?_) #[true, false, false, false, false, false] rfl rfl (by kernel_rfl) (fun _ _ _ h => h) (Or.inl ⟨by rfl, fun w' s0 => Row.load_row_run (g := gb) (t := 27) (cells := bkV s V) rfl rfl s0 Try.underlying27 rfl (by kernel_rfl)⟩) hH_ ?_ ?_
  rotate_left
  · simp only [Act.put, List.setIfInBounds_toArray, List.set_cons_zero, List.set_cons_succ, i64_w, i32_w]
    rfl
  refine pure_ (i := 1) (N := some 11) (v := ?_) (a' := ?_) #[true, true, false, false, false, false] rfl rfl (by kernel_rfl) (fun _ _ _ h => h) (Or.inl ⟨by rfl, ?_⟩) ?_ ?_
  rotate_left
  · intro w'
    go_simp
    with_reducible rfl
  rotate_left
  · simp only [Act.put, List.setIfInBounds_toArray, List.set_cons_zero, List.set_cons_succ, i64_w, i32_w]
    rfl
  refine one_ (i := 2) (N := some 12) #[true, true, true, false, false, false] rfl rfl (by kernel_rfl) (by decide) (fun K hK => ?_)
  refine goes_ Try.func65 (by kernel_rfl) rfl #[.pointer (some ⟨g, 0, none⟩), .int .i64 5] (by rfl) rfl rfl (by (try simp only [List.map_toArray, List.map_cons, List.map_nil]); first | done | rfl) ?_
  have HB4 : Aside0 (Below w.heap.size w (w5.drew)) := ⟨S.out.base.below (fun _ q => q.elim)⟩
  refine (pickS HBS.out (S.out.get 2 rfl) HB4.out (by omega) (by omega) 5 (by omega)).mono ?_
  rintro e w6 ⟨r, rfl, r0, r1, hI_, hf_⟩
  have Sn_ := Aside0.mk (S.out.read (rs' := [Bx gb (bkV s V) 27, Rb V (L), Rr w g bs (q + 1), Bx gr (#[.int .i64 0, .slice none 0 0, .slice none 0 0, .slice none 0 0, .slice none 0 0, .slice none 0 0, .slice none 0 0, .slice none 0 0, .slice none 0 0]) 27]) 2 rfl hI_ hf_ rfl)
  clear S hI_ hf_
  have S := Sn_
  clear Sn_
  refine ⟨_, rfl, ?_⟩
  refine hK.out _ _ (S.out.blk 0 rfl) (fun hX_ => ?_)
  clear hK K hX_
  refine norm_ (a' := ?_) ?_ ?_
  rotate_left
  · show Act.put _ (some 12) _ = _
    simp only [Act.put, List.setIfInBounds_toArray, List.set_cons_zero, List.set_cons_succ, i64_w, i32_w]
    rfl
  refine pure_ (i := 3) (N := some 13) (v := ?_) (a' := ?_) #[true, true, true, true, false, false] rfl rfl (by kernel_rfl) (fun _ _ _ h => h) (Or.inl ⟨by rfl, ?_⟩) ?_ ?_
  rotate_left
  · intro w'
    go_simp
    with_reducible rfl
  rotate_left
  · simp only [Act.put, List.setIfInBounds_toArray, List.set_cons_zero, List.set_cons_succ, i64_w, i32_w]
    rfl
  refine one_ (i := 4) (N := none) #[true, true, true, true, true, false] rfl rfl (by kernel_rfl) (by decide) (fun K hK => ?_)
  have SN := Aside0.mk (Sx.setRow (cs' := bkV s V) (rs' := [Bx gb (bkV s V) 27, Rb V (L), Rr w g bs (q + 1), Bx gr (bkV s V) 27]) S.out 3 rfl rfl)
  refine skip_ (w1 := w6.setRow gr (bkV s V)) (by rfl) rfl (Row.store_row_run (g := gr) (cells := bkV s V) (t := 27) (old := #[.int .i64 0, .slice none 0 0, .slice none 0 0, .slice none 0 0, .slice none 0 0, .slice none 0 0, .slice none 0 0, .slice none 0 0, .slice none 0 0]) rfl (by rfl) (by rfl) (S.out.blk 3 rfl) (by kernel_rfl) rfl HONE.out) ?_
  refine hK.out _ _ (SN.out.blk 0 rfl) (fun hX_ => ?_)
  clear hK K hX_ S hH_
  have S := SN
  clear SN
  obtain ⟨w20, hw_⟩ : ∃ w_, w6.setRow gr (bkV s V) = w_ := ⟨_, rfl⟩
  rw [hw_] at S
  rw [hw_]
  clear hw_
  refine pure_ (i := 5) (N := some 3) (v := ?_) (a' := ?_) #[true, true, true, true, true, true] rfl rfl (by kernel_rfl) (fun _ _ _ h => h) (Or.inl ⟨by rfl, ?_⟩) ?_ ?_
  rotate_left
  · intro w'
    go_simp
    with_reducible rfl
  rotate_left
  · simp only [Act.put, List.setIfInBounds_toArray, List.set_cons_zero, List.set_cons_succ, i64_w, i32_w]
    rfl
  refine done_ (by kernel_rfl) ?_
  go_wp2_with fail
  refine bodyPost_ret (results_ct rfl _ _ gr 27 (bkV s V) (0, 0) _ rfl (S.out.blk 3 rfl) Try.underlying27 rfl (by kernel_rfl)) rfl ?_
  exact ⟨s, V, L, _, rfl, HSB.out, HSM.out, ⟨S.out.get 1 rfl, fun k hk => ⟨(S.out.arg 1 rfl k hk).elim (fun q => q.elim) (fun q => q), S.out.lt 1 rfl k hk⟩⟩, S.out.base.below (fun _ q => q.elim)⟩
end Go.Proofs.Ytekneicikmaplaa.Bk
namespace Go.Proofs.Ytekneicikmaplaa.Bk
open Go.RowKit Go.Proofs.YtekneicikmaplaaW.PrintWords Go.Proofs.YtekneicikmaplaaW.PrintLast Go.Proofs.YtekneicikmaplaaW.PrintMore
theorem IR.cellAt {w : World} {l : List Int} {g o n c : Nat} (h : IR w (.slice (some ⟨g, o, none⟩) n c) l) (k : Nat) (hk : k < l.length) : w.cell? ⟨g, o + k, none⟩ = some (.int .i64 (l.getD k 0)) := by
  obtain ⟨g', o', c', e, h1, _⟩ := h.at k hk
  injection e with e1 e2 e3
  injection e1 with e1
  injection e1 with e4 e5 e6
  subst e4 e5
  exact h1
theorem IR.addr {w : World} {l : List Int} {A : Option Addr} {n c : Nat} (h : IR w (.slice A n c) l) (k : Nat) (hk : k < l.length) : ∃ g o, A = some ⟨g, o, none⟩ := by
  obtain ⟨g', o', c', e, h1, _⟩ := h.at k hk
  injection e with e1 e2 e3
  exact ⟨g', o', e1⟩
theorem BoV.l8 {V : Nat → Value} {L : Nat → List Int} {w : World} (h : BoV V L w) : BoV V (L8 L) w := ⟨fun i hi => by rw [L8_lt hi]; exact h.1 i hi, h.2⟩
theorem drawOk (w : World) (A0 : Option Addr) (c0 : Nat) (l0 : List Int) (hr0 : Kd.C (Kd.int .u8) w A0 l0.length l0) (hc0 : l0.length ≤ c0) (hl : l0.length ≤ 1048576) (hb : ∀ x ∈ l0, (Lit.int .u8 x).wf = true) :
    Calls Try.prog 34 #[.slice A0 l0.length c0] w fun e w' => ∃ s V L r, e = .returned (.tuple #[.agg (bkV s V), .int .i64 r]) ∧ (∀ i, (L i).length ≤ 60) ∧ (∀ i, Wf64 (L i)) ∧ NewB w.heap.size V L w' ∧ Below w.heap.size w w' := by
  refine (drawBookOf_calls w A0 c0 l0 hr0 hc0 hl hb).mono ?_
  rintro e w' ⟨s, V, L, r, rfl, _, hsm, hN, hb⟩
  refine ⟨s, V, L8 L, r, rfl, fun i => ?_, fun i => ?_, ⟨hN.1.l8, hN.2⟩, hb⟩
  · by_cases hi : i < 8
    · rw [L8_lt hi]; exact (hsm i hi).1
    · rw [show L8 L i = [] from if_neg hi]; simp
  · by_cases hi : i < 8
    · rw [L8_lt hi]; exact wf_of (fun k hk => by have := (hsm i hi).2 k hk; omega)
    · rw [show L8 L i = [] from if_neg hi]; exact wf_of (fun k hk => by simp at hk)
theorem implOkV (s : Int) (V : Nat → Value) (L : Nat → List Int) (hl : ∀ i, (L i).length ≤ 60) (hw : ∀ i, Wf64 (L i)) (w : World) (h : BoV V L w) : Calls Try.prog 22 #[.agg (bkV s V)] w (RetB (BookP s L) w) := by
  rw [h.cells s]
  refine (implBookOk_calls s _ _ L w h.bkC (fun i => by have := hl i; omega) (hw 0) (hw 5)).mono ?_
  rintro e w' ⟨r, rfl, hr, hb⟩
  exact ⟨r, rfl, hr.trans (book_iff s L).symm, hb⟩
theorem specOkV (s : Int) (V : Nat → Value) (L : Nat → List Int) (hl : ∀ i, (L i).length ≤ 60) (hw : ∀ i, Wf64 (L i)) (w : World) (h : BoV V L w) : Calls Try.prog 21 #[.agg (bkV s V)] w (RetB (BookP s L) w) := by
  rw [h.cells s]
  exact specBookOk_calls s _ _ L w h.bkC (fun i => by have := hl i; omega) (hw 0)
theorem implOfV (s : Int) (V : Nat → Value) (L : Nat → List Int) (hl : ∀ i, (L i).length ≤ 60) (hw : ∀ i, Wf64 (L i)) (x : Int) (w : World) (h : BoV V L w) : Calls Try.prog 26 #[.agg (bkV s V), .int .i64 x] w (RetL (OfP s L x) w) := by
  rw [h.cells s]
  exact implBookOf_calls s _ _ L x w h.bkC (fun i => by have := hl i; omega) hw
theorem specOfV (s : Int) (V : Nat → Value) (L : Nat → List Int) (hl : ∀ i, (L i).length ≤ 60) (hw : ∀ i, Wf64 (L i)) (x : Int) (hx0 : 0 ≤ x) (hx1 : x ≤ 100) (w : World) (h : BoV V L w) : Calls Try.prog 25 #[.agg (bkV s V), .int .i64 x] w (RetL (OfP s L x) w) := by
  rw [h.cells s]
  exact specBookOf_calls s _ _ L x w h.bkC (fun i => by have := hl i; omega) hw ⟨by omega, by omega⟩
theorem roomV (s : Int) (V : Nat → Value) (L : Nat → List Int) (hl : ∀ i, (L i).length ≤ 60) (hw : ∀ i, Wf64 (L i)) (x : Int) (hP : BookP s L) (w : World) (h : BoV V L w) : Calls Try.prog 24 #[.agg (bkV s V), .int .i64 x] w fun e w' => e = .returned (.int .i64 (RoomV L x)) ∧ Below w.heap.size w w' := by
  rw [h.cells s]
  refine (implBookRoom_calls s _ _ L x w h.bkC (fun i => by have := hl i; omega) hw).mono ?_
  rintro e w' ⟨v, rfl, hv, hb⟩
  rw [hv.1 hP]
  exact ⟨rfl, hb⟩
theorem Sx.newL {ar : Nat → Prop} {w0 w w' : World} {rs : List Rx} (h : Sx ar w0 w rs) {A : Option Addr} {c : Nat} {l : List Int} (ho : SlO w' w.heap.size w'.heap.size A c l) (hb : Below w.heap.size w w') : Sx ar w0 w' (Rl (.slice A l.length c) l :: rs) :=
  h.new hb (IR.of_R ho) (Rl.stable _ _) (fun k hk => ho.lt k hk)
/-- What the law finds: the lists F of the slots, and M, how many rooms the first slots have. -/
structure Plan (s : Int) (L : Nat → List Int) (F : Nat → List Int) (M : Nat → Nat) : Prop where
  m0 : M 0 = 0
  ms : ∀ x, M (x + 1) = M x + (F x).length
  of : ∀ x : Nat, x < 4 → ∀ l, OfP s L (x : Int) l → l = F x
  len : ∀ x, (F x).length ≤ 60
  bk : ∀ x i, i < (F x).length → BookP s L
  at_ : ∀ x : Nat, x < 4 → ∀ i, i < (F x).length → ∃ u : Nat, (F x).getD i 0 = (u : Int) ∧ u < (L 5).length ∧ (L 5).getD u 0 = (x : Int) + 1
  nx : ∀ x : Nat, x < 4 → ∀ i, i + 1 < (F x).length → (F x).getD i 0 + RoomV L ((F x).getD i 0) ≤ (F x).getD (i + 1) 0
  yes : BookP s L → M 4 = Bv.ownC (L 5) (L 5).length
  no : ¬ BookP s L → M 4 = 0
def sumF (F : Nat → List Int) : Nat → Nat
  | 0 => 0
  | x + 1 => sumF F x + (F x).length
theorem plan (s : Int) (L : Nat → List Int) (hl : ∀ i, (L i).length ≤ 60) : ∃ F M, Plan s L F M := by
  by_cases hP : BookP s L
  · refine ⟨fun x => blkL (L 5) ((x : Int) + 1) (L 5).length, sumF (fun x => blkL (L 5) ((x : Int) + 1) (L 5).length), rfl, fun _ => rfl, fun x hx l h => ?_, fun x => ?_, fun _ _ _ => hP, fun x hx i hi => ?_, fun x hx i hi => ?_, fun _ => ?_, fun h => absurd hP h⟩
    · rw [h.1 hP]
      by_cases hx2 : 0 ≤ (x : Int) ∧ (x : Int) ≤ s - 1
      · rw [if_pos hx2]
      · rw [if_neg hx2]
        refine (blkL_none (fun u hu => ?_)).symm
        obtain ⟨h1, h2, _⟩ := hP.1.2.2 u hu
        omega
    · exact Nat.le_trans (blkL_len _ _ _) (hl 5)
    · exact Bv.blkL_at hP _ (by omega) hi
    · exact Bv.blkL_next hP _ (by omega) hi
    · exact (by simp only [sumF]; have := Bv.book_sum hP; simpa [Nat.add_assoc] using this)
  · refine ⟨fun _ => [], sumF (fun _ => []), rfl, fun _ => rfl, fun x hx l h => h.2 hP, fun x => by simp, fun x i hi => by simp at hi, fun x hx i hi => by simp at hi, fun x hx i hi => by simp at hi, fun h => absurd h hP, fun _ => rfl⟩
theorem Plan.le {s : Int} {L F : Nat → List Int} {M : Nat → Nat} (h : Plan s L F M) : ∀ x, M x ≤ 60 * x
  | 0 => by rw [h.m0]; exact Nat.zero_le _
  | x + 1 => by rw [h.ms]; have := h.le x; have := h.len x; omega
theorem tmod0 {u z : Int} (hu : 0 ≤ u) (h : u % z = 0) : Int.tmod u z = 0 := by rw [Int.tmod_eq_emod_of_nonneg hu]; exact h
end Go.Proofs.Ytekneicikmaplaa.Bk
namespace Go.Proofs.Ytekneicikmaplaa.Bk
open Go.RowKit Go.Proofs.YtekneicikmaplaaW.PrintWords Go.Proofs.YtekneicikmaplaaW.PrintLast Go.Proofs.YtekneicikmaplaaW.PrintMore
theorem zA6_0 {p : Prop} (h : p := by kernel_rfl) : p := h
theorem zA6_1 {p : Prop} (h : p := by (try simp only [List.map_toArray, List.map_cons, List.map_nil]); first | done | rfl) : p := h
theorem zp6_ {P : Program} {md : Region.Mode} {ops : Array Oper} {Q : Exit → Act → World → Prop} {S : World → Prop} {ds : List Nat} (i : Nat) (N : Tmp) {oi : Oper} {v : Value} {fuel : Nat} {l : Array Bool} {a : Act} {w : World} (l' : Array Bool) (hc : anyB md ops l l' i = true) {a' : Act} (h : wpAnyLast P md ops Q S ds fuel l' a' w) (hi : ops[i]? = some oi := by rfl) (hN : oi.dst = some N := by rfl) (hq : ∀ c a w, Q (.panic c) (a.put oi.dst v) w → Q (.panic c) a w := by exact fun _ _ _ h => h) (hy : Yields P ops oi v a := by exact Or.inl ⟨by rfl, by intro w'; go_simp; with_reducible rfl⟩) (ha : a.put (some N) v = a' := by simp only [Act.put, List.setIfInBounds_toArray, List.set_cons_zero, List.set_cons_succ, i64_w, i32_w]; rfl) : wpAnyLast P md ops Q S ds (fuel + 1) l a w := pure_ l' hi hN hc hq hy ha h
theorem zu6_ {P : Program} {md : Region.Mode} {ops : Array Oper} {Q : Exit → Act → World → Prop} {S : World → Prop} {ds : List Nat} (i : Nat) (N : Tmp) {oi : Oper} {fuel : Nat} {l : Array Bool} {a : Act} {w : World} (l' : Array Bool) (hc : anyB md ops l l' i = true) {a' : Act} (h : wpAnyLast P md ops Q S ds fuel l' a' w) (hi : ops[i]? = some oi := by rfl) (hN : oi.dst = some N := by rfl) (hq : ∀ c a w, Q (.panic c) (a.put oi.dst undef) w → Q (.panic c) a w := by exact fun _ _ _ h => h) (hy : Yields P ops oi undef a := by exact Or.inr ⟨by rfl, rfl⟩) (ha : a.put (some N) undef = a' := by simp only [Act.put, List.setIfInBounds_toArray, List.set_cons_zero, List.set_cons_succ, i64_w, i32_w]; rfl) : wpAnyLast P md ops Q S ds (fuel + 1) l a w := pure_ l' hi hN hc hq hy ha h
abbrev zl6_0 : Array Bool := #[false, false, false, false, false, false, false, false, false, false, false, false, false, false, false, false, false, false, false, false, false, false, false, false, false, false, false, false, false, false, false, false, false, false, false, false, false, false, false, false, false, false, false, false, false, false, false, false, false, false, false, false, false, false, false, false, false, false, false, false, false, false, false, false, false, false, false, false, false, false, false, false, false, false, false]
abbrev zl6_1 : Array Bool := #[true, false, false, false, false, false, false, false, false, false, false, false, false, false, false, false, false, false, false, false, false, false, false, false, false, false, false, false, false, false, false, false, false, false, false, false, false, false, false, false, false, false, false, false, false, false, false, false, false, false, false, false, false, false, false, false, false, false, false, false, false, false, false, false, false, false, false, false, false, false, false, false, false, false, false]
abbrev zl6_2 : Array Bool := #[true, true, false, false, false, false, false, false, false, false, false, false, false, false, false, false, false, false, false, false, false, false, false, false, false, false, false, false, false, false, false, false, false, false, false, false, false, false, false, false, false, false, false, false, false, false, false, false, false, false, false, false, false, false, false, false, false, false, false, false, false, false, false, false, false, false, false, false, false, false, false, false, false, false, false]
abbrev zl6_3 : Array Bool := #[true, true, true, false, false, false, false, false, false, false, false, false, false, false, false, false, false, false, false, false, false, false, false, false, false, false, false, false, false, false, false, false, false, false, false, false, false, false, false, false, false, false, false, false, false, false, false, false, false, false, false, false, false, false, false, false, false, false, false, false, false, false, false, false, false, false, false, false, false, false, false, false, false, false, false]
abbrev zl6_4 : Array Bool := #[true, true, true, true, false, false, false, false, false, false, false, false, false, false, false, false, false, false, false, false, false, false, false, false, false, false, false, false, false, false, false, false, false, false, false, false, false, false, false, false, false, false, false, false, false, false, false, false, false, false, false, false, false, false, false, false, false, false, false, false, false, false, false, false, false, false, false, false, false, false, false, false, false, false, false]
abbrev zl6_5 : Array Bool := #[true, true, true, true, true, false, false, false, false, false, false, false, false, false, false, false, false, false, false, false, false, false, false, false, false, false, false, false, false, false, false, false, false, false, false, false, false, false, false, false, false, false, false, false, false, false, false, false, false, false, false, false, false, false, false, false, false, false, false, false, false, false, false, false, false, false, false, false, false, false, false, false, false, false, false]
abbrev zl6_6 : Array Bool := #[true, true, true, true, true, true, false, false, false, false, false, false, false, false, false, false, false, false, false, false, false, false, false, false, false, false, false, false, false, false, false, false, false, false, false, false, false, false, false, false, false, false, false, false, false, false, false, false, false, false, false, false, false, false, false, false, false, false, false, false, false, false, false, false, false, false, false, false, false, false, false, false, false, false, false]
abbrev zl6_7 : Array Bool := #[true, true, true, true, true, true, true, false, false, false, false, false, false, false, false, false, false, false, false, false, false, false, false, false, false, false, false, false, false, false, false, false, false, false, false, false, false, false, false, false, false, false, false, false, false, false, false, false, false, false, false, false, false, false, false, false, false, false, false, false, false, false, false, false, false, false, false, false, false, false, false, false, false, false, false]
abbrev zl6_8 : Array Bool := #[true, true, true, true, true, true, true, true, false, false, false, false, false, false, false, false, false, false, false, false, false, false, false, false, false, false, false, false, false, false, false, false, false, false, false, false, false, false, false, false, false, false, false, false, false, false, false, false, false, false, false, false, false, false, false, false, false, false, false, false, false, false, false, false, false, false, false, false, false, false, false, false, false, false, false]
abbrev zl6_9 : Array Bool := #[true, true, true, true, true, true, true, true, true, false, false, false, false, false, false, false, false, false, false, false, false, false, false, false, false, false, false, false, false, false, false, false, false, false, false, false, false, false, false, false, false, false, false, false, false, false, false, false, false, false, false, false, false, false, false, false, false, false, false, false, false, false, false, false, false, false, false, false, false, false, false, false, false, false, false]
abbrev zl6_10 : Array Bool := #[true, true, true, true, true, true, true, true, true, true, false, false, false, false, false, false, false, false, false, false, false, false, false, false, false, false, false, false, false, false, false, false, false, false, false, false, false, false, false, false, false, false, false, false, false, false, false, false, false, false, false, false, false, false, false, false, false, false, false, false, false, false, false, false, false, false, false, false, false, false, false, false, false, false, false]
abbrev zl6_11 : Array Bool := #[true, true, true, true, true, true, true, true, true, true, true, false, false, false, false, false, false, false, false, false, false, false, false, false, false, false, false, false, false, false, false, false, false, false, false, false, false, false, false, false, false, false, false, false, false, false, false, false, false, false, false, false, false, false, false, false, false, false, false, false, false, false, false, false, false, false, false, false, false, false, false, false, false, false, false]
abbrev zl6_12 : Array Bool := #[true, true, true, true, true, true, true, true, true, true, true, true, false, false, false, false, false, false, false, false, false, false, false, false, false, false, false, false, false, false, false, false, false, false, false, false, false, false, false, false, false, false, false, false, false, false, false, false, false, false, false, false, false, false, false, false, false, false, false, false, false, false, false, false, false, false, false, false, false, false, false, false, false, false, false]
abbrev zl6_13 : Array Bool := #[true, true, true, true, true, true, true, true, true, true, true, true, true, false, false, false, false, false, false, false, false, false, false, false, false, false, false, false, false, false, false, false, false, false, false, false, false, false, false, false, false, false, false, false, false, false, false, false, false, false, false, false, false, false, false, false, false, false, false, false, false, false, false, false, false, false, false, false, false, false, false, false, false, false, false]
abbrev zl6_14 : Array Bool := #[true, true, true, true, true, true, true, true, true, true, true, true, true, true, false, false, false, false, false, false, false, false, false, false, false, false, false, false, false, false, false, false, false, false, false, false, false, false, false, false, false, false, false, false, false, false, false, false, false, false, false, false, false, false, false, false, false, false, false, false, false, false, false, false, false, false, false, false, false, false, false, false, false, false, false]
abbrev zl6_15 : Array Bool := #[true, true, true, true, true, true, true, true, true, true, true, true, true, true, true, false, false, false, false, false, false, false, false, false, false, false, false, false, false, false, false, false, false, false, false, false, false, false, false, false, false, false, false, false, false, false, false, false, false, false, false, false, false, false, false, false, false, false, false, false, false, false, false, false, false, false, false, false, false, false, false, false, false, false, false]
abbrev zl6_16 : Array Bool := #[true, true, true, true, true, true, true, true, true, true, true, true, true, true, true, true, false, false, false, false, false, false, false, false, false, false, false, false, false, false, false, false, false, false, false, false, false, false, false, false, false, false, false, false, false, false, false, false, false, false, false, false, false, false, false, false, false, false, false, false, false, false, false, false, false, false, false, false, false, false, false, false, false, false, false]
abbrev zl6_17 : Array Bool := #[true, true, true, true, true, true, true, true, true, true, true, true, true, true, true, true, true, false, false, false, false, false, false, false, false, false, false, false, false, false, false, false, false, false, false, false, false, false, false, false, false, false, false, false, false, false, false, false, false, false, false, false, false, false, false, false, false, false, false, false, false, false, false, false, false, false, false, false, false, false, false, false, false, false, false]
abbrev zl6_18 : Array Bool := #[true, true, true, true, true, true, true, true, true, true, true, true, true, true, true, true, true, true, false, false, false, false, false, false, false, false, false, false, false, false, false, false, false, false, false, false, false, false, false, false, false, false, false, false, false, false, false, false, false, false, false, false, false, false, false, false, false, false, false, false, false, false, false, false, false, false, false, false, false, false, false, false, false, false, false]
abbrev zl6_19 : Array Bool := #[true, true, true, true, true, true, true, true, true, true, true, true, true, true, true, true, true, true, true, false, false, false, false, false, false, false, false, false, false, false, false, false, false, false, false, false, false, false, false, false, false, false, false, false, false, false, false, false, false, false, false, false, false, false, false, false, false, false, false, false, false, false, false, false, false, false, false, false, false, false, false, false, false, false, false]
abbrev zl6_20 : Array Bool := #[true, true, true, true, true, true, true, true, true, true, true, true, true, true, true, true, true, true, true, true, false, false, false, false, false, false, false, false, false, false, false, false, false, false, false, false, false, false, false, false, false, false, false, false, false, false, false, false, false, false, false, false, false, false, false, false, false, false, false, false, false, false, false, false, false, false, false, false, false, false, false, false, false, false, false]
abbrev zl6_21 : Array Bool := #[true, true, true, true, true, true, true, true, true, true, true, true, true, true, true, true, true, true, true, true, true, false, false, false, false, false, false, false, false, false, false, false, false, false, false, false, false, false, false, false, false, false, false, false, false, false, false, false, false, false, false, false, false, false, false, false, false, false, false, false, false, false, false, false, false, false, false, false, false, false, false, false, false, false, false]
abbrev zl6_22 : Array Bool := #[true, true, true, true, true, true, true, true, true, true, true, true, true, true, true, true, true, true, true, true, true, true, false, false, false, false, false, false, false, false, false, false, false, false, false, false, false, false, false, false, false, false, false, false, false, false, false, false, false, false, false, false, false, false, false, false, false, false, false, false, false, false, false, false, false, false, false, false, false, false, false, false, false, false, false]
abbrev zl6_23 : Array Bool := #[true, true, true, true, true, true, true, true, true, true, true, true, true, true, true, true, true, true, true, true, true, true, true, false, false, false, false, false, false, false, false, false, false, false, false, false, false, false, false, false, false, false, false, false, false, false, false, false, false, false, false, false, false, false, false, false, false, false, false, false, false, false, false, false, false, false, false, false, false, false, false, false, false, false, false]
abbrev zl6_24 : Array Bool := #[true, true, true, true, true, true, true, true, true, true, true, true, true, true, true, true, true, true, true, true, true, true, true, true, false, false, false, false, false, false, false, false, false, false, false, false, false, false, false, false, false, false, false, false, false, false, false, false, false, false, false, false, false, false, false, false, false, false, false, false, false, false, false, false, false, false, false, false, false, false, false, false, false, false, false]
abbrev zl6_25 : Array Bool := #[true, true, true, true, true, true, true, true, true, true, true, true, true, true, true, true, true, true, true, true, true, true, true, true, true, false, false, false, false, false, false, false, false, false, false, false, false, false, false, false, false, false, false, false, false, false, false, false, false, false, false, false, false, false, false, false, false, false, false, false, false, false, false, false, false, false, false, false, false, false, false, false, false, false, false]
abbrev zl6_26 : Array Bool := #[true, true, true, true, true, true, true, true, true, true, true, true, true, true, true, true, true, true, true, true, true, true, true, true, true, true, false, false, false, false, false, false, false, false, false, false, false, false, false, false, false, false, false, false, false, false, false, false, false, false, false, false, false, false, false, false, false, false, false, false, false, false, false, false, false, false, false, false, false, false, false, false, false, false, false]
abbrev zl6_27 : Array Bool := #[true, true, true, true, true, true, true, true, true, true, true, true, true, true, true, true, true, true, true, true, true, true, true, true, true, true, true, false, false, false, false, false, false, false, false, false, false, false, false, false, false, false, false, false, false, false, false, false, false, false, false, false, false, false, false, false, false, false, false, false, false, false, false, false, false, false, false, false, false, false, false, false, false, false, false]
abbrev zl6_28 : Array Bool := #[true, true, true, true, true, true, true, true, true, true, true, true, true, true, true, true, true, true, true, true, true, true, true, true, true, true, true, true, false, false, false, false, false, false, false, false, false, false, false, false, false, false, false, false, false, false, false, false, false, false, false, false, false, false, false, false, false, false, false, false, false, false, false, false, false, false, false, false, false, false, false, false, false, false, false]
abbrev zl6_29 : Array Bool := #[true, true, true, true, true, true, true, true, true, true, true, true, true, true, true, true, true, true, true, true, true, true, true, true, true, true, true, true, true, false, false, false, false, false, false, false, false, false, false, false, false, false, false, false, false, false, false, false, false, false, false, false, false, false, false, false, false, false, false, false, false, false, false, false, false, false, false, false, false, false, false, false, false, false, false]
abbrev zl6_30 : Array Bool := #[true, true, true, true, true, true, true, true, true, true, true, true, true, true, true, true, true, true, true, true, true, true, true, true, true, true, true, true, true, true, false, false, false, false, false, false, false, false, false, false, false, false, false, false, false, false, false, false, false, false, false, false, false, false, false, false, false, false, false, false, false, false, false, false, false, false, false, false, false, false, false, false, false, false, false]
abbrev zl6_31 : Array Bool := #[true, true, true, true, true, true, true, true, true, true, true, true, true, true, true, true, true, true, true, true, true, true, true, true, true, true, true, true, true, true, true, false, false, false, false, false, false, false, false, false, false, false, false, false, false, false, false, false, false, false, false, false, false, false, false, false, false, false, false, false, false, false, false, false, false, false, false, false, false, false, false, false, false, false, false]
abbrev zl6_32 : Array Bool := #[true, true, true, true, true, true, true, true, true, true, true, true, true, true, true, true, true, true, true, true, true, true, true, true, true, true, true, true, true, true, true, true, false, false, false, false, false, false, false, false, false, false, false, false, false, false, false, false, false, false, false, false, false, false, false, false, false, false, false, false, false, false, false, false, false, false, false, false, false, false, false, false, false, false, false]
abbrev zl6_33 : Array Bool := #[true, true, true, true, true, true, true, true, true, true, true, true, true, true, true, true, true, true, true, true, true, true, true, true, true, true, true, true, true, true, true, true, true, false, false, false, false, false, false, false, false, false, false, false, false, false, false, false, false, false, false, false, false, false, false, false, false, false, false, false, false, false, false, false, false, false, false, false, false, false, false, false, false, false, false]
abbrev zl6_34 : Array Bool := #[true, true, true, true, true, true, true, true, true, true, true, true, true, true, true, true, true, true, true, true, true, true, true, true, true, true, true, true, true, true, true, true, true, true, false, false, false, false, false, false, false, false, false, false, false, false, false, false, false, false, false, false, false, false, false, false, false, false, false, false, false, false, false, false, false, false, false, false, false, false, false, false, false, false, false]
abbrev zl6_35 : Array Bool := #[true, true, true, true, true, true, true, true, true, true, true, true, true, true, true, true, true, true, true, true, true, true, true, true, true, true, true, true, true, true, true, true, true, true, true, false, false, false, false, false, false, false, false, false, false, false, false, false, false, false, false, false, false, false, false, false, false, false, false, false, false, false, false, false, false, false, false, false, false, false, false, false, false, false, false]
abbrev zl6_36 : Array Bool := #[true, true, true, true, true, true, true, true, true, true, true, true, true, true, true, true, true, true, true, true, true, true, true, true, true, true, true, true, true, true, true, true, true, true, true, true, false, false, false, false, false, false, false, false, false, false, false, false, false, false, false, false, false, false, false, false, false, false, false, false, false, false, false, false, false, false, false, false, false, false, false, false, false, false, false]
abbrev zl6_37 : Array Bool := #[true, true, true, true, true, true, true, true, true, true, true, true, true, true, true, true, true, true, true, true, true, true, true, true, true, true, true, true, true, true, true, true, true, true, true, true, true, false, false, false, false, false, false, false, false, false, false, false, false, false, false, false, false, false, false, false, false, false, false, false, false, false, false, false, false, false, false, false, false, false, false, false, false, false, false]
abbrev zl6_38 : Array Bool := #[true, true, true, true, true, true, true, true, true, true, true, true, true, true, true, true, true, true, true, true, true, true, true, true, true, true, true, true, true, true, true, true, true, true, true, true, true, true, false, false, false, false, false, false, false, false, false, false, false, false, false, false, false, false, false, false, false, false, false, false, false, false, false, false, false, false, false, false, false, false, false, false, false, false, false]
abbrev zl6_39 : Array Bool := #[true, true, true, true, true, true, true, true, true, true, true, true, true, true, true, true, true, true, true, true, true, true, true, true, true, true, true, true, true, true, true, true, true, true, true, true, true, true, true, false, false, false, false, false, false, false, false, false, false, false, false, false, false, false, false, false, false, false, false, false, false, false, false, false, false, false, false, false, false, false, false, false, false, false, false]
abbrev zl6_40 : Array Bool := #[true, true, true, true, true, true, true, true, true, true, true, true, true, true, true, true, true, true, true, true, true, true, true, true, true, true, true, true, true, true, true, true, true, true, true, true, true, true, true, true, false, false, false, false, false, false, false, false, false, false, false, false, false, false, false, false, false, false, false, false, false, false, false, false, false, false, false, false, false, false, false, false, false, false, false]
abbrev zl6_41 : Array Bool := #[true, true, true, true, true, true, true, true, true, true, true, true, true, true, true, true, true, true, true, true, true, true, true, true, true, true, true, true, true, true, true, true, true, true, true, true, true, true, true, true, true, false, false, false, false, false, false, false, false, false, false, false, false, false, false, false, false, false, false, false, false, false, false, false, false, false, false, false, false, false, false, false, false, false, false]
abbrev zl6_42 : Array Bool := #[true, true, true, true, true, true, true, true, true, true, true, true, true, true, true, true, true, true, true, true, true, true, true, true, true, true, true, true, true, true, true, true, true, true, true, true, true, true, true, true, true, true, false, false, false, false, false, false, false, false, false, false, false, false, false, false, false, false, false, false, false, false, false, false, false, false, false, false, false, false, false, false, false, false, false]
abbrev zl6_43 : Array Bool := #[true, true, true, true, true, true, true, true, true, true, true, true, true, true, true, true, true, true, true, true, true, true, true, true, true, true, true, true, true, true, true, true, true, true, true, true, true, true, true, true, true, true, true, false, false, false, false, false, false, false, false, false, false, false, false, false, false, false, false, false, false, false, false, false, false, false, false, false, false, false, false, false, false, false, false]
abbrev zl6_44 : Array Bool := #[true, true, true, true, true, true, true, true, true, true, true, true, true, true, true, true, true, true, true, true, true, true, true, true, true, true, true, true, true, true, true, true, true, true, true, true, true, true, true, true, true, true, true, true, false, false, false, false, false, false, false, false, false, false, false, false, false, false, false, false, false, false, false, false, false, false, false, false, false, false, false, false, false, false, false]
abbrev zl6_45 : Array Bool := #[true, true, true, true, true, true, true, true, true, true, true, true, true, true, true, true, true, true, true, true, true, true, true, true, true, true, true, true, true, true, true, true, true, true, true, true, true, true, true, true, true, true, true, true, true, false, false, false, false, false, false, false, false, false, false, false, false, false, false, false, false, false, false, false, false, false, false, false, false, false, false, false, false, false, false]
abbrev zl6_46 : Array Bool := #[true, true, true, true, true, true, true, true, true, true, true, true, true, true, true, true, true, true, true, true, true, true, true, true, true, true, true, true, true, true, true, true, true, true, true, true, true, true, true, true, true, true, true, true, true, true, false, false, false, false, false, false, false, false, false, false, false, false, false, false, false, false, false, false, false, false, false, false, false, false, false, false, false, false, false]
abbrev zl6_47 : Array Bool := #[true, true, true, true, true, true, true, true, true, true, true, true, true, true, true, true, true, true, true, true, true, true, true, true, true, true, true, true, true, true, true, true, true, true, true, true, true, true, true, true, true, true, true, true, true, true, true, false, false, false, false, false, false, false, false, false, false, false, false, false, false, false, false, false, false, false, false, false, false, false, false, false, false, false, false]
abbrev zl6_48 : Array Bool := #[true, true, true, true, true, true, true, true, true, true, true, true, true, true, true, true, true, true, true, true, true, true, true, true, true, true, true, true, true, true, true, true, true, true, true, true, true, true, true, true, true, true, true, true, true, true, true, true, false, false, false, false, false, false, false, false, false, false, false, false, false, false, false, false, false, false, false, false, false, false, false, false, false, false, false]
abbrev zl6_49 : Array Bool := #[true, true, true, true, true, true, true, true, true, true, true, true, true, true, true, true, true, true, true, true, true, true, true, true, true, true, true, true, true, true, true, true, true, true, true, true, true, true, true, true, true, true, true, true, true, true, true, true, true, false, false, false, false, false, false, false, false, false, false, false, false, false, false, false, false, false, false, false, false, false, false, false, false, false, false]
abbrev zl6_50 : Array Bool := #[true, true, true, true, true, true, true, true, true, true, true, true, true, true, true, true, true, true, true, true, true, true, true, true, true, true, true, true, true, true, true, true, true, true, true, true, true, true, true, true, true, true, true, true, true, true, true, true, true, true, false, false, false, false, false, false, false, false, false, false, false, false, false, false, false, false, false, false, false, false, false, false, false, false, false]
abbrev zl6_51 : Array Bool := #[true, true, true, true, true, true, true, true, true, true, true, true, true, true, true, true, true, true, true, true, true, true, true, true, true, true, true, true, true, true, true, true, true, true, true, true, true, true, true, true, true, true, true, true, true, true, true, true, true, true, true, false, false, false, false, false, false, false, false, false, false, false, false, false, false, false, false, false, false, false, false, false, false, false, false]
abbrev zl6_52 : Array Bool := #[true, true, true, true, true, true, true, true, true, true, true, true, true, true, true, true, true, true, true, true, true, true, true, true, true, true, true, true, true, true, true, true, true, true, true, true, true, true, true, true, true, true, true, true, true, true, true, true, true, true, true, true, false, false, false, false, false, false, false, false, false, false, false, false, false, false, false, false, false, false, false, false, false, false, false]
abbrev zl6_53 : Array Bool := #[true, true, true, true, true, true, true, true, true, true, true, true, true, true, true, true, true, true, true, true, true, true, true, true, true, true, true, true, true, true, true, true, true, true, true, true, true, true, true, true, true, true, true, true, true, true, true, true, true, true, true, true, true, false, false, false, false, false, false, false, false, false, false, false, false, false, false, false, false, false, false, false, false, false, false]
abbrev zl6_54 : Array Bool := #[true, true, true, true, true, true, true, true, true, true, true, true, true, true, true, true, true, true, true, true, true, true, true, true, true, true, true, true, true, true, true, true, true, true, true, true, true, true, true, true, true, true, true, true, true, true, true, true, true, true, true, true, true, true, false, false, false, false, false, false, false, false, false, false, false, false, false, false, false, false, false, false, false, false, false]
abbrev zl6_55 : Array Bool := #[true, true, true, true, true, true, true, true, true, true, true, true, true, true, true, true, true, true, true, true, true, true, true, true, true, true, true, true, true, true, true, true, true, true, true, true, true, true, true, true, true, true, true, true, true, true, true, true, true, true, true, true, true, true, true, false, false, false, false, false, false, false, false, false, false, false, false, false, false, false, false, false, false, false, false]
abbrev zl6_56 : Array Bool := #[true, true, true, true, true, true, true, true, true, true, true, true, true, true, true, true, true, true, true, true, true, true, true, true, true, true, true, true, true, true, true, true, true, true, true, true, true, true, true, true, true, true, true, true, true, true, true, true, true, true, true, true, true, true, true, true, false, false, false, false, false, false, false, false, false, false, false, false, false, false, false, false, false, false, false]
abbrev zl6_57 : Array Bool := #[true, true, true, true, true, true, true, true, true, true, true, true, true, true, true, true, true, true, true, true, true, true, true, true, true, true, true, true, true, true, true, true, true, true, true, true, true, true, true, true, true, true, true, true, true, true, true, true, true, true, true, true, true, true, true, true, true, false, false, false, false, false, false, false, false, false, false, false, false, false, false, false, false, false, false]
abbrev zl6_58 : Array Bool := #[true, true, true, true, true, true, true, true, true, true, true, true, true, true, true, true, true, true, true, true, true, true, true, true, true, true, true, true, true, true, true, true, true, true, true, true, true, true, true, true, true, true, true, true, true, true, true, true, true, true, true, true, true, true, true, true, true, true, false, false, false, false, false, false, false, false, false, false, false, false, false, false, false, false, false]
abbrev zl6_59 : Array Bool := #[true, true, true, true, true, true, true, true, true, true, true, true, true, true, true, true, true, true, true, true, true, true, true, true, true, true, true, true, true, true, true, true, true, true, true, true, true, true, true, true, true, true, true, true, true, true, true, true, true, true, true, true, true, true, true, true, true, true, true, false, false, false, false, false, false, false, false, false, false, false, false, false, false, false, false]
abbrev zl6_60 : Array Bool := #[true, true, true, true, true, true, true, true, true, true, true, true, true, true, true, true, true, true, true, true, true, true, true, true, true, true, true, true, true, true, true, true, true, true, true, true, true, true, true, true, true, true, true, true, true, true, true, true, true, true, true, true, true, true, true, true, true, true, true, true, false, false, false, false, false, false, false, false, false, false, false, false, false, false, false]
abbrev zl6_61 : Array Bool := #[true, true, true, true, true, true, true, true, true, true, true, true, true, true, true, true, true, true, true, true, true, true, true, true, true, true, true, true, true, true, true, true, true, true, true, true, true, true, true, true, true, true, true, true, true, true, true, true, true, true, true, true, true, true, true, true, true, true, true, true, true, false, false, false, false, false, false, false, false, false, false, false, false, false, false]
abbrev zl6_62 : Array Bool := #[true, true, true, true, true, true, true, true, true, true, true, true, true, true, true, true, true, true, true, true, true, true, true, true, true, true, true, true, true, true, true, true, true, true, true, true, true, true, true, true, true, true, true, true, true, true, true, true, true, true, true, true, true, true, true, true, true, true, true, true, true, true, false, false, false, false, false, false, false, false, false, false, false, false, false]
abbrev zl6_63 : Array Bool := #[true, true, true, true, true, true, true, true, true, true, true, true, true, true, true, true, true, true, true, true, true, true, true, true, true, true, true, true, true, true, true, true, true, true, true, true, true, true, true, true, true, true, true, true, true, true, true, true, true, true, true, true, true, true, true, true, true, true, true, true, true, true, true, false, false, false, false, false, false, false, false, false, false, false, false]
abbrev zl6_64 : Array Bool := #[true, true, true, true, true, true, true, true, true, true, true, true, true, true, true, true, true, true, true, true, true, true, true, true, true, true, true, true, true, true, true, true, true, true, true, true, true, true, true, true, true, true, true, true, true, true, true, true, true, true, true, true, true, true, true, true, true, true, true, true, true, true, true, true, false, false, false, false, false, false, false, false, false, false, false]
abbrev zl6_65 : Array Bool := #[true, true, true, true, true, true, true, true, true, true, true, true, true, true, true, true, true, true, true, true, true, true, true, true, true, true, true, true, true, true, true, true, true, true, true, true, true, true, true, true, true, true, true, true, true, true, true, true, true, true, true, true, true, true, true, true, true, true, true, true, true, true, true, true, true, false, false, false, false, false, false, false, false, false, false]
abbrev zl6_66 : Array Bool := #[true, true, true, true, true, true, true, true, true, true, true, true, true, true, true, true, true, true, true, true, true, true, true, true, true, true, true, true, true, true, true, true, true, true, true, true, true, true, true, true, true, true, true, true, true, true, true, true, true, true, true, true, true, true, true, true, true, true, true, true, true, true, true, true, true, true, false, false, false, false, false, false, false, false, false]
abbrev zl6_67 : Array Bool := #[true, true, true, true, true, true, true, true, true, true, true, true, true, true, true, true, true, true, true, true, true, true, true, true, true, true, true, true, true, true, true, true, true, true, true, true, true, true, true, true, true, true, true, true, true, true, true, true, true, true, true, true, true, true, true, true, true, true, true, true, true, true, true, true, true, true, true, false, false, false, false, false, false, false, false]
abbrev zl6_68 : Array Bool := #[true, true, true, true, true, true, true, true, true, true, true, true, true, true, true, true, true, true, true, true, true, true, true, true, true, true, true, true, true, true, true, true, true, true, true, true, true, true, true, true, true, true, true, true, true, true, true, true, true, true, true, true, true, true, true, true, true, true, true, true, true, true, true, true, true, true, true, true, false, false, false, false, false, false, false]
abbrev zl6_69 : Array Bool := #[true, true, true, true, true, true, true, true, true, true, true, true, true, true, true, true, true, true, true, true, true, true, true, true, true, true, true, true, true, true, true, true, true, true, true, true, true, true, true, true, true, true, true, true, true, true, true, true, true, true, true, true, true, true, true, true, true, true, true, true, true, true, true, true, true, true, true, true, true, false, false, false, false, false, false]
abbrev zl6_70 : Array Bool := #[true, true, true, true, true, true, true, true, true, true, true, true, true, true, true, true, true, true, true, true, true, true, true, true, true, true, true, true, true, true, true, true, true, true, true, true, true, true, true, true, true, true, true, true, true, true, true, true, true, true, true, true, true, true, true, true, true, true, true, true, true, true, true, true, true, true, true, true, true, true, false, false, false, false, false]
abbrev zl6_71 : Array Bool := #[true, true, true, true, true, true, true, true, true, true, true, true, true, true, true, true, true, true, true, true, true, true, true, true, true, true, true, true, true, true, true, true, true, true, true, true, true, true, true, true, true, true, true, true, true, true, true, true, true, true, true, true, true, true, true, true, true, true, true, true, true, true, true, true, true, true, true, true, true, true, true, false, false, false, false]
abbrev zl6_72 : Array Bool := #[true, true, true, true, true, true, true, true, true, true, true, true, true, true, true, true, true, true, true, true, true, true, true, true, true, true, true, true, true, true, true, true, true, true, true, true, true, true, true, true, true, true, true, true, true, true, true, true, true, true, true, true, true, true, true, true, true, true, true, true, true, true, true, true, true, true, true, true, true, true, true, true, false, false, false]
abbrev zl6_73 : Array Bool := #[true, true, true, true, true, true, true, true, true, true, true, true, true, true, true, true, true, true, true, true, true, true, true, true, true, true, true, true, true, true, true, true, true, true, true, true, true, true, true, true, true, true, true, true, true, true, true, true, true, true, true, true, true, true, true, true, true, true, true, true, true, true, true, true, true, true, true, true, true, true, true, true, true, false, false]
abbrev zl6_74 : Array Bool := #[true, true, true, true, true, true, true, true, true, true, true, true, true, true, true, true, true, true, true, true, true, true, true, true, true, true, true, true, true, true, true, true, true, true, true, true, true, true, true, true, true, true, true, true, true, true, true, true, true, true, true, true, true, true, true, true, true, true, true, true, true, true, true, true, true, true, true, true, true, true, true, true, true, true, false]
abbrev zl6_75 : Array Bool := #[true, true, true, true, true, true, true, true, true, true, true, true, true, true, true, true, true, true, true, true, true, true, true, true, true, true, true, true, true, true, true, true, true, true, true, true, true, true, true, true, true, true, true, true, true, true, true, true, true, true, true, true, true, true, true, true, true, true, true, true, true, true, true, true, true, true, true, true, true, true, true, true, true, true, true]
def T18 : Bool × List (List Nat × List Nat) := (true, [([], []), ([], []), ([0, 1], [0, 1]), ([2], [2]), ([], []), ([], []), ([4, 5], [4, 5]), ([6], [6]), ([3, 7], [3, 7]), ([8], [8]), ([9], [9]), ([10, 9], [9, 10]), ([11, 9, 9], [9, 11]), ([12], [12]), ([12], [12]), ([13, 14, 12], [12, 13, 14]), ([15, 12], [12, 15]), ([12], [12]), ([12], [12]), ([18, 12], [12, 18]), ([17, 19, 12], [12, 17, 19]), ([20, 12], [12, 20]), ([12], [12]), ([12], [12]), ([12], [12]), ([24, 12], [12, 24]), ([23, 25, 12], [12, 23, 25]), ([26, 12], [12, 26]), ([22, 27, 12, 12], [12, 22, 27]), ([21, 28, 12], [12, 21, 28]), ([16, 29, 12], [12, 16, 29]), ([12, 30, 9], [9, 12, 30]), ([9, 31], [9, 31]), ([32, 28], [32]), ([33], [33]), ([34, 33], [33, 34]), ([33, 35], [33, 35]), ([36, 33], [36]), ([37], [37]), ([38, 37], [37, 38]), ([39, 37, 37], [37, 39]), ([40], [40]), ([40], [40]), ([41, 42, 40], [40, 41, 42]), ([43, 40], [40, 43]), ([40], [40]), ([44, 45, 40], [40, 44, 45]), ([46, 40], [40, 46]), ([40, 47, 37], [37, 40, 47]), ([37, 48], [37, 48]), ([49, 40], [49]), ([50], [50]), ([51, 50], [50, 51]), ([52, 50, 50], [50, 52]), ([53], [53]), ([53], [53]), ([54, 55, 53], [53, 54, 55]), ([56, 53], [53, 56]), ([57, 53], [53, 57]), ([58, 53], [53, 58]), ([53, 59, 50], [50, 53, 59]), ([50, 60], [50, 60]), ([61, 53], [61]), ([62], [62]), ([63, 62], [62, 63]), ([62], [62]), ([62], [62]), ([65, 66, 62], [62, 65, 66]), ([67, 62], [62, 67]), ([64, 68, 62], [62, 64, 68]), ([69, 62], [62, 69]), ([62], [62]), ([71, 62], [62, 71]), ([70, 72, 62], [62, 70, 72]), ([62, 73], [62, 73])])
def B18 : List Nat := [0, 0, 3, 7, 0, 0, 48, 112, 255, 511, 1023, 2047, 4095, 8191, 8191, 32767, 65535, 8191, 8191, 270335, 925695, 1974271, 8191, 8191, 8191, 16785407, 58728447, 125837311, 264249343, 536748031, 1073741823, 2147483647, 4294967295, 8589934591, 17179869183, 34359738367, 68719476735, 137438953471, 274877906943, 549755813887, 1099511627775, 2199023255551, 2199023255551, 8796093022207, 17592186044415, 2199023255551, 70368744177663, 140737488355327, 281474976710655, 562949953421311, 1125899906842623, 2251799813685247, 4503599627370495, 9007199254740991, 18014398509481983, 18014398509481983, 72057594037927935, 144115188075855871, 288230376151711743, 576460752303423487, 1152921504606846975, 2305843009213693951, 4611686018427387903, 9223372036854775807, 18446744073709551615, 9223372036854775807, 9223372036854775807, 119903836479112085503, 267477789068788498431, 590295810358705651711, 1180591620717411303423, 9223372036854775807, 2370406613471677382655, 9444732965739290427391, 18889465931478580854783]
set_option maxRecDepth 100000 in
theorem tab18 : Go.Proofs.YtekneicikmaplaaW.PrintLast.rtab .any (Go.Proofs.YtekneicikmaplaaW.PrintLast.opsOf Try.f10 18) = T18 := by kernel_rfl
theorem bits18 : Go.Proofs.YtekneicikmaplaaW.PrintLast.waitsOk T18.2 B18 = true := by kernel_rfl
set_option maxHeartbeats 8000000 in
set_option maxRecDepth 100000 in
theorem bookOf_big (A0 : Option Addr) (c0 : Nat) (l0 : List Int) (w : World) (hbig : (l0.length : Int) > 1048576) :
  Calls Try.prog 10 #[.slice A0 l0.length c0] w fun e w' => e = .returned (.bool true) ∧ Below w.heap.size w w' := by
 have S := Aside0.mk (Sx.start (ar := fun _ => False) w)
 go_enter Try.func10, Try.ntmps10
 go_wp2
 go_ret
 exact ⟨rfl, S.out.base.below (fun _ q => q.elim)⟩
set_option maxHeartbeats 64000000 in
set_option maxRecDepth 100000 in
theorem bookOf_walk (A0 : Option Addr) (c0 : Nat) (l0 : List Int) (w : World) (hr0 : Kd.C (Kd.int .u8) w A0 l0.length l0) (hc0 : l0.length ≤ c0) (hb : ∀ x ∈ l0, (Lit.int .u8 x).wf = true) (hbig : ¬ (l0.length : Int) > 1048576) :
  Calls Try.prog 10 #[.slice A0 l0.length c0] w fun e w' => e = .returned (.bool true) ∧ Below w.heap.size w w' := by
 have HD := Aside0.mk (drawOk w A0 c0 l0 hr0 hc0 (by omega) hb)
 have S := Aside0.mk (Sx.start (ar := fun _ => False) w)
 clear hr0 hc0 hb
 go_enter Try.func10, Try.ntmps10
 go_wp2_with fail
 refine HD.out.mono ?_
 rintro e w1 ⟨s, V, L, rr, rfl, hlen, hwf, hN, hb⟩
 have HLL := Aside0.mk hlen
 have HWF := Aside0.mk hwf
 have HONE := Aside0.mk (hN.1.one s)
 clear hlen hwf HD
 have Sn_ := Aside0.mk (S.out.newB hN hb)
 clear S hN hb
 have S := Sn_
 clear Sn_
 go_upto_region 4 with (first | ((with_reducible refine gate_dst (N := 3) rfl ?_); refine box_event rfl (N := 3) rfl (cs := #[.int .i64 0, .slice none 0 0, .slice none 0 0, .slice none 0 0, .slice none 0 0, .slice none 0 0, .slice none 0 0, .slice none 0 0, .slice none 0 0]) (t := 27) (by first | (go_simp; done) | (go_simp; rfl)) ?_; intro gb hg_ w2 hbox_ hb_; have Sn_ := Aside0.mk (S.out.box hg_ hbox_ hb_); clear hbox_ hb_ hg_ S; have S := Sn_; clear Sn_) | ((with_reducible refine gate_store (t := 27) (p := 3) rfl ?_); refine store_event (t := 27) (p := 3) (v := ?vo_1) (w1 := w2.setRow gb (bkV s V)) ?hg ?ho ?hn ?hr ?_; (case ho => rfl); (case hg => rfl); (case hn => rfl); (case hr => exact (Row.store_row_run (g := gb) (cells := bkV s V) (t := 27) (old := #[.int .i64 0, .slice none 0 0, .slice none 0 0, .slice none 0 0, .slice none 0 0, .slice none 0 0, .slice none 0 0, .slice none 0 0, .slice none 0 0]) rfl (by rfl) (by rfl) (S.out.blk 0 rfl) zA6_0 rfl (HONE.out))); intro w3 hw_; have Sn_ := Aside0.mk ((S.out.setRow (cs' := bkV s V) (rs' := [Bx gb (bkV s V) 27, Rb V (L)]) 0 rfl rfl).of hw_); clear S hw_; have S := Sn_; clear Sn_))
 refine start_ (n := 5) (S := fun w_ => Sx (fun _ => False) w w_ [Bx gb (bkV s V) 27, Rb V (L)]) (ds := []) #[false, false, false, false, false] zA6_0 rfl rfl (S.out.drew) (fun hH_ => ?_)
 refine take_ (i := 0) (N := some 21) (v := .agg (bkV s V)) (a' := ?_) #[true, false, false, false, false] rfl rfl zA6_0 (fun _ _ _ h => h) (Or.inl ⟨by rfl, fun w' s0 => Row.load_row_run (g := gb) (t := 27) (cells := bkV s V) rfl rfl (s0.blk 0 rfl) Try.underlying27 rfl zA6_0⟩) hH_ ?_ ?_
 rotate_left
 ·simp only [Act.put, List.setIfInBounds_toArray, List.set_cons_zero, List.set_cons_succ, i64_w, i32_w]
  rfl
 refine take_ (i := 2) (N := some 23) (v := .agg (bkV s V)) (a' := ?_) #[true, false, true, false, false] rfl rfl zA6_0 (fun _ _ _ h => h) (Or.inl ⟨by rfl, fun w' s0 => Row.load_row_run (g := gb) (t := 27) (cells := bkV s V) rfl rfl (s0.blk 0 rfl) Try.underlying27 rfl zA6_0⟩) hH_ ?_ ?_
 rotate_left
 ·simp only [Act.put, List.setIfInBounds_toArray, List.set_cons_zero, List.set_cons_succ, i64_w, i32_w]
  rfl
 refine one_ (i := 1) (N := some 22) #[true, true, true, false, false] rfl rfl zA6_0 (by decide) (fun K hK => ?_)
 refine goes_ Try.func22 zA6_0 rfl #[.agg (bkV s V)] (by rfl) rfl rfl zA6_1 ?_
 refine (implOkV s V L HLL.out HWF.out  _ (hH_.get 1 rfl)).mono ?_
 rintro e w4 ⟨r1, rfl, h1, hb⟩
 have hHw4_ := hH_.call hb
 refine ⟨_, rfl, hK.out _ _ hHw4_ (fun hX_ => ?_)⟩
 clear hK K hX_
 refine norm_ (a' := ?_) ?_ ?_
 rotate_left
 ·show Act.put _ (some 22) _ = _
  simp only [Act.put, List.setIfInBounds_toArray, List.set_cons_zero, List.set_cons_succ, i64_w, i32_w]
  rfl
 clear hb
 refine one_ (i := 3) (N := some 24) #[true, true, true, true, false] rfl rfl zA6_0 (by decide) (fun K hK => ?_)
 refine goes_ Try.func21 zA6_0 rfl #[.agg (bkV s V)] (by rfl) rfl rfl zA6_1 ?_
 refine (specOkV s V L HLL.out HWF.out  _ (hHw4_.get 1 rfl)).mono ?_
 rintro e w5 ⟨r2, rfl, h2, hb⟩
 obtain rfl : r1 = r2 := by
  cases r1 <;> cases r2 <;> first | rfl | (exact absurd (h1.trans h2.symm) (by simp))
 clear h1 h2
 have hrr : (r1 != r1) = false := by simp
 have hHw5_ := hHw4_.call hb
 refine ⟨_, rfl, hK.out _ _ hHw5_ (fun hX_ => ?_)⟩
 clear hK K hX_
 refine norm_ (a' := ?_) ?_ ?_
 rotate_left
 ·show Act.put _ (some 24) _ = _
  simp only [Act.put, List.setIfInBounds_toArray, List.set_cons_zero, List.set_cons_succ, i64_w, i32_w]
  rfl
 clear hb
 refine pure_ (i := 4) (N := some 25) (v := ?_) (a' := ?_) #[true, true, true, true, true] rfl rfl zA6_0 (fun _ _ _ h => h) (Or.inl ⟨by rfl, ?_⟩) ?_ ?_
 rotate_left
 ·intro w'
  go_simp
  with_reducible rfl
 rotate_left
 ·simp only [Act.put, List.setIfInBounds_toArray, List.set_cons_zero, List.set_cons_succ, i64_w, i32_w]
  rfl
 refine done_ zA6_0 ?_
 have Sn_ := Aside0.mk (hHw5_)
 clear S
 have S := Sn_
 clear Sn_
 clear hH_ hHw4_ hHw5_
 obtain ⟨F, M, hPl⟩ := plan s L HLL.out
 have HP := Aside0.mk hPl
 clear hPl
 go_wp2_with fail
 go_loopg [5, 6] (5) (fun kq v5 v6 w' => ∃ x : Nat, x ≤ 4 ∧ kq = 5 - x ∧ v5 = .int .i64 ((M x : Nat) : Int) ∧ v6 = .int .i64 (x : Int) ∧ Aside0 (Sx (fun _ => False) w w' [Bx gb (bkV s V) 27, Rb V (L)]))
 case atStart => exact ⟨0, by omega, by omega, by rw [HP.out.m0]; rfl, rfl, S⟩
 case round =>
  clear S
  obtain ⟨x, hx, rfl, rfl, rfl, S⟩ := hrel
  by_cases hlt : x < 4
  ·skip
   have hx4 : (x : Int) < 4 := by omega
   obtain ⟨l, hl⟩ : ∃ l, F x = l := ⟨_, rfl⟩
   obtain ⟨m, hm⟩ : ∃ m, M x = m := ⟨_, rfl⟩
   have hl60 : l.length ≤ 60 := by have := HP.out.len x; rwa [hl] at this
   have hm240 : m ≤ 240 := by have := HP.out.le x; omega
   have HX := Aside0.mk hl
   have HM := Aside0.mk hm
   rw [hm]
   clear hl hm
   go_wp2_with (first | ((with_reducible refine gate_dst (N := 30) rfl ?_); refine Kd.event_run rfl (Row.load_row_run (g := gb) (t := 27) (cells := bkV s V) rfl rfl (S.out.blk 0 rfl) Try.underlying27 rfl zA6_0) ?_))
   refine (implOfV s V L HLL.out HWF.out (x : Int) _ (S.out.get 1 rfl)).mono ?_
   rintro e w6 ⟨l1, A7, c7, rfl, hP1, ho, hb⟩
   obtain rfl : l = l1 := (HX.out.symm.trans (HP.out.of x hlt l1 hP1).symm)
   clear hP1
   have Sn_ := Aside0.mk (S.out.newL ho hb)
   clear S ho hb
   have S := Sn_
   clear Sn_
   go_wp2_with (first | ((with_reducible refine gate_dst (N := 33) rfl ?_); refine Kd.event_run rfl (Row.load_row_run (g := gb) (t := 27) (cells := bkV s V) rfl rfl (S.out.blk 1 rfl) Try.underlying27 rfl zA6_0) ?_))
   refine (specOfV s V L HLL.out HWF.out (x : Int) (by omega) (by omega) _ (S.out.get 2 rfl)).mono ?_
   rintro e w7 ⟨l1, A8, c8, rfl, hP1, ho, hb⟩
   obtain rfl : l = l1 := (HX.out.symm.trans (HP.out.of x hlt l1 hP1).symm)
   clear hP1
   have Sn_ := Aside0.mk (S.out.newL ho hb)
   clear S ho hb
   have S := Sn_
   clear Sn_
   have hll : ((l.length : Int) != (l.length : Int)) = false := by simp
   have S1 := S
   clear S
   go_wp2_with fail
   go_loopg [5, 9] (l.length + 1) (fun kq v5 v9 w' => ∃ i : Nat, i ≤ l.length ∧ kq = l.length + 1 - i ∧ v5 = .int .i64 ((m + i : Nat) : Int) ∧ v9 = .int .i64 (i : Int) ∧ Aside0 (Sx (fun _ => False) w w' [Rl (.slice A8 l.length c8) (l), Rl (.slice A7 l.length c7) (l), Bx gb (bkV s V) 27, Rb V (L)]))
   case atStart => exact ⟨0, by omega, by omega, rfl, rfl, S1⟩
   case round =>
    clear S1
    obtain ⟨i, hi, rfl, rfl, rfl, S⟩ := hrel
    by_cases hil : i < l.length
    ·skip
     have hi2 : (i : Int) < (l.length : Int) := by omega
     have HBP : Aside0 (BookP s L) := ⟨HP.out.bk x i (by rw [HX.out]; exact hil)⟩
     obtain ⟨g7, o7, e7⟩ := IR.addr (S.out.get 1 rfl) i hil
     obtain ⟨g8, o8, e8⟩ := IR.addr (S.out.get 0 rfl) i hil
     subst e7 e8
     obtain ⟨u, hu, hul, huo⟩ := HP.out.at_ x hlt i (by rw [HX.out]; exact hil)
     rw [HX.out] at hu
     have HU := Aside0.mk hu
     clear hu
     obtain ⟨g5, o5, cap5, hv5, _, _⟩ := ((S.out.get 3 rfl).1 5 (by omega)).at u hul
     obtain ⟨hz1, hz32, hza, hzb⟩ := Bv.room_ok HBP.out hul (by omega)
     have hu60 : u < 60 := by have := HLL.out 5; omega
     have hui : (u : Int) < ((L 5).length : Int) := by omega
     have HUO := Aside0.mk huo
     clear huo
     go_wp2_with fail
     refine start_ (n := 7) (S := fun w_ => Sx (fun _ => False) w w_ [Rl (.slice (some ⟨g8, o8, none⟩) l.length c8) (l), Rl (.slice (some ⟨g7, o7, none⟩) l.length c7) (l), Bx gb (bkV s V) 27, Rb V (L)]) (ds := []) #[false, false, false, false, false, false, false] zA6_0 rfl rfl (S.out.drew) (fun hH_ => ?_)
     refine take_ (i := 0) (N := some 47) (v := .agg (bkV s V)) (a' := ?_) #[true, false, false, false, false, false, false] rfl rfl zA6_0 (fun _ _ _ h => h) (Or.inl ⟨by rfl, fun w' s0 => Row.load_row_run (g := gb) (t := 27) (cells := bkV s V) rfl rfl (s0.blk 2 rfl) Try.underlying27 rfl zA6_0⟩) hH_ ?_ ?_
     rotate_left
     ·simp only [Act.put, List.setIfInBounds_toArray, List.set_cons_zero, List.set_cons_succ, i64_w, i32_w]
      rfl
     refine pure_ (i := 1) (N := some 48) (v := ?_) (a' := ?_) #[true, true, false, false, false, false, false] rfl rfl zA6_0 (fun _ _ _ h => h) (Or.inl ⟨by rfl, ?_⟩) ?_ ?_
     rotate_left
     ·intro w'
      go_simp
      with_reducible rfl
     rotate_left
     ·simp only [Act.put, List.setIfInBounds_toArray, List.set_cons_zero, List.set_cons_succ, i64_w, i32_w]
      rfl
     refine pure_ (i := 2) (N := some 49) (v := ?_) (a' := ?_) #[true, true, true, false, false, false, false] rfl rfl zA6_0 (fun _ _ _ h => h) (Or.inl ⟨by rfl, ?_⟩) ?_ ?_
     rotate_left
     ·intro w'
      go_simp
      with_reducible rfl
     rotate_left
     ·simp only [Act.put, List.setIfInBounds_toArray, List.set_cons_zero, List.set_cons_succ, i64_w, i32_w]
      rfl
     refine pure_ (i := 3) (N := some 50) (v := ?_) (a' := ?_) #[true, true, true, true, false, false, false] rfl rfl zA6_0 (fun _ _ _ h => h) (Or.inl ⟨by rfl, ?_⟩) ?_ ?_
     rotate_left
     ·intro w'
      go_simp
      with_reducible rfl
     rotate_left
     ·simp only [Act.put, List.setIfInBounds_toArray, List.set_cons_zero, List.set_cons_succ, i64_w, i32_w]
      rfl
     refine take_ (i := 4) (N := some 51) (v := ?_) (a' := ?_) #[true, true, true, true, true, false, false] rfl rfl zA6_0 (fun _ _ _ h => h) (Or.inl ⟨by rfl, ?_⟩) hH_ ?_ ?_
     rotate_left
     ·intro w' s0
      have f_ : w'.cell? ⟨g7, o7 + i, none⟩ = some (.int .i64 (u : Int)) := ((s0.get 1 rfl).cellAt i hil).trans (by rw [HU.out])
      clear s0
      go_simp
      with_reducible rfl
     rotate_left
     ·simp only [Act.put, List.setIfInBounds_toArray, List.set_cons_zero, List.set_cons_succ, i64_w, i32_w]
      rfl
     refine one_ (i := 5) (N := some 52) #[true, true, true, true, true, true, false] rfl rfl zA6_0 (by decide) (fun K hK => ?_)
     refine goes_ Try.func24 zA6_0 rfl #[.agg (bkV s V), .int .i64 (u : Int)] (by rfl) rfl rfl zA6_1 ?_
     refine (roomV s V L HLL.out HWF.out (u : Int) HBP.out _ (hH_.get 3 rfl)).mono ?_
     rintro e w8 ⟨rfl, hb⟩
     have hHw8_ := hH_.call hb
     refine ⟨_, rfl, hK.out _ _ hHw8_ (fun hX_ => ?_)⟩
     clear hK K hX_
     refine norm_ (a' := ?_) ?_ ?_
     rotate_left
     ·show Act.put _ (some 52) _ = _
      simp only [Act.put, List.setIfInBounds_toArray, List.set_cons_zero, List.set_cons_succ, i64_w, i32_w]
      rfl
     clear hb
     refine pure_ (i := 6) (N := some 10) (v := ?_) (a' := ?_) #[true, true, true, true, true, true, true] rfl rfl zA6_0 (fun _ _ _ h => h) (Or.inl ⟨by rfl, ?_⟩) ?_ ?_
     rotate_left
     ·intro w'
      go_simp
      with_reducible rfl
     rotate_left
     ·simp only [Act.put, List.setIfInBounds_toArray, List.set_cons_zero, List.set_cons_succ, i64_w, i32_w]
      rfl
     refine done_ zA6_0 ?_
     have Sn_ := Aside0.mk (hHw8_)
     clear S
     have S := Sn_
     clear Sn_
     clear hH_ hHw8_
     obtain ⟨z, hz⟩ : ∃ z, RoomV L (u : Int) = z := ⟨_, rfl⟩
     rw [hz] at hz1 hz32 hza hzb ⊢
     have HZ := Aside0.mk hz
     clear hz
     have bu : ((u : Int) != (u : Int)) = false := by simp
     have bz1 : decide (z < 1) = false := decide_eq_false (by omega)
     have bx : ((x : Int) + 1 != (x : Int) + 1) = false := by simp
     go_wp2_with fail
     by_cases hi0 : i = 0
     ·subst hi0
      by_cases hz8 : z < 8
      ·have bz8 : decide (z < 8) = true := decide_eq_true hz8
       have bz8' : decide (8 ≤ z) = false := decide_eq_false (by omega)
       have hm0 : Int.tmod (u : Int) z = 0 := tmod0 (by omega) (hza hz8)
       have hz0 : ¬ z = 0 := by omega
       clear hz8 hza hzb
       refine start_ (n := 75) (S := fun w_ => Sx (fun _ => False) w w_ [Rl (.slice (some ⟨g8, o8, none⟩) l.length c8) (l), Rl (.slice (some ⟨g7, o7, none⟩) l.length c7) (l), Bx gb (bkV s V) 27, Rb V (L)]) (ds := []) zl6_0 zA6_0 rfl rfl (S.out.drew) (fun hH_ => ?_)
       refine with_tabW tab18 bits18 (fun HT_ HW_ => ?_)
       refine zp6_ 0 53 zl6_1 (any_of HT_.out zA6_0) ?_
       refine zp6_ 1 54 zl6_2 (any_of HT_.out zA6_0) ?_
       refine zp6_ 2 55 zl6_3 (any_of HT_.out zA6_0) ?_
       refine take_ (i := 3) (N := some 56) (v := ?_) (a' := ?_) zl6_4 rfl rfl (take_ofW HT_.out HW_.out zA6_0) (fun _ _ _ h => h) (Or.inl ⟨by rfl, ?_⟩) hH_ ?_ ?_
       rotate_left
       ·intro w' s0
        have f_ : w'.cell? ⟨g7, o7, none⟩ = some (.int .i64 (u : Int)) := ((s0.get 1 rfl).cellAt 0 hil).trans (by rw [HU.out])
        clear s0
        go_simp
        with_reducible rfl
       rotate_left
       ·simp only [Act.put, List.setIfInBounds_toArray, List.set_cons_zero, List.set_cons_succ, i64_w, i32_w]
        rfl
       refine zp6_ 4 57 zl6_5 (any_of HT_.out zA6_0) ?_
       refine zp6_ 5 58 zl6_6 (any_of HT_.out zA6_0) ?_
       refine zp6_ 6 59 zl6_7 (any_of HT_.out zA6_0) ?_
       refine take_ (i := 7) (N := some 60) (v := ?_) (a' := ?_) zl6_8 rfl rfl (take_ofW HT_.out HW_.out zA6_0) (fun _ _ _ h => h) (Or.inl ⟨by rfl, ?_⟩) hH_ ?_ ?_
       rotate_left
       ·intro w' s0
        have f_ : w'.cell? ⟨g8, o8, none⟩ = some (.int .i64 (u : Int)) := ((s0.get 0 rfl).cellAt 0 hil).trans (by rw [HU.out])
        clear s0
        go_simp
        with_reducible rfl
       rotate_left
       ·simp only [Act.put, List.setIfInBounds_toArray, List.set_cons_zero, List.set_cons_succ, i64_w, i32_w]
        rfl
       refine zp6_ 8 61 zl6_9 (any_of HT_.out zA6_0) ?_
       refine zp6_ 9 62 zl6_10 (any_of HT_.out zA6_0) ?_
       refine zp6_ 10 63 zl6_11 (any_of HT_.out zA6_0) ?_
       refine zp6_ 11 64 zl6_12 (any_of HT_.out zA6_0) ?_
       refine zp6_ 12 65 zl6_13 (any_of HT_.out zA6_0) ?_
       refine zu6_ 13 66 zl6_14 (any_of HT_.out zA6_0) ?_
       refine zu6_ 14 67 zl6_15 (any_of HT_.out zA6_0) ?_
       refine zu6_ 15 68 zl6_16 (any_of HT_.out zA6_0) ?_
       refine zu6_ 16 69 zl6_17 (any_of HT_.out zA6_0) ?_
       refine zu6_ 17 70 zl6_18 (any_of HT_.out zA6_0) ?_
       refine zu6_ 18 71 zl6_19 (any_of HT_.out zA6_0) ?_
       refine zu6_ 19 72 zl6_20 (any_of HT_.out zA6_0) ?_
       refine zu6_ 20 73 zl6_21 (any_of HT_.out zA6_0) ?_
       refine zu6_ 21 74 zl6_22 (any_of HT_.out zA6_0) ?_
       refine zu6_ 22 75 zl6_23 (any_of HT_.out zA6_0) ?_
       refine zu6_ 23 76 zl6_24 (any_of HT_.out zA6_0) ?_
       refine zu6_ 24 77 zl6_25 (any_of HT_.out zA6_0) ?_
       refine zu6_ 25 78 zl6_26 (any_of HT_.out zA6_0) ?_
       refine zu6_ 26 79 zl6_27 (any_of HT_.out zA6_0) ?_
       refine zu6_ 27 80 zl6_28 (any_of HT_.out zA6_0) ?_
       refine zu6_ 28 81 zl6_29 (any_of HT_.out zA6_0) ?_
       refine zu6_ 29 82 zl6_30 (any_of HT_.out zA6_0) ?_
       refine zu6_ 30 83 zl6_31 (any_of HT_.out zA6_0) ?_
       refine zp6_ 31 84 zl6_32 (any_of HT_.out zA6_0) ?_
       refine zp6_ 32 85 zl6_33 (any_of HT_.out zA6_0) ?_
       refine zp6_ 33 86 zl6_34 (any_of HT_.out zA6_0) ?_
       refine zp6_ 34 87 zl6_35 (any_of HT_.out zA6_0) ?_
       refine zp6_ 35 88 zl6_36 (any_of HT_.out zA6_0) ?_
       refine zp6_ 36 89 zl6_37 (any_of HT_.out zA6_0) ?_
       refine zp6_ 37 90 zl6_38 (any_of HT_.out zA6_0) ?_
       refine zp6_ 38 91 zl6_39 (any_of HT_.out zA6_0) ?_
       refine zp6_ 39 92 zl6_40 (any_of HT_.out zA6_0) ?_
       refine zp6_ 40 93 zl6_41 (any_of HT_.out zA6_0) ?_
       refine zp6_ 41 94 zl6_42 (any_of HT_.out zA6_0) ?_
       refine zp6_ 42 95 zl6_43 (any_of HT_.out zA6_0) ?_
       refine zp6_ 43 96 zl6_44 (any_of HT_.out zA6_0) ?_
       refine take_ (i := 44) (N := some 97) (v := ?_) (a' := ?_) zl6_45 rfl rfl (take_ofW HT_.out HW_.out zA6_0) (fun _ _ _ h => h) (Or.inl ⟨by rfl, ?_⟩) hH_ ?_ ?_
       rotate_left
       ·intro w' s0
        have f_ : w'.cell? ⟨g7, o7, none⟩ = some (.int .i64 (u : Int)) := ((s0.get 1 rfl).cellAt 0 hil).trans (by rw [HU.out])
        clear s0
        go_simp
        with_reducible rfl
       rotate_left
       ·simp only [Act.put, List.setIfInBounds_toArray, List.set_cons_zero, List.set_cons_succ, i64_w, i32_w]
        rfl
       refine zp6_ 45 98 zl6_46 (any_of HT_.out zA6_0) ?_
       refine zp6_ 46 99 zl6_47 (any_of HT_.out zA6_0) ?_
       refine zp6_ 47 100 zl6_48 (any_of HT_.out zA6_0) ?_
       refine zp6_ 48 101 zl6_49 (any_of HT_.out zA6_0) ?_
       refine zp6_ 49 102 zl6_50 (any_of HT_.out zA6_0) ?_
       refine zp6_ 50 103 zl6_51 (any_of HT_.out zA6_0) ?_
       refine zp6_ 51 104 zl6_52 (any_of HT_.out zA6_0) ?_
       refine zp6_ 52 105 zl6_53 (any_of HT_.out zA6_0) ?_
       refine zp6_ 53 106 zl6_54 (any_of HT_.out zA6_0) ?_
       refine zu6_ 54 107 zl6_55 (any_of HT_.out zA6_0) ?_
       refine zu6_ 55 108 zl6_56 (any_of HT_.out zA6_0) ?_
       refine zu6_ 56 109 zl6_57 (any_of HT_.out zA6_0) ?_
       refine zu6_ 57 110 zl6_58 (any_of HT_.out zA6_0) ?_
       refine zu6_ 58 111 zl6_59 (any_of HT_.out zA6_0) ?_
       refine zu6_ 59 112 zl6_60 (any_of HT_.out zA6_0) ?_
       refine zp6_ 60 113 zl6_61 (any_of HT_.out zA6_0) ?_
       refine zp6_ 61 114 zl6_62 (any_of HT_.out zA6_0) ?_
       refine zp6_ 62 115 zl6_63 (any_of HT_.out zA6_0) ?_
       refine zp6_ 63 116 zl6_64 (any_of HT_.out zA6_0) ?_
       refine take_ (i := 64) (N := some 117) (v := ?_) (a' := ?_) zl6_65 rfl rfl (take_ofW HT_.out HW_.out zA6_0) (fun _ _ _ h => h) (Or.inl ⟨by rfl, ?_⟩) hH_ ?_ ?_
       rotate_left
       ·intro w' s0
        have f_ : w'.cell? ⟨gb, 6, none⟩ = some (.slice (some ⟨g5, o5, none⟩) (L 5).length cap5) := (s0.cell 2 rfl 6).trans (by rw [← hv5]; rfl)
        clear s0
        go_simp
        with_reducible rfl
       rotate_left
       ·simp only [Act.put, List.setIfInBounds_toArray, List.set_cons_zero, List.set_cons_succ, i64_w, i32_w]
        rfl
       refine zp6_ 65 118 zl6_66 (any_of HT_.out zA6_0) ?_
       refine zp6_ 66 119 zl6_67 (any_of HT_.out zA6_0) ?_
       refine zp6_ 67 120 zl6_68 (any_of HT_.out zA6_0) ?_
       refine take_ (i := 68) (N := some 121) (v := ?_) (a' := ?_) zl6_69 rfl rfl (take_ofW HT_.out HW_.out zA6_0) (fun _ _ _ h => h) (Or.inl ⟨by rfl, ?_⟩) hH_ ?_ ?_
       rotate_left
       ·intro w' s0
        have f_ : w'.cell? ⟨g7, o7, none⟩ = some (.int .i64 (u : Int)) := ((s0.get 1 rfl).cellAt 0 hil).trans (by rw [HU.out])
        clear s0
        go_simp
        with_reducible rfl
       rotate_left
       ·simp only [Act.put, List.setIfInBounds_toArray, List.set_cons_zero, List.set_cons_succ, i64_w, i32_w]
        rfl
       refine zp6_ 69 122 zl6_70 (any_of HT_.out zA6_0) ?_
       refine take_ (i := 70) (N := some 123) (v := ?_) (a' := ?_) zl6_71 rfl rfl (take_ofW HT_.out HW_.out zA6_0) (fun _ _ _ h => h) (Or.inl ⟨by rfl, ?_⟩) hH_ ?_ ?_
       rotate_left
       ·intro w' s0
        have f_ : w'.cell? ⟨g5, o5 + u, none⟩ = some (.int .i64 ((x : Int) + 1)) := (Sx.rowCell s0 3 rfl (i := 5) (by omega) hv5 u hul).1.trans (by rw [HUO.out])
        clear s0
        go_simp
        with_reducible rfl
       rotate_left
       ·simp only [Act.put, List.setIfInBounds_toArray, List.set_cons_zero, List.set_cons_succ, i64_w, i32_w]
        rfl
       refine zp6_ 71 124 zl6_72 (any_of HT_.out zA6_0) ?_
       refine pure_ (i := 72) (N := some 125) (v := .int .i64 ((x : Int) + 1)) (a' := ?_) zl6_73 rfl rfl (any_of HT_.out zA6_0) (fun _ _ _ h => h) (Or.inl ⟨by rfl, by
        intro w'
        go_simp
        simp only [i64_w]
        unfold wrap64
        omega⟩) ?_ ?_
       rotate_left
       ·simp only [Act.put, List.setIfInBounds_toArray, List.set_cons_zero, List.set_cons_succ, i64_w, i32_w]
        rfl
       refine zp6_ 73 126 zl6_74 (any_of HT_.out zA6_0) ?_
       refine zp6_ 74 127 zl6_75 (any_of HT_.out zA6_0) ?_
       refine done_ (done_of HT_.out zA6_0) ?_
       have Sn_ := Aside0.mk (hH_)
       clear S
       have S := Sn_
       clear Sn_
       clear hH_
       go_wp2_with fail
       go_roundg (l.length + 1 - (0 + 1))
       case measure => omega
       case rel => exact ⟨0 + 1, by omega, rfl, by go_num, by go_num, S⟩
      have bz8 : decide (z < 8) = false := decide_eq_false hz8
      have bz8' : decide (8 ≤ z) = true := decide_eq_true (by omega)
      have hm0 : Int.tmod (u : Int) 8 = 0 := tmod0 (by omega) (hzb (by omega))
      clear hz8 hza hzb
      refine start_ (n := 75) (S := fun w_ => Sx (fun _ => False) w w_ [Rl (.slice (some ⟨g8, o8, none⟩) l.length c8) (l), Rl (.slice (some ⟨g7, o7, none⟩) l.length c7) (l), Bx gb (bkV s V) 27, Rb V (L)]) (ds := []) zl6_0 zA6_0 rfl rfl (S.out.drew) (fun hH_ => ?_)
      refine with_tabW tab18 bits18 (fun HT_ HW_ => ?_)
      refine zp6_ 0 53 zl6_1 (any_of HT_.out zA6_0) ?_
      refine zp6_ 1 54 zl6_2 (any_of HT_.out zA6_0) ?_
      refine zp6_ 2 55 zl6_3 (any_of HT_.out zA6_0) ?_
      refine take_ (i := 3) (N := some 56) (v := ?_) (a' := ?_) zl6_4 rfl rfl (take_ofW HT_.out HW_.out zA6_0) (fun _ _ _ h => h) (Or.inl ⟨by rfl, ?_⟩) hH_ ?_ ?_
      rotate_left
      ·intro w' s0
       have f_ : w'.cell? ⟨g7, o7, none⟩ = some (.int .i64 (u : Int)) := ((s0.get 1 rfl).cellAt 0 hil).trans (by rw [HU.out])
       clear s0
       go_simp
       with_reducible rfl
      rotate_left
      ·simp only [Act.put, List.setIfInBounds_toArray, List.set_cons_zero, List.set_cons_succ, i64_w, i32_w]
       rfl
      refine zp6_ 4 57 zl6_5 (any_of HT_.out zA6_0) ?_
      refine zp6_ 5 58 zl6_6 (any_of HT_.out zA6_0) ?_
      refine zp6_ 6 59 zl6_7 (any_of HT_.out zA6_0) ?_
      refine take_ (i := 7) (N := some 60) (v := ?_) (a' := ?_) zl6_8 rfl rfl (take_ofW HT_.out HW_.out zA6_0) (fun _ _ _ h => h) (Or.inl ⟨by rfl, ?_⟩) hH_ ?_ ?_
      rotate_left
      ·intro w' s0
       have f_ : w'.cell? ⟨g8, o8, none⟩ = some (.int .i64 (u : Int)) := ((s0.get 0 rfl).cellAt 0 hil).trans (by rw [HU.out])
       clear s0
       go_simp
       with_reducible rfl
      rotate_left
      ·simp only [Act.put, List.setIfInBounds_toArray, List.set_cons_zero, List.set_cons_succ, i64_w, i32_w]
       rfl
      refine zp6_ 8 61 zl6_9 (any_of HT_.out zA6_0) ?_
      refine zp6_ 9 62 zl6_10 (any_of HT_.out zA6_0) ?_
      refine zp6_ 10 63 zl6_11 (any_of HT_.out zA6_0) ?_
      refine zp6_ 11 64 zl6_12 (any_of HT_.out zA6_0) ?_
      refine zp6_ 12 65 zl6_13 (any_of HT_.out zA6_0) ?_
      refine zu6_ 13 66 zl6_14 (any_of HT_.out zA6_0) ?_
      refine zu6_ 14 67 zl6_15 (any_of HT_.out zA6_0) ?_
      refine zu6_ 15 68 zl6_16 (any_of HT_.out zA6_0) ?_
      refine zu6_ 16 69 zl6_17 (any_of HT_.out zA6_0) ?_
      refine zu6_ 17 70 zl6_18 (any_of HT_.out zA6_0) ?_
      refine zu6_ 18 71 zl6_19 (any_of HT_.out zA6_0) ?_
      refine zu6_ 19 72 zl6_20 (any_of HT_.out zA6_0) ?_
      refine zu6_ 20 73 zl6_21 (any_of HT_.out zA6_0) ?_
      refine zu6_ 21 74 zl6_22 (any_of HT_.out zA6_0) ?_
      refine zu6_ 22 75 zl6_23 (any_of HT_.out zA6_0) ?_
      refine zu6_ 23 76 zl6_24 (any_of HT_.out zA6_0) ?_
      refine zu6_ 24 77 zl6_25 (any_of HT_.out zA6_0) ?_
      refine zu6_ 25 78 zl6_26 (any_of HT_.out zA6_0) ?_
      refine zu6_ 26 79 zl6_27 (any_of HT_.out zA6_0) ?_
      refine zu6_ 27 80 zl6_28 (any_of HT_.out zA6_0) ?_
      refine zu6_ 28 81 zl6_29 (any_of HT_.out zA6_0) ?_
      refine zu6_ 29 82 zl6_30 (any_of HT_.out zA6_0) ?_
      refine zu6_ 30 83 zl6_31 (any_of HT_.out zA6_0) ?_
      refine zp6_ 31 84 zl6_32 (any_of HT_.out zA6_0) ?_
      refine zp6_ 32 85 zl6_33 (any_of HT_.out zA6_0) ?_
      refine zp6_ 33 86 zl6_34 (any_of HT_.out zA6_0) ?_
      refine zp6_ 34 87 zl6_35 (any_of HT_.out zA6_0) ?_
      refine zp6_ 35 88 zl6_36 (any_of HT_.out zA6_0) ?_
      refine zp6_ 36 89 zl6_37 (any_of HT_.out zA6_0) ?_
      refine zp6_ 37 90 zl6_38 (any_of HT_.out zA6_0) ?_
      refine zp6_ 38 91 zl6_39 (any_of HT_.out zA6_0) ?_
      refine zp6_ 39 92 zl6_40 (any_of HT_.out zA6_0) ?_
      refine zp6_ 40 93 zl6_41 (any_of HT_.out zA6_0) ?_
      refine zu6_ 41 94 zl6_42 (any_of HT_.out zA6_0) ?_
      refine zu6_ 42 95 zl6_43 (any_of HT_.out zA6_0) ?_
      refine zu6_ 43 96 zl6_44 (any_of HT_.out zA6_0) ?_
      refine zu6_ 44 97 zl6_45 (any_of HT_.out zA6_0) ?_
      refine zu6_ 45 98 zl6_46 (any_of HT_.out zA6_0) ?_
      refine zu6_ 46 99 zl6_47 (any_of HT_.out zA6_0) ?_
      refine zu6_ 47 100 zl6_48 (any_of HT_.out zA6_0) ?_
      refine zp6_ 48 101 zl6_49 (any_of HT_.out zA6_0) ?_
      refine zp6_ 49 102 zl6_50 (any_of HT_.out zA6_0) ?_
      refine zp6_ 50 103 zl6_51 (any_of HT_.out zA6_0) ?_
      refine zp6_ 51 104 zl6_52 (any_of HT_.out zA6_0) ?_
      refine zp6_ 52 105 zl6_53 (any_of HT_.out zA6_0) ?_
      refine zp6_ 53 106 zl6_54 (any_of HT_.out zA6_0) ?_
      refine zp6_ 54 107 zl6_55 (any_of HT_.out zA6_0) ?_
      refine zp6_ 55 108 zl6_56 (any_of HT_.out zA6_0) ?_
      refine zp6_ 56 109 zl6_57 (any_of HT_.out zA6_0) ?_
      refine take_ (i := 57) (N := some 110) (v := ?_) (a' := ?_) zl6_58 rfl rfl (take_ofW HT_.out HW_.out zA6_0) (fun _ _ _ h => h) (Or.inl ⟨by rfl, ?_⟩) hH_ ?_ ?_
      rotate_left
      ·intro w' s0
       have f_ : w'.cell? ⟨g7, o7, none⟩ = some (.int .i64 (u : Int)) := ((s0.get 1 rfl).cellAt 0 hil).trans (by rw [HU.out])
       clear s0
       go_simp
       with_reducible rfl
      rotate_left
      ·simp only [Act.put, List.setIfInBounds_toArray, List.set_cons_zero, List.set_cons_succ, i64_w, i32_w]
       rfl
      refine zp6_ 58 111 zl6_59 (any_of HT_.out zA6_0) ?_
      refine zp6_ 59 112 zl6_60 (any_of HT_.out zA6_0) ?_
      refine zp6_ 60 113 zl6_61 (any_of HT_.out zA6_0) ?_
      refine zp6_ 61 114 zl6_62 (any_of HT_.out zA6_0) ?_
      refine zp6_ 62 115 zl6_63 (any_of HT_.out zA6_0) ?_
      refine zp6_ 63 116 zl6_64 (any_of HT_.out zA6_0) ?_
      refine take_ (i := 64) (N := some 117) (v := ?_) (a' := ?_) zl6_65 rfl rfl (take_ofW HT_.out HW_.out zA6_0) (fun _ _ _ h => h) (Or.inl ⟨by rfl, ?_⟩) hH_ ?_ ?_
      rotate_left
      ·intro w' s0
       have f_ : w'.cell? ⟨gb, 6, none⟩ = some (.slice (some ⟨g5, o5, none⟩) (L 5).length cap5) := (s0.cell 2 rfl 6).trans (by rw [← hv5]; rfl)
       clear s0
       go_simp
       with_reducible rfl
      rotate_left
      ·simp only [Act.put, List.setIfInBounds_toArray, List.set_cons_zero, List.set_cons_succ, i64_w, i32_w]
       rfl
      refine zp6_ 65 118 zl6_66 (any_of HT_.out zA6_0) ?_
      refine zp6_ 66 119 zl6_67 (any_of HT_.out zA6_0) ?_
      refine zp6_ 67 120 zl6_68 (any_of HT_.out zA6_0) ?_
      refine take_ (i := 68) (N := some 121) (v := ?_) (a' := ?_) zl6_69 rfl rfl (take_ofW HT_.out HW_.out zA6_0) (fun _ _ _ h => h) (Or.inl ⟨by rfl, ?_⟩) hH_ ?_ ?_
      rotate_left
      ·intro w' s0
       have f_ : w'.cell? ⟨g7, o7, none⟩ = some (.int .i64 (u : Int)) := ((s0.get 1 rfl).cellAt 0 hil).trans (by rw [HU.out])
       clear s0
       go_simp
       with_reducible rfl
      rotate_left
      ·simp only [Act.put, List.setIfInBounds_toArray, List.set_cons_zero, List.set_cons_succ, i64_w, i32_w]
       rfl
      refine zp6_ 69 122 zl6_70 (any_of HT_.out zA6_0) ?_
      refine take_ (i := 70) (N := some 123) (v := ?_) (a' := ?_) zl6_71 rfl rfl (take_ofW HT_.out HW_.out zA6_0) (fun _ _ _ h => h) (Or.inl ⟨by rfl, ?_⟩) hH_ ?_ ?_
      rotate_left
      ·intro w' s0
       have f_ : w'.cell? ⟨g5, o5 + u, none⟩ = some (.int .i64 ((x : Int) + 1)) := (Sx.rowCell s0 3 rfl (i := 5) (by omega) hv5 u hul).1.trans (by rw [HUO.out])
       clear s0
       go_simp
       with_reducible rfl
      rotate_left
      ·simp only [Act.put, List.setIfInBounds_toArray, List.set_cons_zero, List.set_cons_succ, i64_w, i32_w]
       rfl
      refine zp6_ 71 124 zl6_72 (any_of HT_.out zA6_0) ?_
      refine pure_ (i := 72) (N := some 125) (v := .int .i64 ((x : Int) + 1)) (a' := ?_) zl6_73 rfl rfl (any_of HT_.out zA6_0) (fun _ _ _ h => h) (Or.inl ⟨by rfl, by
       intro w'
       go_simp
       simp only [i64_w]
       unfold wrap64
       omega⟩) ?_ ?_
      rotate_left
      ·simp only [Act.put, List.setIfInBounds_toArray, List.set_cons_zero, List.set_cons_succ, i64_w, i32_w]
       rfl
      refine zp6_ 73 126 zl6_74 (any_of HT_.out zA6_0) ?_
      refine zp6_ 74 127 zl6_75 (any_of HT_.out zA6_0) ?_
      refine done_ (done_of HT_.out zA6_0) ?_
      have Sn_ := Aside0.mk (hH_)
      clear S
      have S := Sn_
      clear Sn_
      clear hH_
      go_wp2_with fail
      go_roundg (l.length + 1 - (0 + 1))
      case measure => omega
      case rel => exact ⟨0 + 1, by omega, rfl, by go_num, by go_num, S⟩
     obtain ⟨j, rfl⟩ : ∃ j, i = j + 1 := ⟨i - 1, by omega⟩
     have hjl : j < l.length := by omega
     have hj2 : (j : Int) < (l.length : Int) := by omega
     obtain ⟨v, hv, hvl, hvo⟩ := HP.out.at_ x hlt j (by rw [HX.out]; exact hjl)
     rw [HX.out] at hv
     have HV := Aside0.mk hv
     obtain ⟨zv, hzv⟩ : ∃ zv, RoomV L (v : Int) = zv := ⟨_, rfl⟩
     have HZV := Aside0.mk hzv
     have hnx : (v : Int) + zv ≤ (u : Int) := by
      have := HP.out.nx x hlt j (by rw [HX.out]; exact hil)
      rw [HX.out, HV.out, HU.out, HZV.out] at this
      exact this
     have hzv1 : 1 ≤ zv := by have := (Bv.room_ok HBP.out hvl (by omega)).1; omega
     have bn : decide ((u : Int) < (v : Int) + zv) = false := decide_eq_false (by omega)
     have hji : (0 : Int) < (j : Int) + 1 := by omega
     have hj0 : (0 : Int) ≤ (j : Int) + 1 := by omega
     have hj3 : (j : Int) + 1 < (l.length : Int) := by omega
     clear hi0 hv hzv hvo
     by_cases hz8 : z < 8
     ·have bz8 : decide (z < 8) = true := decide_eq_true hz8
      have bz8' : decide (8 ≤ z) = false := decide_eq_false (by omega)
      have hm0 : Int.tmod (u : Int) z = 0 := tmod0 (by omega) (hza hz8)
      have hz0 : ¬ z = 0 := by omega
      clear hz8 hza hzb
      refine start_ (n := 75) (S := fun w_ => Sx (fun _ => False) w w_ [Rl (.slice (some ⟨g8, o8, none⟩) l.length c8) (l), Rl (.slice (some ⟨g7, o7, none⟩) l.length c7) (l), Bx gb (bkV s V) 27, Rb V (L)]) (ds := []) zl6_0 zA6_0 rfl rfl (S.out.drew) (fun hH_ => ?_)
      refine with_tabW tab18 bits18 (fun HT_ HW_ => ?_)
      refine zp6_ 0 53 zl6_1 (any_of HT_.out zA6_0) ?_
      refine zp6_ 1 54 zl6_2 (any_of HT_.out zA6_0) ?_
      refine zp6_ 2 55 zl6_3 (any_of HT_.out zA6_0) ?_
      refine take_ (i := 3) (N := some 56) (v := ?_) (a' := ?_) zl6_4 rfl rfl (take_ofW HT_.out HW_.out zA6_0) (fun _ _ _ h => h) (Or.inl ⟨by rfl, ?_⟩) hH_ ?_ ?_
      rotate_left
      ·intro w' s0
       have f_ : w'.cell? ⟨g7, o7 + (j + 1), none⟩ = some (.int .i64 (u : Int)) := ((s0.get 1 rfl).cellAt (j + 1) hil).trans (by rw [HU.out])
       clear s0
       go_simp
       with_reducible rfl
      rotate_left
      ·simp only [Act.put, List.setIfInBounds_toArray, List.set_cons_zero, List.set_cons_succ, i64_w, i32_w]
       rfl
      refine zp6_ 4 57 zl6_5 (any_of HT_.out zA6_0) ?_
      refine zp6_ 5 58 zl6_6 (any_of HT_.out zA6_0) ?_
      refine zp6_ 6 59 zl6_7 (any_of HT_.out zA6_0) ?_
      refine take_ (i := 7) (N := some 60) (v := ?_) (a' := ?_) zl6_8 rfl rfl (take_ofW HT_.out HW_.out zA6_0) (fun _ _ _ h => h) (Or.inl ⟨by rfl, ?_⟩) hH_ ?_ ?_
      rotate_left
      ·intro w' s0
       have f_ : w'.cell? ⟨g8, o8 + (j + 1), none⟩ = some (.int .i64 (u : Int)) := ((s0.get 0 rfl).cellAt (j + 1) hil).trans (by rw [HU.out])
       clear s0
       go_simp
       with_reducible rfl
      rotate_left
      ·simp only [Act.put, List.setIfInBounds_toArray, List.set_cons_zero, List.set_cons_succ, i64_w, i32_w]
       rfl
      refine zp6_ 8 61 zl6_9 (any_of HT_.out zA6_0) ?_
      refine zp6_ 9 62 zl6_10 (any_of HT_.out zA6_0) ?_
      refine zp6_ 10 63 zl6_11 (any_of HT_.out zA6_0) ?_
      refine zp6_ 11 64 zl6_12 (any_of HT_.out zA6_0) ?_
      refine zp6_ 12 65 zl6_13 (any_of HT_.out zA6_0) ?_
      refine zp6_ 13 66 zl6_14 (any_of HT_.out zA6_0) ?_
      refine zp6_ 14 67 zl6_15 (any_of HT_.out zA6_0) ?_
      refine zp6_ 15 68 zl6_16 (any_of HT_.out zA6_0) ?_
      refine take_ (i := 16) (N := some 69) (v := ?_) (a' := ?_) zl6_17 rfl rfl (take_ofW HT_.out HW_.out zA6_0) (fun _ _ _ h => h) (Or.inl ⟨by rfl, ?_⟩) hH_ ?_ ?_
      rotate_left
      ·intro w' s0
       have f_ : w'.cell? ⟨g7, o7 + (j + 1), none⟩ = some (.int .i64 (u : Int)) := ((s0.get 1 rfl).cellAt (j + 1) hil).trans (by rw [HU.out])
       clear s0
       go_simp
       with_reducible rfl
      rotate_left
      ·simp only [Act.put, List.setIfInBounds_toArray, List.set_cons_zero, List.set_cons_succ, i64_w, i32_w]
       rfl
      refine zp6_ 17 70 zl6_18 (any_of HT_.out zA6_0) ?_
      refine zp6_ 18 71 zl6_19 (any_of HT_.out zA6_0) ?_
      refine pure_ (i := 19) (N := some 72) (v := .int .i64 (j : Int)) (a' := ?_) zl6_20 rfl rfl (any_of HT_.out zA6_0) (fun _ _ _ h => h) (Or.inl ⟨by rfl, by
       intro w'
       go_simp
       simp only [i64_w]
       unfold wrap64
       omega⟩) ?_ ?_
      rotate_left
      ·simp only [Act.put, List.setIfInBounds_toArray, List.set_cons_zero, List.set_cons_succ, i64_w, i32_w]
       rfl
      refine zp6_ 20 73 zl6_21 (any_of HT_.out zA6_0) ?_
      refine take_ (i := 21) (N := some 74) (v := ?_) (a' := ?_) zl6_22 rfl rfl (take_ofW HT_.out HW_.out zA6_0) (fun _ _ _ h => h) (Or.inl ⟨by rfl, ?_⟩) hH_ ?_ ?_
      rotate_left
      ·intro w' s0
       have f_ : w'.cell? ⟨g7, o7 + j, none⟩ = some (.int .i64 (v : Int)) := ((s0.get 1 rfl).cellAt j hjl).trans (by rw [HV.out])
       clear s0
       go_simp
       with_reducible rfl
      rotate_left
      ·simp only [Act.put, List.setIfInBounds_toArray, List.set_cons_zero, List.set_cons_succ, i64_w, i32_w]
       rfl
      refine take_ (i := 22) (N := some 75) (v := .agg (bkV s V)) (a' := ?_) zl6_23 rfl rfl (take_ofW HT_.out HW_.out zA6_0) (fun _ _ _ h => h) (Or.inl ⟨by rfl, fun w' s0 => Row.load_row_run (g := gb) (t := 27) (cells := bkV s V) rfl rfl (s0.blk 2 rfl) Try.underlying27 rfl zA6_0⟩) hH_ ?_ ?_
      rotate_left
      ·simp only [Act.put, List.setIfInBounds_toArray, List.set_cons_zero, List.set_cons_succ, i64_w, i32_w]
       rfl
      refine zp6_ 23 76 zl6_24 (any_of HT_.out zA6_0) ?_
      refine zp6_ 24 77 zl6_25 (any_of HT_.out zA6_0) ?_
      refine pure_ (i := 25) (N := some 78) (v := .int .i64 (j : Int)) (a' := ?_) zl6_26 rfl rfl (any_of HT_.out zA6_0) (fun _ _ _ h => h) (Or.inl ⟨by rfl, by
       intro w'
       go_simp
       simp only [i64_w]
       unfold wrap64
       omega⟩) ?_ ?_
      rotate_left
      ·simp only [Act.put, List.setIfInBounds_toArray, List.set_cons_zero, List.set_cons_succ, i64_w, i32_w]
       rfl
      refine zp6_ 26 79 zl6_27 (any_of HT_.out zA6_0) ?_
      refine take_ (i := 27) (N := some 80) (v := ?_) (a' := ?_) zl6_28 rfl rfl (take_ofW HT_.out HW_.out zA6_0) (fun _ _ _ h => h) (Or.inl ⟨by rfl, ?_⟩) hH_ ?_ ?_
      rotate_left
      ·intro w' s0
       have f_ : w'.cell? ⟨g7, o7 + j, none⟩ = some (.int .i64 (v : Int)) := ((s0.get 1 rfl).cellAt j hjl).trans (by rw [HV.out])
       clear s0
       go_simp
       with_reducible rfl
      rotate_left
      ·simp only [Act.put, List.setIfInBounds_toArray, List.set_cons_zero, List.set_cons_succ, i64_w, i32_w]
       rfl
      refine one_ (i := 28) (N := some 81) zl6_29 rfl rfl (one_of HT_.out zA6_0) (by decide) (fun K hK => ?_)
      refine goes_ Try.func24 zA6_0 rfl #[.agg (bkV s V), .int .i64 (v : Int)] (by rfl) rfl rfl zA6_1 ?_
      refine (roomV s V L HLL.out HWF.out (v : Int) HBP.out _ (hH_.get 3 rfl)).mono ?_
      rintro e w9 ⟨rfl, hb⟩
      rw [HZV.out]
      have hHw9_ := hH_.call hb
      refine ⟨_, rfl, hK.out _ _ hHw9_ (fun hX_ => ?_)⟩
      clear hK K hX_
      refine norm_ (a' := ?_) ?_ ?_
      rotate_left
      ·show Act.put _ (some 81) _ = _
       simp only [Act.put, List.setIfInBounds_toArray, List.set_cons_zero, List.set_cons_succ, i64_w, i32_w]
       rfl
      clear hb
      refine pure_ (i := 29) (N := some 82) (v := .int .i64 ((v : Int) + zv)) (a' := ?_) zl6_30 rfl rfl (any_of HT_.out zA6_0) (fun _ _ _ h => h) (Or.inl ⟨by rfl, by
       intro w'
       go_simp
       simp only [i64_w]
       unfold wrap64
       omega⟩) ?_ ?_
      rotate_left
      ·simp only [Act.put, List.setIfInBounds_toArray, List.set_cons_zero, List.set_cons_succ, i64_w, i32_w]
       rfl
      refine zp6_ 30 83 zl6_31 (any_of HT_.out zA6_0) ?_
      refine zp6_ 31 84 zl6_32 (any_of HT_.out zA6_0) ?_
      refine zp6_ 32 85 zl6_33 (any_of HT_.out zA6_0) ?_
      refine zp6_ 33 86 zl6_34 (any_of HT_.out zA6_0) ?_
      refine zp6_ 34 87 zl6_35 (any_of HT_.out zA6_0) ?_
      refine zp6_ 35 88 zl6_36 (any_of HT_.out zA6_0) ?_
      refine zp6_ 36 89 zl6_37 (any_of HT_.out zA6_0) ?_
      refine zp6_ 37 90 zl6_38 (any_of HT_.out zA6_0) ?_
      refine zp6_ 38 91 zl6_39 (any_of HT_.out zA6_0) ?_
      refine zp6_ 39 92 zl6_40 (any_of HT_.out zA6_0) ?_
      refine zp6_ 40 93 zl6_41 (any_of HT_.out zA6_0) ?_
      refine zp6_ 41 94 zl6_42 (any_of HT_.out zA6_0) ?_
      refine zp6_ 42 95 zl6_43 (any_of HT_.out zA6_0) ?_
      refine zp6_ 43 96 zl6_44 (any_of HT_.out zA6_0) ?_
      refine take_ (i := 44) (N := some 97) (v := ?_) (a' := ?_) zl6_45 rfl rfl (take_ofW HT_.out HW_.out zA6_0) (fun _ _ _ h => h) (Or.inl ⟨by rfl, ?_⟩) hHw9_ ?_ ?_
      rotate_left
      ·intro w' s0
       have f_ : w'.cell? ⟨g7, o7 + (j + 1), none⟩ = some (.int .i64 (u : Int)) := ((s0.get 1 rfl).cellAt (j + 1) hil).trans (by rw [HU.out])
       clear s0
       go_simp
       with_reducible rfl
      rotate_left
      ·simp only [Act.put, List.setIfInBounds_toArray, List.set_cons_zero, List.set_cons_succ, i64_w, i32_w]
       rfl
      refine zp6_ 45 98 zl6_46 (any_of HT_.out zA6_0) ?_
      refine zp6_ 46 99 zl6_47 (any_of HT_.out zA6_0) ?_
      refine zp6_ 47 100 zl6_48 (any_of HT_.out zA6_0) ?_
      refine zp6_ 48 101 zl6_49 (any_of HT_.out zA6_0) ?_
      refine zp6_ 49 102 zl6_50 (any_of HT_.out zA6_0) ?_
      refine zp6_ 50 103 zl6_51 (any_of HT_.out zA6_0) ?_
      refine zp6_ 51 104 zl6_52 (any_of HT_.out zA6_0) ?_
      refine zp6_ 52 105 zl6_53 (any_of HT_.out zA6_0) ?_
      refine zp6_ 53 106 zl6_54 (any_of HT_.out zA6_0) ?_
      refine zu6_ 54 107 zl6_55 (any_of HT_.out zA6_0) ?_
      refine zu6_ 55 108 zl6_56 (any_of HT_.out zA6_0) ?_
      refine zu6_ 56 109 zl6_57 (any_of HT_.out zA6_0) ?_
      refine zu6_ 57 110 zl6_58 (any_of HT_.out zA6_0) ?_
      refine zu6_ 58 111 zl6_59 (any_of HT_.out zA6_0) ?_
      refine zu6_ 59 112 zl6_60 (any_of HT_.out zA6_0) ?_
      refine zp6_ 60 113 zl6_61 (any_of HT_.out zA6_0) ?_
      refine zp6_ 61 114 zl6_62 (any_of HT_.out zA6_0) ?_
      refine zp6_ 62 115 zl6_63 (any_of HT_.out zA6_0) ?_
      refine zp6_ 63 116 zl6_64 (any_of HT_.out zA6_0) ?_
      refine take_ (i := 64) (N := some 117) (v := ?_) (a' := ?_) zl6_65 rfl rfl (take_ofW HT_.out HW_.out zA6_0) (fun _ _ _ h => h) (Or.inl ⟨by rfl, ?_⟩) hHw9_ ?_ ?_
      rotate_left
      ·intro w' s0
       have f_ : w'.cell? ⟨gb, 6, none⟩ = some (.slice (some ⟨g5, o5, none⟩) (L 5).length cap5) := (s0.cell 2 rfl 6).trans (by rw [← hv5]; rfl)
       clear s0
       go_simp
       with_reducible rfl
      rotate_left
      ·simp only [Act.put, List.setIfInBounds_toArray, List.set_cons_zero, List.set_cons_succ, i64_w, i32_w]
       rfl
      refine zp6_ 65 118 zl6_66 (any_of HT_.out zA6_0) ?_
      refine zp6_ 66 119 zl6_67 (any_of HT_.out zA6_0) ?_
      refine zp6_ 67 120 zl6_68 (any_of HT_.out zA6_0) ?_
      refine take_ (i := 68) (N := some 121) (v := ?_) (a' := ?_) zl6_69 rfl rfl (take_ofW HT_.out HW_.out zA6_0) (fun _ _ _ h => h) (Or.inl ⟨by rfl, ?_⟩) hHw9_ ?_ ?_
      rotate_left
      ·intro w' s0
       have f_ : w'.cell? ⟨g7, o7 + (j + 1), none⟩ = some (.int .i64 (u : Int)) := ((s0.get 1 rfl).cellAt (j + 1) hil).trans (by rw [HU.out])
       clear s0
       go_simp
       with_reducible rfl
      rotate_left
      ·simp only [Act.put, List.setIfInBounds_toArray, List.set_cons_zero, List.set_cons_succ, i64_w, i32_w]
       rfl
      refine zp6_ 69 122 zl6_70 (any_of HT_.out zA6_0) ?_
      refine take_ (i := 70) (N := some 123) (v := ?_) (a' := ?_) zl6_71 rfl rfl (take_ofW HT_.out HW_.out zA6_0) (fun _ _ _ h => h) (Or.inl ⟨by rfl, ?_⟩) hHw9_ ?_ ?_
      rotate_left
      ·intro w' s0
       have f_ : w'.cell? ⟨g5, o5 + u, none⟩ = some (.int .i64 ((x : Int) + 1)) := (Sx.rowCell s0 3 rfl (i := 5) (by omega) hv5 u hul).1.trans (by rw [HUO.out])
       clear s0
       go_simp
       with_reducible rfl
      rotate_left
      ·simp only [Act.put, List.setIfInBounds_toArray, List.set_cons_zero, List.set_cons_succ, i64_w, i32_w]
       rfl
      refine zp6_ 71 124 zl6_72 (any_of HT_.out zA6_0) ?_
      refine pure_ (i := 72) (N := some 125) (v := .int .i64 ((x : Int) + 1)) (a' := ?_) zl6_73 rfl rfl (any_of HT_.out zA6_0) (fun _ _ _ h => h) (Or.inl ⟨by rfl, by
       intro w'
       go_simp
       simp only [i64_w]
       unfold wrap64
       omega⟩) ?_ ?_
      rotate_left
      ·simp only [Act.put, List.setIfInBounds_toArray, List.set_cons_zero, List.set_cons_succ, i64_w, i32_w]
       rfl
      refine zp6_ 73 126 zl6_74 (any_of HT_.out zA6_0) ?_
      refine zp6_ 74 127 zl6_75 (any_of HT_.out zA6_0) ?_
      refine done_ (done_of HT_.out zA6_0) ?_
      have Sn_ := Aside0.mk (hHw9_)
      clear S
      have S := Sn_
      clear Sn_
      clear hH_ hHw9_
      go_wp2_with fail
      go_roundg (l.length + 1 - ((j + 1) + 1))
      case measure => omega
      case rel => exact ⟨(j + 1) + 1, by omega, rfl, by go_num, by go_num, S⟩
     have bz8 : decide (z < 8) = false := decide_eq_false hz8
     have bz8' : decide (8 ≤ z) = true := decide_eq_true (by omega)
     have hm0 : Int.tmod (u : Int) 8 = 0 := tmod0 (by omega) (hzb (by omega))
     clear hz8 hza hzb
     refine start_ (n := 75) (S := fun w_ => Sx (fun _ => False) w w_ [Rl (.slice (some ⟨g8, o8, none⟩) l.length c8) (l), Rl (.slice (some ⟨g7, o7, none⟩) l.length c7) (l), Bx gb (bkV s V) 27, Rb V (L)]) (ds := []) zl6_0 zA6_0 rfl rfl (S.out.drew) (fun hH_ => ?_)
     refine with_tabW tab18 bits18 (fun HT_ HW_ => ?_)
     refine zp6_ 0 53 zl6_1 (any_of HT_.out zA6_0) ?_
     refine zp6_ 1 54 zl6_2 (any_of HT_.out zA6_0) ?_
     refine zp6_ 2 55 zl6_3 (any_of HT_.out zA6_0) ?_
     refine take_ (i := 3) (N := some 56) (v := ?_) (a' := ?_) zl6_4 rfl rfl (take_ofW HT_.out HW_.out zA6_0) (fun _ _ _ h => h) (Or.inl ⟨by rfl, ?_⟩) hH_ ?_ ?_
     rotate_left
     ·intro w' s0
      have f_ : w'.cell? ⟨g7, o7 + (j + 1), none⟩ = some (.int .i64 (u : Int)) := ((s0.get 1 rfl).cellAt (j + 1) hil).trans (by rw [HU.out])
      clear s0
      go_simp
      with_reducible rfl
     rotate_left
     ·simp only [Act.put, List.setIfInBounds_toArray, List.set_cons_zero, List.set_cons_succ, i64_w, i32_w]
      rfl
     refine zp6_ 4 57 zl6_5 (any_of HT_.out zA6_0) ?_
     refine zp6_ 5 58 zl6_6 (any_of HT_.out zA6_0) ?_
     refine zp6_ 6 59 zl6_7 (any_of HT_.out zA6_0) ?_
     refine take_ (i := 7) (N := some 60) (v := ?_) (a' := ?_) zl6_8 rfl rfl (take_ofW HT_.out HW_.out zA6_0) (fun _ _ _ h => h) (Or.inl ⟨by rfl, ?_⟩) hH_ ?_ ?_
     rotate_left
     ·intro w' s0
      have f_ : w'.cell? ⟨g8, o8 + (j + 1), none⟩ = some (.int .i64 (u : Int)) := ((s0.get 0 rfl).cellAt (j + 1) hil).trans (by rw [HU.out])
      clear s0
      go_simp
      with_reducible rfl
     rotate_left
     ·simp only [Act.put, List.setIfInBounds_toArray, List.set_cons_zero, List.set_cons_succ, i64_w, i32_w]
      rfl
     refine zp6_ 8 61 zl6_9 (any_of HT_.out zA6_0) ?_
     refine zp6_ 9 62 zl6_10 (any_of HT_.out zA6_0) ?_
     refine zp6_ 10 63 zl6_11 (any_of HT_.out zA6_0) ?_
     refine zp6_ 11 64 zl6_12 (any_of HT_.out zA6_0) ?_
     refine zp6_ 12 65 zl6_13 (any_of HT_.out zA6_0) ?_
     refine zp6_ 13 66 zl6_14 (any_of HT_.out zA6_0) ?_
     refine zp6_ 14 67 zl6_15 (any_of HT_.out zA6_0) ?_
     refine zp6_ 15 68 zl6_16 (any_of HT_.out zA6_0) ?_
     refine take_ (i := 16) (N := some 69) (v := ?_) (a' := ?_) zl6_17 rfl rfl (take_ofW HT_.out HW_.out zA6_0) (fun _ _ _ h => h) (Or.inl ⟨by rfl, ?_⟩) hH_ ?_ ?_
     rotate_left
     ·intro w' s0
      have f_ : w'.cell? ⟨g7, o7 + (j + 1), none⟩ = some (.int .i64 (u : Int)) := ((s0.get 1 rfl).cellAt (j + 1) hil).trans (by rw [HU.out])
      clear s0
      go_simp
      with_reducible rfl
     rotate_left
     ·simp only [Act.put, List.setIfInBounds_toArray, List.set_cons_zero, List.set_cons_succ, i64_w, i32_w]
      rfl
     refine zp6_ 17 70 zl6_18 (any_of HT_.out zA6_0) ?_
     refine zp6_ 18 71 zl6_19 (any_of HT_.out zA6_0) ?_
     refine pure_ (i := 19) (N := some 72) (v := .int .i64 (j : Int)) (a' := ?_) zl6_20 rfl rfl (any_of HT_.out zA6_0) (fun _ _ _ h => h) (Or.inl ⟨by rfl, by
      intro w'
      go_simp
      simp only [i64_w]
      unfold wrap64
      omega⟩) ?_ ?_
     rotate_left
     ·simp only [Act.put, List.setIfInBounds_toArray, List.set_cons_zero, List.set_cons_succ, i64_w, i32_w]
      rfl
     refine zp6_ 20 73 zl6_21 (any_of HT_.out zA6_0) ?_
     refine take_ (i := 21) (N := some 74) (v := ?_) (a' := ?_) zl6_22 rfl rfl (take_ofW HT_.out HW_.out zA6_0) (fun _ _ _ h => h) (Or.inl ⟨by rfl, ?_⟩) hH_ ?_ ?_
     rotate_left
     ·intro w' s0
      have f_ : w'.cell? ⟨g7, o7 + j, none⟩ = some (.int .i64 (v : Int)) := ((s0.get 1 rfl).cellAt j hjl).trans (by rw [HV.out])
      clear s0
      go_simp
      with_reducible rfl
     rotate_left
     ·simp only [Act.put, List.setIfInBounds_toArray, List.set_cons_zero, List.set_cons_succ, i64_w, i32_w]
      rfl
     refine take_ (i := 22) (N := some 75) (v := .agg (bkV s V)) (a' := ?_) zl6_23 rfl rfl (take_ofW HT_.out HW_.out zA6_0) (fun _ _ _ h => h) (Or.inl ⟨by rfl, fun w' s0 => Row.load_row_run (g := gb) (t := 27) (cells := bkV s V) rfl rfl (s0.blk 2 rfl) Try.underlying27 rfl zA6_0⟩) hH_ ?_ ?_
     rotate_left
     ·simp only [Act.put, List.setIfInBounds_toArray, List.set_cons_zero, List.set_cons_succ, i64_w, i32_w]
      rfl
     refine zp6_ 23 76 zl6_24 (any_of HT_.out zA6_0) ?_
     refine zp6_ 24 77 zl6_25 (any_of HT_.out zA6_0) ?_
     refine pure_ (i := 25) (N := some 78) (v := .int .i64 (j : Int)) (a' := ?_) zl6_26 rfl rfl (any_of HT_.out zA6_0) (fun _ _ _ h => h) (Or.inl ⟨by rfl, by
      intro w'
      go_simp
      simp only [i64_w]
      unfold wrap64
      omega⟩) ?_ ?_
     rotate_left
     ·simp only [Act.put, List.setIfInBounds_toArray, List.set_cons_zero, List.set_cons_succ, i64_w, i32_w]
      rfl
     refine zp6_ 26 79 zl6_27 (any_of HT_.out zA6_0) ?_
     refine take_ (i := 27) (N := some 80) (v := ?_) (a' := ?_) zl6_28 rfl rfl (take_ofW HT_.out HW_.out zA6_0) (fun _ _ _ h => h) (Or.inl ⟨by rfl, ?_⟩) hH_ ?_ ?_
     rotate_left
     ·intro w' s0
      have f_ : w'.cell? ⟨g7, o7 + j, none⟩ = some (.int .i64 (v : Int)) := ((s0.get 1 rfl).cellAt j hjl).trans (by rw [HV.out])
      clear s0
      go_simp
      with_reducible rfl
     rotate_left
     ·simp only [Act.put, List.setIfInBounds_toArray, List.set_cons_zero, List.set_cons_succ, i64_w, i32_w]
      rfl
     refine one_ (i := 28) (N := some 81) zl6_29 rfl rfl (one_of HT_.out zA6_0) (by decide) (fun K hK => ?_)
     refine goes_ Try.func24 zA6_0 rfl #[.agg (bkV s V), .int .i64 (v : Int)] (by rfl) rfl rfl zA6_1 ?_
     refine (roomV s V L HLL.out HWF.out (v : Int) HBP.out _ (hH_.get 3 rfl)).mono ?_
     rintro e w10 ⟨rfl, hb⟩
     rw [HZV.out]
     have hHw10_ := hH_.call hb
     refine ⟨_, rfl, hK.out _ _ hHw10_ (fun hX_ => ?_)⟩
     clear hK K hX_
     refine norm_ (a' := ?_) ?_ ?_
     rotate_left
     ·show Act.put _ (some 81) _ = _
      simp only [Act.put, List.setIfInBounds_toArray, List.set_cons_zero, List.set_cons_succ, i64_w, i32_w]
      rfl
     clear hb
     refine pure_ (i := 29) (N := some 82) (v := .int .i64 ((v : Int) + zv)) (a' := ?_) zl6_30 rfl rfl (any_of HT_.out zA6_0) (fun _ _ _ h => h) (Or.inl ⟨by rfl, by
      intro w'
      go_simp
      simp only [i64_w]
      unfold wrap64
      omega⟩) ?_ ?_
     rotate_left
     ·simp only [Act.put, List.setIfInBounds_toArray, List.set_cons_zero, List.set_cons_succ, i64_w, i32_w]
      rfl
     refine zp6_ 30 83 zl6_31 (any_of HT_.out zA6_0) ?_
     refine zp6_ 31 84 zl6_32 (any_of HT_.out zA6_0) ?_
     refine zp6_ 32 85 zl6_33 (any_of HT_.out zA6_0) ?_
     refine zp6_ 33 86 zl6_34 (any_of HT_.out zA6_0) ?_
     refine zp6_ 34 87 zl6_35 (any_of HT_.out zA6_0) ?_
     refine zp6_ 35 88 zl6_36 (any_of HT_.out zA6_0) ?_
     refine zp6_ 36 89 zl6_37 (any_of HT_.out zA6_0) ?_
     refine zp6_ 37 90 zl6_38 (any_of HT_.out zA6_0) ?_
     refine zp6_ 38 91 zl6_39 (any_of HT_.out zA6_0) ?_
     refine zp6_ 39 92 zl6_40 (any_of HT_.out zA6_0) ?_
     refine zp6_ 40 93 zl6_41 (any_of HT_.out zA6_0) ?_
     refine zu6_ 41 94 zl6_42 (any_of HT_.out zA6_0) ?_
     refine zu6_ 42 95 zl6_43 (any_of HT_.out zA6_0) ?_
     refine zu6_ 43 96 zl6_44 (any_of HT_.out zA6_0) ?_
     refine zu6_ 44 97 zl6_45 (any_of HT_.out zA6_0) ?_
     refine zu6_ 45 98 zl6_46 (any_of HT_.out zA6_0) ?_
     refine zu6_ 46 99 zl6_47 (any_of HT_.out zA6_0) ?_
     refine zu6_ 47 100 zl6_48 (any_of HT_.out zA6_0) ?_
     refine zp6_ 48 101 zl6_49 (any_of HT_.out zA6_0) ?_
     refine zp6_ 49 102 zl6_50 (any_of HT_.out zA6_0) ?_
     refine zp6_ 50 103 zl6_51 (any_of HT_.out zA6_0) ?_
     refine zp6_ 51 104 zl6_52 (any_of HT_.out zA6_0) ?_
     refine zp6_ 52 105 zl6_53 (any_of HT_.out zA6_0) ?_
     refine zp6_ 53 106 zl6_54 (any_of HT_.out zA6_0) ?_
     refine zp6_ 54 107 zl6_55 (any_of HT_.out zA6_0) ?_
     refine zp6_ 55 108 zl6_56 (any_of HT_.out zA6_0) ?_
     refine zp6_ 56 109 zl6_57 (any_of HT_.out zA6_0) ?_
     refine take_ (i := 57) (N := some 110) (v := ?_) (a' := ?_) zl6_58 rfl rfl (take_ofW HT_.out HW_.out zA6_0) (fun _ _ _ h => h) (Or.inl ⟨by rfl, ?_⟩) hHw10_ ?_ ?_
     rotate_left
     ·intro w' s0
      have f_ : w'.cell? ⟨g7, o7 + (j + 1), none⟩ = some (.int .i64 (u : Int)) := ((s0.get 1 rfl).cellAt (j + 1) hil).trans (by rw [HU.out])
      clear s0
      go_simp
      with_reducible rfl
     rotate_left
     ·simp only [Act.put, List.setIfInBounds_toArray, List.set_cons_zero, List.set_cons_succ, i64_w, i32_w]
      rfl
     refine zp6_ 58 111 zl6_59 (any_of HT_.out zA6_0) ?_
     refine zp6_ 59 112 zl6_60 (any_of HT_.out zA6_0) ?_
     refine zp6_ 60 113 zl6_61 (any_of HT_.out zA6_0) ?_
     refine zp6_ 61 114 zl6_62 (any_of HT_.out zA6_0) ?_
     refine zp6_ 62 115 zl6_63 (any_of HT_.out zA6_0) ?_
     refine zp6_ 63 116 zl6_64 (any_of HT_.out zA6_0) ?_
     refine take_ (i := 64) (N := some 117) (v := ?_) (a' := ?_) zl6_65 rfl rfl (take_ofW HT_.out HW_.out zA6_0) (fun _ _ _ h => h) (Or.inl ⟨by rfl, ?_⟩) hHw10_ ?_ ?_
     rotate_left
     ·intro w' s0
      have f_ : w'.cell? ⟨gb, 6, none⟩ = some (.slice (some ⟨g5, o5, none⟩) (L 5).length cap5) := (s0.cell 2 rfl 6).trans (by rw [← hv5]; rfl)
      clear s0
      go_simp
      with_reducible rfl
     rotate_left
     ·simp only [Act.put, List.setIfInBounds_toArray, List.set_cons_zero, List.set_cons_succ, i64_w, i32_w]
      rfl
     refine zp6_ 65 118 zl6_66 (any_of HT_.out zA6_0) ?_
     refine zp6_ 66 119 zl6_67 (any_of HT_.out zA6_0) ?_
     refine zp6_ 67 120 zl6_68 (any_of HT_.out zA6_0) ?_
     refine take_ (i := 68) (N := some 121) (v := ?_) (a' := ?_) zl6_69 rfl rfl (take_ofW HT_.out HW_.out zA6_0) (fun _ _ _ h => h) (Or.inl ⟨by rfl, ?_⟩) hHw10_ ?_ ?_
     rotate_left
     ·intro w' s0
      have f_ : w'.cell? ⟨g7, o7 + (j + 1), none⟩ = some (.int .i64 (u : Int)) := ((s0.get 1 rfl).cellAt (j + 1) hil).trans (by rw [HU.out])
      clear s0
      go_simp
      with_reducible rfl
     rotate_left
     ·simp only [Act.put, List.setIfInBounds_toArray, List.set_cons_zero, List.set_cons_succ, i64_w, i32_w]
      rfl
     refine zp6_ 69 122 zl6_70 (any_of HT_.out zA6_0) ?_
     refine take_ (i := 70) (N := some 123) (v := ?_) (a' := ?_) zl6_71 rfl rfl (take_ofW HT_.out HW_.out zA6_0) (fun _ _ _ h => h) (Or.inl ⟨by rfl, ?_⟩) hHw10_ ?_ ?_
     rotate_left
     ·intro w' s0
      have f_ : w'.cell? ⟨g5, o5 + u, none⟩ = some (.int .i64 ((x : Int) + 1)) := (Sx.rowCell s0 3 rfl (i := 5) (by omega) hv5 u hul).1.trans (by rw [HUO.out])
      clear s0
      go_simp
      with_reducible rfl
     rotate_left
     ·simp only [Act.put, List.setIfInBounds_toArray, List.set_cons_zero, List.set_cons_succ, i64_w, i32_w]
      rfl
     refine zp6_ 71 124 zl6_72 (any_of HT_.out zA6_0) ?_
     refine pure_ (i := 72) (N := some 125) (v := .int .i64 ((x : Int) + 1)) (a' := ?_) zl6_73 rfl rfl (any_of HT_.out zA6_0) (fun _ _ _ h => h) (Or.inl ⟨by rfl, by
      intro w'
      go_simp
      simp only [i64_w]
      unfold wrap64
      omega⟩) ?_ ?_
     rotate_left
     ·simp only [Act.put, List.setIfInBounds_toArray, List.set_cons_zero, List.set_cons_succ, i64_w, i32_w]
      rfl
     refine zp6_ 73 126 zl6_74 (any_of HT_.out zA6_0) ?_
     refine zp6_ 74 127 zl6_75 (any_of HT_.out zA6_0) ?_
     refine done_ (done_of HT_.out zA6_0) ?_
     have Sn_ := Aside0.mk (hHw10_)
     clear S
     have S := Sn_
     clear Sn_
     clear hH_ hHw10_
     go_wp2_with fail
     go_roundg (l.length + 1 - ((j + 1) + 1))
     case measure => omega
     case rel => exact ⟨(j + 1) + 1, by omega, rfl, by go_num, by go_num, S⟩
    ·have hie : i = l.length := by omega
     subst hie
     clear hil
     have Sn_ := Aside0.mk (S.out.drop (rs' := [Rl (.slice A7 l.length c7) (l), Bx gb (bkV s V) 27, Rb V (L)]) 0 rfl)
     clear S
     have S := Sn_
     clear Sn_
     have Sn_ := Aside0.mk (S.out.drop (rs' := [Bx gb (bkV s V) 27, Rb V (L)]) 0 rfl)
     clear S
     have S := Sn_
     clear Sn_
     go_wp2_with fail
     go_roundg (5 - (x + 1))
     case measure => omega
     case rel => exact ⟨x + 1, by omega, rfl, by rw [HP.out.ms, HM.out, HX.out], by go_num, S⟩
  ·have hxe : x = 4 := by omega
   subst hxe
   clear hlt hx
   obtain ⟨m, hm⟩ : ∃ m, M 4 = m := ⟨_, rfl⟩
   have hm240 : m ≤ 240 := by have := HP.out.le 4; omega
   rw [hm]
   have HM := Aside0.mk hm
   clear hm
   obtain ⟨A5, c5, hv5⟩ := ((S.out.get 1 rfl).1 5 (by omega)).form
   have hl60 : (L 5).length ≤ 60 := HLL.out 5
   have S1 := S
   clear S
   go_wp2_with fail
   go_loopg [11, 12] ((L 5).length + 1) (fun kq v11 v12 w' => ∃ i : Nat, i ≤ (L 5).length ∧ (BookP s L ∨ i = 0) ∧ kq = (L 5).length + 1 - i ∧ v11 = .int .i64 ((Bv.ownC (L 5) i : Nat) : Int) ∧ v12 = .int .i64 (i : Int) ∧ Aside0 (Sx (fun _ => False) w w' [Bx gb (bkV s V) 27, Rb V (L)]))
   case atStart => exact ⟨0, by omega, .inr rfl, by omega, rfl, rfl, S1⟩
   case round =>
    clear S1
    obtain ⟨i, hi, hbi, rfl, rfl, rfl, S⟩ := hrel
    have hoc : Bv.ownC (L 5) i ≤ i := Bv.ownC_le _ _
    have HOC : Aside0 (Bv.ownC (L 5) (i + 1) = Bv.ownC (L 5) i + if (L 5).getD i 0 > 0 then 1 else 0) := ⟨rfl⟩
    obtain ⟨q, hq⟩ : ∃ q, Bv.ownC (L 5) i = q := ⟨_, rfl⟩
    rw [hq] at hoc HOC ⊢
    have HQ := Aside0.mk hq
    clear hq
    have HBI := Aside0.mk hbi
    clear hbi
    have f_gb_6 : wr.cell? ⟨gb, 6, none⟩ = some (.slice A5 (L 5).length c5) := (S.out.cell 0 rfl 6).trans (by rw [← hv5]; rfl)
    by_cases hlt : i < (L 5).length
    ·have hi2 : (i : Int) < ((L 5).length : Int) := by omega
     go_wp2_with (first | ((with_reducible refine gate_dst (N := 136) rfl ?_); refine gate_guard (by rfl) ?_; refine Kd.event_run rfl (Row.load_row_run (g := gb) (t := 27) (cells := bkV s V) rfl rfl (S.out.blk 0 rfl) Try.underlying27 rfl zA6_0) ?_))
     refine (specOkV s V L HLL.out HWF.out  _ (S.out.get 1 rfl)).mono ?_
     rintro e w11 ⟨r, rfl, hr, hb⟩
     have HR := Aside0.mk hr
     clear hr
     have Sn_ := Aside0.mk (S.out.call hb)
     clear S hb
     have S := Sn_
     clear Sn_
     have f_gb_6 : w11.cell? ⟨gb, 6, none⟩ = some (.slice A5 (L 5).length c5) := (S.out.cell 0 rfl 6).trans (by rw [← hv5]; rfl)
     cases r with
     | false =>
      have hno : ¬ BookP s L := fun p => by have := HR.out.2 p; cases this
      have hi0 : i = 0 := HBI.out.elim (fun p => absurd p hno) (fun p => p)
      subst hi0
      have hm0 : m = 0 := by rw [← HM.out]; exact HP.out.no hno
      have hq0 : q = 0 := by omega
      subst hm0 hq0
      go_wp2
      go_ret
      exact ⟨rfl, S.out.base.below (fun _ q => q.elim)⟩
     | true =>
      have hyes : BookP s L := HR.out.1 (by trivial)
      obtain ⟨y, hy⟩ : ∃ y, (L 5).getD i 0 = y := ⟨_, rfl⟩
      obtain ⟨g5, o5, e5⟩ : ∃ g o, A5 = some ⟨g, o, none⟩ := IR.addr (by have := (S.out.get 1 rfl).1 5 (by omega); rwa [hv5] at this) i hlt
      subst e5
      have hcy := (Sx.rowCell S.out 1 rfl (i := 5) (by omega) hv5 i hlt).1
      rw [hy] at hcy HOC
      clear hy
      have f_gb_6 : w11.cell? ⟨gb, 6, none⟩ = some (.slice (some ⟨g5, o5, none⟩) (L 5).length c5) := (S.out.cell 0 rfl 6).trans (by rw [← hv5]; rfl)
      by_cases hy0 : y > 0
      ·have by0 : decide (0 < y) = true := decide_eq_true hy0
       rw [if_pos hy0] at HOC
       clear hy0
       have HY := Aside0.mk hyes
       clear hyes
       go_wp2
       go_roundg ((L 5).length + 1 - (i + 1))
       case measure => omega
       case rel => exact ⟨i + 1, by omega, .inl HY.out, rfl, by rw [HOC.out]; first | rfl | go_num, by go_num, S⟩
      ·have by0 : decide (0 < y) = false := decide_eq_false hy0
       rw [if_neg hy0] at HOC
       clear hy0
       have HY := Aside0.mk hyes
       clear hyes
       go_wp2
       go_roundg ((L 5).length + 1 - (i + 1))
       case measure => omega
       case rel => exact ⟨i + 1, by omega, .inl HY.out, rfl, by rw [HOC.out]; first | rfl | go_num, by go_num, S⟩
    ·have hie : i = (L 5).length := by omega
     subst hie
     clear hlt
     have hmq : m = q := by
      rcases Classical.em (BookP s L) with p | p
      ·rw [← HM.out, ← HQ.out]; exact HP.out.yes p
      ·have h0 : (L 5).length = 0 := HBI.out.elim (fun h => absurd h p) (fun h => h)
       have h1 : m = 0 := by rw [← HM.out]; exact HP.out.no p
       omega
     subst hmq
     go_wp2
     go_ret
     exact ⟨rfl, S.out.base.below (fun _ q => q.elim)⟩
end Go.Proofs.Ytekneicikmaplaa.Bk
namespace Go.Proofs.Ytekneicikmaplaa.PFnBookOf
open Go.RowKit Go.Proofs.YtekneicikmaplaaW.PrintWords Go.Proofs.YtekneicikmaplaaW.PrintLast Go.Proofs.YtekneicikmaplaaW.PrintMore Go.Proofs.Ytekneicikmaplaa.Bk
def isB (l : List Int) : Bool := decide (l.length ≤ 9223372036854775807) && l.all fun y => (Lit.int .u8 y).wf
def laws_FnBookOf.f (l0 : List Int) : Option Bool := if isB l0 = true then some true else none
theorem laws_FnBookOf.calls (A0 : Option Addr) (c0 : Nat) (l0 : List Int) (r : Bool) (w : World) (hr0 : Kd.C (Kd.int .u8) w A0 l0.length l0) (hc0 : l0.length ≤ c0) (h : laws_FnBookOf.f l0 = some r) :
    Calls Try.prog 10 #[.slice A0 l0.length c0] w fun e w' => e = .returned (.bool r) ∧ Below w.heap.size w w' := by
  unfold laws_FnBookOf.f at h
  by_cases q : isB l0 = true
  · rw [if_pos q] at h
    obtain rfl := Option.some.inj h
    unfold isB at q
    rw [Bool.and_eq_true] at q
    by_cases hbig : (l0.length : Int) > 1048576
    · exact bookOf_big A0 c0 l0 w hbig
    · exact bookOf_walk A0 c0 l0 w hr0 hc0 (fun x hx => List.all_eq_true.mp q.2 x hx) hbig
  · rw [if_neg q] at h
    cases h
end Go.Proofs.Ytekneicikmaplaa.PFnBookOf

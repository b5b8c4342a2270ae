/- Books of a slab allocator: walks and plain laws, part 6. -/
import Derived.Test.YtekneicikmaplaaBm4
import Derived.Test.YtekneicikmaplaaWInvWords
set_option linter.unusedVariables false
set_option linter.unusedSimpArgs false
namespace Go.Proofs.Ytekneicikmaplaa.Bk
open Go.RowKit Go.Proofs.YtekneicikmaplaaW.PrintWords Go.Proofs.YtekneicikmaplaaW.PrintLast Go.Proofs.YtekneicikmaplaaW.PrintMore

/-- The units ahead of n at which y stands. -/
def blkL (O : List Int) (y : Int) : Nat → List Int
  | 0 => []
  | n + 1 => blkL O y n ++ (if O.getD n 0 = y then [(n : Int)] else [])
theorem blkL_len (O : List Int) (y : Int) (n : Nat) : (blkL O y n).length ≤ n := by
  induction n with
  | zero => simp [blkL]
  | succ n ih => unfold blkL; split <;> simp <;> omega
theorem blkL_yes {O : List Int} {y : Int} {n : Nat} (h : O.getD n 0 = y) : blkL O y (n + 1) = blkL O y n ++ [(n : Int)] := by
  rw [show blkL O y (n + 1) = blkL O y n ++ (if O.getD n 0 = y then [(n : Int)] else []) from rfl, if_pos h]
theorem blkL_no {O : List Int} {y : Int} {n : Nat} (h : ¬ O.getD n 0 = y) : blkL O y (n + 1) = blkL O y n := by
  rw [show blkL O y (n + 1) = blkL O y n ++ (if O.getD n 0 = y then [(n : Int)] else []) from rfl, if_neg h, List.append_nil]
theorem blkL_none {O : List Int} {y : Int} {n : Nat} (h : ∀ u, u < n → ¬ O.getD u 0 = y) : blkL O y n = [] := by
  induction n with
  | zero => rfl
  | succ n ih => rw [blkL_no (h n (by omega)), ih (fun u hu => h u (by omega))]
/-- A row of the call's own is returned. -/
def RetL (P : List Int → Prop) (w : World) (e : Ending) (w' : World) : Prop := ∃ (l : List Int) (A : Option Addr) (c : Nat), e = .returned (.slice A l.length c) ∧ P l ∧ SlO w' w.heap.size w'.heap.size A c l ∧ Below w.heap.size w w'
theorem RetL.mk {P : List Int → Prop} {w w' : World} {e : Ending} {v : Value} {l : List Int} (he : e = .returned v) (hp : P l) (ho : Kd.R (Kd.int .i64) 3 w' w.heap.size (fun _ => True) v l) (hb : Below w.heap.size w w') : RetL P w e w' := by
  obtain ⟨A, c, rfl, h⟩ := SlO.of ho
  exact ⟨l, A, c, he, hp, h, hb⟩
set_option maxHeartbeats 2000000 in
set_option maxRecDepth 100000 in
theorem blocks_calls (s : Int) (A : Nat → Option Addr) (c : Nat → Nat) (L : Nat → List Int) (x : Int) (w : World) (h : BkC w A c L) (hl : ∀ i, (L i).length ≤ 1048576) (h0 : 0 ≤ x) (h4 : x ≤ 3) :
    Calls Try.prog 57 #[.agg (bkCells s A c L), .int .i64 x] w (RetL (fun l => l = blkL (L 5) (x + 1) (L 5).length) w) := by
  have HR := Aside0.mk h
  have hl5 : ((L 5).length : Int) ≤ 1048576 := by have := hl 5; omega
  clear h hl
  have HB := Aside0.mk (Below.refl w.heap.size w)
  go_enter Try.func57, Try.ntmps57
  go_wp2_with (first | ((with_reducible refine gate_dst (N := 2) rfl ?_); refine box_event rfl (N := 2) rfl (cs := bkCells s A c L) (t := 27) (by first | (go_simp; done) | (go_simp; rfl)) ?_; intro gb hggb w1 hbox hb; have n0_ := Aside0.mk (below_step HB.out hb); have BKgb := Aside0.mk hbox; have HGgb := Aside0.mk (show w.heap.size ≤ gb by rw [hggb]; exact HB.out.size); clear HB; have HB := n0_; have fgbs0 : w1.cell? ⟨gb, 0, none⟩ = some (.int .i64 _) := (blk_cell BKgb.out 0).trans rfl; have fgb1 : w1.cell? ⟨gb, 1, none⟩ = some (.slice (A 0) (L 0).length (c 0)) := (blk_cell BKgb.out 1).trans rfl; have fgb2 : w1.cell? ⟨gb, 2, none⟩ = some (.slice (A 1) (L 1).length (c 1)) := (blk_cell BKgb.out 2).trans rfl; have fgb3 : w1.cell? ⟨gb, 3, none⟩ = some (.slice (A 2) (L 2).length (c 2)) := (blk_cell BKgb.out 3).trans rfl; have fgb4 : w1.cell? ⟨gb, 4, none⟩ = some (.slice (A 3) (L 3).length (c 3)) := (blk_cell BKgb.out 4).trans rfl; have fgb5 : w1.cell? ⟨gb, 5, none⟩ = some (.slice (A 4) (L 4).length (c 4)) := (blk_cell BKgb.out 5).trans rfl; have fgb6 : w1.cell? ⟨gb, 6, none⟩ = some (.slice (A 5) (L 5).length (c 5)) := (blk_cell BKgb.out 6).trans rfl; have fgb7 : w1.cell? ⟨gb, 7, none⟩ = some (.slice (A 6) (L 6).length (c 6)) := (blk_cell BKgb.out 7).trans rfl; have fgb8 : w1.cell? ⟨gb, 8, none⟩ = some (.slice (A 7) (L 7).length (c 7)) := (blk_cell BKgb.out 8).trans rfl; have fgbz0 := blk_frozen BKgb.out 0; have fgbz1 := blk_frozen BKgb.out 1; have fgbz2 := blk_frozen BKgb.out 2; have fgbz3 := blk_frozen BKgb.out 3; have fgbz4 := blk_frozen BKgb.out 4; have fgbz5 := blk_frozen BKgb.out 5; have fgbz6 := blk_frozen BKgb.out 6; have fgbz7 := blk_frozen BKgb.out 7; have fgbz8 := blk_frozen BKgb.out 8; clear n0_ hbox hb hggb))
  go_loopg [5, 11] ((L 5).length + 1) (fun kq v5 v11 w' => ∃ u : Nat, u ≤ (L 5).length ∧ kq = (L 5).length + 1 - u ∧ v11 = .int .i64 u ∧ Aside0 (Kd.R (Kd.int .i64) 3 w' w.heap.size (fun _ => True) v5 (blkL (L 5) (x + 1) u)) ∧ Aside0 (w'.heap[gb]? = some (.cells (bkCells s A c L) 27 (0, 0))) ∧ Aside0 (Below w.heap.size w w'))
  case atStart => exact ⟨0, by omega, rfl, rfl, ⟨Kd.R_nil _ _ _ _ _⟩, BKgb, HB⟩
  case round =>
    clear HB BKgb
    clear fgbs0 fgbz0 fgb1 fgbz1 fgb2 fgbz2 fgb3 fgbz3 fgb4 fgbz4 fgb5 fgbz5 fgb6 fgbz6 fgb7 fgbz7 fgb8 fgbz8
    obtain ⟨u, hu, rfl, rfl, HO, BKgb, HB⟩ := hrel
    by_cases hlt : u < (L 5).length
    · have u0 : (0 : Int) ≤ (u : Int) := by omega
      have u1 : (u : Int) < ((L 5).length : Int) := by omega
      obtain ⟨ad5, o, ea5, hx5, HV⟩ := at_v ((HR.out 5 (by omega)).below HB.out) u hlt
      have HE5 := Aside0.mk ea5
      by_cases ho : o = x + 1
      · have HOY : Aside0 (blkL (L 5) (x + 1) (u + 1) = blkL (L 5) (x + 1) u ++ [(u : Int)]) := ⟨blkL_yes (by rw [HV.out]; exact ho)⟩
        have hob : (o == x + 1) = true := beq_iff_eq.mpr ho
        have HLEN := Aside0.mk (show (blkL (L 5) (x + 1) u).length ≤ 1048576 by have := blkL_len (L 5) (x + 1) u; omega)
        clear ho
        go_wp2_with (first | ((with_reducible refine gate_builtin (b := .append) (xs := #[.tmp 20, .tmp 22]) rfl ?_); at_builtin; refine Kd.R_append (Kd.int .i64) (w0 := w) w.heap.size rfl (.tmp 20) (.tmp 22) 24 3 (.int .i64 0) 8 rfl Try.underlying24 info3 rfl (by decide) (by omega) u5 (blkL (L 5) (x + 1) u) (u : Int) [.int .i64 (u : Int)] (fun _ => True) (fun _ => False) rfl rfl ?aP (fun _ hk => hk.elim) ?aF ?aO ?aB ?aS ?aL ?_; (case aP => exact rfl); (case aB => exact HB.out); (case aF => exact (fun _ _ => trivial)); (case aO => exact HO.out); (case aS => exact below_size HB.out); (case aL => have := HLEN.out; omega); intro v2 w2 ho hb hg hat; have BK2 := Aside0.mk (blk_grown BKgb.out hg (Kd.R_ne HO.out BKgb.out (by decide))); have HO2 := Aside0.mk ho; have HB2 := Aside0.mk hb; clear ho hb hg hat HO HB BKgb))
        try rw [← HE5.out]
        go_roundg ((L 5).length + 1 - (u + 1))
        case measure => omega
        case rel => exact ⟨u + 1, by omega, rfl, by go_num, ⟨by rw [HOY.out]; exact HO2.out⟩, BK2, HB2⟩
      · have HOY : Aside0 (blkL (L 5) (x + 1) (u + 1) = blkL (L 5) (x + 1) u) := ⟨blkL_no (by rw [HV.out]; exact ho)⟩
        have hob : (o == x + 1) = false := beq_eq_false_iff_ne.mpr ho
        clear ho
        go_wp2
        try rw [← HE5.out]
        go_roundg ((L 5).length + 1 - (u + 1))
        case measure => omega
        case rel => exact ⟨u + 1, by omega, rfl, by go_num, ⟨by rw [HOY.out]; exact HO.out⟩, BKgb, HB⟩
    · have hul : u = (L 5).length := by omega
      have HO3 := Aside0.mk (show Kd.R (Kd.int .i64) 3 wr w.heap.size (fun _ => True) u5 (blkL (L 5) (x + 1) (L 5).length) by rw [← hul]; exact HO.out)
      clear hul
      have hnu : ¬ (u : Int) < ((L 5).length : Int) := by omega
      go_wp2
      go_ret
      exact RetL.mk rfl rfl HO3.out HB.out
def OfP (s : Int) (L : Nat → List Int) (x : Int) (l : List Int) : Prop := (BookP s L → l = if 0 ≤ x ∧ x ≤ s - 1 then blkL (L 5) (x + 1) (L 5).length else []) ∧ (¬ BookP s L → l = [])
set_option maxHeartbeats 2000000 in
set_option maxRecDepth 100000 in
theorem implBookOf_calls (s : Int) (A : Nat → Option Addr) (c : Nat → Nat) (L : Nat → List Int) (x : Int) (w : World) (h : BkC w A c L) (hl : ∀ i, (L i).length ≤ 1048576) (hw : ∀ i, Wf64 (L i)) :
    Calls Try.prog 26 #[.agg (bkCells s A c L), .int .i64 x] w (RetL (OfP s L x) w) := by
  have HR := Aside0.mk h
  have HL := Aside0.mk hl
  have HL2 : Aside0 (∀ i, (L i).length ≤ 35184372088832) := ⟨fun i => by have := hl i; omega⟩
  have HW := Aside0.mk hw
  clear h hl hw
  have HB := Aside0.mk (Below.refl w.heap.size w)
  go_enter Try.func26, Try.ntmps26
  go_wp2_with (first | ((with_reducible refine gate_dst (N := 2) rfl ?_); refine box_event rfl (N := 2) rfl (cs := bkCells s A c L) (t := 27) (by first | (go_simp; done) | (go_simp; rfl)) ?_; intro gb hggb w1 hbox hb; have n0_ := Aside0.mk (below_step HB.out hb); have BKgb := Aside0.mk hbox; have HGgb := Aside0.mk (show w.heap.size ≤ gb by rw [hggb]; exact HB.out.size); clear HB; have HB := n0_; have fgbs0 : w1.cell? ⟨gb, 0, none⟩ = some (.int .i64 _) := (blk_cell BKgb.out 0).trans rfl; have fgb1 : w1.cell? ⟨gb, 1, none⟩ = some (.slice (A 0) (L 0).length (c 0)) := (blk_cell BKgb.out 1).trans rfl; have fgb2 : w1.cell? ⟨gb, 2, none⟩ = some (.slice (A 1) (L 1).length (c 1)) := (blk_cell BKgb.out 2).trans rfl; have fgb3 : w1.cell? ⟨gb, 3, none⟩ = some (.slice (A 2) (L 2).length (c 2)) := (blk_cell BKgb.out 3).trans rfl; have fgb4 : w1.cell? ⟨gb, 4, none⟩ = some (.slice (A 3) (L 3).length (c 3)) := (blk_cell BKgb.out 4).trans rfl; have fgb5 : w1.cell? ⟨gb, 5, none⟩ = some (.slice (A 4) (L 4).length (c 4)) := (blk_cell BKgb.out 5).trans rfl; have fgb6 : w1.cell? ⟨gb, 6, none⟩ = some (.slice (A 5) (L 5).length (c 5)) := (blk_cell BKgb.out 6).trans rfl; have fgb7 : w1.cell? ⟨gb, 7, none⟩ = some (.slice (A 6) (L 6).length (c 6)) := (blk_cell BKgb.out 7).trans rfl; have fgb8 : w1.cell? ⟨gb, 8, none⟩ = some (.slice (A 7) (L 7).length (c 7)) := (blk_cell BKgb.out 8).trans rfl; have fgbz0 := blk_frozen BKgb.out 0; have fgbz1 := blk_frozen BKgb.out 1; have fgbz2 := blk_frozen BKgb.out 2; have fgbz3 := blk_frozen BKgb.out 3; have fgbz4 := blk_frozen BKgb.out 4; have fgbz5 := blk_frozen BKgb.out 5; have fgbz6 := blk_frozen BKgb.out 6; have fgbz7 := blk_frozen BKgb.out 7; have fgbz8 := blk_frozen BKgb.out 8; clear n0_ hbox hb hggb))
  refine (implBookOk_calls s A c L _ (HR.out.below HB.out) HL2.out (HW.out 0) (HW.out 5)).mono ?_
  rintro e w3 ⟨r, rfl, hr, hb⟩
  have HRR : Aside0 (r = true ↔ BookP s L) := ⟨hr.trans (book_iff s L).symm⟩
  have HB3 := Aside0.mk (below_step HB.out hb)
  have BK3 := Aside0.mk (blk_below BKgb.out hb)
  clear HB BKgb hb hr
  clear fgbs0 fgbz0 fgb1 fgbz1 fgb2 fgbz2 fgb3 fgbz3 fgb4 fgbz4 fgb5 fgbz5 fgb6 fgbz6 fgb7 fgbz7 fgb8 fgbz8
  cases r with
  | false =>
    have HN : Aside0 (¬ BookP s L) := ⟨fun q => by have := HRR.out.mpr q; cases this⟩
    go_wp2
    go_ret
    exact RetL.mk (l := []) rfl ⟨fun q => absurd q HN.out, fun _ => rfl⟩ (Kd.R_nil _ _ _ _ _) HB3.out
  | true =>
    have HY : Aside0 (BookP s L) := ⟨HRR.out.mp rfl⟩
    have hs1 : 1 ≤ s := by have := HY.out.1.1.1; omega
    have hs4 : s ≤ 4 := by have := HY.out.1.1.2.1; omega
    have fgbs0 : w3.cell? ⟨gb, 0, none⟩ = some (.int .i64 _) := (blk_cell BK3.out 0).trans rfl; have fgb1 : w3.cell? ⟨gb, 1, none⟩ = some (.slice (A 0) (L 0).length (c 0)) := (blk_cell BK3.out 1).trans rfl; have fgb2 : w3.cell? ⟨gb, 2, none⟩ = some (.slice (A 1) (L 1).length (c 1)) := (blk_cell BK3.out 2).trans rfl; have fgb3 : w3.cell? ⟨gb, 3, none⟩ = some (.slice (A 2) (L 2).length (c 2)) := (blk_cell BK3.out 3).trans rfl; have fgb4 : w3.cell? ⟨gb, 4, none⟩ = some (.slice (A 3) (L 3).length (c 3)) := (blk_cell BK3.out 4).trans rfl; have fgb5 : w3.cell? ⟨gb, 5, none⟩ = some (.slice (A 4) (L 4).length (c 4)) := (blk_cell BK3.out 5).trans rfl; have fgb6 : w3.cell? ⟨gb, 6, none⟩ = some (.slice (A 5) (L 5).length (c 5)) := (blk_cell BK3.out 6).trans rfl; have fgb7 : w3.cell? ⟨gb, 7, none⟩ = some (.slice (A 6) (L 6).length (c 6)) := (blk_cell BK3.out 7).trans rfl; have fgb8 : w3.cell? ⟨gb, 8, none⟩ = some (.slice (A 7) (L 7).length (c 7)) := (blk_cell BK3.out 8).trans rfl; have fgbz0 := blk_frozen BK3.out 0; have fgbz1 := blk_frozen BK3.out 1; have fgbz2 := blk_frozen BK3.out 2; have fgbz3 := blk_frozen BK3.out 3; have fgbz4 := blk_frozen BK3.out 4; have fgbz5 := blk_frozen BK3.out 5; have fgbz6 := blk_frozen BK3.out 6; have fgbz7 := blk_frozen BK3.out 7; have fgbz8 := blk_frozen BK3.out 8
    by_cases hx : 0 ≤ x ∧ x ≤ s - 1
    · have hxb : withinB x 0 (s - 1) = true := within_t.mpr hx
      have HX := Aside0.mk hx
      obtain ⟨hx0, hx1⟩ := hx
      go_wp2_with fail
      refine (isSlot_calls s A c L x _ hs1 hs4).mono ?_
      rintro e w4 ⟨rfl, hb⟩
      have HB4 := Aside0.mk (below_step HB3.out hb)
      have BK4 := Aside0.mk (blk_below BK3.out hb)
      clear hb HB3 BK3
      clear fgbs0 fgbz0 fgb1 fgbz1 fgb2 fgbz2 fgb3 fgbz3 fgb4 fgbz4 fgb5 fgbz5 fgb6 fgbz6 fgb7 fgbz7 fgb8 fgbz8
      have fgbs0 : w4.cell? ⟨gb, 0, none⟩ = some (.int .i64 _) := (blk_cell BK4.out 0).trans rfl; have fgb1 : w4.cell? ⟨gb, 1, none⟩ = some (.slice (A 0) (L 0).length (c 0)) := (blk_cell BK4.out 1).trans rfl; have fgb2 : w4.cell? ⟨gb, 2, none⟩ = some (.slice (A 1) (L 1).length (c 1)) := (blk_cell BK4.out 2).trans rfl; have fgb3 : w4.cell? ⟨gb, 3, none⟩ = some (.slice (A 2) (L 2).length (c 2)) := (blk_cell BK4.out 3).trans rfl; have fgb4 : w4.cell? ⟨gb, 4, none⟩ = some (.slice (A 3) (L 3).length (c 3)) := (blk_cell BK4.out 4).trans rfl; have fgb5 : w4.cell? ⟨gb, 5, none⟩ = some (.slice (A 4) (L 4).length (c 4)) := (blk_cell BK4.out 5).trans rfl; have fgb6 : w4.cell? ⟨gb, 6, none⟩ = some (.slice (A 5) (L 5).length (c 5)) := (blk_cell BK4.out 6).trans rfl; have fgb7 : w4.cell? ⟨gb, 7, none⟩ = some (.slice (A 6) (L 6).length (c 6)) := (blk_cell BK4.out 7).trans rfl; have fgb8 : w4.cell? ⟨gb, 8, none⟩ = some (.slice (A 7) (L 7).length (c 7)) := (blk_cell BK4.out 8).trans rfl; have fgbz0 := blk_frozen BK4.out 0; have fgbz1 := blk_frozen BK4.out 1; have fgbz2 := blk_frozen BK4.out 2; have fgbz3 := blk_frozen BK4.out 3; have fgbz4 := blk_frozen BK4.out 4; have fgbz5 := blk_frozen BK4.out 5; have fgbz6 := blk_frozen BK4.out 6; have fgbz7 := blk_frozen BK4.out 7; have fgbz8 := blk_frozen BK4.out 8
      go_wp2_with fail
      refine (blocks_calls s A c L x _ (HR.out.below HB4.out) HL.out hx0 (by omega)).mono ?_
      rintro e w5 ⟨l, A', c', rfl, hl, ho, hb⟩
      have HB5 := Aside0.mk (below_step HB4.out hb)
      have HO5 := Aside0.mk (ho.wide HB4.out.size (Nat.le_refl _))
      have HLL := Aside0.mk hl
      clear hb ho hl
      go_wp2
      go_ret
      exact ⟨l, A', c', rfl, ⟨fun _ => by rw [if_pos HX.out]; exact HLL.out, fun q => absurd HY.out q⟩, HO5.out, HB5.out⟩
    · have hxb : withinB x 0 (s - 1) = false := within_f hx
      have HX := Aside0.mk hx
      clear hx
      go_wp2_with fail
      refine (isSlot_calls s A c L x _ hs1 hs4).mono ?_
      rintro e w4 ⟨rfl, hb⟩
      have HB4 := Aside0.mk (below_step HB3.out hb)
      clear hb
      go_wp2
      go_ret
      exact RetL.mk (l := []) rfl ⟨fun _ => by rw [if_neg HX.out], fun q => absurd HY.out q⟩ (Kd.R_nil _ _ _ _ _) HB4.out
set_option maxHeartbeats 2000000 in
set_option maxRecDepth 100000 in
theorem of_eq {s x : Int} {L : Nat → List Int} (h : BookP s L) (h0 : -9223372036854775808 ≤ x) (h1 : x ≤ 9223372036854775807) : (if 0 ≤ x then blkL (L 5) (wrap64 (x + 1)) (L 5).length else []) = if 0 ≤ x ∧ x ≤ s - 1 then blkL (L 5) (x + 1) (L 5).length else [] := by
  have hs4 : s ≤ 4 := by have := h.1.1.2.1; omega
  by_cases hx0 : 0 ≤ x
  · rw [if_pos hx0]
    by_cases hx1 : x ≤ s - 1
    · rw [if_pos ⟨hx0, hx1⟩, show wrap64 (x + 1) = x + 1 by unfold wrap64; omega]
    · rw [if_neg (fun q => hx1 q.2)]
      refine blkL_none fun u hu e => ?_
      have h2 := (h.1.2.2 u hu).1
      have h3 := (h.1.2.2 u hu).2.1
      rw [e] at h2 h3
      have : wrap64 (x + 1) = x + 1 ∨ wrap64 (x + 1) = -9223372036854775808 := by unfold wrap64; omega
      omega
  · rw [if_neg hx0, if_neg (fun q => hx0 q.1)]
set_option maxHeartbeats 2000000 in
set_option maxRecDepth 100000 in
theorem specBookOf_calls (s : Int) (A : Nat → Option Addr) (c : Nat → Nat) (L : Nat → List Int) (x : Int) (w : World) (h : BkC w A c L) (hl : ∀ i, (L i).length ≤ 1048576) (hw : ∀ i, Wf64 (L i)) (hxr : -9223372036854775808 ≤ x ∧ x ≤ 9223372036854775807) :
    Calls Try.prog 25 #[.agg (bkCells s A c L), .int .i64 x] w (RetL (OfP s L x) w) := by
  have HR := Aside0.mk h
  have HL := Aside0.mk hl
  have HL2 : Aside0 (∀ i, (L i).length ≤ 35184372088832) := ⟨fun i => by have := hl i; omega⟩
  have HW := Aside0.mk hw
  have HX := Aside0.mk hxr
  have hl5 : ((L 5).length : Int) ≤ 1048576 := by have := hl 5; omega
  obtain ⟨y, hy⟩ : ∃ y, wrap64 (x + 1) = y := ⟨_, rfl⟩
  have HYE := Aside0.mk hy
  clear h hl hw hxr
  have HB := Aside0.mk (Below.refl w.heap.size w)
  go_enter Try.func25, Try.ntmps25
  go_wp2_with (first | ((with_reducible refine gate_dst (N := 2) rfl ?_); refine box_event rfl (N := 2) rfl (cs := bkCells s A c L) (t := 27) (by first | (go_simp; done) | (go_simp; rfl)) ?_; intro gb hggb w1 hbox hb; have n0_ := Aside0.mk (below_step HB.out hb); have BKgb := Aside0.mk hbox; have HGgb := Aside0.mk (show w.heap.size ≤ gb by rw [hggb]; exact HB.out.size); clear HB; have HB := n0_; clear n0_ hbox hb hggb) | ((with_reducible refine gate_dst (N := 7) rfl ?_); refine Kd.R_lit (Kd.int .i64) _ 3 ?hg (N := 7) ?hd (xs := ([] : List Int)) (inner := []) (ok := fun _ => True) (okp := fun _ => True) ?hr ?hp (fun _ hk => hk) trivial (Below.refl _ _) (Nat.le_refl _) (by simp) ?_; (case hd => rfl); (case hg => rfl); (case hr => first | (go_simp; done) | (go_simp; rfl)); (case hp => exact (Reps.none _ _)); intro v0 w3 ho4 hb hg_ hnew_; clear hg_ hnew_; have HO := Aside0.mk (Kd.R_lower ho4 (below_size HB.out)); have HB2 := Aside0.mk (below_step HB.out hb); have BK2 := Aside0.mk (blk_below BKgb.out hb); clear hb ho4 HB BKgb))
  go_loopg [5, 6] ((L 5).length + 1) (fun kq v5 v6 w' => ∃ u : Nat, u ≤ (L 5).length ∧ kq = (L 5).length + 1 - u ∧ v6 = .int .i64 u ∧ Aside0 (¬ BookP s L → u = 0) ∧ Aside0 (Kd.R (Kd.int .i64) 3 w' w.heap.size (fun _ => True) v5 (if 0 ≤ x then blkL (L 5) y u else [])) ∧ Aside0 (w'.heap[gb]? = some (.cells (bkCells s A c L) 27 (0, 0))) ∧ Aside0 (Below w.heap.size w w'))
  case atStart => exact ⟨0, by omega, rfl, rfl, ⟨fun _ => rfl⟩, ⟨by rw [show (if 0 ≤ x then blkL (L 5) y 0 else []) = ([] : List Int) by split <;> rfl]; exact HO.out⟩, BK2, HB2⟩
  case round =>
    clear HO HB2 BK2
    obtain ⟨u, hu, rfl, rfl, HN0, HO, BKgb, HB⟩ := hrel
    have fgbs0 : wr.cell? ⟨gb, 0, none⟩ = some (.int .i64 _) := (blk_cell BKgb.out 0).trans rfl; have fgb1 : wr.cell? ⟨gb, 1, none⟩ = some (.slice (A 0) (L 0).length (c 0)) := (blk_cell BKgb.out 1).trans rfl; have fgb2 : wr.cell? ⟨gb, 2, none⟩ = some (.slice (A 1) (L 1).length (c 1)) := (blk_cell BKgb.out 2).trans rfl; have fgb3 : wr.cell? ⟨gb, 3, none⟩ = some (.slice (A 2) (L 2).length (c 2)) := (blk_cell BKgb.out 3).trans rfl; have fgb4 : wr.cell? ⟨gb, 4, none⟩ = some (.slice (A 3) (L 3).length (c 3)) := (blk_cell BKgb.out 4).trans rfl; have fgb5 : wr.cell? ⟨gb, 5, none⟩ = some (.slice (A 4) (L 4).length (c 4)) := (blk_cell BKgb.out 5).trans rfl; have fgb6 : wr.cell? ⟨gb, 6, none⟩ = some (.slice (A 5) (L 5).length (c 5)) := (blk_cell BKgb.out 6).trans rfl; have fgb7 : wr.cell? ⟨gb, 7, none⟩ = some (.slice (A 6) (L 6).length (c 6)) := (blk_cell BKgb.out 7).trans rfl; have fgb8 : wr.cell? ⟨gb, 8, none⟩ = some (.slice (A 7) (L 7).length (c 7)) := (blk_cell BKgb.out 8).trans rfl; have fgbz0 := blk_frozen BKgb.out 0; have fgbz1 := blk_frozen BKgb.out 1; have fgbz2 := blk_frozen BKgb.out 2; have fgbz3 := blk_frozen BKgb.out 3; have fgbz4 := blk_frozen BKgb.out 4; have fgbz5 := blk_frozen BKgb.out 5; have fgbz6 := blk_frozen BKgb.out 6; have fgbz7 := blk_frozen BKgb.out 7; have fgbz8 := blk_frozen BKgb.out 8
    go_wp2_with fail
    refine (specBookOk_calls s A c L _ (HR.out.below HB.out) HL2.out (HW.out 0)).mono ?_
    rintro e w3 ⟨r, rfl, hr, hb⟩
    have HRR := Aside0.mk hr
    have HB3 := Aside0.mk (below_step HB.out hb)
    have BK3 := Aside0.mk (blk_below BKgb.out hb)
    have HO3 := Aside0.mk (Kd.R_below HO.out hb)
    clear HB BKgb hb hr HO
    clear fgbs0 fgbz0 fgb1 fgbz1 fgb2 fgbz2 fgb3 fgbz3 fgb4 fgbz4 fgb5 fgbz5 fgb6 fgbz6 fgb7 fgbz7 fgb8 fgbz8
    have HB := HB3
    have BKgb := BK3
    have HO := HO3
    clear HB3 BK3 HO3
    cases r with
    | false =>
      have HN : Aside0 (¬ BookP s L) := ⟨fun q => by have := HRR.out.mpr q; cases this⟩
      have HO3 := Aside0.mk (show Kd.R (Kd.int .i64) 3 w3 w.heap.size (fun _ => True) u5 [] by have := HO.out; rw [HN0.out HN.out, show (if 0 ≤ x then blkL (L 5) y 0 else []) = ([] : List Int) by split <;> rfl] at this; exact this)
      go_wp2
      go_ret
      exact RetL.mk rfl ⟨fun q => absurd q HN.out, fun _ => rfl⟩ HO3.out HB.out
    | true =>
      have HY : Aside0 (BookP s L) := ⟨HRR.out.mp rfl⟩
      by_cases hlt : u < (L 5).length
      · have u0 : (0 : Int) ≤ (u : Int) := by omega
        have u1 : (u : Int) < ((L 5).length : Int) := by omega
        obtain ⟨ad5, o, ea5, hx5, HV⟩ := at_v ((HR.out 5 (by omega)).below HB.out) u hlt
        have hc6 : w3.cell? ⟨gb, 6, none⟩ = some (.slice (some ad5) (L 5).length (c 5)) := (blk_cell BKgb.out 6).trans (by rw [← ea5]; rfl)
        have hz6 := blk_frozen BKgb.out 6
        clear ea5
        have HNN : Aside0 (¬ BookP s L → u + 1 = 0) := ⟨fun q => absurd HY.out q⟩
        by_cases ho : o = y
        · have hob : (o == y) = true := beq_iff_eq.mpr ho
          by_cases hx0 : 0 ≤ x
          · have HOY : Aside0 ((if 0 ≤ x then blkL (L 5) y (u + 1) else []) = blkL (L 5) y u ++ [(u : Int)]) := ⟨by rw [if_pos hx0]; exact blkL_yes (by rw [HV.out]; exact ho)⟩
            have HO1 := Aside0.mk (show Kd.R (Kd.int .i64) 3 w3 w.heap.size (fun _ => True) u5 (blkL (L 5) y u) by have := HO.out; rw [if_pos hx0] at this; exact this)
            clear HO ho
            have HO := HO1
            clear HO1
            have HLEN := Aside0.mk (show (blkL (L 5) y u).length ≤ 1048576 by have := blkL_len (L 5) y u; omega)
            go_wp2_with (first | ((with_reducible refine gate_builtin (b := .append) (xs := #[.tmp 31, .tmp 33]) rfl ?_); at_builtin; refine Kd.R_append (Kd.int .i64) (w0 := w) w.heap.size rfl (.tmp 31) (.tmp 33) 24 3 (.int .i64 0) 8 rfl Try.underlying24 info3 rfl (by decide) (by omega) u5 (blkL (L 5) y u) (u : Int) [.int .i64 (u : Int)] (fun _ => True) (fun _ => False) rfl rfl ?aP (fun _ hk => hk.elim) ?aF ?aO ?aB ?aS ?aL ?_; (case aP => exact rfl); (case aB => exact HB.out); (case aF => exact (fun _ _ => trivial)); (case aO => exact HO.out); (case aS => exact below_size HB.out); (case aL => have := HLEN.out; omega); intro v2 w2 ho hb hg hat; have BK2 := Aside0.mk (blk_grown BKgb.out hg (Kd.R_ne HO.out BKgb.out (by decide))); have HO2 := Aside0.mk ho; have HB2 := Aside0.mk hb; clear ho hb hg hat HO HB BKgb))
            go_roundg ((L 5).length + 1 - (u + 1))
            case measure => omega
            case rel => exact ⟨u + 1, by omega, rfl, by go_num, HNN, ⟨by rw [HOY.out]; exact HO2.out⟩, BK2, HB2⟩
          · have HOY : Aside0 ((if 0 ≤ x then blkL (L 5) y (u + 1) else []) = (if 0 ≤ x then blkL (L 5) y u else [])) := ⟨by rw [if_neg hx0, if_neg hx0]⟩
            clear ho
            go_wp2
            go_roundg ((L 5).length + 1 - (u + 1))
            case measure => omega
            case rel => exact ⟨u + 1, by omega, rfl, by go_num, HNN, ⟨by rw [HOY.out]; exact HO.out⟩, BKgb, HB⟩
        · have HOY : Aside0 ((if 0 ≤ x then blkL (L 5) y (u + 1) else []) = (if 0 ≤ x then blkL (L 5) y u else [])) := ⟨by rw [blkL_no (by rw [HV.out]; exact ho)]⟩
          have hob : (o == y) = false := beq_eq_false_iff_ne.mpr ho
          clear ho
          go_wp2
          go_roundg ((L 5).length + 1 - (u + 1))
          case measure => omega
          case rel => exact ⟨u + 1, by omega, rfl, by go_num, HNN, ⟨by rw [HOY.out]; exact HO.out⟩, BKgb, HB⟩
      · have hul : u = (L 5).length := by omega
        have HO3 := Aside0.mk (show Kd.R (Kd.int .i64) 3 w3 w.heap.size (fun _ => True) u5 (if 0 ≤ x then blkL (L 5) y (L 5).length else []) by rw [← hul]; exact HO.out)
        have HFN : Aside0 ((if 0 ≤ x then blkL (L 5) y (L 5).length else []) = if 0 ≤ x ∧ x ≤ s - 1 then blkL (L 5) (x + 1) (L 5).length else []) := ⟨by rw [← HYE.out]; exact of_eq HY.out HX.out.1 HX.out.2⟩
        clear hul
        have hnu : ¬ (u : Int) < ((L 5).length : Int) := by omega
        have fgbs0 : w3.cell? ⟨gb, 0, none⟩ = some (.int .i64 _) := (blk_cell BKgb.out 0).trans rfl; have fgb1 : w3.cell? ⟨gb, 1, none⟩ = some (.slice (A 0) (L 0).length (c 0)) := (blk_cell BKgb.out 1).trans rfl; have fgb2 : w3.cell? ⟨gb, 2, none⟩ = some (.slice (A 1) (L 1).length (c 1)) := (blk_cell BKgb.out 2).trans rfl; have fgb3 : w3.cell? ⟨gb, 3, none⟩ = some (.slice (A 2) (L 2).length (c 2)) := (blk_cell BKgb.out 3).trans rfl; have fgb4 : w3.cell? ⟨gb, 4, none⟩ = some (.slice (A 3) (L 3).length (c 3)) := (blk_cell BKgb.out 4).trans rfl; have fgb5 : w3.cell? ⟨gb, 5, none⟩ = some (.slice (A 4) (L 4).length (c 4)) := (blk_cell BKgb.out 5).trans rfl; have fgb6 : w3.cell? ⟨gb, 6, none⟩ = some (.slice (A 5) (L 5).length (c 5)) := (blk_cell BKgb.out 6).trans rfl; have fgb7 : w3.cell? ⟨gb, 7, none⟩ = some (.slice (A 6) (L 6).length (c 6)) := (blk_cell BKgb.out 7).trans rfl; have fgb8 : w3.cell? ⟨gb, 8, none⟩ = some (.slice (A 7) (L 7).length (c 7)) := (blk_cell BKgb.out 8).trans rfl; have fgbz0 := blk_frozen BKgb.out 0; have fgbz1 := blk_frozen BKgb.out 1; have fgbz2 := blk_frozen BKgb.out 2; have fgbz3 := blk_frozen BKgb.out 3; have fgbz4 := blk_frozen BKgb.out 4; have fgbz5 := blk_frozen BKgb.out 5; have fgbz6 := blk_frozen BKgb.out 6; have fgbz7 := blk_frozen BKgb.out 7; have fgbz8 := blk_frozen BKgb.out 8
        go_wp2
        go_ret
        exact RetL.mk rfl ⟨fun _ => HFN.out, fun q => absurd HY.out q⟩ HO3.out HB.out
theorem OfP.one {s : Int} {L : Nat → List Int} {x : Int} {l l' : List Int} (h : OfP s L x l) (h' : OfP s L x l') : l = l' := by
  by_cases q : BookP s L
  · rw [h.1 q, h'.1 q]
  · rw [h.2 q, h'.2 q]
theorem OfP.len {s : Int} {L : Nat → List Int} {x : Int} {l : List Int} (h : OfP s L x l) : l.length ≤ (L 5).length := by
  by_cases q : BookP s L
  · rw [h.1 q]
    split
    · exact blkL_len _ _ _
    · simp
  · rw [h.2 q]; simp


theorem SlO.kept {w w1 : World} {lo hi lo' hi' : Nat} {A : Option Addr} {c : Nat} {l : List Int} (h : SlO w lo hi A c l) (hk : Keep lo' hi' w w1) (hd : hi ≤ lo' ∨ hi' ≤ lo) : SlO w1 lo hi A c l := h.move fun k h1 h2 h3 => hk.block k h3 (by omega)
theorem off8_le {L : Nat → List Int} (h : ∀ i, (L i).length ≤ 1048576) : off L 8 ≤ 8388608 := by
  have h0 := h 0
  have h1 := h 1
  have h2 := h 2
  have h3 := h 3
  have h4 := h 4
  have h5 := h 5
  have h6 := h 6
  have h7 := h 7
  simp only [off]
  omega
set_option maxHeartbeats 8000000 in
set_option maxRecDepth 100000 in
theorem lawBookOf_calls (s : Int) (A : Nat → Option Addr) (c : Nat → Nat) (L : Nat → List Int) (x : Int) (w : World) (h : BkC w A c L) (hl : ∀ i, (L i).length ≤ 9223372036854775807) (h8 : ∀ i, 8 ≤ i → L i = []) (hw : ∀ i, Wf64 (L i)) (hx : -9223372036854775808 ≤ x ∧ x ≤ 9223372036854775807) :
    Calls Try.prog 7 #[.agg (bkCells s A c L), .int .i64 x] w fun e w' => e = .returned (.bool true) ∧ Below w.heap.size w w' := by
  have HR := Aside0.mk h
  have HL := Aside0.mk hl
  have HW := Aside0.mk hw
  have HX := Aside0.mk hx
  have HN : Aside0 (0 ≤ szB L 1048576 → ∀ i, (L i).length ≤ 1048576) := ⟨fun q => (szB_nn L 1048576 (by omega) h8 q).1⟩
  obtain ⟨z, hz⟩ : ∃ z, szB L 1048576 = z := ⟨_, rfl⟩
  rw [hz] at HN
  have HZ := Aside0.mk hz
  clear h hl h8 hw hz hx
  have HB := Aside0.mk (Below.refl w.heap.size w)
  by_cases hz0 : z < 0
  · go_enter Try.func7, Try.ntmps7
    go_wp2_with (first | ((with_reducible refine gate_dst (N := 2) rfl ?_); refine box_event rfl (N := 2) rfl (cs := bkCells s A c L) (t := 34) (by first | (go_simp; done) | (go_simp; rfl)) ?_; intro gb hggb w1 hbox hb; have n0_ := Aside0.mk (below_step HB.out hb); have BKgb := Aside0.mk hbox; have HGgb := Aside0.mk (show w.heap.size ≤ gb by rw [hggb]; exact HB.out.size); clear HB; have HB := n0_; have fgbs0 : w1.cell? ⟨gb, 0, none⟩ = some (.int .i64 _) := (blk_cell BKgb.out 0).trans rfl; have fgb1 : w1.cell? ⟨gb, 1, none⟩ = some (.slice (A 0) (L 0).length (c 0)) := (blk_cell BKgb.out 1).trans rfl; have fgb2 : w1.cell? ⟨gb, 2, none⟩ = some (.slice (A 1) (L 1).length (c 1)) := (blk_cell BKgb.out 2).trans rfl; have fgb3 : w1.cell? ⟨gb, 3, none⟩ = some (.slice (A 2) (L 2).length (c 2)) := (blk_cell BKgb.out 3).trans rfl; have fgb4 : w1.cell? ⟨gb, 4, none⟩ = some (.slice (A 3) (L 3).length (c 3)) := (blk_cell BKgb.out 4).trans rfl; have fgb5 : w1.cell? ⟨gb, 5, none⟩ = some (.slice (A 4) (L 4).length (c 4)) := (blk_cell BKgb.out 5).trans rfl; have fgb6 : w1.cell? ⟨gb, 6, none⟩ = some (.slice (A 5) (L 5).length (c 5)) := (blk_cell BKgb.out 6).trans rfl; have fgb7 : w1.cell? ⟨gb, 7, none⟩ = some (.slice (A 6) (L 6).length (c 6)) := (blk_cell BKgb.out 7).trans rfl; have fgb8 : w1.cell? ⟨gb, 8, none⟩ = some (.slice (A 7) (L 7).length (c 7)) := (blk_cell BKgb.out 8).trans rfl; have fgbz0 := blk_frozen BKgb.out 0; have fgbz1 := blk_frozen BKgb.out 1; have fgbz2 := blk_frozen BKgb.out 2; have fgbz3 := blk_frozen BKgb.out 3; have fgbz4 := blk_frozen BKgb.out 4; have fgbz5 := blk_frozen BKgb.out 5; have fgbz6 := blk_frozen BKgb.out 6; have fgbz7 := blk_frozen BKgb.out 7; have fgbz8 := blk_frozen BKgb.out 8; clear n0_ hbox hb hggb) | (go_at_call 17; refine (szBook_calls s A c L 1048576 _ (by omega) (by omega) HL.out).mono ?_; rintro e w2 ⟨rfl, hb⟩; rw [HZ.out]; have HB2 := Aside0.mk (below_step HB.out hb); clear hb HB; have HB := HB2; clear HB2))
    go_ret
    exact ⟨rfl, HB.out⟩
  have hz1 := nn_of hz0
  have HM : Aside0 (∀ i, (L i).length ≤ 1048576) := ⟨HN.out hz1⟩
  have HM2 : Aside0 (∀ i, (L i).length ≤ 35184372088832) := ⟨fun i => by have := HM.out i; omega⟩
  clear HN hz0
  go_enter Try.func7, Try.ntmps7
  go_wp2_with (first | ((with_reducible refine gate_dst (N := 2) rfl ?_); refine box_event rfl (N := 2) rfl (cs := bkCells s A c L) (t := 34) (by first | (go_simp; done) | (go_simp; rfl)) ?_; intro gb hggb w1 hbox hb; have n0_ := Aside0.mk (below_step HB.out hb); have BKgb := Aside0.mk hbox; have HGgb := Aside0.mk (show w.heap.size ≤ gb by rw [hggb]; exact HB.out.size); clear HB; have HB := n0_; have fgbs0 : w1.cell? ⟨gb, 0, none⟩ = some (.int .i64 _) := (blk_cell BKgb.out 0).trans rfl; have fgb1 : w1.cell? ⟨gb, 1, none⟩ = some (.slice (A 0) (L 0).length (c 0)) := (blk_cell BKgb.out 1).trans rfl; have fgb2 : w1.cell? ⟨gb, 2, none⟩ = some (.slice (A 1) (L 1).length (c 1)) := (blk_cell BKgb.out 2).trans rfl; have fgb3 : w1.cell? ⟨gb, 3, none⟩ = some (.slice (A 2) (L 2).length (c 2)) := (blk_cell BKgb.out 3).trans rfl; have fgb4 : w1.cell? ⟨gb, 4, none⟩ = some (.slice (A 3) (L 3).length (c 3)) := (blk_cell BKgb.out 4).trans rfl; have fgb5 : w1.cell? ⟨gb, 5, none⟩ = some (.slice (A 4) (L 4).length (c 4)) := (blk_cell BKgb.out 5).trans rfl; have fgb6 : w1.cell? ⟨gb, 6, none⟩ = some (.slice (A 5) (L 5).length (c 5)) := (blk_cell BKgb.out 6).trans rfl; have fgb7 : w1.cell? ⟨gb, 7, none⟩ = some (.slice (A 6) (L 6).length (c 6)) := (blk_cell BKgb.out 7).trans rfl; have fgb8 : w1.cell? ⟨gb, 8, none⟩ = some (.slice (A 7) (L 7).length (c 7)) := (blk_cell BKgb.out 8).trans rfl; have fgbz0 := blk_frozen BKgb.out 0; have fgbz1 := blk_frozen BKgb.out 1; have fgbz2 := blk_frozen BKgb.out 2; have fgbz3 := blk_frozen BKgb.out 3; have fgbz4 := blk_frozen BKgb.out 4; have fgbz5 := blk_frozen BKgb.out 5; have fgbz6 := blk_frozen BKgb.out 6; have fgbz7 := blk_frozen BKgb.out 7; have fgbz8 := blk_frozen BKgb.out 8; clear n0_ hbox hb hggb))
  refine (szBook_calls s A c L 1048576 _ (by omega) (by omega) HL.out).mono ?_
  rintro e w2 ⟨rfl, hb⟩
  rw [HZ.out]
  clear fgbs0 fgbz0 fgb1 fgbz1 fgb2 fgbz2 fgb3 fgbz3 fgb4 fgbz4 fgb5 fgbz5 fgb6 fgbz6 fgb7 fgbz7 fgb8 fgbz8
  have HBn := Aside0.mk (below_step HB.out hb)
  have BKgbn := Aside0.mk (blk_below BKgb.out hb)
  clear HB BKgb
  have HB := HBn
  have BKgb := BKgbn
  clear HBn BKgbn
  have HGB : Aside0 (gb < w2.heap.size) := ⟨blk_lt BKgb.out⟩
  clear hb
  have fgbs0 : w2.cell? ⟨gb, 0, none⟩ = some (.int .i64 _) := (blk_cell BKgb.out 0).trans rfl; have fgb1 : w2.cell? ⟨gb, 1, none⟩ = some (.slice (A 0) (L 0).length (c 0)) := (blk_cell BKgb.out 1).trans rfl; have fgb2 : w2.cell? ⟨gb, 2, none⟩ = some (.slice (A 1) (L 1).length (c 1)) := (blk_cell BKgb.out 2).trans rfl; have fgb3 : w2.cell? ⟨gb, 3, none⟩ = some (.slice (A 2) (L 2).length (c 2)) := (blk_cell BKgb.out 3).trans rfl; have fgb4 : w2.cell? ⟨gb, 4, none⟩ = some (.slice (A 3) (L 3).length (c 3)) := (blk_cell BKgb.out 4).trans rfl; have fgb5 : w2.cell? ⟨gb, 5, none⟩ = some (.slice (A 4) (L 4).length (c 4)) := (blk_cell BKgb.out 5).trans rfl; have fgb6 : w2.cell? ⟨gb, 6, none⟩ = some (.slice (A 5) (L 5).length (c 5)) := (blk_cell BKgb.out 6).trans rfl; have fgb7 : w2.cell? ⟨gb, 7, none⟩ = some (.slice (A 6) (L 6).length (c 6)) := (blk_cell BKgb.out 7).trans rfl; have fgb8 : w2.cell? ⟨gb, 8, none⟩ = some (.slice (A 7) (L 7).length (c 7)) := (blk_cell BKgb.out 8).trans rfl; have fgbz0 := blk_frozen BKgb.out 0; have fgbz1 := blk_frozen BKgb.out 1; have fgbz2 := blk_frozen BKgb.out 2; have fgbz3 := blk_frozen BKgb.out 3; have fgbz4 := blk_frozen BKgb.out 4; have fgbz5 := blk_frozen BKgb.out 5; have fgbz6 := blk_frozen BKgb.out 6; have fgbz7 := blk_frozen BKgb.out 7; have fgbz8 := blk_frozen BKgb.out 8
  go_wp2_with fail
  refine (toBook_calls s A c L _ (HR.out.below HB.out) HM2.out).mono ?_
  rintro e w3 ⟨A1, c1, rfl, ho, hb⟩
  clear fgbs0 fgbz0 fgb1 fgbz1 fgb2 fgbz2 fgb3 fgbz3 fgb4 fgbz4 fgb5 fgbz5 fgb6 fgbz6 fgb7 fgbz7 fgb8 fgbz8
  have HBn := Aside0.mk (below_step HB.out hb)
  have BKgbn := Aside0.mk (blk_below BKgb.out hb)
  clear HB BKgb
  have HB := HBn
  have BKgb := BKgbn
  clear HBn BKgbn
  have HGB3 : Aside0 (gb < w3.heap.size) := ⟨blk_lt BKgb.out⟩
  have HO1 := Aside0.mk ho.c
  clear hb ho
  go_wp2_with fail
  refine (specBookOf_calls s A1 c1 L x _ HO1.out HM.out HW.out HX.out).mono ?_
  rintro e w4 ⟨l0, A0, c0, rfl, hp0, ho0, hb⟩
  have HP0 := Aside0.mk hp0
  have H0 := Aside0.mk ho0
  have HI0 : Aside0 (w.heap.size ≤ w3.heap.size) := ⟨HB.out.size⟩
  have HBn := Aside0.mk (below_step HB.out hb)
  have BKgbn := Aside0.mk (blk_below BKgb.out hb)
  clear HB BKgb
  have HB := HBn
  have BKgb := BKgbn
  clear HBn BKgbn
  have HS34 : Aside0 (w3.heap.size ≤ w4.heap.size) := ⟨hb.size⟩
  have HS4 : Aside0 (w.heap.size ≤ w4.heap.size) := ⟨HB.out.size⟩
  clear hb ho0 hp0 HO1
  have fgbs0 : w4.cell? ⟨gb, 0, none⟩ = some (.int .i64 _) := (blk_cell BKgb.out 0).trans rfl; have fgb1 : w4.cell? ⟨gb, 1, none⟩ = some (.slice (A 0) (L 0).length (c 0)) := (blk_cell BKgb.out 1).trans rfl; have fgb2 : w4.cell? ⟨gb, 2, none⟩ = some (.slice (A 1) (L 1).length (c 1)) := (blk_cell BKgb.out 2).trans rfl; have fgb3 : w4.cell? ⟨gb, 3, none⟩ = some (.slice (A 2) (L 2).length (c 2)) := (blk_cell BKgb.out 3).trans rfl; have fgb4 : w4.cell? ⟨gb, 4, none⟩ = some (.slice (A 3) (L 3).length (c 3)) := (blk_cell BKgb.out 4).trans rfl; have fgb5 : w4.cell? ⟨gb, 5, none⟩ = some (.slice (A 4) (L 4).length (c 4)) := (blk_cell BKgb.out 5).trans rfl; have fgb6 : w4.cell? ⟨gb, 6, none⟩ = some (.slice (A 5) (L 5).length (c 5)) := (blk_cell BKgb.out 6).trans rfl; have fgb7 : w4.cell? ⟨gb, 7, none⟩ = some (.slice (A 6) (L 6).length (c 6)) := (blk_cell BKgb.out 7).trans rfl; have fgb8 : w4.cell? ⟨gb, 8, none⟩ = some (.slice (A 7) (L 7).length (c 7)) := (blk_cell BKgb.out 8).trans rfl; have fgbz0 := blk_frozen BKgb.out 0; have fgbz1 := blk_frozen BKgb.out 1; have fgbz2 := blk_frozen BKgb.out 2; have fgbz3 := blk_frozen BKgb.out 3; have fgbz4 := blk_frozen BKgb.out 4; have fgbz5 := blk_frozen BKgb.out 5; have fgbz6 := blk_frozen BKgb.out 6; have fgbz7 := blk_frozen BKgb.out 7; have fgbz8 := blk_frozen BKgb.out 8
  go_wp2_with fail
  refine (toBook_calls s A c L _ (HR.out.below HB.out) HM2.out).mono ?_
  rintro e w5 ⟨A2, c2, rfl, ho, hb⟩
  have HX2 := Aside0.mk ho
  have HBn := Aside0.mk (below_step HB.out hb)
  have H0n := Aside0.mk (H0.out.below hb)
  have BKgbn := Aside0.mk (blk_below BKgb.out hb)
  clear HB H0 BKgb
  have HB := HBn
  have H0 := H0n
  have BKgb := BKgbn
  clear HBn H0n BKgbn
  have HS45 : Aside0 (w4.heap.size ≤ w5.heap.size) := ⟨hb.size⟩
  clear hb ho
  clear fgbs0 fgbz0 fgb1 fgbz1 fgb2 fgbz2 fgb3 fgbz3 fgb4 fgbz4 fgb5 fgbz5 fgb6 fgbz6 fgb7 fgbz7 fgb8 fgbz8
  go_wp2_with (first | ((with_reducible refine gate_dst (N := 7) rfl ?_); refine box_event rfl (N := 7) rfl (cs := #[.int .i64 0, .slice none 0 0, .slice none 0 0, .slice none 0 0, .slice none 0 0, .slice none 0 0, .slice none 0 0, .slice none 0 0, .slice none 0 0]) (t := 27) (by first | (go_simp; done) | (go_simp; rfl)) ?_; intro gx hggx w6 hbox hb; have n0_ := Aside0.mk (below_step HB.out hb); have BKgx := Aside0.mk hbox; have HGgx := Aside0.mk (show w.heap.size ≤ gx by rw [hggx]; exact HB.out.size); clear HB; have HB := n0_; have HGX : Aside0 (w5.heap.size ≤ gx) := ⟨by omega⟩; have NE := Aside0.mk (show gb ≠ gx by have := blk_lt BKgb.out; omega); have BKgb2 := Aside0.mk (blk_below BKgb.out hb); have HX22 := Aside0.mk (BkO.below HX2.out hb); have H02 := Aside0.mk (H0.out.below hb); clear BKgb HX2 H0; clear n0_ hbox hb hggx) | ((with_reducible refine gate_store (t := 27) (p := 7) rfl ?_); refine store_event (t := 27) (p := 7) (v := ?vo_1) (w1 := w6.setRow gx (bkCells s A2 c2 L)) ?hg ?ho ?hn ?hr ?_; (case ho => rfl); (case hg => rfl); (case hn => rfl); (case hr => exact (Row.store_row_run (g := gx) (cells := bkCells s A2 c2 L) (t := 27) (old := #[.int .i64 0, .slice none 0 0, .slice none 0 0, .slice none 0 0, .slice none 0 0, .slice none 0 0, .slice none 0 0, .slice none 0 0, .slice none 0 0]) rfl (by rfl) (by rfl) BKgx.out (by kernel_rfl) rfl (by simp [Value.oneCell']))); intro w7 hw; have HB7 := Aside0.mk (Row.row_below hw HB.out HGgx.out); have BKgx7 := Aside0.mk (Row.row_here hw BKgx.out); have BKgb7 := Aside0.mk (Row.row_there hw BKgb2.out NE.out); have HX27 := Aside0.mk (show BkO w7 w4.heap.size w5.heap.size A2 c2 L by rw [hw]; exact VO.row HX22.out BKgx.out (by decide) _); have H07 := Aside0.mk (show SlO w7 w3.heap.size w4.heap.size A0 c0 l0 by rw [hw]; exact H02.out.row BKgx.out (by decide) _); clear HB BKgx BKgb2 HX22 H02; have fgxs0 : w7.cell? ⟨gx, 0, none⟩ = some (.int .i64 _) := (blk_cell BKgx7.out 0).trans rfl; have fgx1 : w7.cell? ⟨gx, 1, none⟩ = some (.slice (A2 0) (L 0).length (c2 0)) := (blk_cell BKgx7.out 1).trans rfl; have fgx2 : w7.cell? ⟨gx, 2, none⟩ = some (.slice (A2 1) (L 1).length (c2 1)) := (blk_cell BKgx7.out 2).trans rfl; have fgx3 : w7.cell? ⟨gx, 3, none⟩ = some (.slice (A2 2) (L 2).length (c2 2)) := (blk_cell BKgx7.out 3).trans rfl; have fgx4 : w7.cell? ⟨gx, 4, none⟩ = some (.slice (A2 3) (L 3).length (c2 3)) := (blk_cell BKgx7.out 4).trans rfl; have fgx5 : w7.cell? ⟨gx, 5, none⟩ = some (.slice (A2 4) (L 4).length (c2 4)) := (blk_cell BKgx7.out 5).trans rfl; have fgx6 : w7.cell? ⟨gx, 6, none⟩ = some (.slice (A2 5) (L 5).length (c2 5)) := (blk_cell BKgx7.out 6).trans rfl; have fgx7 : w7.cell? ⟨gx, 7, none⟩ = some (.slice (A2 6) (L 6).length (c2 6)) := (blk_cell BKgx7.out 7).trans rfl; have fgx8 : w7.cell? ⟨gx, 8, none⟩ = some (.slice (A2 7) (L 7).length (c2 7)) := (blk_cell BKgx7.out 8).trans rfl; have fgxz0 := blk_frozen BKgx7.out 0; have fgxz1 := blk_frozen BKgx7.out 1; have fgxz2 := blk_frozen BKgx7.out 2; have fgxz3 := blk_frozen BKgx7.out 3; have fgxz4 := blk_frozen BKgx7.out 4; have fgxz5 := blk_frozen BKgx7.out 5; have fgxz6 := blk_frozen BKgx7.out 6; have fgxz7 := blk_frozen BKgx7.out 7; have fgxz8 := blk_frozen BKgx7.out 8; clear hw))
  have HB := HB7
  have BKgx := BKgx7
  have BKgb := BKgb7
  have HX2 := HX27
  have H0 := H07
  clear HB7 BKgx7 BKgb7 HX27 H07
  have HS57 : Aside0 (w5.heap.size ≤ w7.heap.size) := ⟨by have := HGX.out; have := blk_lt BKgx.out; omega⟩
  refine (implBookOf_calls s A2 c2 L x _ HX2.out.c HM.out HW.out).mono ?_
  rintro e w8 ⟨l1, A3, c3, rfl, hp1, ho1, hb⟩
  obtain rfl : l1 = l0 := hp1.one HP0.out
  have HLN : Aside0 (l1.length ≤ 1048576) := ⟨by have := hp1.len; have := HM.out 5; omega⟩
  have H1 := Aside0.mk ho1
  clear fgxs0 fgxz0 fgx1 fgxz1 fgx2 fgxz2 fgx3 fgxz3 fgx4 fgxz4 fgx5 fgxz5 fgx6 fgxz6 fgx7 fgxz7 fgx8 fgxz8
  have HBn := Aside0.mk (below_step HB.out hb)
  have H0n := Aside0.mk (H0.out.below hb)
  have HX2n := Aside0.mk (BkO.below HX2.out hb)
  have BKgbn := Aside0.mk (blk_below BKgb.out hb)
  have BKgxn := Aside0.mk (blk_below BKgx.out hb)
  clear HB H0 HX2 BKgb BKgx
  have HB := HBn
  have H0 := H0n
  have HX2 := HX2n
  have BKgb := BKgbn
  have BKgx := BKgxn
  clear HBn H0n HX2n BKgbn BKgxn
  clear hb ho1 hp1
  go_wp2_with fail
  refine (eqIntS_same _ _ _ _ _ _ H1.out.c H0.out.c (by have := HLN.out; omega)).mono ?_
  rintro e w9 ⟨rfl, hd⟩
  have hb := hd.below
  have HBn := Aside0.mk (below_step HB.out hb)
  have H0n := Aside0.mk (H0.out.below hb)
  have H1n := Aside0.mk (H1.out.below hb)
  have HX2n := Aside0.mk (BkO.below HX2.out hb)
  have BKgbn := Aside0.mk (blk_below BKgb.out hb)
  have BKgxn := Aside0.mk (blk_below BKgx.out hb)
  clear HB H0 H1 HX2 BKgb BKgx
  have HB := HBn
  have H0 := H0n
  have H1 := H1n
  have HX2 := HX2n
  have BKgb := BKgbn
  have BKgx := BKgxn
  clear HBn H0n H1n HX2n BKgbn BKgxn
  clear hb hd
  have fgbs0 : w9.cell? ⟨gb, 0, none⟩ = some (.int .i64 _) := (blk_cell BKgb.out 0).trans rfl; have fgb1 : w9.cell? ⟨gb, 1, none⟩ = some (.slice (A 0) (L 0).length (c 0)) := (blk_cell BKgb.out 1).trans rfl; have fgb2 : w9.cell? ⟨gb, 2, none⟩ = some (.slice (A 1) (L 1).length (c 1)) := (blk_cell BKgb.out 2).trans rfl; have fgb3 : w9.cell? ⟨gb, 3, none⟩ = some (.slice (A 2) (L 2).length (c 2)) := (blk_cell BKgb.out 3).trans rfl; have fgb4 : w9.cell? ⟨gb, 4, none⟩ = some (.slice (A 3) (L 3).length (c 3)) := (blk_cell BKgb.out 4).trans rfl; have fgb5 : w9.cell? ⟨gb, 5, none⟩ = some (.slice (A 4) (L 4).length (c 4)) := (blk_cell BKgb.out 5).trans rfl; have fgb6 : w9.cell? ⟨gb, 6, none⟩ = some (.slice (A 5) (L 5).length (c 5)) := (blk_cell BKgb.out 6).trans rfl; have fgb7 : w9.cell? ⟨gb, 7, none⟩ = some (.slice (A 6) (L 6).length (c 6)) := (blk_cell BKgb.out 7).trans rfl; have fgb8 : w9.cell? ⟨gb, 8, none⟩ = some (.slice (A 7) (L 7).length (c 7)) := (blk_cell BKgb.out 8).trans rfl; have fgbz0 := blk_frozen BKgb.out 0; have fgbz1 := blk_frozen BKgb.out 1; have fgbz2 := blk_frozen BKgb.out 2; have fgbz3 := blk_frozen BKgb.out 3; have fgbz4 := blk_frozen BKgb.out 4; have fgbz5 := blk_frozen BKgb.out 5; have fgbz6 := blk_frozen BKgb.out 6; have fgbz7 := blk_frozen BKgb.out 7; have fgbz8 := blk_frozen BKgb.out 8
  have fgxs0 : w9.cell? ⟨gx, 0, none⟩ = some (.int .i64 _) := (blk_cell BKgx.out 0).trans rfl; have fgx1 : w9.cell? ⟨gx, 1, none⟩ = some (.slice (A2 0) (L 0).length (c2 0)) := (blk_cell BKgx.out 1).trans rfl; have fgx2 : w9.cell? ⟨gx, 2, none⟩ = some (.slice (A2 1) (L 1).length (c2 1)) := (blk_cell BKgx.out 2).trans rfl; have fgx3 : w9.cell? ⟨gx, 3, none⟩ = some (.slice (A2 2) (L 2).length (c2 2)) := (blk_cell BKgx.out 3).trans rfl; have fgx4 : w9.cell? ⟨gx, 4, none⟩ = some (.slice (A2 3) (L 3).length (c2 3)) := (blk_cell BKgx.out 4).trans rfl; have fgx5 : w9.cell? ⟨gx, 5, none⟩ = some (.slice (A2 4) (L 4).length (c2 4)) := (blk_cell BKgx.out 5).trans rfl; have fgx6 : w9.cell? ⟨gx, 6, none⟩ = some (.slice (A2 5) (L 5).length (c2 5)) := (blk_cell BKgx.out 6).trans rfl; have fgx7 : w9.cell? ⟨gx, 7, none⟩ = some (.slice (A2 6) (L 6).length (c2 6)) := (blk_cell BKgx.out 7).trans rfl; have fgx8 : w9.cell? ⟨gx, 8, none⟩ = some (.slice (A2 7) (L 7).length (c2 7)) := (blk_cell BKgx.out 8).trans rfl; have fgxz0 := blk_frozen BKgx.out 0; have fgxz1 := blk_frozen BKgx.out 1; have fgxz2 := blk_frozen BKgx.out 2; have fgxz3 := blk_frozen BKgx.out 3; have fgxz4 := blk_frozen BKgx.out 4; have fgxz5 := blk_frozen BKgx.out 5; have fgxz6 := blk_frozen BKgx.out 6; have fgxz7 := blk_frozen BKgx.out 7; have fgxz8 := blk_frozen BKgx.out 8
  have HRb := Aside0.mk (HR.out.below HB.out)
  go_wp2_with fail
  go_region_held3 (fun w' => w'.cell? ⟨gx, 0, none⟩ = some (.int .i64 s) ∧ w'.cell? ⟨gx, 1, none⟩ = some (.slice (A2 0) (L 0).length (c2 0)) ∧ w'.cell? ⟨gx, 2, none⟩ = some (.slice (A2 1) (L 1).length (c2 1)) ∧ w'.cell? ⟨gx, 3, none⟩ = some (.slice (A2 2) (L 2).length (c2 2)) ∧ w'.cell? ⟨gx, 4, none⟩ = some (.slice (A2 3) (L 3).length (c2 3)) ∧ w'.cell? ⟨gx, 5, none⟩ = some (.slice (A2 4) (L 4).length (c2 4)) ∧ w'.cell? ⟨gx, 6, none⟩ = some (.slice (A2 5) (L 5).length (c2 5)) ∧ w'.cell? ⟨gx, 7, none⟩ = some (.slice (A2 6) (L 6).length (c2 6)) ∧ w'.cell? ⟨gx, 8, none⟩ = some (.slice (A2 7) (L 7).length (c2 7)) ∧ w'.cell? ⟨gb, 0, none⟩ = some (.int .i64 s) ∧ w'.cell? ⟨gb, 1, none⟩ = some (.slice (A 0) (L 0).length (c 0)) ∧ w'.cell? ⟨gb, 2, none⟩ = some (.slice (A 1) (L 1).length (c 1)) ∧ w'.cell? ⟨gb, 3, none⟩ = some (.slice (A 2) (L 2).length (c 2)) ∧ w'.cell? ⟨gb, 4, none⟩ = some (.slice (A 3) (L 3).length (c 3)) ∧ w'.cell? ⟨gb, 5, none⟩ = some (.slice (A 4) (L 4).length (c 4)) ∧ w'.cell? ⟨gb, 6, none⟩ = some (.slice (A 5) (L 5).length (c 5)) ∧ w'.cell? ⟨gb, 7, none⟩ = some (.slice (A 6) (L 6).length (c 6)) ∧ w'.cell? ⟨gb, 8, none⟩ = some (.slice (A 7) (L 7).length (c 7)))
    (first
      | go_keep
      | (refine ⟨?_, ?_, ?_, ?_, ?_, ?_, ?_, ?_, ?_, ?_, ?_, ?_, ?_, ?_, ?_, ?_, ?_, ?_⟩ <;> (rw [hb11.cell (by simp only [World.drew]; first | exact blk_lt BKgb.out | exact blk_lt BKgx.out)]; assumption))
      | (refine ⟨?_, ?_, ?_, ?_, ?_, ?_, ?_, ?_, ?_, ?_, ?_, ?_, ?_, ?_, ?_, ?_, ?_, ?_⟩ <;> (rw [hb12.cell (by first | exact Nat.lt_of_lt_of_le (blk_lt BKgb.out) hb11.size | exact Nat.lt_of_lt_of_le (blk_lt BKgx.out) hb11.size), hb11.cell (by simp only [World.drew]; first | exact blk_lt BKgb.out | exact blk_lt BKgx.out)]; assumption)))
    (first
      | (go_at_call 19; refine (toBook_calls s A c L _ (HRb.out.below (below_drew (Below.refl _ _))) HM2.out).mono ?_; rintro e w11 ⟨A4, c4, rfl, ho11, hb11⟩)
      | (go_at_call 14; refine (eqBook_same s A2 c2 A4 c4 L _ (BkC.below (show BkC w9.drew A2 c2 L from HX2.out.c) hb11) ho11.c HL.out).mono ?_; rintro e w12 ⟨rfl, hb12⟩))
  have hbd : Below w9.heap.size w9 w12 := below_step (below_step (below_drew (Below.refl _ _)) hb11) hb12
  clear hb11 hb12 ho11 HRb
  clear fgbs0 fgbz0 fgb1 fgbz1 fgb2 fgbz2 fgb3 fgbz3 fgb4 fgbz4 fgb5 fgbz5 fgb6 fgbz6 fgb7 fgbz7 fgb8 fgbz8
  clear fgxs0 fgxz0 fgx1 fgxz1 fgx2 fgxz2 fgx3 fgxz3 fgx4 fgxz4 fgx5 fgxz5 fgx6 fgxz6 fgx7 fgxz7 fgx8 fgxz8
  have HBn := Aside0.mk (below_step HB.out hbd)
  have H0n := Aside0.mk (H0.out.below hbd)
  have H1n := Aside0.mk (H1.out.below hbd)
  have HX2n := Aside0.mk (BkO.below HX2.out hbd)
  have BKgbn := Aside0.mk (blk_below BKgb.out hbd)
  have BKgxn := Aside0.mk (blk_below BKgx.out hbd)
  clear HB H0 H1 HX2 BKgb BKgx
  have HB := HBn
  have H0 := H0n
  have H1 := H1n
  have HX2 := HX2n
  have BKgb := BKgbn
  have BKgx := BKgxn
  clear HBn H0n H1n HX2n BKgbn BKgxn
  have HS512 : Aside0 (w5.heap.size ≤ w12.heap.size) := ⟨by have := HS57.out; have := H1.out; have := blk_lt BKgx.out; have := HGX.out; omega⟩
  clear hbd
  have fgxs0 : w12.cell? ⟨gx, 0, none⟩ = some (.int .i64 _) := (blk_cell BKgx.out 0).trans rfl; have fgx1 : w12.cell? ⟨gx, 1, none⟩ = some (.slice (A2 0) (L 0).length (c2 0)) := (blk_cell BKgx.out 1).trans rfl; have fgx2 : w12.cell? ⟨gx, 2, none⟩ = some (.slice (A2 1) (L 1).length (c2 1)) := (blk_cell BKgx.out 2).trans rfl; have fgx3 : w12.cell? ⟨gx, 3, none⟩ = some (.slice (A2 2) (L 2).length (c2 2)) := (blk_cell BKgx.out 3).trans rfl; have fgx4 : w12.cell? ⟨gx, 4, none⟩ = some (.slice (A2 3) (L 3).length (c2 3)) := (blk_cell BKgx.out 4).trans rfl; have fgx5 : w12.cell? ⟨gx, 5, none⟩ = some (.slice (A2 4) (L 4).length (c2 4)) := (blk_cell BKgx.out 5).trans rfl; have fgx6 : w12.cell? ⟨gx, 6, none⟩ = some (.slice (A2 5) (L 5).length (c2 5)) := (blk_cell BKgx.out 6).trans rfl; have fgx7 : w12.cell? ⟨gx, 7, none⟩ = some (.slice (A2 6) (L 6).length (c2 6)) := (blk_cell BKgx.out 7).trans rfl; have fgx8 : w12.cell? ⟨gx, 8, none⟩ = some (.slice (A2 7) (L 7).length (c2 7)) := (blk_cell BKgx.out 8).trans rfl; have fgxz0 := blk_frozen BKgx.out 0; have fgxz1 := blk_frozen BKgx.out 1; have fgxz2 := blk_frozen BKgx.out 2; have fgxz3 := blk_frozen BKgx.out 3; have fgxz4 := blk_frozen BKgx.out 4; have fgxz5 := blk_frozen BKgx.out 5; have fgxz6 := blk_frozen BKgx.out 6; have fgxz7 := blk_frozen BKgx.out 7; have fgxz8 := blk_frozen BKgx.out 8
  go_wp2_with fail
  refine (markBook_calls s A2 c2 L 1 w4.heap.size w5.heap.size _ HX2.out HS512.out (by omega) (by have := off8_le HM.out; omega)).mono ?_
  rintro e w13 ⟨L', rfl, hlL, hmk, hbo, hkp⟩
  have hk1 : (0 : Int) ≤ 1 + ((off L 8 : Nat) : Int) := by omega
  clear fgxs0 fgxz0 fgx1 fgxz1 fgx2 fgxz2 fgx3 fgxz3 fgx4 fgxz4 fgx5 fgxz5 fgx6 fgxz6 fgx7 fgxz7 fgx8 fgxz8
  have HBn := Aside0.mk (Keep.below HB.out hkp HS4.out)
  have H0n := Aside0.mk (H0.out.kept hkp (Or.inl (Nat.le_refl _)))
  have H1n := Aside0.mk (H1.out.kept hkp (Or.inr HS57.out))
  have BKgbn := Aside0.mk (hkp.blk BKgb.out (by have := HGB3.out; have := HS34.out; omega))
  clear HB H0 H1 BKgb BKgx HX2 hlL hmk hbo hkp
  have HB := HBn
  have H0 := H0n
  have H1 := H1n
  have BKgb := BKgbn
  clear HBn H0n H1n BKgbn
  go_wp2_with fail
  refine (eqIntS_same _ _ _ _ _ _ H1.out.c H0.out.c (by have := HLN.out; omega)).mono ?_
  rintro e w14 ⟨rfl, hd⟩
  have hb := hd.below
  have HBn := Aside0.mk (below_step HB.out hb)
  have H0n := Aside0.mk (H0.out.below hb)
  have H1n := Aside0.mk (H1.out.below hb)
  have BKgbn := Aside0.mk (blk_below BKgb.out hb)
  clear HB H0 H1 BKgb
  have HB := HBn
  have H0 := H0n
  have H1 := H1n
  have BKgb := BKgbn
  clear HBn H0n H1n BKgbn
  clear hb hd
  go_wp2_with fail
  refine (markIntS_calls A3 c3 l1 1 w7.heap.size w8.heap.size _ H1.out (by omega) (by have := HLN.out; omega)).mono ?_
  rintro e w15 ⟨l2, rfl, hl2, hm2, hs2, hkv⟩
  have hkp := KeepV.keep H1.out hkv
  have HL2 := Aside0.mk hl2
  have HM22 := Aside0.mk hm2
  have H1n := Aside0.mk hs2
  have HBn := Aside0.mk (Keep.below HB.out hkp (by have := HS4.out; have := HS45.out; have := HS57.out; omega))
  have H0n := Aside0.mk (H0.out.kept hkp (Or.inl (by have := HS45.out; have := HS57.out; omega)))
  have BKgbn := Aside0.mk (hkp.blk BKgb.out (by have := HGB3.out; have := HS34.out; have := HS45.out; have := HS57.out; omega))
  clear HB H0 H1 BKgb hl2 hm2 hs2 hkv hkp
  have HB := HBn
  have H0 := H0n
  have H1 := H1n
  have BKgb := BKgbn
  clear HBn H0n H1n BKgbn
  have hk2 : (0 : Int) ≤ 1 + (l1.length : Int) := by omega
  go_wp2_with fail
  refine calls_of_args (args' := #[.slice A3 l2.length c3, .int .i64 1]) (by rw [HL2.out]) ?_
  refine (heldIntS_calls A3 c3 l2 1 _ H1.out.c (by omega) (by have := HLN.out; have := HL2.out; omega) (fun j hj => HM22.out j (by have := HL2.out; omega))).mono ?_
  rintro e w16 ⟨rfl, rfl⟩
  rw [HL2.out]
  have fgbs0 : w15.cell? ⟨gb, 0, none⟩ = some (.int .i64 _) := (blk_cell BKgb.out 0).trans rfl; have fgb1 : w15.cell? ⟨gb, 1, none⟩ = some (.slice (A 0) (L 0).length (c 0)) := (blk_cell BKgb.out 1).trans rfl; have fgb2 : w15.cell? ⟨gb, 2, none⟩ = some (.slice (A 1) (L 1).length (c 1)) := (blk_cell BKgb.out 2).trans rfl; have fgb3 : w15.cell? ⟨gb, 3, none⟩ = some (.slice (A 2) (L 2).length (c 2)) := (blk_cell BKgb.out 3).trans rfl; have fgb4 : w15.cell? ⟨gb, 4, none⟩ = some (.slice (A 3) (L 3).length (c 3)) := (blk_cell BKgb.out 4).trans rfl; have fgb5 : w15.cell? ⟨gb, 5, none⟩ = some (.slice (A 4) (L 4).length (c 4)) := (blk_cell BKgb.out 5).trans rfl; have fgb6 : w15.cell? ⟨gb, 6, none⟩ = some (.slice (A 5) (L 5).length (c 5)) := (blk_cell BKgb.out 6).trans rfl; have fgb7 : w15.cell? ⟨gb, 7, none⟩ = some (.slice (A 6) (L 6).length (c 6)) := (blk_cell BKgb.out 7).trans rfl; have fgb8 : w15.cell? ⟨gb, 8, none⟩ = some (.slice (A 7) (L 7).length (c 7)) := (blk_cell BKgb.out 8).trans rfl; have fgbz0 := blk_frozen BKgb.out 0; have fgbz1 := blk_frozen BKgb.out 1; have fgbz2 := blk_frozen BKgb.out 2; have fgbz3 := blk_frozen BKgb.out 3; have fgbz4 := blk_frozen BKgb.out 4; have fgbz5 := blk_frozen BKgb.out 5; have fgbz6 := blk_frozen BKgb.out 6; have fgbz7 := blk_frozen BKgb.out 7; have fgbz8 := blk_frozen BKgb.out 8
  go_wp2_with fail
  refine (toBook_calls s A c L _ (HR.out.below HB.out) HM2.out).mono ?_
  rintro e w17 ⟨A5, c5, rfl, ho, hb⟩
  have HO5 := Aside0.mk ho.c
  clear fgbs0 fgbz0 fgb1 fgbz1 fgb2 fgbz2 fgb3 fgbz3 fgb4 fgbz4 fgb5 fgbz5 fgb6 fgbz6 fgb7 fgbz7 fgb8 fgbz8
  have HBn := Aside0.mk (below_step HB.out hb)
  have H0n := Aside0.mk (H0.out.below hb)
  have H1n := Aside0.mk (H1.out.below hb)
  have BKgbn := Aside0.mk (blk_below BKgb.out hb)
  clear HB H0 H1 BKgb
  have HB := HBn
  have H0 := H0n
  have H1 := H1n
  have BKgb := BKgbn
  clear HBn H0n H1n BKgbn
  clear hb ho
  go_wp2_with fail
  refine (implBookOf_calls s A5 c5 L x _ HO5.out HM.out HW.out).mono ?_
  rintro e w18 ⟨l3, A6, c6, rfl, hp3, ho3, hb⟩
  obtain rfl : l3 = l1 := hp3.one HP0.out
  have H3 := Aside0.mk ho3
  have HBn := Aside0.mk (below_step HB.out hb)
  have H0n := Aside0.mk (H0.out.below hb)
  have H1n := Aside0.mk (H1.out.below hb)
  have BKgbn := Aside0.mk (blk_below BKgb.out hb)
  clear HB H0 H1 BKgb
  have HB := HBn
  have H0 := H0n
  have H1 := H1n
  have BKgb := BKgbn
  clear HBn H0n H1n BKgbn
  clear hb ho3 hp3 HO5
  go_wp2_with fail
  refine (eqIntS_same _ _ _ _ _ _ H3.out.c H0.out.c (by have := HLN.out; omega)).mono ?_
  rintro e w19 ⟨rfl, hd⟩
  have hb := hd.below
  have HBn := Aside0.mk (below_step HB.out hb)
  have H1n := Aside0.mk (H1.out.below hb)
  clear HB H1
  have HB := HBn
  have H1 := H1n
  clear HBn H1n
  clear hb hd
  go_wp2_with fail
  refine calls_of_args (args' := #[.slice A3 l2.length c3, .int .i64 1]) (by rw [HL2.out]) ?_
  refine (heldIntS_calls A3 c3 l2 1 _ H1.out.c (by omega) (by have := HLN.out; have := HL2.out; omega) (fun j hj => HM22.out j (by have := HL2.out; omega))).mono ?_
  rintro e w20 ⟨rfl, rfl⟩
  rw [HL2.out]
  go_wp2
  go_ret
  exact ⟨rfl, HB.out⟩
end Go.Proofs.Ytekneicikmaplaa.Bk

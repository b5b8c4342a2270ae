/- Books of a slab allocator: walks and plain laws, part 1. -/
import Derived.Test.YtekneicikmaplaaProg
import Derived.Below
import Derived.Deep.Draws
import Derived.Deep.AppendLies
import Derived.Maps.AppendAt
import Derived.OwnWalk
import Derived.Laws.BytesArg
import Derived.Laws.MakeOwn
import Derived.Laws.OwnMore
import Derived.Deep.OwnRows
import Derived.Tactics
import Derived.Lib.ConvBytes
import Derived.Laws.Slices
import Derived.WalkKit
import Derived.KernelRfl
import Derived.RowKit3
import Derived.Deep.LoopGhost
import Derived.Deep.QuietTactic
import Derived.BigQuiet
import Derived.WideLaws
import Derived.Deep.DeepCutAuto
import Derived.Deep.CutBlock
import Derived.Deep.RegionHeld3
import Derived.Laws.Rows
import Derived.Lib.AppendStr
import Derived.ArgAppend
import Derived.Laws.IdiomCopy
import Derived.OrdersHeld
import Derived.Laws.BitsLemmas
import Derived.RowKit
import Derived.WalkSpells
import Derived.Test.YtekneicikmaplaaRow
import Derived.Test.YtekneicikmaplaaWWords
import Derived.Test.YtekneicikmaplaaWLast
import Derived.Test.YtekneicikmaplaaWTab
import Derived.Test.YtekneicikmaplaaWFour
import Derived.Test.YtekneicikmaplaaWQPut
import Derived.Test.YtekneicikmaplaaWApart
import Derived.Test.YtekneicikmaplaaWArr
import Derived.Test.YtekneicikmaplaaWZeros
import Derived.Test.YtekneicikmaplaaWFoot
import Derived.Test.YtekneicikmaplaaWKept
import Derived.Test.YtekneicikmaplaaWShare
import Derived.Test.YtekneicikmaplaaWN
import Derived.Test.YtekneicikmaplaaWFootNe
import Derived.Test.YtekneicikmaplaaWAt
import Derived.Test.YtekneicikmaplaaWEqStruct
import Derived.Test.YtekneicikmaplaaWRepsOne
import Derived.Test.YtekneicikmaplaaWInv
import Derived.Test.YtekneicikmaplaaWInvWords
import Derived.Test.YtekneicikmaplaaWGuard
import Derived.Test.YtekneicikmaplaaWNEv
import Derived.Test.YtekneicikmaplaaWMore
set_option linter.unusedVariables false
set_option linter.unusedSimpArgs false
namespace Go.Proofs.Ytekneicikmaplaa.Bk
open Go.RowKit Go.Proofs.YtekneicikmaplaaW.PrintWords Go.Proofs.YtekneicikmaplaaW.PrintLast Go.Proofs.YtekneicikmaplaaW.PrintMore

theorem info3 : (Try.prog.info? 3).map (fun i => (i.zero, i.size, i.bytes)) = some (some (.int .i64 0), 1, 8) := by kernel_rfl
/-- A slice of ints that can be read in w. -/
def SlC (w : World) (A : Option Addr) (c : Nat) (l : List Int) : Prop := Kd.C (Kd.int .i64) w A l.length l ∧ l.length ≤ c
theorem SlC.below {w w1 : World} {A : Option Addr} {c : Nat} {l : List Int} (h : SlC w A c l) (hb : Below w.heap.size w w1) : SlC w1 A c l := ⟨Kd.C_below h.1 hb, h.2⟩
theorem SlC.drewN {w : World} {A : Option Addr} {c : Nat} {l : List Int} (h : SlC w A c l) (n : Nat) : SlC (w.drewN n) A c l := h
abbrev sl (A : Nat → Option Addr) (c : Nat → Nat) (L : Nat → List Int) (i : Nat) : Value := .slice (A i) (L i).length (c i)
/-- A book's cells. -/
abbrev bkCells (s : Int) (A : Nat → Option Addr) (c : Nat → Nat) (L : Nat → List Int) : Array Value :=
  #[.int .i64 s, .slice (A 0) (L 0).length (c 0), .slice (A 1) (L 1).length (c 1), .slice (A 2) (L 2).length (c 2), .slice (A 3) (L 3).length (c 3), .slice (A 4) (L 4).length (c 4), .slice (A 5) (L 5).length (c 5), .slice (A 6) (L 6).length (c 6), .slice (A 7) (L 7).length (c 7)]
/-- All rows of a book can be read. -/
def BkC (w : World) (A : Nat → Option Addr) (c : Nat → Nat) (L : Nat → List Int) : Prop := ∀ i, i < 8 → SlC w (A i) (c i) (L i)
theorem BkC.below {w w1 : World} {A : Nat → Option Addr} {c : Nat → Nat} {L : Nat → List Int} (h : BkC w A c L) (hb : Below w.heap.size w w1) : BkC w1 A c L := fun i hi => (h i hi).below hb


def szR (l : List Int) (left : Int) : Int := if left - l.length < 0 then -1 else left - l.length
theorem szIntS_calls (A : Option Addr) (c : Nat) (l : List Int) (left : Int) (w : World) (h0 : -1 ≤ left) (h1 : left ≤ 1048576) (hl : l.length ≤ 9223372036854775807) :
    Calls Try.prog 40 #[.slice A l.length c, .int .i64 left] w fun e w' => e = .returned (.int .i64 (szR l left)) ∧ w = w' := by
  by_cases h : left - (l.length : Int) < 0
  · have hf : szR l left = -1 := if_pos h
    have HF := Aside0.mk hf
    clear hf
    go_enter Try.func40, Try.ntmps40
    go_wp2
    go_ret
    exact ⟨by rw [HF.out]; rfl, rfl⟩
  · have hf : szR l left = left - l.length := if_neg h
    have HF := Aside0.mk hf
    clear hf
    go_enter Try.func40, Try.ntmps40
    go_wp2
    go_ret
    exact ⟨by rw [HF.out]; rfl, rfl⟩

theorem szR_le (l : List Int) (left : Int) (h0 : -1 ≤ left) (h1 : left ≤ 1048576) : -1 ≤ szR l left ∧ szR l left ≤ 1048576 := by unfold szR; split <;> omega
def szA (L : Nat → List Int) : Nat → Nat → Int → Int
  | _, 0, left => left
  | j, n + 1, left => if szR (L j) left < 0 then -1 else szA L (j + 1) n (szR (L j) left)
theorem szA_step (L : Nat → List Int) (j n : Nat) (left : Int) : szA L j (n + 1) left = if szR (L j) left < 0 then -1 else szA L (j + 1) n (szR (L j) left) := rfl
abbrev arrV (A : Nat → Option Addr) (c : Nat → Nat) (L : Nat → List Int) : Array Value := #[.slice (A 0) (L 0).length (c 0), .slice (A 1) (L 1).length (c 1), .slice (A 2) (L 2).length (c 2), .slice (A 3) (L 3).length (c 3)]
theorem arrV_at (A : Nat → Option Addr) (c : Nat → Nat) (L : Nat → List Int) (k : Nat) (hk : k < 4) : (arrV A c L)[k]? = some (.slice (A k) (L k).length (c k)) := by
  match k, hk with
  | 0, _ => rfl
  | 1, _ => rfl
  | 2, _ => rfl
  | 3, _ => rfl
set_option maxRecDepth 100000 in
theorem szIntSA4_calls (A : Nat → Option Addr) (c : Nat → Nat) (L : Nat → List Int) (left : Int) (w : World) (h0 : -1 ≤ left) (h1 : left ≤ 1048576) (hl : ∀ i, (L i).length ≤ 9223372036854775807) :
    Calls Try.prog 41 #[.agg (arrV A c L), .int .i64 left] w fun e w' => e = .returned (.int .i64 (szA L 0 4 left)) ∧ Below w.heap.size w w' := by
  have HL := Aside0.mk hl
  clear hl
  unfold arrV
  go_enter Try.func41, Try.ntmps41
  go_wp2_with (first | ((with_reducible refine gate_dst (N := 2) rfl ?_); refine box_event rfl (N := 2) rfl (cs := arrV A c L) (t := 25) (by first | (go_simp; done) | (go_simp; rfl)) ?_; intro gb hg w1 hbox hb; have BK := Aside0.mk hbox; have HB := Aside0.mk hb; clear hbox hb hg))
  go_loopg [1, 5] 5 (fun kq v1 v5 w' => ∃ (x : Int) (k : Nat), k ≤ 4 ∧ kq = 5 - k ∧ v1 = .int .i64 x ∧ v5 = .int .i64 k ∧ Aside0 (-1 ≤ x) ∧ Aside0 (x ≤ 1048576) ∧ Aside0 (szA L k (4 - k) x = szA L 0 4 left) ∧ Aside0 (w'.heap[gb]? = some (.cells (arrV A c L) 25 (0, 0))) ∧ Aside0 (Below w.heap.size w w'))
  case atStart => exact ⟨left, 0, by omega, by omega, rfl, rfl, ⟨h0⟩, ⟨h1⟩, ⟨rfl⟩, BK, HB⟩
  case round =>
    obtain ⟨x, k, hk, rfl, rfl, rfl, X0, X1, HS, BK, HB⟩ := hrel
    by_cases hlt : k < 4
    · have hcell : wr.cell? ⟨gb, k, none⟩ = some (.slice (A k) (L k).length (c k)) := (blk_cell BK.out k).trans (arrV_at A c L k hlt)
      have hfz := blk_frozen BK.out k
      have hi : (k : Int) < 4 := by omega
      have HN : Aside0 (szA L 0 4 left = if szR (L k) x < 0 then -1 else szA L (k + 1) (4 - (k + 1)) (szR (L k) x)) := ⟨by rw [← HS.out]; obtain ⟨m, hm⟩ : ∃ m, 4 - k = m + 1 := ⟨3 - k, by omega⟩; rw [hm, szA_step]; congr 2; omega⟩
      have HZ := Aside0.mk (szR_le (L k) x X0.out X1.out)
      clear HS
      by_cases hneg : szR (L k) x < 0
      · go_wp2_with (first | (go_at_call 40; refine (szIntS_calls _ _ _ _ _ X0.out X1.out (HL.out k)).mono ?_; rintro e w' ⟨rfl, rfl⟩))
        go_ret
        exact ⟨by rw [HN.out, if_pos hneg]; rfl, HB.out⟩
      · have hnn : 0 ≤ szR (L k) x := by omega
        have HE : Aside0 (szA L (k + 1) (4 - (k + 1)) (szR (L k) x) = szA L 0 4 left) := ⟨by rw [HN.out, if_neg hneg]⟩
        go_wp2_with (first | (go_at_call 40; refine (szIntS_calls _ _ _ _ _ X0.out X1.out (HL.out k)).mono ?_; rintro e w' ⟨rfl, rfl⟩))
        go_roundg (5 - (k + 1))
        case measure => omega
        case rel => exact ⟨szR (L k) x, k + 1, by omega, rfl, rfl, by go_num, ⟨HZ.out.1⟩, ⟨HZ.out.2⟩, HE, BK, HB⟩
    · have hk4 : k = 4 := by omega
      subst hk4
      go_wp2
      go_ret
      exact ⟨by rw [← HS.out]; rfl, HB.out⟩

theorem szA_le (L : Nat → List Int) : ∀ (n j : Nat) (left : Int), -1 ≤ left → left ≤ 1048576 → -1 ≤ szA L j n left ∧ szA L j n left ≤ 1048576
  | 0, _, left, h0, h1 => ⟨h0, h1⟩
  | n + 1, j, left, h0, h1 => by
    have h := szR_le (L j) left h0 h1
    rw [szA_step]
    split
    · omega
    · exact szA_le L n (j + 1) _ h.1 h.2
def szB (L : Nat → List Int) (left : Int) : Int :=
  if szR (L 0) left < 0 then -1 else
  if szA (fun i => L (i + 1)) 0 4 (szR (L 0) left) < 0 then -1 else
  if szR (L 5) (szA (fun i => L (i + 1)) 0 4 (szR (L 0) left)) < 0 then -1 else
  if szR (L 6) (szR (L 5) (szA (fun i => L (i + 1)) 0 4 (szR (L 0) left))) < 0 then -1 else
  if szR (L 7) (szR (L 6) (szR (L 5) (szA (fun i => L (i + 1)) 0 4 (szR (L 0) left)))) < 0 then -1 else
  szR (L 7) (szR (L 6) (szR (L 5) (szA (fun i => L (i + 1)) 0 4 (szR (L 0) left))))
theorem nn_of {y : Int} (h : ¬ y < 0) : 0 ≤ y := by omega
set_option maxHeartbeats 1000000 in
set_option maxRecDepth 100000 in
theorem szBook_calls (s : Int) (A : Nat → Option Addr) (c : Nat → Nat) (L : Nat → List Int) (left : Int) (w : World) (h0 : -1 ≤ left) (h1 : left ≤ 1048576) (hl : ∀ i, (L i).length ≤ 9223372036854775807) :
    Calls Try.prog 17 #[.agg (bkCells s A c L), .int .i64 left] w fun e w' => e = .returned (.int .i64 (szB L left)) ∧ Below w.heap.size w w' := by
  have HL := Aside0.mk hl
  clear hl
  have b0 := szR_le (L 0) left h0 h1
  have b1 := szA_le (fun i => L (i + 1)) 4 0 _ b0.1 b0.2
  have b2 := szR_le (L 5) _ b1.1 b1.2
  have b3 := szR_le (L 6) _ b2.1 b2.2
  have b4 := szR_le (L 7) _ b3.1 b3.2
  have hz : szB L left = szB L left := rfl
  conv at hz => rhs; unfold szB
  generalize hx0 : szR (L 0) left = x0 at *
  generalize hx1 : szA (fun i => L (i + 1)) 0 4 x0 = x1 at *
  generalize hx2 : szR (L 5) x1 = x2 at *
  generalize hx3 : szR (L 6) x2 = x3 at *
  generalize hx4 : szR (L 7) x3 = x4 at *
  have HZ := Aside0.mk hz
  have E0 := Aside0.mk hx0
  have E1 := Aside0.mk hx1
  have E2 := Aside0.mk hx2
  have E3 := Aside0.mk hx3
  have E4 := Aside0.mk hx4
  have B := Aside0.mk (And.intro b0 (And.intro b1 (And.intro b2 b3)))
  clear hz hx0 hx1 hx2 hx3 hx4
  have HB := Aside0.mk (Below.refl w.heap.size w)
  by_cases hx0 : x0 < 0
  · have HF : Aside0 (szB L left = -1) := ⟨HZ.out.trans (if_pos hx0)⟩
    go_enter Try.func17, Try.ntmps17
    go_wp2_with (first | ((with_reducible refine gate_dst (N := 2) rfl ?_); refine box_event rfl (N := 2) rfl (cs := bkCells s A c L) (t := 34) (by first | (go_simp; done) | (go_simp; rfl)) ?_; intro gb hggb w1 hbox hb; have n0_ := Aside0.mk (below_step HB.out hb); have BKgb := Aside0.mk hbox; have HGgb := Aside0.mk (show w.heap.size ≤ gb by rw [hggb]; exact HB.out.size); clear HB; have HB := n0_; have fgbs0 : w1.cell? ⟨gb, 0, none⟩ = some (.int .i64 _) := (blk_cell BKgb.out 0).trans rfl; have fgb1 : w1.cell? ⟨gb, 1, none⟩ = some (.slice (A 0) (L 0).length (c 0)) := (blk_cell BKgb.out 1).trans rfl; have fgb2 : w1.cell? ⟨gb, 2, none⟩ = some (.slice (A 1) (L 1).length (c 1)) := (blk_cell BKgb.out 2).trans rfl; have fgb3 : w1.cell? ⟨gb, 3, none⟩ = some (.slice (A 2) (L 2).length (c 2)) := (blk_cell BKgb.out 3).trans rfl; have fgb4 : w1.cell? ⟨gb, 4, none⟩ = some (.slice (A 3) (L 3).length (c 3)) := (blk_cell BKgb.out 4).trans rfl; have fgb5 : w1.cell? ⟨gb, 5, none⟩ = some (.slice (A 4) (L 4).length (c 4)) := (blk_cell BKgb.out 5).trans rfl; have fgb6 : w1.cell? ⟨gb, 6, none⟩ = some (.slice (A 5) (L 5).length (c 5)) := (blk_cell BKgb.out 6).trans rfl; have fgb7 : w1.cell? ⟨gb, 7, none⟩ = some (.slice (A 6) (L 6).length (c 6)) := (blk_cell BKgb.out 7).trans rfl; have fgb8 : w1.cell? ⟨gb, 8, none⟩ = some (.slice (A 7) (L 7).length (c 7)) := (blk_cell BKgb.out 8).trans rfl; have fgbz0 := blk_frozen BKgb.out 0; have fgbz1 := blk_frozen BKgb.out 1; have fgbz2 := blk_frozen BKgb.out 2; have fgbz3 := blk_frozen BKgb.out 3; have fgbz4 := blk_frozen BKgb.out 4; have fgbz5 := blk_frozen BKgb.out 5; have fgbz6 := blk_frozen BKgb.out 6; have fgbz7 := blk_frozen BKgb.out 7; have fgbz8 := blk_frozen BKgb.out 8; clear n0_ hbox hb hggb) | (go_at_call 40; refine (szIntS_calls _ _ _ _ _ h0 h1 (HL.out 0)).mono ?_; rintro e w' ⟨rfl, rfl⟩; rw [E0.out]))
    go_ret
    exact ⟨by rw [HF.out]; rfl, HB.out⟩
  have HZ0 := Aside0.mk (HZ.out.trans (if_neg hx0))
  have hx0' := nn_of hx0
  clear HZ hx0
  have HZ := HZ0
  clear HZ0
  go_enter Try.func17, Try.ntmps17
  go_wp2_with (first | ((with_reducible refine gate_dst (N := 2) rfl ?_); refine box_event rfl (N := 2) rfl (cs := bkCells s A c L) (t := 34) (by first | (go_simp; done) | (go_simp; rfl)) ?_; intro gb hggb w1 hbox hb; have n0_ := Aside0.mk (below_step HB.out hb); have BKgb := Aside0.mk hbox; have HGgb := Aside0.mk (show w.heap.size ≤ gb by rw [hggb]; exact HB.out.size); clear HB; have HB := n0_; have fgbs0 : w1.cell? ⟨gb, 0, none⟩ = some (.int .i64 _) := (blk_cell BKgb.out 0).trans rfl; have fgb1 : w1.cell? ⟨gb, 1, none⟩ = some (.slice (A 0) (L 0).length (c 0)) := (blk_cell BKgb.out 1).trans rfl; have fgb2 : w1.cell? ⟨gb, 2, none⟩ = some (.slice (A 1) (L 1).length (c 1)) := (blk_cell BKgb.out 2).trans rfl; have fgb3 : w1.cell? ⟨gb, 3, none⟩ = some (.slice (A 2) (L 2).length (c 2)) := (blk_cell BKgb.out 3).trans rfl; have fgb4 : w1.cell? ⟨gb, 4, none⟩ = some (.slice (A 3) (L 3).length (c 3)) := (blk_cell BKgb.out 4).trans rfl; have fgb5 : w1.cell? ⟨gb, 5, none⟩ = some (.slice (A 4) (L 4).length (c 4)) := (blk_cell BKgb.out 5).trans rfl; have fgb6 : w1.cell? ⟨gb, 6, none⟩ = some (.slice (A 5) (L 5).length (c 5)) := (blk_cell BKgb.out 6).trans rfl; have fgb7 : w1.cell? ⟨gb, 7, none⟩ = some (.slice (A 6) (L 6).length (c 6)) := (blk_cell BKgb.out 7).trans rfl; have fgb8 : w1.cell? ⟨gb, 8, none⟩ = some (.slice (A 7) (L 7).length (c 7)) := (blk_cell BKgb.out 8).trans rfl; have fgbz0 := blk_frozen BKgb.out 0; have fgbz1 := blk_frozen BKgb.out 1; have fgbz2 := blk_frozen BKgb.out 2; have fgbz3 := blk_frozen BKgb.out 3; have fgbz4 := blk_frozen BKgb.out 4; have fgbz5 := blk_frozen BKgb.out 5; have fgbz6 := blk_frozen BKgb.out 6; have fgbz7 := blk_frozen BKgb.out 7; have fgbz8 := blk_frozen BKgb.out 8; clear n0_ hbox hb hggb) | (go_at_call 40; refine (szIntS_calls _ _ _ _ _ h0 h1 (HL.out 0)).mono ?_; rintro e w' ⟨rfl, rfl⟩; rw [E0.out]))
  refine (szIntSA4_calls (fun i => A (i + 1)) (fun i => c (i + 1)) (fun i => L (i + 1)) x0 w1 B.out.1.1 B.out.1.2 (fun i => HL.out (i + 1))).mono ?_
  rintro e w2 ⟨rfl, hb2⟩
  have HB2 := Aside0.mk (below_step HB.out hb2)
  have BK2 := Aside0.mk (blk_below BKgb.out hb2)
  clear HB BKgb fgb1 fgb2 fgb3 fgb4 fgb5 fgb6 fgb7 fgb8 fgbs0 fgbz0 fgbz1 fgbz2 fgbz3 fgbz4 fgbz5 fgbz6 fgbz7 fgbz8 hb2
  have HB := HB2
  clear HB2
  have fgbs0 : w2.cell? ⟨gb, 0, none⟩ = some (.int .i64 _) := (blk_cell BK2.out 0).trans rfl; have fgb1 : w2.cell? ⟨gb, 1, none⟩ = some (.slice (A 0) (L 0).length (c 0)) := (blk_cell BK2.out 1).trans rfl; have fgb2 : w2.cell? ⟨gb, 2, none⟩ = some (.slice (A 1) (L 1).length (c 1)) := (blk_cell BK2.out 2).trans rfl; have fgb3 : w2.cell? ⟨gb, 3, none⟩ = some (.slice (A 2) (L 2).length (c 2)) := (blk_cell BK2.out 3).trans rfl; have fgb4 : w2.cell? ⟨gb, 4, none⟩ = some (.slice (A 3) (L 3).length (c 3)) := (blk_cell BK2.out 4).trans rfl; have fgb5 : w2.cell? ⟨gb, 5, none⟩ = some (.slice (A 4) (L 4).length (c 4)) := (blk_cell BK2.out 5).trans rfl; have fgb6 : w2.cell? ⟨gb, 6, none⟩ = some (.slice (A 5) (L 5).length (c 5)) := (blk_cell BK2.out 6).trans rfl; have fgb7 : w2.cell? ⟨gb, 7, none⟩ = some (.slice (A 6) (L 6).length (c 6)) := (blk_cell BK2.out 7).trans rfl; have fgb8 : w2.cell? ⟨gb, 8, none⟩ = some (.slice (A 7) (L 7).length (c 7)) := (blk_cell BK2.out 8).trans rfl; have fgbz0 := blk_frozen BK2.out 0; have fgbz1 := blk_frozen BK2.out 1; have fgbz2 := blk_frozen BK2.out 2; have fgbz3 := blk_frozen BK2.out 3; have fgbz4 := blk_frozen BK2.out 4; have fgbz5 := blk_frozen BK2.out 5; have fgbz6 := blk_frozen BK2.out 6; have fgbz7 := blk_frozen BK2.out 7; have fgbz8 := blk_frozen BK2.out 8
  rw [E1.out]
  by_cases hx1 : x1 < 0
  · have HF : Aside0 (szB L left = -1) := ⟨HZ.out.trans (if_pos hx1)⟩
    go_wp2
    go_ret
    exact ⟨by rw [HF.out]; rfl, HB.out⟩
  have HZ1 := Aside0.mk (HZ.out.trans (if_neg hx1))
  have hx1' := nn_of hx1
  clear HZ hx1
  have HZ := HZ1
  clear HZ1
  by_cases hx2 : x2 < 0
  · have HF : Aside0 (szB L left = -1) := ⟨HZ.out.trans (if_pos hx2)⟩
    go_wp2_with (first | (go_at_call 40; (with_reducible refine (szIntS_calls _ _ _ x1 _ B.out.2.1.1 B.out.2.1.2 (HL.out 5)).mono ?_); rintro e w' ⟨rfl, rfl⟩; rw [E2.out]))
    go_ret
    exact ⟨by rw [HF.out]; rfl, HB.out⟩
  have HZ2 := Aside0.mk (HZ.out.trans (if_neg hx2))
  have hx2' := nn_of hx2
  clear HZ hx2
  have HZ := HZ2
  clear HZ2
  by_cases hx3 : x3 < 0
  · have HF : Aside0 (szB L left = -1) := ⟨HZ.out.trans (if_pos hx3)⟩
    go_wp2_with (first | (go_at_call 40; (with_reducible refine (szIntS_calls _ _ _ x1 _ B.out.2.1.1 B.out.2.1.2 (HL.out 5)).mono ?_); rintro e w' ⟨rfl, rfl⟩; rw [E2.out]) | (go_at_call 40; (with_reducible refine (szIntS_calls _ _ _ x2 _ B.out.2.2.1.1 B.out.2.2.1.2 (HL.out 6)).mono ?_); rintro e w' ⟨rfl, rfl⟩; rw [E3.out]))
    go_ret
    exact ⟨by rw [HF.out]; rfl, HB.out⟩
  have HZ3 := Aside0.mk (HZ.out.trans (if_neg hx3))
  have hx3' := nn_of hx3
  clear HZ hx3
  have HZ := HZ3
  clear HZ3
  by_cases hx4 : x4 < 0
  · have HF : Aside0 (szB L left = -1) := ⟨HZ.out.trans (if_pos hx4)⟩
    go_wp2_with (first | (go_at_call 40; (with_reducible refine (szIntS_calls _ _ _ x1 _ B.out.2.1.1 B.out.2.1.2 (HL.out 5)).mono ?_); rintro e w' ⟨rfl, rfl⟩; rw [E2.out]) | (go_at_call 40; (with_reducible refine (szIntS_calls _ _ _ x2 _ B.out.2.2.1.1 B.out.2.2.1.2 (HL.out 6)).mono ?_); rintro e w' ⟨rfl, rfl⟩; rw [E3.out]) | (go_at_call 40; (with_reducible refine (szIntS_calls _ _ _ x3 _ B.out.2.2.2.1 B.out.2.2.2.2 (HL.out 7)).mono ?_); rintro e w' ⟨rfl, rfl⟩; rw [E4.out]))
    go_ret
    exact ⟨by rw [HF.out]; rfl, HB.out⟩
  have HZ4 := Aside0.mk (HZ.out.trans (if_neg hx4))
  have hx4' := nn_of hx4
  clear HZ hx4
  have HZ := HZ4
  clear HZ4
  have HF : Aside0 (szB L left = x4) := ⟨HZ.out⟩
  go_wp2_with (first | (go_at_call 40; (with_reducible refine (szIntS_calls _ _ _ x1 _ B.out.2.1.1 B.out.2.1.2 (HL.out 5)).mono ?_); rintro e w' ⟨rfl, rfl⟩; rw [E2.out]) | (go_at_call 40; (with_reducible refine (szIntS_calls _ _ _ x2 _ B.out.2.2.1.1 B.out.2.2.1.2 (HL.out 6)).mono ?_); rintro e w' ⟨rfl, rfl⟩; rw [E3.out]) | (go_at_call 40; (with_reducible refine (szIntS_calls _ _ _ x3 _ B.out.2.2.2.1 B.out.2.2.2.2 (HL.out 7)).mono ?_); rintro e w' ⟨rfl, rfl⟩; rw [E4.out]))
  go_ret
  exact ⟨by rw [HF.out]; rfl, HB.out⟩


theorem rd_nat (l : List Int) (k : Nat) : rd l (k : Int) = l.getD k 0 := by simp [rd]
theorem at_nat {w : World} {A : Option Addr} {c : Nat} {l : List Int} (h : SlC w A c l) (k : Nat) (hk : k < l.length) : ∃ ad, A = some ad ∧ w.cell? (ad.add k) = some (.int .i64 (l.getD k 0)) := by
  obtain ⟨ad, h1, h2⟩ := Kd.at_int h.1 (k : Int) (by omega) (by omega)
  exact ⟨ad, h1, by rw [Int.toNat_natCast, rd_nat] at h2; exact h2⟩
set_option maxRecDepth 100000 in
theorem eqIntS_same (A : Option Addr) (c : Nat) (A' : Option Addr) (c' : Nat) (l : List Int) (w : World) (h : SlC w A c l) (h' : SlC w A' c' l) (hl : l.length ≤ 9223372036854775807) :
    Calls Try.prog 27 #[.slice A l.length c, .slice A' l.length c'] w fun e w' => e = .returned (.bool true) ∧ Drawn0 w w' := by
  have HR := Aside0.mk h
  have HR' := Aside0.mk h'
  clear h h'
  go_enter Try.func27, Try.ntmps27
  go_wp2
  go_loopg [5] (l.length + 1) (fun kq v5 w' => ∃ k : Nat, k ≤ l.length ∧ kq = l.length + 1 - k ∧ v5 = .int .i64 k ∧ Drawn0 w w')
  case atStart => exact ⟨0, by omega, by omega, rfl, Drawn0.refl _⟩
  case round =>
    obtain ⟨k, hk, rfl, rfl, ⟨m, rfl⟩⟩ := hrel
    by_cases hlt : k < l.length
    · obtain ⟨ad, rfl, hc⟩ := at_nat HR.out k hlt
      obtain ⟨ad', rfl, hc'⟩ := at_nat HR'.out k hlt
      have hi : (k : Int) < (l.length : Int) := by omega
      go_wp2
      go_quiet (fail)
      go_wp2
      go_roundg (l.length + 1 - (k + 1))
      case measure => omega
      case rel => exact ⟨k + 1, by omega, rfl, by go_num, by repeat (first | exact Drawn0.refl _ | apply Drawn0.step)⟩
    · go_wp2
      go_ret
      exact ⟨rfl, by repeat (first | exact Drawn0.refl _ | apply Drawn0.step)⟩

theorem SlC.drawn {w w1 : World} {A : Option Addr} {c : Nat} {l : List Int} (h : SlC w A c l) (hb : Drawn0 w w1) : SlC w1 A c l := by obtain ⟨n, rfl⟩ := hb.out; exact h
def ArC (w : World) (A : Nat → Option Addr) (c : Nat → Nat) (L : Nat → List Int) : Prop := ∀ i, i < 4 → SlC w (A i) (c i) (L i)
theorem ArC.below {w w1 : World} {A : Nat → Option Addr} {c : Nat → Nat} {L : Nat → List Int} (h : ArC w A c L) (hb : Below w.heap.size w w1) : ArC w1 A c L := fun i hi => (h i hi).below hb
set_option maxRecDepth 100000 in
theorem eqIntSA4_same (A : Nat → Option Addr) (c : Nat → Nat) (A' : Nat → Option Addr) (c' : Nat → Nat) (L : Nat → List Int) (w : World) (h : ArC w A c L) (h' : ArC w A' c' L) (hl : ∀ i, (L i).length ≤ 9223372036854775807) :
    Calls Try.prog 37 #[.agg (arrV A c L), .agg (arrV A' c' L)] w fun e w' => e = .returned (.bool true) ∧ Below w.heap.size w w' := by
  have HR := Aside0.mk h
  have HR' := Aside0.mk h'
  have HL := Aside0.mk hl
  clear h h' hl
  have HB := Aside0.mk (Below.refl w.heap.size w)
  go_enter Try.func37, Try.ntmps37
  go_wp2_with (first | ((with_reducible refine gate_dst (N := 2) rfl ?_); refine box_event rfl (N := 2) rfl (cs := arrV A c L) (t := 25) (by first | (go_simp; done) | (go_simp; rfl)) ?_; intro gb hggb w1 hbox hb; have n0_ := Aside0.mk (below_step HB.out hb); have BKgb := Aside0.mk hbox; have HGgb := Aside0.mk (show w.heap.size ≤ gb by rw [hggb]; exact HB.out.size); clear HB; have HB := n0_; clear n0_ hbox hb hggb) | ((with_reducible refine gate_dst (N := 3) rfl ?_); refine box_event rfl (N := 3) rfl (cs := arrV A' c' L) (t := 25) (by first | (go_simp; done) | (go_simp; rfl)) ?_; intro gc hggc w2 hbox hb; have n0_ := Aside0.mk (below_step HB.out hb); have BKgc := Aside0.mk hbox; have HGgc := Aside0.mk (show w.heap.size ≤ gc by rw [hggc]; exact HB.out.size); clear HB; have HB := n0_; have BKgb := Aside0.mk (blk_below BKgb.out hb); clear n0_ hbox hb hggc))
  go_loopg [5] 5 (fun kq v5 w' => ∃ k : Nat, k ≤ 4 ∧ kq = 5 - k ∧ v5 = .int .i64 k ∧ Aside0 (w'.heap[gb]? = some (.cells (arrV A c L) 25 (0, 0))) ∧ Aside0 (w'.heap[gc]? = some (.cells (arrV A' c' L) 25 (0, 0))) ∧ Aside0 (Below w.heap.size w w'))
  case atStart => exact ⟨0, by omega, by omega, rfl, BKgb, BKgc, HB⟩
  case round =>
    obtain ⟨k, hk, rfl, rfl, BKgb, BKgc, HB⟩ := hrel
    by_cases hlt : k < 4
    · have hcell : wr.cell? ⟨gb, k, none⟩ = some (.slice (A k) (L k).length (c k)) := (blk_cell BKgb.out k).trans (arrV_at A c L k hlt)
      have hfz := blk_frozen BKgb.out k
      have hcell' : wr.cell? ⟨gc, k, none⟩ = some (.slice (A' k) (L k).length (c' k)) := (blk_cell BKgc.out k).trans (arrV_at A' c' L k hlt)
      have hfz' := blk_frozen BKgc.out k
      have hi : (k : Int) < 4 := by omega
      have HC := Aside0.mk ((HR.out k hlt).below HB.out)
      have HC' := Aside0.mk ((HR'.out k hlt).below HB.out)
      go_wp2
      go_quiet ((go_at_call 27; exact Calls.quiet_of ((eqIntS_same _ _ _ _ _ _ (HC.out.drewN _) (HC'.out.drewN _) (HL.out k)).mono fun _ _ ⟨he, hd⟩ => ⟨he, hd.out⟩)))
      go_wp2
      go_roundg (5 - (k + 1))
      case measure => omega
      case rel => exact ⟨k + 1, by omega, rfl, by go_num, BKgb, BKgc, ⟨pw_below_drewN HB.out _⟩⟩
    · go_wp2
      go_ret
      exact ⟨rfl, HB.out⟩

theorem BkC.ar {w : World} {A : Nat → Option Addr} {c : Nat → Nat} {L : Nat → List Int} (h : BkC w A c L) : ArC w (fun i => A (i + 1)) (fun i => c (i + 1)) (fun i => L (i + 1)) := fun i hi => h (i + 1) (by omega)
set_option maxHeartbeats 1000000 in
set_option maxRecDepth 100000 in
theorem eqBook_same (s : Int) (A : Nat → Option Addr) (c : Nat → Nat) (A' : Nat → Option Addr) (c' : Nat → Nat) (L : Nat → List Int) (w : World) (h : BkC w A c L) (h' : BkC w A' c' L) (hl : ∀ i, (L i).length ≤ 9223372036854775807) :
    Calls Try.prog 14 #[.agg (bkCells s A c L), .agg (bkCells s A' c' L)] w fun e w' => e = .returned (.bool true) ∧ Below w.heap.size w w' := by
  have HR := Aside0.mk h
  have HR' := Aside0.mk h'
  have HL := Aside0.mk hl
  clear h h' hl
  have HB := Aside0.mk (Below.refl w.heap.size w)
  go_enter Try.func14, Try.ntmps14
  go_wp2_with (first | ((with_reducible refine gate_dst (N := 2) rfl ?_); refine box_event rfl (N := 2) rfl (cs := bkCells s A c L) (t := 27) (by first | (go_simp; done) | (go_simp; rfl)) ?_; intro gb hggb w1 hbox hb; have n0_ := Aside0.mk (below_step HB.out hb); have BKgb := Aside0.mk hbox; have HGgb := Aside0.mk (show w.heap.size ≤ gb by rw [hggb]; exact HB.out.size); clear HB; have HB := n0_; clear n0_ hbox hb hggb) | ((with_reducible refine gate_dst (N := 3) rfl ?_); refine box_event rfl (N := 3) rfl (cs := bkCells s A' c' L) (t := 27) (by first | (go_simp; done) | (go_simp; rfl)) ?_; intro gc hggc w2 hbox hb; have n0_ := Aside0.mk (below_step HB.out hb); have BKgc := Aside0.mk hbox; have HGgc := Aside0.mk (show w.heap.size ≤ gc by rw [hggc]; exact HB.out.size); clear HB; have HB := n0_; have BKgb := Aside0.mk (blk_below BKgb.out hb); have fgbs0 : w2.cell? ⟨gb, 0, none⟩ = some (.int .i64 _) := (blk_cell BKgb.out 0).trans rfl; have fgb1 : w2.cell? ⟨gb, 1, none⟩ = some (.slice (A 0) (L 0).length (c 0)) := (blk_cell BKgb.out 1).trans rfl; have fgb2 : w2.cell? ⟨gb, 2, none⟩ = some (.slice (A 1) (L 1).length (c 1)) := (blk_cell BKgb.out 2).trans rfl; have fgb3 : w2.cell? ⟨gb, 3, none⟩ = some (.slice (A 2) (L 2).length (c 2)) := (blk_cell BKgb.out 3).trans rfl; have fgb4 : w2.cell? ⟨gb, 4, none⟩ = some (.slice (A 3) (L 3).length (c 3)) := (blk_cell BKgb.out 4).trans rfl; have fgb5 : w2.cell? ⟨gb, 5, none⟩ = some (.slice (A 4) (L 4).length (c 4)) := (blk_cell BKgb.out 5).trans rfl; have fgb6 : w2.cell? ⟨gb, 6, none⟩ = some (.slice (A 5) (L 5).length (c 5)) := (blk_cell BKgb.out 6).trans rfl; have fgb7 : w2.cell? ⟨gb, 7, none⟩ = some (.slice (A 6) (L 6).length (c 6)) := (blk_cell BKgb.out 7).trans rfl; have fgb8 : w2.cell? ⟨gb, 8, none⟩ = some (.slice (A 7) (L 7).length (c 7)) := (blk_cell BKgb.out 8).trans rfl; have fgbz0 := blk_frozen BKgb.out 0; have fgbz1 := blk_frozen BKgb.out 1; have fgbz2 := blk_frozen BKgb.out 2; have fgbz3 := blk_frozen BKgb.out 3; have fgbz4 := blk_frozen BKgb.out 4; have fgbz5 := blk_frozen BKgb.out 5; have fgbz6 := blk_frozen BKgb.out 6; have fgbz7 := blk_frozen BKgb.out 7; have fgbz8 := blk_frozen BKgb.out 8; have fgcs0 : w2.cell? ⟨gc, 0, none⟩ = some (.int .i64 _) := (blk_cell BKgc.out 0).trans rfl; have fgc1 : w2.cell? ⟨gc, 1, none⟩ = some (.slice (A' 0) (L 0).length (c' 0)) := (blk_cell BKgc.out 1).trans rfl; have fgc2 : w2.cell? ⟨gc, 2, none⟩ = some (.slice (A' 1) (L 1).length (c' 1)) := (blk_cell BKgc.out 2).trans rfl; have fgc3 : w2.cell? ⟨gc, 3, none⟩ = some (.slice (A' 2) (L 2).length (c' 2)) := (blk_cell BKgc.out 3).trans rfl; have fgc4 : w2.cell? ⟨gc, 4, none⟩ = some (.slice (A' 3) (L 3).length (c' 3)) := (blk_cell BKgc.out 4).trans rfl; have fgc5 : w2.cell? ⟨gc, 5, none⟩ = some (.slice (A' 4) (L 4).length (c' 4)) := (blk_cell BKgc.out 5).trans rfl; have fgc6 : w2.cell? ⟨gc, 6, none⟩ = some (.slice (A' 5) (L 5).length (c' 5)) := (blk_cell BKgc.out 6).trans rfl; have fgc7 : w2.cell? ⟨gc, 7, none⟩ = some (.slice (A' 6) (L 6).length (c' 6)) := (blk_cell BKgc.out 7).trans rfl; have fgc8 : w2.cell? ⟨gc, 8, none⟩ = some (.slice (A' 7) (L 7).length (c' 7)) := (blk_cell BKgc.out 8).trans rfl; have fgcz0 := blk_frozen BKgc.out 0; have fgcz1 := blk_frozen BKgc.out 1; have fgcz2 := blk_frozen BKgc.out 2; have fgcz3 := blk_frozen BKgc.out 3; have fgcz4 := blk_frozen BKgc.out 4; have fgcz5 := blk_frozen BKgc.out 5; have fgcz6 := blk_frozen BKgc.out 6; have fgcz7 := blk_frozen BKgc.out 7; have fgcz8 := blk_frozen BKgc.out 8; have HC := Aside0.mk (HR.out.below HB.out); have HC' := Aside0.mk (HR'.out.below HB.out); clear n0_ hbox hb hggc))
  refine (eqIntS_same _ _ _ _ _ _ (HC.out 0 (by omega)) (HC'.out 0 (by omega)) (HL.out 0)).mono ?_
  rintro e w3 ⟨rfl, ⟨n, rfl⟩⟩
  go_wp2_with fail
  refine (eqIntSA4_same (fun i => A (i + 1)) (fun i => c (i + 1)) (fun i => A' (i + 1)) (fun i => c' (i + 1)) (fun i => L (i + 1)) _ (HC.out.ar.below (Drawn0.below ⟨n, rfl⟩)) (HC'.out.ar.below (Drawn0.below ⟨n, rfl⟩)) (fun i => HL.out (i + 1))).mono ?_
  rintro e w4 ⟨rfl, hb4⟩
  have HB4 := Aside0.mk (below_step (pw_below_drewN HB.out n) hb4)
  have BKgb4 := Aside0.mk (blk_below (blk_drewN BKgb.out n) hb4)
  have BKgc4 := Aside0.mk (blk_below (blk_drewN BKgc.out n) hb4)
  clear hb4 fgbs0 fgbz0 fgb1 fgbz1 fgb2 fgbz2 fgb3 fgbz3 fgb4 fgbz4 fgb5 fgbz5 fgb6 fgbz6 fgb7 fgbz7 fgb8 fgbz8 fgcs0 fgcz0 fgc1 fgcz1 fgc2 fgcz2 fgc3 fgcz3 fgc4 fgcz4 fgc5 fgcz5 fgc6 fgcz6 fgc7 fgcz7 fgc8 fgcz8 HB HC HC' BKgb BKgc
  have fgbs0 : w4.cell? ⟨gb, 0, none⟩ = some (.int .i64 _) := (blk_cell BKgb4.out 0).trans rfl; have fgb1 : w4.cell? ⟨gb, 1, none⟩ = some (.slice (A 0) (L 0).length (c 0)) := (blk_cell BKgb4.out 1).trans rfl; have fgb2 : w4.cell? ⟨gb, 2, none⟩ = some (.slice (A 1) (L 1).length (c 1)) := (blk_cell BKgb4.out 2).trans rfl; have fgb3 : w4.cell? ⟨gb, 3, none⟩ = some (.slice (A 2) (L 2).length (c 2)) := (blk_cell BKgb4.out 3).trans rfl; have fgb4 : w4.cell? ⟨gb, 4, none⟩ = some (.slice (A 3) (L 3).length (c 3)) := (blk_cell BKgb4.out 4).trans rfl; have fgb5 : w4.cell? ⟨gb, 5, none⟩ = some (.slice (A 4) (L 4).length (c 4)) := (blk_cell BKgb4.out 5).trans rfl; have fgb6 : w4.cell? ⟨gb, 6, none⟩ = some (.slice (A 5) (L 5).length (c 5)) := (blk_cell BKgb4.out 6).trans rfl; have fgb7 : w4.cell? ⟨gb, 7, none⟩ = some (.slice (A 6) (L 6).length (c 6)) := (blk_cell BKgb4.out 7).trans rfl; have fgb8 : w4.cell? ⟨gb, 8, none⟩ = some (.slice (A 7) (L 7).length (c 7)) := (blk_cell BKgb4.out 8).trans rfl; have fgbz0 := blk_frozen BKgb4.out 0; have fgbz1 := blk_frozen BKgb4.out 1; have fgbz2 := blk_frozen BKgb4.out 2; have fgbz3 := blk_frozen BKgb4.out 3; have fgbz4 := blk_frozen BKgb4.out 4; have fgbz5 := blk_frozen BKgb4.out 5; have fgbz6 := blk_frozen BKgb4.out 6; have fgbz7 := blk_frozen BKgb4.out 7; have fgbz8 := blk_frozen BKgb4.out 8
  have fgcs0 : w4.cell? ⟨gc, 0, none⟩ = some (.int .i64 _) := (blk_cell BKgc4.out 0).trans rfl; have fgc1 : w4.cell? ⟨gc, 1, none⟩ = some (.slice (A' 0) (L 0).length (c' 0)) := (blk_cell BKgc4.out 1).trans rfl; have fgc2 : w4.cell? ⟨gc, 2, none⟩ = some (.slice (A' 1) (L 1).length (c' 1)) := (blk_cell BKgc4.out 2).trans rfl; have fgc3 : w4.cell? ⟨gc, 3, none⟩ = some (.slice (A' 2) (L 2).length (c' 2)) := (blk_cell BKgc4.out 3).trans rfl; have fgc4 : w4.cell? ⟨gc, 4, none⟩ = some (.slice (A' 3) (L 3).length (c' 3)) := (blk_cell BKgc4.out 4).trans rfl; have fgc5 : w4.cell? ⟨gc, 5, none⟩ = some (.slice (A' 4) (L 4).length (c' 4)) := (blk_cell BKgc4.out 5).trans rfl; have fgc6 : w4.cell? ⟨gc, 6, none⟩ = some (.slice (A' 5) (L 5).length (c' 5)) := (blk_cell BKgc4.out 6).trans rfl; have fgc7 : w4.cell? ⟨gc, 7, none⟩ = some (.slice (A' 6) (L 6).length (c' 6)) := (blk_cell BKgc4.out 7).trans rfl; have fgc8 : w4.cell? ⟨gc, 8, none⟩ = some (.slice (A' 7) (L 7).length (c' 7)) := (blk_cell BKgc4.out 8).trans rfl; have fgcz0 := blk_frozen BKgc4.out 0; have fgcz1 := blk_frozen BKgc4.out 1; have fgcz2 := blk_frozen BKgc4.out 2; have fgcz3 := blk_frozen BKgc4.out 3; have fgcz4 := blk_frozen BKgc4.out 4; have fgcz5 := blk_frozen BKgc4.out 5; have fgcz6 := blk_frozen BKgc4.out 6; have fgcz7 := blk_frozen BKgc4.out 7; have fgcz8 := blk_frozen BKgc4.out 8
  have HC := Aside0.mk (HR.out.below HB4.out)
  have HC' := Aside0.mk (HR'.out.below HB4.out)
  go_wp2_with fail
  refine (eqIntS_same _ _ _ _ _ _ (HC.out 5 (by omega)) (HC'.out 5 (by omega)) (HL.out 5)).mono ?_
  rintro e w3 ⟨rfl, ⟨n1, rfl⟩⟩
  go_wp2_with fail
  refine (eqIntS_same _ _ _ _ _ _ ((HC.out 6 (by omega)).drewN _) ((HC'.out 6 (by omega)).drewN _) (HL.out 6)).mono ?_
  rintro e w3 ⟨rfl, ⟨n2, rfl⟩⟩
  go_wp2_with fail
  refine (eqIntS_same _ _ _ _ _ _ ((HC.out 7 (by omega)).drewN _) ((HC'.out 7 (by omega)).drewN _) (HL.out 7)).mono ?_
  rintro e w3 ⟨rfl, ⟨n3, rfl⟩⟩
  go_wp2_with fail
  go_ret
  exact ⟨rfl, pw_below_drewN HB4.out _⟩


/-- A row of the call's own, its block from lo on and below hi. -/
def SlO (w : World) (lo hi : Nat) (A : Option Addr) (c : Nat) (l : List Int) : Prop := Kd.R (Kd.int .i64) 3 w lo (fun k => lo ≤ k ∧ k < hi) (.slice A l.length c) l
theorem SlO.move {w w1 : World} {lo hi : Nat} {A : Option Addr} {c : Nat} {l : List Int} (h : SlO w lo hi A c l) (hm : ∀ k, lo ≤ k → k < hi → k < w.heap.size → w1.heap[k]? = w.heap[k]?) : SlO w1 lo hi A c l := Kd.R_step h (fun k hk hs => hm k hk.1 hk.2 hs)
theorem SlO.below {w w1 : World} {lo hi : Nat} {A : Option Addr} {c : Nat} {l : List Int} (h : SlO w lo hi A c l) (hb : Below w.heap.size w w1) : SlO w1 lo hi A c l := Kd.R_below h hb
theorem SlO.wide {w : World} {lo hi lo' hi' : Nat} {A : Option Addr} {c : Nat} {l : List Int} (h : SlO w lo hi A c l) (h0 : lo' ≤ lo) (h1 : hi ≤ hi') : SlO w lo' hi' A c l := Kd.R_lower (Kd.R_mono h (fun k hk => ⟨by omega, by omega⟩)) h0
theorem SlO.c {w : World} {lo hi : Nat} {A : Option Addr} {c : Nat} {l : List Int} (h : SlO w lo hi A c l) : SlC w A c l := by
  obtain ⟨A', c', he, hl, hc⟩ := Kd.R_reads h
  injection he with ha hn hcc
  subst ha
  subst hcc
  exact ⟨hc, hl⟩
theorem SlO.of {w w' : World} {v : Value} {l : List Int} (h : Kd.R (Kd.int .i64) 3 w' w.heap.size (fun _ => True) v l) : ∃ A c, v = .slice A l.length c ∧ SlO w' w.heap.size w'.heap.size A c l := by
  obtain ⟨A, c, rfl⟩ := Kd.R_slice h
  exact ⟨A, c, rfl, Kd.R_mono (Kd.R_bound h) (fun k hk => ⟨hk.2.1, hk.2.2.1⟩)⟩
theorem getD_set_self (x : List Int) (k : Nat) (v : Int) (h : k < x.length) : (x.set k v).getD k 0 = v := by simp [h]
theorem getD_set_ne (x : List Int) (k j : Nat) (v : Int) (h : j ≠ k) : (x.set k v).getD j 0 = x.getD j 0 := by simp [List.getD, List.getElem?_set, Ne.symm h]
theorem eq_of_getD {x l : List Int} (hn : x.length = l.length) (h : ∀ j, j < l.length → x.getD j 0 = l.getD j 0) : x = l := by
  apply List.ext_getElem hn
  intro i h1 h2
  have := h i h2
  simpa [List.getD, List.getElem?_eq_getElem h1, List.getElem?_eq_getElem h2] using this
set_option maxRecDepth 100000 in
theorem toIntS_calls (A : Option Addr) (c : Nat) (l : List Int) (w : World) (h : SlC w A c l) (hl : l.length ≤ 35184372088832) :
    Calls Try.prog 43 #[.slice A l.length c] w fun e w' => ∃ A' c', e = .returned (.slice A' l.length c') ∧ SlO w' w.heap.size w'.heap.size A' c' l ∧ Below w.heap.size w w' := by
  have HR := Aside0.mk h
  have HLn := Aside0.mk hl
  clear h
  have HB := Aside0.mk (Below.refl w.heap.size w)
  go_enter Try.func43, Try.ntmps43
  go_wp2_with (first | ((with_reducible refine gate_dst (N := 7) rfl ?_); refine Kd.R_make (Kd.int .i64) _ 3 rfl (N := 7) rfl 24 _ _ rfl (l.length : Int) rfl rfl Try.underlying24 (.int .i64 0) 8 info3 rfl (by decide) (by omega) 0 (ok := fun _ => True) (okp := fun _ => True) rfl (fun _ hk => hk) trivial (by omega) (by simp only [Int.toNat_natCast]; have := HLn.out; omega) (Below.refl _ _) (Nat.le_refl _) ?_; intro v1 w1 ho hb hg_ hnew_; clear hg_ hnew_; have HO := Aside0.mk ho; have HB := Aside0.mk hb; clear ho hb))
  go_loopg [4] (l.length + 1) (fun kq v4 w' => ∃ (k : Nat) (x : List Int), k ≤ l.length ∧ kq = l.length + 1 - k ∧ v4 = .int .i64 k ∧ x.length = l.length ∧ Aside0 (∀ j, j < k → x.getD j 0 = l.getD j 0) ∧ Aside0 (Kd.R (Kd.int .i64) 3 w' w.heap.size (fun _ => True) v1 x) ∧ Aside0 (Below w.heap.size w w'))
  case atStart => exact ⟨0, _, by omega, by omega, rfl, by simp, ⟨fun j hj => by omega⟩, HO, HB⟩
  case round =>
    clear HO HB
    obtain ⟨k, x, hk, rfl, rfl, hx, HX, HO, HB⟩ := hrel
    have hN := Aside0.mk hx
    by_cases hlt : k < l.length
    · obtain ⟨ad, rfl, hc⟩ := at_nat HR.out k hlt
      have hcell := (HB.out.cell (World.block_lt_of_cell? w _ hc)).trans hc
      clear hc
      obtain ⟨go, co, eo, gbl, gl, cl, HG⟩ := Kd.R_form HO.out (by omega)
      subst eo
      have GB := Aside0.mk gbl
      clear gbl gl cl HG
      have p9 : (0 : Int) ≤ (k : Int) := by omega
      have q9 : (k : Int) < (x.length : Int) := by omega
      obtain ⟨hx9, hf9⟩ := Kd.R_celln 0 HO.out (k : Int) p9 q9
      have HP := Kd.R_putg HO.out (k : Int) (l.getD k 0)
      rw [Int.toNat_natCast] at hx9 hf9 HP
      have hi : (k : Int) < (l.length : Int) := by omega
      clear hx
      go_wp2_with (first | ((with_reducible refine gate_store (t := 3) (p := 20) rfl ?_); refine store_event (t := 3) (p := 20) (v := ?vo) (w1 := (wr.setCell ⟨go, k, none⟩ (.int .i64 (l.getD k 0)))) ?hg ?ho ?hn ?hr ?_; (case ho => rfl); (case hg => rfl); (case hn => rfl); (case hr => first | (go_simp; done) | (go_simp; rfl)); intro w2 hw; have HO2 := Aside0.mk (show Kd.R (Kd.int .i64) 3 w2 w.heap.size (fun _ => True) (.slice (some ⟨go, 0, none⟩) x.length co) (x.set k (l.getD k 0)) by rw [hw]; exact HP.1); have HB2 := Aside0.mk (show Below w.heap.size w w2 by rw [hw]; exact below_set HB.out GB.out); clear HP HO HB hw))
      go_roundg (l.length + 1 - (k + 1))
      case measure => omega
      case rel =>
        refine ⟨k + 1, x.set k (l.getD k 0), by omega, rfl, by go_num, by rw [List.length_set]; exact hN.out, ⟨fun j hj => ?_⟩, HO2, HB2⟩
        by_cases e : j = k
        · rw [e]; exact getD_set_self _ _ _ (by have := hN.out; omega)
        · rw [getD_set_ne _ _ _ _ e]; exact HX.out j (by omega)
    · have hkl : k = l.length := by omega
      subst hkl
      have hxl := eq_of_getD hN.out (fun j hj => HX.out j hj)
      have HZ := Aside0.mk hxl
      clear hxl hx
      go_wp2
      go_ret
      obtain ⟨A', c', hv, ho⟩ := SlO.of HO.out
      rw [HZ.out] at hv ho
      exact ⟨A', c', by rw [← hv]; rfl, ho, HB.out⟩

abbrev four (V : Nat → Value) : Array Value := #[V 0, V 1, V 2, V 3]
theorem four_set (V : Nat → Value) (k : Nat) (v : Value) (hk : k < 4) : (four V).setIfInBounds k v = four (fun i => if i = k then v else V i) := by
  match k, hk with
  | 0, _ => rfl
  | 1, _ => rfl
  | 2, _ => rfl
  | 3, _ => rfl
/-- The first n values are rows of the call's own, their blocks from lo on and below hi, none another's. -/
def VO (w : World) (lo hi : Nat) (L : Nat → List Int) (n : Nat) (V : Nat → Value) : Prop :=
  (∀ i, i < n → ∃ A c, V i = .slice A (L i).length c ∧ SlO w lo hi A c (L i)) ∧ ∀ i j, i < n → j < n → i ≠ j → NeRow (V i) (V j)
theorem SlO.lt {w : World} {lo hi : Nat} {A : Option Addr} {c : Nat} {l : List Int} (h : SlO w lo hi A c l) (k : Nat) (hk : (Value.slice A l.length c).ownBlock = some k) : lo ≤ k ∧ k < hi := h.1 k hk
theorem SlO.ne {w w1 : World} {lo hi lo' hi' : Nat} {A A' : Option Addr} {c c' : Nat} {l l' : List Int} (h : SlO w lo hi A c l) (h' : SlO w1 lo' hi' A' c' l') (hd : hi ≤ lo' ∨ hi' ≤ lo) : NeRow (.slice A l.length c) (.slice A' l'.length c') := fun k hk hk' => by
  have := h.lt k hk
  have := h'.lt k hk'
  omega
theorem VO.map {w w1 : World} {lo hi lo' hi' : Nat} {L : Nat → List Int} {n : Nat} {V : Nat → Value} (h : VO w lo hi L n V) (f : ∀ {A c l}, SlO w lo hi A c l → SlO w1 lo' hi' A c l) : VO w1 lo' hi' L n V :=
  ⟨fun i hi => by obtain ⟨A, c, e, ho⟩ := h.1 i hi; exact ⟨A, c, e, f ho⟩, h.2⟩
theorem VO.below {w w1 : World} {lo hi : Nat} {L : Nat → List Int} {n : Nat} {V : Nat → Value} (h : VO w lo hi L n V) (hb : Below w.heap.size w w1) : VO w1 lo hi L n V := h.map fun ho => ho.below hb
theorem VO.move {w w1 : World} {lo hi : Nat} {L : Nat → List Int} {n : Nat} {V : Nat → Value} (h : VO w lo hi L n V) (hm : ∀ k, lo ≤ k → k < hi → k < w.heap.size → w1.heap[k]? = w.heap[k]?) : VO w1 lo hi L n V := h.map fun ho => ho.move hm
theorem VO.wide {w : World} {lo hi lo' hi' : Nat} {L : Nat → List Int} {n : Nat} {V : Nat → Value} (h : VO w lo hi L n V) (h0 : lo' ≤ lo) (h1 : hi ≤ hi') : VO w lo' hi' L n V := h.map fun ho => ho.wide h0 h1
theorem SlO.set {w : World} {lo hi : Nat} {A : Option Addr} {c : Nat} {l : List Int} (h : SlO w lo hi A c l) {g t : Nat} {cells : Array Value} (hb : w.heap[g]? = some (.cells cells t (0, 0))) (ht : 3 ≠ t) (j : Nat) (u : Value) : SlO (w.setCell ⟨g, j, none⟩ u) lo hi A c l :=
  Kd.R_set h hb (fun q hq => by simp [Kd.int, Kd.scalar] at hq; subst hq; exact ht) j u
theorem size_set (w : World) (g j : Nat) (u : Value) : (w.setCell ⟨g, j, none⟩ u).heap.size = w.heap.size := by simp
theorem VO.set {w : World} {lo hi : Nat} {L : Nat → List Int} {n : Nat} {V : Nat → Value} (h : VO w lo hi L n V) {g t : Nat} {cells : Array Value} (hb : w.heap[g]? = some (.cells cells t (0, 0))) (ht : 3 ≠ t) (j : Nat) (u : Value) : VO (w.setCell ⟨g, j, none⟩ u) lo hi L n V := h.map fun ho => ho.set hb ht j u
theorem VO.snoc {w w1 : World} {lo : Nat} {L : Nat → List Int} {n : Nat} {V : Nat → Value} (h : VO w lo w.heap.size L n V) (hb : Below w.heap.size w w1) {A : Option Addr} {c : Nat} (ho : SlO w1 w.heap.size w1.heap.size A c (L n)) (hlo : lo ≤ w.heap.size) : VO w1 lo w1.heap.size L (n + 1) (fun i => if i = n then .slice A (L n).length c else V i) := by
  refine ⟨fun i hi => ?_, fun i j hi hj hne => ?_⟩
  · by_cases e : i = n
    · subst e; exact ⟨A, c, by simp, ho.wide hlo (Nat.le_refl _)⟩
    · obtain ⟨A', c', e', ho'⟩ := h.1 i (by omega); exact ⟨A', c', by simp [e, e'], (ho'.below hb).wide (Nat.le_refl _) hb.size⟩
  · by_cases e : i = n
    · subst e
      obtain ⟨A', c', e', ho'⟩ := h.1 j (by omega)
      have : j ≠ i := fun h => hne h.symm
      simp only [if_true, if_neg this, e']
      exact ho.ne ho' (Or.inr (Nat.le_refl _))
    · by_cases e2 : j = n
      · subst e2
        obtain ⟨A', c', e', ho'⟩ := h.1 i (by omega)
        simp only [if_true, if_neg e, e']
        exact ho'.ne ho (Or.inl (Nat.le_refl _))
      · simp only [if_neg e, if_neg e2]; exact h.2 i j (by omega) (by omega) hne
theorem VO.app {w w1 : World} {lo : Nat} {L : Nat → List Int} {n m : Nat} {V V' : Nat → Value} (h : VO w lo w.heap.size L n V) (hb : Below w.heap.size w w1) (h' : VO w1 w.heap.size w1.heap.size (fun i => L (i + n)) m V') (hlo : lo ≤ w.heap.size) : VO w1 lo w1.heap.size L (n + m) (fun i => if i < n then V i else V' (i - n)) := by
  have key : ∀ i, i < n + m → ¬ i < n → ∃ A c, V' (i - n) = .slice A (L i).length c ∧ SlO w1 w.heap.size w1.heap.size A c (L i) := fun i hi hn => by
    obtain ⟨A, c, e, ho⟩ := h'.1 (i - n) (by omega)
    have hin : i - n + n = i := by omega
    simp only [hin] at e ho
    exact ⟨A, c, e, ho⟩
  refine ⟨fun i hi => ?_, fun i j hi hj hne => ?_⟩
  · by_cases e : i < n
    · obtain ⟨A', c', e', ho'⟩ := h.1 i e; exact ⟨A', c', by simp [e, e'], (ho'.below hb).wide (Nat.le_refl _) hb.size⟩
    · obtain ⟨A, c, e', ho⟩ := key i hi e; exact ⟨A, c, by simp [e, e'], ho.wide hlo (Nat.le_refl _)⟩
  · by_cases e : i < n <;> by_cases e2 : j < n
    · simp only [if_pos e, if_pos e2]; exact h.2 i j e e2 hne
    · obtain ⟨A, c, q, ho⟩ := h.1 i e
      obtain ⟨A', c', q', ho'⟩ := key j hj e2
      simp only [if_pos e, if_neg e2, q, q']
      exact ho.ne ho' (Or.inl (Nat.le_refl _))
    · obtain ⟨A, c, q, ho⟩ := h.1 j e2
      obtain ⟨A', c', q', ho'⟩ := key i hi e
      simp only [if_neg e, if_pos e2, q, q']
      exact ho'.ne ho (Or.inr (Nat.le_refl _))
    · simp only [if_neg e, if_neg e2]; exact h'.2 (i - n) (j - n) (by omega) (by omega) (by omega)
theorem VO.none (w : World) (lo hi : Nat) (L : Nat → List Int) (V : Nat → Value) : VO w lo hi L 0 V := ⟨fun i hi => by omega, fun i j hi => by omega⟩
theorem VO.one {w : World} {lo hi : Nat} {L : Nat → List Int} {V : Nat → Value} (h : VO w lo hi L 4 V) : (four V).all (·.oneCell') = true := by
  obtain ⟨A0, c0, e0, _⟩ := h.1 0 (by omega)
  obtain ⟨A1, c1, e1, _⟩ := h.1 1 (by omega)
  obtain ⟨A2, c2, e2, _⟩ := h.1 2 (by omega)
  obtain ⟨A3, c3, e3, _⟩ := h.1 3 (by omega)
  simp [four, e0, e1, e2, e3, Value.oneCell']
theorem SlO.row {w : World} {lo hi : Nat} {A : Option Addr} {c : Nat} {l : List Int} (h : SlO w lo hi A c l) {g t : Nat} {cells : Array Value} (hb : w.heap[g]? = some (.cells cells t (0, 0))) (ht : 3 ≠ t) (cs : Array Value) : SlO (w.setRow g cs) lo hi A c l :=
  Row.row_R rfl h hb (fun q hq => by simp [Kd.int, Kd.scalar] at hq; subst hq; exact ht)
theorem size_row (w : World) (g : Nat) (cs : Array Value) : (w.setRow g cs).heap.size = w.heap.size := by simp
theorem VO.row {w : World} {lo hi : Nat} {L : Nat → List Int} {n : Nat} {V : Nat → Value} (h : VO w lo hi L n V) {g t : Nat} {cells : Array Value} (hb : w.heap[g]? = some (.cells cells t (0, 0))) (ht : 3 ≠ t) (cs : Array Value) : VO (w.setRow g cs) lo hi L n V := h.map fun ho => ho.row hb ht cs
def aOf : Value → Option Addr
  | .slice A _ _ => A
  | _ => none
def cOf : Value → Nat
  | .slice _ _ c => c
  | _ => 0
theorem VO.at_ {w : World} {lo hi : Nat} {L : Nat → List Int} {n : Nat} {V : Nat → Value} (h : VO w lo hi L n V) (i : Nat) (hi' : i < n) : V i = .slice (aOf (V i)) (L i).length (cOf (V i)) := by
  obtain ⟨A, c, e, _⟩ := h.1 i hi'
  rw [e]; rfl
/-- The rows, by their addresses and capacities. -/
abbrev slV (A : Nat → Option Addr) (c : Nat → Nat) (L : Nat → List Int) : Nat → Value := fun i => .slice (A i) (L i).length (c i)
theorem VO.sl {w : World} {lo hi : Nat} {L : Nat → List Int} {n : Nat} {V : Nat → Value} (h : VO w lo hi L n V) : VO w lo hi L n (slV (fun i => aOf (V i)) (fun i => cOf (V i)) L) :=
  ⟨fun i hi => by obtain ⟨A, c, e, ho⟩ := h.1 i hi; exact ⟨A, c, by simp [slV, e, aOf, cOf], ho⟩, fun i j hi hj hne => by have := h.2 i j hi hj hne; rw [h.at_ i hi, h.at_ j hj] at this; exact this⟩
theorem VO.c {w : World} {lo hi : Nat} {L : Nat → List Int} {n : Nat} {A : Nat → Option Addr} {c : Nat → Nat} (h : VO w lo hi L n (slV A c L)) (i : Nat) (hi' : i < n) : SlC w (A i) (c i) (L i) := by
  obtain ⟨A', c', e, ho⟩ := h.1 i hi'
  simp only [slV, Value.slice.injEq, true_and] at e
  obtain ⟨rfl, rfl⟩ := e
  exact ho.c
def nil4 : Nat → Value := fun _ => .slice none 0 0
set_option maxRecDepth 100000 in
theorem toIntSA4_calls (A : Nat → Option Addr) (c : Nat → Nat) (L : Nat → List Int) (w : World) (h : ArC w A c L) (hl : ∀ i, (L i).length ≤ 35184372088832) :
    Calls Try.prog 44 #[.agg (arrV A c L)] w fun e w' => ∃ A' c', e = .returned (.agg (arrV A' c' L)) ∧ VO w' w.heap.size w'.heap.size L 4 (slV A' c' L) ∧ Below w.heap.size w w' := by
  have HR := Aside0.mk h
  have HL := Aside0.mk hl
  clear h hl
  have HB := Aside0.mk (Below.refl w.heap.size w)
  go_enter Try.func44, Try.ntmps44
  go_wp2_with (first | ((with_reducible refine gate_dst (N := 1) rfl ?_); refine box_event rfl (N := 1) rfl (cs := arrV A c L) (t := 25) (by first | (go_simp; done) | (go_simp; rfl)) ?_; intro gb hggb w1 hbox hb; have n0_ := Aside0.mk (below_step HB.out hb); have BKgb := Aside0.mk hbox; have HGgb := Aside0.mk (show w.heap.size ≤ gb by rw [hggb]; exact HB.out.size); clear HB; have HB := n0_; clear n0_ hbox hb hggb) | ((with_reducible refine gate_dst (N := 2) rfl ?_); refine box_event rfl (N := 2) rfl (cs := four nil4) (t := 25) (by first | (go_simp; done) | (go_simp; rfl)) ?_; intro gr hggr w2 hbox hb; have n0_ := Aside0.mk (below_step HB.out hb); have BKgr := Aside0.mk hbox; have HGgr := Aside0.mk (show w.heap.size ≤ gr by rw [hggr]; exact HB.out.size); clear HB; have HB := n0_; have BKgb := Aside0.mk (blk_below BKgb.out hb); clear n0_ hbox hb hggr) | ((with_reducible refine gate_dst (N := 3) rfl ?_); refine box_event rfl (N := 3) rfl (cs := four nil4) (t := 25) (by first | (go_simp; done) | (go_simp; rfl)) ?_; intro go hggo w3 hbox hb; have n0_ := Aside0.mk (below_step HB.out hb); have BKgo := Aside0.mk hbox; have HGgo := Aside0.mk (show w.heap.size ≤ go by rw [hggo]; exact HB.out.size); clear HB; have HB := n0_; have NE1 := Aside0.mk (show gb ≠ go by have := blk_lt BKgb.out; omega); have NE2 := Aside0.mk (show gr ≠ go by have := blk_lt BKgr.out; omega); have BKgb := Aside0.mk (blk_below BKgb.out hb); have BKgr := Aside0.mk (blk_below BKgr.out hb); clear n0_ hbox hb hggo))
  go_loopg [4] 5 (fun kq v4 w' => ∃ (k : Nat) (V : Nat → Value), k ≤ 4 ∧ kq = 5 - k ∧ v4 = .int .i64 k ∧ Aside0 (w'.heap[gb]? = some (.cells (arrV A c L) 25 (0, 0))) ∧ Aside0 (w'.heap[gr]? = some (.cells (four nil4) 25 (0, 0))) ∧ Aside0 (w'.heap[go]? = some (.cells (four V) 25 (0, 0))) ∧ Aside0 (VO w' w.heap.size w'.heap.size L k V) ∧ Aside0 (Below w.heap.size w w'))
  case atStart => exact ⟨0, nil4, by omega, by omega, rfl, BKgb, BKgr, BKgo, ⟨VO.none _ _ _ _ _⟩, HB⟩
  case round =>
    clear HB BKgb BKgr BKgo
    obtain ⟨k, V, hk, rfl, rfl, BKgb, BKgr, BKgo, HV, HB⟩ := hrel
    by_cases hlt : k < 4
    · have hcell : wr.cell? ⟨gb, k, none⟩ = some (.slice (A k) (L k).length (c k)) := (blk_cell BKgb.out k).trans (arrV_at A c L k hlt)
      have hfz := blk_frozen BKgb.out k
      have hi : (k : Int) < 4 := by omega
      have HC := Aside0.mk ((HR.out k hlt).below HB.out)
      go_wp2_with fail
      refine (toIntS_calls _ _ _ _ HC.out (HL.out k)).mono ?_
      rintro e w4 ⟨A', c', rfl, ho, hb⟩
      have HV4 := Aside0.mk (HV.out.snoc hb ho HB.out.size)
      have HB4 := Aside0.mk (below_step HB.out hb)
      have BKgb4 := Aside0.mk (blk_below BKgb.out hb)
      have BKgr4 := Aside0.mk (blk_below BKgr.out hb)
      have BKgo4 := Aside0.mk (blk_below BKgo.out hb)
      clear HV HB BKgb BKgr BKgo HC hcell hfz ho hb
      have hold : w4.cell? ⟨go, k, none⟩ = some (V k) := (blk_cell BKgo4.out k).trans (by match k, hlt with | 0, _ => rfl | 1, _ => rfl | 2, _ => rfl | 3, _ => rfl)
      have hfo := blk_frozen BKgo4.out k
      go_wp2_with (first | ((with_reducible refine gate_store (t := 24) (p := 14) rfl ?_); refine store_event (t := 24) (p := 14) (v := ?vo_3) (w1 := (w4.setCell ⟨go, k, none⟩ (.slice A' (L k).length c'))) ?hg ?ho ?hn ?hr ?_; (case ho => rfl); (case hg => rfl); (case hn => rfl); (case hr => first | (go_simp; done) | (go_simp; rfl)); intro w5 hw; have HV := Aside0.mk (show VO w5 w.heap.size w5.heap.size L (k + 1) _ by rw [hw, size_set]; exact HV4.out.set BKgo4.out (by decide) k _); have HB := Aside0.mk (show Below w.heap.size w w5 by rw [hw]; exact below_set HB4.out HGgo.out); have BKgb := Aside0.mk (show w5.heap[gb]? = some (.cells (arrV A c L) 25 (0, 0)) by rw [hw]; exact blk_far BKgb4.out NE1.out _); have BKgr := Aside0.mk (show w5.heap[gr]? = some (.cells (four nil4) 25 (0, 0)) by rw [hw]; exact blk_far BKgr4.out NE2.out _); have BKgo := Aside0.mk (show w5.heap[go]? = some (.cells (four _) 25 (0, 0)) by rw [hw]; exact (blk_set BKgo4.out k _).trans (by rw [four_set V k _ hlt])); clear hw))
      go_roundg (5 - (k + 1))
      case measure => omega
      case rel => exact ⟨k + 1, _, by omega, rfl, by go_num, BKgb, BKgr, BKgo, HV, HB⟩
    · have hk4 : k = 4 := by omega
      subst hk4
      go_wp2_with (first | ((with_reducible refine gate_dst (N := 15) rfl ?_); refine Kd.event_run rfl (Row.load_row_run (g := go) (t := 25) (cells := four V) rfl rfl BKgo.out Try.underlying25 rfl (by kernel_rfl)) ?_) | ((with_reducible refine gate_store (t := 25) (p := 2) rfl ?_); refine store_event (t := 25) (p := 2) (v := ?vo_4) (w1 := wr.setRow gr (four V)) ?hg ?ho ?hn ?hr ?_; (case ho => rfl); (case hg => rfl); (case hn => rfl); (case hr => exact (Row.store_row_run (g := gr) (cells := four V) (t := 25) (old := four nil4) rfl (by rfl) (by rfl) BKgr.out (by kernel_rfl) rfl (HV.out.one))); intro w6 hw; have HV5 := Aside0.mk (show VO w6 w.heap.size w6.heap.size L 4 V by rw [hw, size_row]; exact HV.out.row BKgr.out (by decide) _); have HB5 := Aside0.mk (Row.row_below hw HB.out HGgr.out); have BK5 := Aside0.mk (Row.row_here hw BKgr.out); clear hw))
      refine bodyPost_ret (results_cell_row rfl _ _ gr 25 (four V) (0, 0) _ rfl BK5.out Try.underlying25 rfl (by kernel_rfl)) rfl ?_
      exact ⟨_, _, by simp only [four, arrV]; rw [← HV5.out.at_ 0 (by omega), ← HV5.out.at_ 1 (by omega), ← HV5.out.at_ 2 (by omega), ← HV5.out.at_ 3 (by omega)], HV5.out.sl, HB5.out⟩


/-- A book's rows are the call's own. -/
def BkO (w : World) (lo hi : Nat) (A : Nat → Option Addr) (c : Nat → Nat) (L : Nat → List Int) : Prop := VO w lo hi L 8 (slV A c L)
theorem BkO.c {w : World} {lo hi : Nat} {A : Nat → Option Addr} {c : Nat → Nat} {L : Nat → List Int} (h : BkO w lo hi A c L) : BkC w A c L := fun i hi => VO.c h i hi
theorem BkO.below {w w1 : World} {lo hi : Nat} {A : Nat → Option Addr} {c : Nat → Nat} {L : Nat → List Int} (h : BkO w lo hi A c L) (hb : Below w.heap.size w w1) : BkO w1 lo hi A c L := VO.below h hb
set_option maxHeartbeats 2000000 in
set_option maxRecDepth 100000 in
theorem toBook_calls (s : Int) (A : Nat → Option Addr) (c : Nat → Nat) (L : Nat → List Int) (w : World) (h : BkC w A c L) (hl : ∀ i, (L i).length ≤ 35184372088832) :
    Calls Try.prog 19 #[.agg (bkCells s A c L)] w fun e w' => ∃ A' c', e = .returned (.agg (bkCells s A' c' L)) ∧ BkO w' w.heap.size w'.heap.size A' c' L ∧ Below w.heap.size w w' := by
  have HR := Aside0.mk h
  have HL := Aside0.mk hl
  clear h hl
  have HB := Aside0.mk (Below.refl w.heap.size w)
  go_enter Try.func19, Try.ntmps19
  go_wp2_with (first | ((with_reducible refine gate_dst (N := 1) rfl ?_); refine box_event rfl (N := 1) rfl (cs := bkCells s A c L) (t := 34) (by first | (go_simp; done) | (go_simp; rfl)) ?_; intro gb hggb w1 hbox hb; have n0_ := Aside0.mk (below_step HB.out hb); have BKgb := Aside0.mk hbox; have HGgb := Aside0.mk (show w.heap.size ≤ gb by rw [hggb]; exact HB.out.size); clear HB; have HB := n0_; clear n0_ hbox hb hggb) | ((with_reducible refine gate_dst (N := 2) rfl ?_); refine box_event rfl (N := 2) rfl (cs := #[.int .i64 0, .slice none 0 0, .slice none 0 0, .slice none 0 0, .slice none 0 0, .slice none 0 0, .slice none 0 0, .slice none 0 0, .slice none 0 0]) (t := 27) (by first | (go_simp; done) | (go_simp; rfl)) ?_; intro gr hggr w2 hbox hb; have n0_ := Aside0.mk (below_step HB.out hb); have BKgr := Aside0.mk hbox; have HGgr := Aside0.mk (show w.heap.size ≤ gr by rw [hggr]; exact HB.out.size); clear HB; have HB := n0_; have BKgb := Aside0.mk (blk_below BKgb.out hb); clear n0_ hbox hb hggr) | ((with_reducible refine gate_dst (N := 3) rfl ?_); refine box_event rfl (N := 3) rfl (cs := #[.int .i64 0, .slice none 0 0, .slice none 0 0, .slice none 0 0, .slice none 0 0, .slice none 0 0, .slice none 0 0, .slice none 0 0, .slice none 0 0]) (t := 27) (by first | (go_simp; done) | (go_simp; rfl)) ?_; intro go hggo w3 hbox hb; have n0_ := Aside0.mk (below_step HB.out hb); have BKgo := Aside0.mk hbox; have HGgo := Aside0.mk (show w.heap.size ≤ go by rw [hggo]; exact HB.out.size); clear HB; have HB := n0_; have NE1 := Aside0.mk (show gb ≠ go by have := blk_lt BKgb.out; omega); have NE2 := Aside0.mk (show gr ≠ go by have := blk_lt BKgr.out; omega); have BKgb := Aside0.mk (blk_below BKgb.out hb); have BKgr := Aside0.mk (blk_below BKgr.out hb); have HV := Aside0.mk (VO.none w3 w.heap.size w3.heap.size L (fun _ => .slice none 0 0)); have fl0 : w3.cell? ⟨gb, 0, none⟩ = some (.int .i64 s) := (blk_cell BKgb.out 0).trans rfl; have zl0 := blk_frozen BKgb.out 0; have fo0 : w3.cell? ⟨go, 0, none⟩ = some (.int .i64 0) := (blk_cell BKgo.out 0).trans rfl; have zo0 := blk_frozen BKgo.out 0; clear n0_ hbox hb hggo) | ((with_reducible refine gate_store (t := 3) (p := 6) rfl ?_); refine store_event (t := 3) (p := 6) (v := ?vo_12) (w1 := (w3.setCell ⟨go, 0, none⟩ (.int .i64 s))) ?hg ?ho ?hn ?hr ?_; (case ho => rfl); (case hg => rfl); (case hn => rfl); (case hr => first | (go_simp; done) | (go_simp; rfl)); intro w4 hw; have HV2 := Aside0.mk (show VO w4 w.heap.size w4.heap.size L _ _ by rw [hw, size_set]; exact (VO.set HV.out BKgo.out (by decide) 0 _)); have HB2 := Aside0.mk (show Below w.heap.size w w4 by rw [hw]; exact (below_set HB.out HGgo.out)); have BKgb2 := Aside0.mk (show w4.heap[gb]? = some (.cells (bkCells s A c L) 34 (0, 0)) by rw [hw]; exact (blk_far BKgb.out NE1.out _)); have BKgr2 := Aside0.mk (show w4.heap[gr]? = some (.cells #[.int .i64 0, .slice none 0 0, .slice none 0 0, .slice none 0 0, .slice none 0 0, .slice none 0 0, .slice none 0 0, .slice none 0 0, .slice none 0 0] 27 (0, 0)) by rw [hw]; exact (blk_far BKgr.out NE2.out _)); have BKgo2 := Aside0.mk (show w4.heap[go]? = some (.cells #[.int .i64 s, .slice none 0 0, .slice none 0 0, .slice none 0 0, .slice none 0 0, .slice none 0 0, .slice none 0 0, .slice none 0 0, .slice none 0 0] 27 (0, 0)) by rw [hw]; exact (blk_set BKgo.out 0 _)); clear HV HB BKgb BKgr BKgo fl0 zl0 fo0 zo0; have HV := HV2; have HB := HB2; have BKgb := BKgb2; have BKgr := BKgr2; have BKgo := BKgo2; clear HV2 HB2 BKgb2 BKgr2 BKgo2; have fl1 : w4.cell? ⟨gb, 1, none⟩ = some (.slice (A 0) (L 0).length (c 0)) := (blk_cell BKgb.out 1).trans rfl; have zl1 := blk_frozen BKgb.out 1; clear hw))
  refine (toIntS_calls _ _ _ _ ((HR.out 0 (by omega)).below HB.out) (HL.out 0)).mono ?_
  rintro e w5 ⟨A0, k0, rfl, ho, hb⟩
  have HV2 := Aside0.mk (HV.out.snoc hb ho HB.out.size)
  have HB2 := Aside0.mk (below_step HB.out hb)
  have BKgb2 := Aside0.mk (blk_below BKgb.out hb)
  have BKgr2 := Aside0.mk (blk_below BKgr.out hb)
  have BKgo2 := Aside0.mk (blk_below BKgo.out hb)
  clear HV HB BKgb BKgr BKgo hb ho
  have HV := HV2
  have HB := HB2
  have BKgb := BKgb2
  have BKgr := BKgr2
  have BKgo := BKgo2
  clear HV2 HB2 BKgb2 BKgr2 BKgo2
  clear fl1 zl1
  have fl2 : w5.cell? ⟨gb, 2, none⟩ = some (.slice (A 1) (L 1).length (c 1)) := (blk_cell BKgb.out 2).trans rfl
  have zl2 := blk_frozen BKgb.out 2
  have fl3 : w5.cell? ⟨gb, 3, none⟩ = some (.slice (A 2) (L 2).length (c 2)) := (blk_cell BKgb.out 3).trans rfl
  have zl3 := blk_frozen BKgb.out 3
  have fl4 : w5.cell? ⟨gb, 4, none⟩ = some (.slice (A 3) (L 3).length (c 3)) := (blk_cell BKgb.out 4).trans rfl
  have zl4 := blk_frozen BKgb.out 4
  have fl5 : w5.cell? ⟨gb, 5, none⟩ = some (.slice (A 4) (L 4).length (c 4)) := (blk_cell BKgb.out 5).trans rfl
  have zl5 := blk_frozen BKgb.out 5
  have fo1 : w5.cell? ⟨go, 1, none⟩ = some (.slice none 0 0) := (blk_cell BKgo.out 1).trans rfl
  have zo1 := blk_frozen BKgo.out 1
  go_wp2_with (first | ((with_reducible refine gate_store (t := 24) (p := 10) rfl ?_); refine store_event (t := 24) (p := 10) (v := ?vo_13) (w1 := (w5.setCell ⟨go, 1, none⟩ (.slice A0 (L 0).length k0))) ?hg ?ho ?hn ?hr ?_; (case ho => rfl); (case hg => rfl); (case hn => rfl); (case hr => first | (go_simp; done) | (go_simp; rfl)); intro w6 hw; have HV2 := Aside0.mk (show VO w6 w.heap.size w6.heap.size L _ _ by rw [hw, size_set]; exact (VO.set HV.out BKgo.out (by decide) 1 _)); have HB2 := Aside0.mk (show Below w.heap.size w w6 by rw [hw]; exact (below_set HB.out HGgo.out)); have BKgb2 := Aside0.mk (show w6.heap[gb]? = some (.cells (bkCells s A c L) 34 (0, 0)) by rw [hw]; exact (blk_far BKgb.out NE1.out _)); have BKgr2 := Aside0.mk (show w6.heap[gr]? = some (.cells #[.int .i64 0, .slice none 0 0, .slice none 0 0, .slice none 0 0, .slice none 0 0, .slice none 0 0, .slice none 0 0, .slice none 0 0, .slice none 0 0] 27 (0, 0)) by rw [hw]; exact (blk_far BKgr.out NE2.out _)); have BKgo2 := Aside0.mk (show w6.heap[go]? = some (.cells #[.int .i64 s, .slice A0 (L 0).length k0, .slice none 0 0, .slice none 0 0, .slice none 0 0, .slice none 0 0, .slice none 0 0, .slice none 0 0, .slice none 0 0] 27 (0, 0)) by rw [hw]; exact (blk_set BKgo.out 1 _)); clear HV HB BKgb BKgr BKgo fl2 zl2 fl3 zl3 fl4 zl4 fl5 zl5 fo1 zo1; have HV := HV2; have HB := HB2; have BKgb := BKgb2; have BKgr := BKgr2; have BKgo := BKgo2; clear HV2 HB2 BKgb2 BKgr2 BKgo2; have fl2 : w6.cell? ⟨gb, 2, none⟩ = some (.slice (A 1) (L 1).length (c 1)) := (blk_cell BKgb.out 2).trans rfl; have zl2 := blk_frozen BKgb.out 2; have fl3 : w6.cell? ⟨gb, 3, none⟩ = some (.slice (A 2) (L 2).length (c 2)) := (blk_cell BKgb.out 3).trans rfl; have zl3 := blk_frozen BKgb.out 3; have fl4 : w6.cell? ⟨gb, 4, none⟩ = some (.slice (A 3) (L 3).length (c 3)) := (blk_cell BKgb.out 4).trans rfl; have zl4 := blk_frozen BKgb.out 4; have fl5 : w6.cell? ⟨gb, 5, none⟩ = some (.slice (A 4) (L 4).length (c 4)) := (blk_cell BKgb.out 5).trans rfl; have zl5 := blk_frozen BKgb.out 5; clear hw))
  refine (toIntSA4_calls (fun i => A (i + 1)) (fun i => c (i + 1)) (fun i => L (i + 1)) _ (HR.out.ar.below HB.out) (fun i => HL.out (i + 1))).mono ?_
  rintro e w7 ⟨A1, k1, rfl, ho, hb⟩
  have HV2 := Aside0.mk (HV.out.app (n := 1) (m := 4) hb ho HB.out.size)
  have HB2 := Aside0.mk (below_step HB.out hb)
  have BKgb2 := Aside0.mk (blk_below BKgb.out hb)
  have BKgr2 := Aside0.mk (blk_below BKgr.out hb)
  have BKgo2 := Aside0.mk (blk_below BKgo.out hb)
  clear HV HB BKgb BKgr BKgo hb ho
  have HV := HV2
  have HB := HB2
  have BKgb := BKgb2
  have BKgr := BKgr2
  have BKgo := BKgo2
  clear HV2 HB2 BKgb2 BKgr2 BKgo2
  clear fl2 zl2 fl3 zl3 fl4 zl4 fl5 zl5
  have fl6 : w7.cell? ⟨gb, 6, none⟩ = some (.slice (A 5) (L 5).length (c 5)) := (blk_cell BKgb.out 6).trans rfl
  have zl6 := blk_frozen BKgb.out 6
  have fo2 : w7.cell? ⟨go, 2, none⟩ = some (.slice none 0 0) := (blk_cell BKgo.out 2).trans rfl
  have zo2 := blk_frozen BKgo.out 2
  have fo3 : w7.cell? ⟨go, 3, none⟩ = some (.slice none 0 0) := (blk_cell BKgo.out 3).trans rfl
  have zo3 := blk_frozen BKgo.out 3
  have fo4 : w7.cell? ⟨go, 4, none⟩ = some (.slice none 0 0) := (blk_cell BKgo.out 4).trans rfl
  have zo4 := blk_frozen BKgo.out 4
  have fo5 : w7.cell? ⟨go, 5, none⟩ = some (.slice none 0 0) := (blk_cell BKgo.out 5).trans rfl
  have zo5 := blk_frozen BKgo.out 5
  go_wp2_with (first | ((with_reducible refine gate_store (t := 25) (p := 14) rfl ?_); refine store_event (t := 25) (p := 14) (v := ?vo_14) (w1 := ((((w7.setCell ⟨go, 2, none⟩ (.slice (A1 0) (L 1).length (k1 0))).setCell ⟨go, 3, none⟩ (.slice (A1 1) (L 2).length (k1 1))).setCell ⟨go, 4, none⟩ (.slice (A1 2) (L 3).length (k1 2))).setCell ⟨go, 5, none⟩ (.slice (A1 3) (L 4).length (k1 3)))) ?hg ?ho ?hn ?hr ?_; (case ho => rfl); (case hg => rfl); (case hn => rfl); (case hr => first | (go_simp; done) | (go_simp; rfl)); intro w8 hw; have HV2 := Aside0.mk (show VO w8 w.heap.size w8.heap.size L _ _ by rw [hw, size_set, size_set, size_set, size_set]; exact (VO.set (VO.set (VO.set (VO.set HV.out BKgo.out (by decide) 2 _) (blk_set BKgo.out 2 _) (by decide) 3 _) (blk_set (blk_set BKgo.out 2 _) 3 _) (by decide) 4 _) (blk_set (blk_set (blk_set BKgo.out 2 _) 3 _) 4 _) (by decide) 5 _)); have HB2 := Aside0.mk (show Below w.heap.size w w8 by rw [hw]; exact (below_set (below_set (below_set (below_set HB.out HGgo.out) HGgo.out) HGgo.out) HGgo.out)); have BKgb2 := Aside0.mk (show w8.heap[gb]? = some (.cells (bkCells s A c L) 34 (0, 0)) by rw [hw]; exact (blk_far (blk_far (blk_far (blk_far BKgb.out NE1.out _) NE1.out _) NE1.out _) NE1.out _)); have BKgr2 := Aside0.mk (show w8.heap[gr]? = some (.cells #[.int .i64 0, .slice none 0 0, .slice none 0 0, .slice none 0 0, .slice none 0 0, .slice none 0 0, .slice none 0 0, .slice none 0 0, .slice none 0 0] 27 (0, 0)) by rw [hw]; exact (blk_far (blk_far (blk_far (blk_far BKgr.out NE2.out _) NE2.out _) NE2.out _) NE2.out _)); have BKgo2 := Aside0.mk (show w8.heap[go]? = some (.cells #[.int .i64 s, .slice A0 (L 0).length k0, .slice (A1 0) (L 1).length (k1 0), .slice (A1 1) (L 2).length (k1 1), .slice (A1 2) (L 3).length (k1 2), .slice (A1 3) (L 4).length (k1 3), .slice none 0 0, .slice none 0 0, .slice none 0 0] 27 (0, 0)) by rw [hw]; exact (blk_set (blk_set (blk_set (blk_set BKgo.out 2 _) 3 _) 4 _) 5 _)); clear HV HB BKgb BKgr BKgo fl6 zl6 fo2 zo2 fo3 zo3 fo4 zo4 fo5 zo5; have HV := HV2; have HB := HB2; have BKgb := BKgb2; have BKgr := BKgr2; have BKgo := BKgo2; clear HV2 HB2 BKgb2 BKgr2 BKgo2; have fl6 : w8.cell? ⟨gb, 6, none⟩ = some (.slice (A 5) (L 5).length (c 5)) := (blk_cell BKgb.out 6).trans rfl; have zl6 := blk_frozen BKgb.out 6; clear hw))
  refine (toIntS_calls _ _ _ _ ((HR.out 5 (by omega)).below HB.out) (HL.out 5)).mono ?_
  rintro e w9 ⟨A5, k5, rfl, ho, hb⟩
  have HV2 := Aside0.mk (HV.out.snoc hb ho HB.out.size)
  have HB2 := Aside0.mk (below_step HB.out hb)
  have BKgb2 := Aside0.mk (blk_below BKgb.out hb)
  have BKgr2 := Aside0.mk (blk_below BKgr.out hb)
  have BKgo2 := Aside0.mk (blk_below BKgo.out hb)
  clear HV HB BKgb BKgr BKgo hb ho
  have HV := HV2
  have HB := HB2
  have BKgb := BKgb2
  have BKgr := BKgr2
  have BKgo := BKgo2
  clear HV2 HB2 BKgb2 BKgr2 BKgo2
  clear fl6 zl6
  have fl7 : w9.cell? ⟨gb, 7, none⟩ = some (.slice (A 6) (L 6).length (c 6)) := (blk_cell BKgb.out 7).trans rfl
  have zl7 := blk_frozen BKgb.out 7
  have fo6 : w9.cell? ⟨go, 6, none⟩ = some (.slice none 0 0) := (blk_cell BKgo.out 6).trans rfl
  have zo6 := blk_frozen BKgo.out 6
  go_wp2_with (first | ((with_reducible refine gate_store (t := 24) (p := 18) rfl ?_); refine store_event (t := 24) (p := 18) (v := ?vo_15) (w1 := (w9.setCell ⟨go, 6, none⟩ (.slice A5 (L 5).length k5))) ?hg ?ho ?hn ?hr ?_; (case ho => rfl); (case hg => rfl); (case hn => rfl); (case hr => first | (go_simp; done) | (go_simp; rfl)); intro w10 hw; have HV2 := Aside0.mk (show VO w10 w.heap.size w10.heap.size L _ _ by rw [hw, size_set]; exact (VO.set HV.out BKgo.out (by decide) 6 _)); have HB2 := Aside0.mk (show Below w.heap.size w w10 by rw [hw]; exact (below_set HB.out HGgo.out)); have BKgb2 := Aside0.mk (show w10.heap[gb]? = some (.cells (bkCells s A c L) 34 (0, 0)) by rw [hw]; exact (blk_far BKgb.out NE1.out _)); have BKgr2 := Aside0.mk (show w10.heap[gr]? = some (.cells #[.int .i64 0, .slice none 0 0, .slice none 0 0, .slice none 0 0, .slice none 0 0, .slice none 0 0, .slice none 0 0, .slice none 0 0, .slice none 0 0] 27 (0, 0)) by rw [hw]; exact (blk_far BKgr.out NE2.out _)); have BKgo2 := Aside0.mk (show w10.heap[go]? = some (.cells #[.int .i64 s, .slice A0 (L 0).length k0, .slice (A1 0) (L 1).length (k1 0), .slice (A1 1) (L 2).length (k1 1), .slice (A1 2) (L 3).length (k1 2), .slice (A1 3) (L 4).length (k1 3), .slice A5 (L 5).length k5, .slice none 0 0, .slice none 0 0] 27 (0, 0)) by rw [hw]; exact (blk_set BKgo.out 6 _)); clear HV HB BKgb BKgr BKgo fl7 zl7 fo6 zo6; have HV := HV2; have HB := HB2; have BKgb := BKgb2; have BKgr := BKgr2; have BKgo := BKgo2; clear HV2 HB2 BKgb2 BKgr2 BKgo2; have fl7 : w10.cell? ⟨gb, 7, none⟩ = some (.slice (A 6) (L 6).length (c 6)) := (blk_cell BKgb.out 7).trans rfl; have zl7 := blk_frozen BKgb.out 7; clear hw))
  refine (toIntS_calls _ _ _ _ ((HR.out 6 (by omega)).below HB.out) (HL.out 6)).mono ?_
  rintro e w11 ⟨A6, k6, rfl, ho, hb⟩
  have HV2 := Aside0.mk (HV.out.snoc hb ho HB.out.size)
  have HB2 := Aside0.mk (below_step HB.out hb)
  have BKgb2 := Aside0.mk (blk_below BKgb.out hb)
  have BKgr2 := Aside0.mk (blk_below BKgr.out hb)
  have BKgo2 := Aside0.mk (blk_below BKgo.out hb)
  clear HV HB BKgb BKgr BKgo hb ho
  have HV := HV2
  have HB := HB2
  have BKgb := BKgb2
  have BKgr := BKgr2
  have BKgo := BKgo2
  clear HV2 HB2 BKgb2 BKgr2 BKgo2
  clear fl7 zl7
  have fl8 : w11.cell? ⟨gb, 8, none⟩ = some (.slice (A 7) (L 7).length (c 7)) := (blk_cell BKgb.out 8).trans rfl
  have zl8 := blk_frozen BKgb.out 8
  have fo7 : w11.cell? ⟨go, 7, none⟩ = some (.slice none 0 0) := (blk_cell BKgo.out 7).trans rfl
  have zo7 := blk_frozen BKgo.out 7
  go_wp2_with (first | ((with_reducible refine gate_store (t := 24) (p := 22) rfl ?_); refine store_event (t := 24) (p := 22) (v := ?vo_16) (w1 := (w11.setCell ⟨go, 7, none⟩ (.slice A6 (L 6).length k6))) ?hg ?ho ?hn ?hr ?_; (case ho => rfl); (case hg => rfl); (case hn => rfl); (case hr => first | (go_simp; done) | (go_simp; rfl)); intro w12 hw; have HV2 := Aside0.mk (show VO w12 w.heap.size w12.heap.size L _ _ by rw [hw, size_set]; exact (VO.set HV.out BKgo.out (by decide) 7 _)); have HB2 := Aside0.mk (show Below w.heap.size w w12 by rw [hw]; exact (below_set HB.out HGgo.out)); have BKgb2 := Aside0.mk (show w12.heap[gb]? = some (.cells (bkCells s A c L) 34 (0, 0)) by rw [hw]; exact (blk_far BKgb.out NE1.out _)); have BKgr2 := Aside0.mk (show w12.heap[gr]? = some (.cells #[.int .i64 0, .slice none 0 0, .slice none 0 0, .slice none 0 0, .slice none 0 0, .slice none 0 0, .slice none 0 0, .slice none 0 0, .slice none 0 0] 27 (0, 0)) by rw [hw]; exact (blk_far BKgr.out NE2.out _)); have BKgo2 := Aside0.mk (show w12.heap[go]? = some (.cells #[.int .i64 s, .slice A0 (L 0).length k0, .slice (A1 0) (L 1).length (k1 0), .slice (A1 1) (L 2).length (k1 1), .slice (A1 2) (L 3).length (k1 2), .slice (A1 3) (L 4).length (k1 3), .slice A5 (L 5).length k5, .slice A6 (L 6).length k6, .slice none 0 0] 27 (0, 0)) by rw [hw]; exact (blk_set BKgo.out 7 _)); clear HV HB BKgb BKgr BKgo fl8 zl8 fo7 zo7; have HV := HV2; have HB := HB2; have BKgb := BKgb2; have BKgr := BKgr2; have BKgo := BKgo2; clear HV2 HB2 BKgb2 BKgr2 BKgo2; have fl8 : w12.cell? ⟨gb, 8, none⟩ = some (.slice (A 7) (L 7).length (c 7)) := (blk_cell BKgb.out 8).trans rfl; have zl8 := blk_frozen BKgb.out 8; clear hw))
  refine (toIntS_calls _ _ _ _ ((HR.out 7 (by omega)).below HB.out) (HL.out 7)).mono ?_
  rintro e w13 ⟨A7, k7, rfl, ho, hb⟩
  have HV2 := Aside0.mk (HV.out.snoc hb ho HB.out.size)
  have HB2 := Aside0.mk (below_step HB.out hb)
  have BKgb2 := Aside0.mk (blk_below BKgb.out hb)
  have BKgr2 := Aside0.mk (blk_below BKgr.out hb)
  have BKgo2 := Aside0.mk (blk_below BKgo.out hb)
  clear HV HB BKgb BKgr BKgo hb ho
  have HV := HV2
  have HB := HB2
  have BKgb := BKgb2
  have BKgr := BKgr2
  have BKgo := BKgo2
  clear HV2 HB2 BKgb2 BKgr2 BKgo2
  clear fl8 zl8
  have fo8 : w13.cell? ⟨go, 8, none⟩ = some (.slice none 0 0) := (blk_cell BKgo.out 8).trans rfl
  have zo8 := blk_frozen BKgo.out 8
  go_wp2_with (first | ((with_reducible refine gate_store (t := 24) (p := 26) rfl ?_); refine store_event (t := 24) (p := 26) (v := ?vo_17) (w1 := (w13.setCell ⟨go, 8, none⟩ (.slice A7 (L 7).length k7))) ?hg ?ho ?hn ?hr ?_; (case ho => rfl); (case hg => rfl); (case hn => rfl); (case hr => first | (go_simp; done) | (go_simp; rfl)); intro w14 hw; have HV2 := Aside0.mk (show VO w14 w.heap.size w14.heap.size L _ _ by rw [hw, size_set]; exact (VO.set HV.out BKgo.out (by decide) 8 _)); have HB2 := Aside0.mk (show Below w.heap.size w w14 by rw [hw]; exact (below_set HB.out HGgo.out)); have BKgb2 := Aside0.mk (show w14.heap[gb]? = some (.cells (bkCells s A c L) 34 (0, 0)) by rw [hw]; exact (blk_far BKgb.out NE1.out _)); have BKgr2 := Aside0.mk (show w14.heap[gr]? = some (.cells #[.int .i64 0, .slice none 0 0, .slice none 0 0, .slice none 0 0, .slice none 0 0, .slice none 0 0, .slice none 0 0, .slice none 0 0, .slice none 0 0] 27 (0, 0)) by rw [hw]; exact (blk_far BKgr.out NE2.out _)); have BKgo2 := Aside0.mk (show w14.heap[go]? = some (.cells #[.int .i64 s, .slice A0 (L 0).length k0, .slice (A1 0) (L 1).length (k1 0), .slice (A1 1) (L 2).length (k1 1), .slice (A1 2) (L 3).length (k1 2), .slice (A1 3) (L 4).length (k1 3), .slice A5 (L 5).length k5, .slice A6 (L 6).length k6, .slice A7 (L 7).length k7] 27 (0, 0)) by rw [hw]; exact (blk_set BKgo.out 8 _)); clear HV HB BKgb BKgr BKgo fo8 zo8; have HV := HV2; have HB := HB2; have BKgb := BKgb2; have BKgr := BKgr2; have BKgo := BKgo2; clear HV2 HB2 BKgb2 BKgr2 BKgo2; clear hw) | ((with_reducible refine gate_dst (N := 27) rfl ?_); refine Kd.event_run rfl (Row.load_row_run (g := go) (t := 27) (cells := #[.int .i64 s, .slice A0 (L 0).length k0, .slice (A1 0) (L 1).length (k1 0), .slice (A1 1) (L 2).length (k1 1), .slice (A1 2) (L 3).length (k1 2), .slice (A1 3) (L 4).length (k1 3), .slice A5 (L 5).length k5, .slice A6 (L 6).length k6, .slice A7 (L 7).length k7]) rfl rfl BKgo.out Try.underlying27 rfl (by kernel_rfl)) ?_) | ((with_reducible refine gate_store (t := 27) (p := 2) rfl ?_); refine store_event (t := 27) (p := 2) (v := ?vo_18) (w1 := w14.setRow gr (#[.int .i64 s, .slice A0 (L 0).length k0, .slice (A1 0) (L 1).length (k1 0), .slice (A1 1) (L 2).length (k1 1), .slice (A1 2) (L 3).length (k1 2), .slice (A1 3) (L 4).length (k1 3), .slice A5 (L 5).length k5, .slice A6 (L 6).length k6, .slice A7 (L 7).length k7])) ?hg ?ho ?hn ?hr ?_; (case ho => rfl); (case hg => rfl); (case hn => rfl); (case hr => exact (Row.store_row_run (g := gr) (cells := #[.int .i64 s, .slice A0 (L 0).length k0, .slice (A1 0) (L 1).length (k1 0), .slice (A1 1) (L 2).length (k1 1), .slice (A1 2) (L 3).length (k1 2), .slice (A1 3) (L 4).length (k1 3), .slice A5 (L 5).length k5, .slice A6 (L 6).length k6, .slice A7 (L 7).length k7]) (t := 27) (old := #[.int .i64 0, .slice none 0 0, .slice none 0 0, .slice none 0 0, .slice none 0 0, .slice none 0 0, .slice none 0 0, .slice none 0 0, .slice none 0 0]) rfl (by rfl) (by rfl) BKgr.out (by kernel_rfl) rfl (by simp [Value.oneCell']))); intro w15 hw; have HV5 := Aside0.mk (show VO w15 w.heap.size w15.heap.size L 8 _ by rw [hw, size_row]; exact HV.out.row BKgr.out (by decide) _); have HB5 := Aside0.mk (Row.row_below hw HB.out HGgr.out); have BK5 := Aside0.mk (Row.row_here hw BKgr.out); clear hw))
  refine bodyPost_ret (results_cell_row rfl _ _ gr 27 #[.int .i64 s, .slice A0 (L 0).length k0, .slice (A1 0) (L 1).length (k1 0), .slice (A1 1) (L 2).length (k1 1), .slice (A1 2) (L 3).length (k1 2), .slice (A1 3) (L 4).length (k1 3), .slice A5 (L 5).length k5, .slice A6 (L 6).length k6, .slice A7 (L 7).length k7] (0, 0) _ rfl BK5.out Try.underlying27 rfl (by kernel_rfl)) rfl ?_
  exact ⟨_, _, rfl, HV5.out.sl, HB5.out⟩


/-- But for the blocks from lo on and below hi everything in memory is as it was. -/
structure Keep (lo hi : Nat) (w w' : World) : Prop where
  os : w'.os = w.os
  tape : w'.tape = w.tape
  output : w'.output = w.output
  size : w.heap.size ≤ w'.heap.size
  block : ∀ k, k < w.heap.size → ¬ (lo ≤ k ∧ k < hi) → w'.heap[k]? = w.heap[k]?
theorem Keep.refl (lo hi : Nat) (w : World) : Keep lo hi w w := ⟨rfl, rfl, rfl, Nat.le_refl _, fun _ _ _ => rfl⟩
theorem Keep.of_below {lo hi : Nat} {w w' : World} (h : Below w.heap.size w w') : Keep lo hi w w' := ⟨h.os, h.tape, h.output, h.size, fun k hk _ => h.block k hk⟩
theorem Keep.trans {lo hi : Nat} {w w1 w2 : World} (h : Keep lo hi w w1) (k : Keep lo hi w1 w2) : Keep lo hi w w2 := ⟨k.os.trans h.os, k.tape.trans h.tape, k.output.trans h.output, Nat.le_trans h.size k.size, fun i hi' hn => (k.block i (Nat.lt_of_lt_of_le hi' h.size) hn).trans (h.block i hi' hn)⟩
theorem Keep.below {lo hi : Nat} {w0 w w' : World} (hb : Below w0.heap.size w0 w) (h : Keep lo hi w w') (hlo : w0.heap.size ≤ lo) : Below w0.heap.size w0 w' := ⟨h.os.trans hb.os, h.tape.trans hb.tape, h.output.trans hb.output, Nat.le_trans hb.size h.size, fun k hk => (h.block k (Nat.lt_of_lt_of_le hk hb.size) (by omega)).trans (hb.block k hk)⟩
theorem Keep.wide {lo hi lo' hi' : Nat} {w w' : World} (h : Keep lo hi w w') (h0 : lo' ≤ lo) (h1 : hi ≤ hi') : Keep lo' hi' w w' := ⟨h.os, h.tape, h.output, h.size, fun k hk hn => h.block k hk (by omega)⟩
theorem Keep.set {lo hi g : Nat} {w w1 : World} (h : Keep lo hi w w1) (h0 : lo ≤ g) (h1 : g < hi) (j : Nat) (u : Value) : Keep lo hi w (w1.setCell ⟨g, j, none⟩ u) := by
  have hb : Below g w1 (w1.setCell ⟨g, j, none⟩ u) := (Below.refl g w1).setCell (Nat.le_refl g) _
  refine ⟨hb.os.trans h.os, hb.tape.trans h.tape, hb.output.trans h.output, Nat.le_trans h.size hb.size, fun k hk hn => ?_⟩
  have hne : k ≠ g := fun e => hn (by omega)
  exact (Below.heap_setCell w1 ⟨g, j, none⟩ u k hne).trans (h.block k hk hn)

/-- But for a row's own block everything in memory is as it was; nothing new. -/
structure KeepV (v : Value) (w w' : World) : Prop where
  os : w'.os = w.os
  tape : w'.tape = w.tape
  output : w'.output = w.output
  size : w'.heap.size = w.heap.size
  block : ∀ k, v.ownBlock ≠ some k → w'.heap[k]? = w.heap[k]?
theorem KeepV.refl (v : Value) (w : World) : KeepV v w w := ⟨rfl, rfl, rfl, rfl, fun _ _ => rfl⟩
theorem KeepV.set {g n c : Nat} {w w1 : World} (h : KeepV (.slice (some ⟨g, 0, none⟩) n c) w w1) (j : Nat) (u : Value) : KeepV (.slice (some ⟨g, 0, none⟩) n c) w (w1.setCell ⟨g, j, none⟩ u) := by
  have hb : Below g w1 (w1.setCell ⟨g, j, none⟩ u) := (Below.refl g w1).setCell (Nat.le_refl g) _
  refine ⟨hb.os.trans h.os, hb.tape.trans h.tape, hb.output.trans h.output, (size_set _ _ _ _).trans h.size, fun k hk => ?_⟩
  have hne : k ≠ g := fun e => hk (by simp [Value.ownBlock, e])
  exact (Below.heap_setCell w1 ⟨g, j, none⟩ u k hne).trans (h.block k hk)
theorem KeepV.keep {lo hi : Nat} {w w' : World} {A : Option Addr} {c : Nat} {l : List Int} (h : SlO w lo hi A c l) (k : KeepV (.slice A l.length c) w w') : Keep lo hi w w' :=
  ⟨k.os, k.tape, k.output, by rw [k.size]; exact Nat.le_refl _, fun i _ hn => k.block i (fun e => hn (h.lt i e))⟩
theorem SlO.moveV {w w1 : World} {lo hi : Nat} {A : Option Addr} {c : Nat} {l : List Int} (h : SlO w lo hi A c l) (hm : ∀ k, (Value.slice A l.length c).ownBlock = some k → w1.heap[k]? = w.heap[k]?) : SlO w1 lo hi A c l := by
  have h1 : Kd.R (Kd.int .i64) 3 w lo (fun k => (lo ≤ k ∧ k < hi) ∧ (Value.slice A l.length c).ownBlock = some k) (.slice A l.length c) l := Kd.R_flat (fun h => h) h (fun k hk h2 => ⟨h2, hk⟩)
  exact Kd.R_mono (Kd.R_move h1 (fun k hk => hm k hk.2)) (fun k hk => hk.1)
theorem SlO.far {w w1 : World} {lo hi : Nat} {A : Option Addr} {c : Nat} {l : List Int} {v : Value} (h : SlO w lo hi A c l) (hk : KeepV v w w1) (hn : NeRow (.slice A l.length c) v) : SlO w1 lo hi A c l := h.moveV fun k e => hk.block k (hn k e)
def upd (L : Nat → List Int) (i : Nat) (l : List Int) : Nat → List Int := fun x => if x = i then l else L x
theorem upd_len (L : Nat → List Int) (i : Nat) (l : List Int) (h : l.length = (L i).length) (x : Nat) : (upd L i l x).length = (L x).length := by
  unfold upd
  by_cases e : x = i
  · rw [if_pos e, e, h]
  · rw [if_neg e]
theorem VO.upd {w w1 : World} {lo hi : Nat} {L : Nat → List Int} {n : Nat} {A : Nat → Option Addr} {c : Nat → Nat} (h : VO w lo hi L n (slV A c L)) (i : Nat) (hin : i < n) (l : List Int) (hl : l.length = (L i).length) (hs : SlO w1 lo hi (A i) (c i) l) (hk : KeepV (.slice (A i) (L i).length (c i)) w w1) : VO w1 lo hi (upd L i l) n (slV A c (upd L i l)) := by
  refine ⟨fun x hx => ⟨A x, c x, rfl, ?_⟩, fun x y hx hy hne => ?_⟩
  · by_cases e : x = i
    · subst e; simp only [Bk.upd, if_true]; exact hs
    · obtain ⟨A', c', e', ho⟩ := h.1 x hx
      simp only [slV, Value.slice.injEq, true_and] at e'
      obtain ⟨rfl, rfl⟩ := e'
      simp only [Bk.upd, if_neg e]
      exact ho.far hk (h.2 x i hx hin e)
  · have := h.2 x y hx hy hne
    simp only [slV, upd_len L i l hl] at this ⊢
    exact this
set_option maxRecDepth 100000 in
theorem markIntS_calls (A : Option Addr) (c : Nat) (l : List Int) (m : Int) (lo hi : Nat) (w : World) (h : SlO w lo hi A c l) (hm : 0 ≤ m) (hl : m + l.length ≤ 35184372088832) :
    Calls Try.prog 28 #[.slice A l.length c, .int .i64 m] w fun e w' => ∃ l' : List Int, e = .returned (.int .i64 (m + l.length)) ∧ l'.length = l.length ∧ (∀ j, j < l.length → l'.getD j 0 = m + j) ∧ SlO w' lo hi A c l' ∧ KeepV (.slice A l.length c) w w' := by
  have HS := Aside0.mk h
  clear h
  go_enter Try.func28, Try.ntmps28
  go_wp2
  go_loopg [1, 5] (l.length + 1) (fun kq v1 v5 w' => ∃ (k : Nat) (x : List Int), k ≤ l.length ∧ kq = l.length + 1 - k ∧ v5 = .int .i64 k ∧ v1 = .int .i64 (m + k) ∧ x.length = l.length ∧ Aside0 (∀ j, j < k → x.getD j 0 = m + j) ∧ Aside0 (SlO w' lo hi A c x) ∧ Aside0 (KeepV (.slice A l.length c) w w'))
  case atStart => exact ⟨0, l, by omega, rfl, rfl, by simp, rfl, ⟨fun j hj => by omega⟩, HS, ⟨KeepV.refl _ _⟩⟩
  case round =>
    clear HS
    obtain ⟨k, x, hk, rfl, rfl, rfl, hx, HX, HO, HK⟩ := hrel
    have hN := Aside0.mk hx
    by_cases hlt : k < l.length
    · obtain ⟨go, co, eo, gbl, gl, cl, HG⟩ := Kd.R_form HO.out (by omega)
      simp only [Value.slice.injEq] at eo
      obtain ⟨rfl, -, rfl⟩ := eo
      have p9 : (0 : Int) ≤ (k : Int) := by omega
      have q9 : (k : Int) < (x.length : Int) := by omega
      obtain ⟨hx9, hf9⟩ := Kd.R_celln 0 HO.out (k : Int) p9 q9
      have HP := Kd.R_putg HO.out (k : Int) (m + k)
      rw [Int.toNat_natCast] at hx9 hf9 HP
      have hi' : (k : Int) < (l.length : Int) := by omega
      clear hx gbl gl cl HG
      go_wp2_with (first | ((with_reducible refine gate_store (t := 3) (p := 15) rfl ?_); refine store_event (t := 3) (p := 15) (v := ?vo_5) (w1 := (wr.setCell ⟨go, k, none⟩ (.int .i64 (m + k)))) ?hg ?ho ?hn ?hr ?_; (case ho => rfl); (case hg => rfl); (case hn => rfl); (case hr => first | (go_simp; done) | (go_simp; rfl)); intro w2 hw; have HO2 := Aside0.mk (show SlO w2 lo hi (some ⟨go, 0, none⟩) c (x.set k (m + k)) by rw [hw]; unfold SlO; rw [List.length_set]; exact HP.1); have HK2 := Aside0.mk (show KeepV (.slice (some ⟨go, 0, none⟩) l.length c) w w2 by rw [hw]; exact HK.out.set k _); clear HP HO HK; clear hw))
      go_roundg (l.length + 1 - (k + 1))
      case measure => omega
      case rel =>
        refine ⟨k + 1, x.set k (m + k), by omega, rfl, by go_num, by (congr 1; omega), by rw [List.length_set]; exact hN.out, ⟨fun j hj => ?_⟩, HO2, HK2⟩
        by_cases e : j = k
        · rw [e]; exact getD_set_self _ _ _ (by have := hN.out; omega)
        · rw [getD_set_ne _ _ _ _ e]; exact HX.out j (by omega)
    · have hkl : k = l.length := by omega
      subst hkl
      go_wp2
      go_ret
      exact ⟨x, rfl, hN.out, HX.out, HO.out, HK.out⟩
set_option maxRecDepth 100000 in
theorem heldIntS_calls (A : Option Addr) (c : Nat) (l : List Int) (m : Int) (w : World) (h : SlC w A c l) (hm : 0 ≤ m) (hl : m + l.length ≤ 35184372088832) (hv : ∀ j, j < l.length → l.getD j 0 = m + j) :
    Calls Try.prog 29 #[.slice A l.length c, .int .i64 m] w fun e w' => e = .returned (.int .i64 (m + l.length)) ∧ w = w' := by
  have HR := Aside0.mk h
  have HV0 := Aside0.mk hv
  clear h hv
  go_enter Try.func29, Try.ntmps29
  go_wp2
  go_loopg [1, 5] (l.length + 1) (fun kq v1 v5 w' => ∃ k : Nat, k ≤ l.length ∧ kq = l.length + 1 - k ∧ v5 = .int .i64 k ∧ v1 = .int .i64 (m + k) ∧ w = w')
  case atStart => exact ⟨0, by omega, rfl, rfl, by simp, rfl⟩
  case round =>
    obtain ⟨k, hk, rfl, rfl, rfl, rfl⟩ := hrel
    by_cases hlt : k < l.length
    · have hi' : (k : Int) < (l.length : Int) := by omega
      obtain ⟨ad, rfl, hc⟩ := at_nat HR.out k hlt
      rw [HV0.out k hlt] at hc
      have hb : ((m + (k : Int)) != (m + (k : Int))) = false := bne_self_eq_false _
      go_wp2
      go_roundg (l.length + 1 - (k + 1))
      case measure => omega
      case rel => exact ⟨k + 1, by omega, rfl, by go_num, by (congr 1; omega), rfl⟩
    · have hkl : k = l.length := by omega
      subst hkl
      go_wp2
      go_ret
      exact ⟨rfl, rfl⟩


def isI64 (a : Int) : Bool := decide (-9223372036854775808 ≤ a ∧ a ≤ 9223372036854775807)
theorem isI64_of {a : Int} (h : (Lit.int .i64 a).wf = true) : isI64 a = true := by
  have : -9223372036854775808 ≤ a ∧ a ≤ 9223372036854775807 := by simpa [Lit.wf, IntKind.min, IntKind.max, IntKind.bits, IntKind.signed] using h
  exact decide_eq_true this
theorem isI64_r {a : Int} (h : isI64 a = true) : -9223372036854775808 ≤ a ∧ a ≤ 9223372036854775807 := of_decide_eq_true h
end Go.Proofs.Ytekneicikmaplaa.Bk

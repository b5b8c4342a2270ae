/- The reference's functions over a page: walks. -/
import Derived.Test.YtekneicikmaplaaBk5
set_option linter.unusedVariables false
set_option linter.unusedSimpArgs false
namespace Go.Proofs.Ytekneicikmaplaa.Bk
open Go.RowKit Go.Proofs.YtekneicikmaplaaW.PrintWords Go.Proofs.YtekneicikmaplaaW.PrintLast Go.Proofs.YtekneicikmaplaaW.PrintMore

/-- The call answers a bool, which is P's. -/
def RetB (P : Prop) (w : World) (e : Ending) (w' : World) : Prop := ∃ r : Bool, e = .returned (.bool r) ∧ (r = true ↔ P) ∧ Below w.heap.size w w'
theorem RetB.mk {P : Prop} {w w' : World} {e : Ending} {r : Bool} (he : e = .returned (.bool r)) (h : r = true ↔ P) (hb : Below w.heap.size w w') : RetB P w e w' := ⟨r, he, h, hb⟩
theorem iff_t {P : Prop} (h : P) : true = true ↔ P := ⟨fun _ => h, fun _ => rfl⟩
theorem iff_f {P : Prop} (h : ¬ P) : false = true ↔ P := ⟨fun e => (by cases e), fun p => absurd p h⟩
theorem at_v {w : World} {A : Option Addr} {c : Nat} {l : List Int} (h : SlC w A c l) (k : Nat) (hk : k < l.length) : ∃ ad v, A = some ad ∧ w.cell? (ad.add k) = some (.int .i64 v) ∧ Aside0 (l.getD k 0 = v) := by
  obtain ⟨ad, h1, h2⟩ := at_nat h k hk
  exact ⟨ad, _, h1, h2, ⟨rfl⟩⟩
def FreeP (O : List Int) (p f : Nat) : Prop := ∀ u, f ≤ u → u < 8 → ¬ O.getD (p * 8 + u) 0 > 0
set_option maxRecDepth 100000 in
theorem l3Free_calls (s : Int) (A : Nat → Option Addr) (c : Nat → Nat) (L : Nat → List Int) (p f : Nat) (w : World) (h : BkC w A c L) (hp : p * 8 + 8 ≤ (L 5).length) (hl : (L 5).length ≤ 35184372088832) (hf : f ≤ 8) :
    Calls Try.prog 68 #[.agg (bkCells s A c L), .int .i64 (p : Int), .int .i64 (f : Int)] w (RetB (FreeP (L 5) p f) w) := by
  have HR := Aside0.mk h
  have HP := Aside0.mk hp
  have HLn := Aside0.mk hl
  clear h
  have HB := Aside0.mk (Below.refl w.heap.size w)
  go_enter Try.func68, Try.ntmps68
  go_wp2_with (first | ((with_reducible refine gate_dst (N := 3) rfl ?_); refine box_event rfl (N := 3) rfl (cs := bkCells s A c L) (t := 27) (by first | (go_simp; done) | (go_simp; rfl)) ?_; intro gb hggb w1 hbox hb; have n0_ := Aside0.mk (below_step HB.out hb); have BKgb := Aside0.mk hbox; have HGgb := Aside0.mk (show w.heap.size ≤ gb by rw [hggb]; exact HB.out.size); clear HB; have HB := n0_; clear n0_ hbox hb hggb))
  go_loopg [7] (9 - f) (fun kq v7 w' => ∃ k : Nat, k ≤ 8 ∧ kq = 9 - k ∧ v7 = .int .i64 k ∧ Aside0 (f ≤ k) ∧ Aside0 (∀ u, f ≤ u → u < k → ¬ (L 5).getD (p * 8 + u) 0 > 0) ∧ Aside0 (w'.heap[gb]? = some (.cells (bkCells s A c L) 27 (0, 0))) ∧ Aside0 (Below w.heap.size w w'))
  case atStart => exact ⟨f, by omega, rfl, rfl, ⟨by omega⟩, ⟨fun u h1 h2 => by omega⟩, BKgb, HB⟩
  case round =>
    clear HB BKgb
    obtain ⟨k, hk, rfl, rfl, HF, HU, BKgb, HB⟩ := hrel
    by_cases hlt : k < 8
    · have p1 : (0 : Int) ≤ (p : Int) * 8 + (k : Int) := by omega
      have p2 : (p : Int) * 8 + (k : Int) < ((L 5).length : Int) := by have := HP.out; omega
      obtain ⟨ad, v, ea, hx, HV⟩ := at_v ((HR.out 5 (by omega)).below HB.out) (p * 8 + k) (by have := HP.out; omega)
      have hc6 : wr.cell? ⟨gb, 6, none⟩ = some (.slice (some ad) (L 5).length (c 5)) := (blk_cell BKgb.out 6).trans (by rw [← ea]; rfl)
      have hz6 := blk_frozen BKgb.out 6
      clear ea
      have hi : (k : Int) < 8 := by omega
      have hp6 : (p : Int) ≤ 35184372088832 := by have := HP.out; have := HLn.out; omega
      by_cases hv : v > 0
      · have HZ : Aside0 (¬ FreeP (L 5) p f) := ⟨fun hh => hh k HF.out hlt (by rw [HV.out]; exact hv)⟩
        go_wp2
        go_ret
        exact RetB.mk rfl (iff_f HZ.out) HB.out
      · have HZ : Aside0 (∀ u, f ≤ u → u < k + 1 → ¬ (L 5).getD (p * 8 + u) 0 > 0) := ⟨fun u h1 h2 => if e : u < k then HU.out u h1 e else (show k = u by omega) ▸ (show ¬ (L 5).getD (p * 8 + k) 0 > 0 by rw [HV.out]; exact hv)⟩
        go_wp2
        go_roundg (9 - (k + 1))
        case measure => omega
        case rel => exact ⟨k + 1, by omega, rfl, by go_num, ⟨by have := HF.out; omega⟩, HZ, BKgb, HB⟩
    · have HZ : Aside0 (FreeP (L 5) p f) := ⟨fun u h1 h2 => HU.out u h1 (by omega)⟩
      go_wp2
      go_ret
      exact RetB.mk rfl (iff_t HZ.out) HB.out
end Go.Proofs.Ytekneicikmaplaa.Bk

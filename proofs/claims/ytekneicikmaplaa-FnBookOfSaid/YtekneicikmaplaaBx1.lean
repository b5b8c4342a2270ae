/- Walks and plain laws that this claim's texts name, part 1. -/
import Derived.Test.YtekneicikmaplaaProg
import Derived.Below
import Derived.Deep.Draws
import Derived.Deep.AppendLies
import Derived.Maps.AppendAt
import Derived.OwnWalk
import Derived.Laws.BytesArg
import Derived.Laws.MakeOwn
import Derived.Laws.OwnMore
import Derived.Deep.OwnRows
import Derived.Tactics
import Derived.Lib.ConvBytes
import Derived.Laws.Slices
import Derived.WalkKit
import Derived.KernelRfl
import Derived.RowKit3
import Derived.Deep.LoopGhost
import Derived.Deep.QuietTactic
import Derived.BigQuiet
import Derived.WideLaws
import Derived.Deep.DeepCutAuto
import Derived.Deep.CutBlock
import Derived.Deep.RegionHeld3
import Derived.Laws.Rows
import Derived.Lib.AppendStr
import Derived.ArgAppend
import Derived.Laws.IdiomCopy
import Derived.OrdersHeld
import Derived.Laws.BitsLemmas
import Derived.RowKit
import Derived.Test.YtekneicikmaplaaWWords
import Derived.Test.YtekneicikmaplaaWLast
import Derived.Test.YtekneicikmaplaaWTab
import Derived.Test.YtekneicikmaplaaWFour
import Derived.Test.YtekneicikmaplaaWApart
import Derived.Test.YtekneicikmaplaaWFoot
import Derived.Test.YtekneicikmaplaaWKept
import Derived.Test.YtekneicikmaplaaWShare
import Derived.Test.YtekneicikmaplaaWN
import Derived.Laws.StructEq
import Derived.Test.YtekneicikmaplaaWRepsOne
import Derived.Test.YtekneicikmaplaaWInv
import Derived.Test.YtekneicikmaplaaWInvWords
import Derived.Test.YtekneicikmaplaaWGuard
import Derived.Test.YtekneicikmaplaaWMore
import Derived.Laws.Bits64
import Derived.Laws.CopyOwn
import Derived.Laws.Tables
import Derived.WalkSpells
import Derived.StillTailTactics
set_option linter.unusedVariables false
set_option linter.unusedSimpArgs false
namespace Go.Proofs.Ytekneicikmaplaa.PFnBookOf
open Go.RowKit Go.Proofs.YtekneicikmaplaaW.PrintWords Go.Proofs.YtekneicikmaplaaW.PrintLast Go.Proofs.YtekneicikmaplaaW.PrintMore
attribute [local go_sem] max2_int min2_int max_two min_two max_three min_three max_four min_four   -- for this text's walks alone
def errW : Option Int → Value
  | none => .nilIface
  | some c => .iface 0 (.int .i64 c)
theorem errW_none : errW none = .nilIface := rfl
theorem errW_some (c : Int) : errW (some c) = .iface 0 (.int .i64 c) := rfl
theorem info3 : (Try.prog.info? 3).map (fun i => (i.zero, i.size, i.bytes)) = some (some (.int .i64 0), 1, 8) := by kernel_rfl
theorem info5 : (Try.prog.info? 5).map (fun i => (i.zero, i.size, i.bytes)) = some (some (.int .u8 0), 1, 1) := by kernel_rfl
end Go.Proofs.Ytekneicikmaplaa.PFnBookOf
namespace Go.Proofs.Ytekneicikmaplaa.PFnBookOf
open Go.RowKit Go.Proofs.YtekneicikmaplaaW.PrintWords Go.Proofs.YtekneicikmaplaaW.PrintLast Go.Proofs.YtekneicikmaplaaW.PrintMore
attribute [local go_sem] max2_int min2_int max_two min_two max_three min_three max_four min_four   -- for this text's walks alone
/-- A state of type 74 at block g of W; what its slices lead to came in by w0. -/
def IsS74 (w0 W : World) (g : Nat) (f0 : List Int) (f1 : Int) : Prop := ∃ A0 c0, W.heap[g]? = some (.cells #[.slice A0 f0.length c0, .int .i64 f1] 74 (0, 0)) ∧ w0.heap.size ≤ g ∧ Kd.C (Kd.int .u8) w0 A0 f0.length f0
theorem IsS74.grown {w0 W : World} {g : Nat} {f0 : List Int} {f1 : Int} {W1 : World} {row : Option Nat} (h : IsS74 w0 W g f0 f1) (hw : W.grownBy W1 row) (hne : some g ≠ row) : IsS74 w0 W1 g f0 f1 := by
  obtain ⟨A0, c0, hb, hg, hr0⟩ := h
  exact ⟨A0, c0, blk_grown hb hw hne, hg, hr0⟩
theorem IsS74.kept {w0 W : World} {g : Nat} {f0 : List Int} {f1 : Int} {W1 : World} {S : Nat → Prop} (h : IsS74 w0 W g f0 f1) (hk : Kept W W1 S) (hne : ¬ S g) : IsS74 w0 W1 g f0 f1 := by
  obtain ⟨A0, c0, hb, hg, hr0⟩ := h
  exact ⟨A0, c0, blk_kept hb hk hne, hg, hr0⟩
theorem IsS74.below {w0 W : World} {g : Nat} {f0 : List Int} {f1 : Int} {W1 : World} (h : IsS74 w0 W g f0 f1) (hw : Below W.heap.size W W1) : IsS74 w0 W1 g f0 f1 := h.grown (grown_of_below hw none) (by simp)
theorem IsS74.alloc {w0 W : World} {g : Nat} {f0 : List Int} {f1 : Int} (h : IsS74 w0 W g f0 f1) (o : Obj) : IsS74 w0 (W.alloc o) g f0 f1 := h.below (below_alloc (Below.refl _ _) o)
theorem IsS74.drewN {w0 W : World} {g : Nat} {f0 : List Int} {f1 : Int} (h : IsS74 w0 W g f0 f1) (m : Nat) : IsS74 w0 (W.drewN m) g f0 f1 := h
theorem IsS74.drew {w0 W : World} {g : Nat} {f0 : List Int} {f1 : Int} (h : IsS74 w0 W g f0 f1) : IsS74 w0 W.drew g f0 f1 := h
theorem IsS74.at_ {w0 W : World} {g : Nat} {f0 : List Int} {f1 : Int} {w' : World} {m : Nat} (hq : W.drewN m = w') (h : IsS74 w0 W g f0 f1) : IsS74 w0 w' g f0 f1 := by subst hq; exact IsS74.drewN h m
theorem IsS74.apart {w0 W : World} {g : Nat} {f0 : List Int} {f1 : Int} {α : Type} {d : Kd α} {e : Nat} {base : Nat} {ok : Nat → Prop} {v : Value} {xs : List α} (h : IsS74 w0 W g f0 f1) (ho : d.R e W base ok v xs) (ht : ∀ q, q ∈ e :: d.E → q ≠ 74) : d.R e W base (fun k => ok k ∧ k ≠ g) v xs := by
  obtain ⟨A0, c0, hb, hg, hr0⟩ := h
  exact Kd.R_types ho hb ht
theorem IsS74.own_ne {w0 W : World} {g : Nat} {f0 : List Int} {f1 : Int} {α : Type} {d : Kd α} {e : Nat} {base : Nat} {ok : Nat → Prop} {v : Value} {xs : List α} (h : IsS74 w0 W g f0 f1) (ho : d.R e W base ok v xs) (ht : e ≠ 74) : some g ≠ v.ownBlock := by
  obtain ⟨A0, c0, hb, hg, hr0⟩ := h
  exact Kd.R_ne ho hb ht
theorem IsS74.lt {w0 W : World} {g : Nat} {f0 : List Int} {f1 : Int} (h : IsS74 w0 W g f0 f1) : g < W.heap.size := by
  obtain ⟨A0, c0, hb, hg, hr0⟩ := h
  exact blk_lt hb
theorem IsS74.ge {w0 W : World} {g : Nat} {f0 : List Int} {f1 : Int} (h : IsS74 w0 W g f0 f1) : w0.heap.size ≤ g := by
  obtain ⟨A0, c0, hb, hg, hr0⟩ := h
  exact hg
theorem IsS74.ne_blk {w0 W : World} {g : Nat} {f0 : List Int} {f1 : Int} {a : Nat} {cs : Array Value} {t : TypeId} {fr : Nat × Nat} (h : IsS74 w0 W g f0 f1) (hb2 : W.heap[a]? = some (.cells cs t fr)) (ht : t ≠ 74) : g ≠ a := by
  obtain ⟨A0, c0, hb, hg, hr0⟩ := h
  rintro rfl
  rw [hb] at hb2
  injection hb2 with hb2
  injection hb2 with _ ht2
  exact ht ht2.symm
theorem IsS74.far {w0 W : World} {g : Nat} {f0 : List Int} {f1 : Int} {p : Addr} (h : IsS74 w0 W g f0 f1) (hne : g ≠ p.block) (u : Value) : IsS74 w0 (W.setCell p u) g f0 f1 := by
  obtain ⟨A0, c0, hb, hg, hr0⟩ := h
  exact ⟨A0, c0, blk_far hb hne u, hg, hr0⟩
theorem cellS74_0 {W : World} {g : Nat} {A0 : Option Addr} {c0 : Nat} {f0 : List Int} {f1 : Int} (h : W.heap[g]? = some (.cells #[.slice A0 f0.length c0, .int .i64 f1] 74 (0, 0))) : W.cell? ⟨g, 0, none⟩ = some (.slice A0 f0.length c0) := (blk_cell h 0).trans rfl
theorem cellS74_1 {W : World} {g : Nat} {A0 : Option Addr} {c0 : Nat} {f0 : List Int} {f1 : Int} (h : W.heap[g]? = some (.cells #[.slice A0 f0.length c0, .int .i64 f1] 74 (0, 0))) : W.cell? ⟨g, 1, none⟩ = some (.int .i64 f1) := (blk_cell h 1).trans rfl
theorem IsS74.set_1 {w0 W : World} {g : Nat} {f0 : List Int} {f1 : Int} (h : IsS74 w0 W g f0 f1) (x : Int) : IsS74 w0 (W.setCell ⟨g, 1, none⟩ (.int .i64 x)) g f0 x := by
  obtain ⟨A0, c0, hb, hg, hr0⟩ := h
  exact ⟨A0, c0, by simpa using blk_set hb 1 (.int .i64 x), hg, hr0⟩
theorem IsS74.new (w0 W : World) (A0 : Option Addr) (c0 : Nat) (f0 : List Int) (f1 : Int) (hB : Below w0.heap.size w0 W) (hr0 : Kd.C (Kd.int .u8) w0 A0 f0.length f0) : IsS74 w0 (W.alloc (.cells #[.slice A0 f0.length c0, .int .i64 f1] 74)) W.heap.size f0 f1 := ⟨A0, c0, by simpa using heap_alloc_new W _, hB.size, hr0⟩
def spec_l20Open.f (l0 : List Int) : Option (List Int × Int) := if (l0.length : Int) > 2000 then (if 2000 ≤ (l0.length : Int) then (some (l0.take 2000, 0)) else (none)) else (some (l0, 0))
set_option maxHeartbeats 8000000 in
set_option maxRecDepth 100000 in
theorem spec_l20Open.calls (A0 : Option Addr) (c0 : Nat) (l0 : List Int) (r1 : List Int) (r2 : Int) (w0 w : World) (hB : Below w0.heap.size w0 w) (hr0 : Kd.C (Kd.int .u8) w0 A0 l0.length l0) (hc0 : l0.length ≤ c0) (h : spec_l20Open.f l0 = some (r1, r2)) :
    Calls Try.prog 63 #[.slice A0 l0.length c0] w fun e w' => ∃ g_ : Nat, e = .returned (.pointer (some ⟨g_, 0, none⟩)) ∧ IsS74 w0 w' g_ r1 r2 ∧ Below w0.heap.size w0 w' ∧ Below w.heap.size w w' := by
  have hu74 := Try.underlying74
  have HR0 := Aside0.mk hr0
  have HC0 := Aside0.mk hc0
  clear hr0 hc0
  have HBW := Aside0.mk (Below.refl w.heap.size w)
  have HW0 := Aside0.mk hB.size
  have HB := Aside0.mk hB
  clear hB
  have H : (if (l0.length : Int) > 2000 then (if 2000 ≤ (l0.length : Int) then (some (l0.take 2000, 0)) else (none)) else (some (l0, 0))) = some (r1, r2) := h
  clear h
  by_cases c2 : (l0.length : Int) > 2000
  · rw [if_pos c2] at H
    have c2b0 : decide (2000 < (l0.length : Int)) = true := decide_eq_true c2
    have c2b1 : decide (2000 < l0.length) = true := decide_eq_true (by omega)
    clear c2
    by_cases c3 : 2000 ≤ (l0.length : Int)
    · rw [if_pos c3] at H
      have c3b0 := eq_true c3
      have c3b1 : decide (2000 ≤ (l0.length : Int)) = true := decide_eq_true c3
      clear c3
      simp only [Option.some.injEq, Prod.mk.injEq] at H
      obtain ⟨rfl, rfl⟩ := H
      obtain ⟨i04, hi04, _, hsz4, _⟩ := info_parts info5
      obtain ⟨hcut4, hA4, hC4⟩ := print_take_of (P := Try.prog) (Value.int .u8) 0 47 5 .i64 Try.underlying47 hi04 hsz4 A0 c0 l0 2000 (by omega) (of_decide_eq_true (by first | (with_reducible assumption) | assumption)) HC0.out
      have HR107 := Aside0.mk (Kd.C_of_reads (h1 := fun _ => rfl) (hA4 _ (Kd.reads_of_C HR0.out)))
      have HC107 := Aside0.mk hC4
      clear hA4 hC4 hi04 hsz4
      go_enter Try.func63, Try.ntmps63
      go_wp2_with (first | ((with_reducible refine gate_dst (N := 10) rfl ?_); refine box_event ?hg (N := 10) ?hd (cs := #[.slice A0 (l0.take 2000).length c0, .int .i64 0]) (t := 74) ?hr ?_; (case hd => rfl); (case hg => rfl); (case hr => first | (go_simp; done) | (go_simp; rfl)); intro gb108 hg w5 hbox hb; have n0_ := Aside0.mk (below_step HBW.out hb); have n1_ := Aside0.mk (below_step (by repeat (first | (with_reducible first | exact HB.out | apply below_alloc | apply pw_below_drewN | apply below_drew1) | exact HB.out)) hb); have n2_ := Aside0.mk (hbox); have n3_ := Aside0.mk ((by rw [hg]; exact (below_size (by repeat (first | (with_reducible first | exact HBW.out | apply below_alloc | apply pw_below_drewN | apply below_drew1) | exact HBW.out))) : w.heap.size ≤ gb108)); have n4_ := Aside0.mk ((Nat.le_trans HW0.out (by rw [hg]; exact (below_size (by repeat (first | (with_reducible first | exact HBW.out | apply below_alloc | apply pw_below_drewN | apply below_drew1) | exact HBW.out))) : w.heap.size ≤ gb108) : w0.heap.size ≤ gb108)); clear HBW; clear HB; have HBW := n0_; have HB := n1_; have BK108 := n2_; have GW108 := n3_; have GE108 := n4_; clear n0_ n1_ n2_ n3_ n4_; clear hb hbox hg))
      go_ret
      exact ⟨_, rfl, (show IsS74 w0 _ gb108 (l0.take 2000) 0 from ⟨_, _, by (with_reducible repeat (first | refine blk_drewN ?_ _ | refine blk_drew ?_ | refine blk_alloc ?_ _)); exact BK108.out, GE108.out, HR107.out⟩), by repeat (first | (with_reducible first | exact HB.out | apply below_alloc | apply pw_below_drewN | apply below_drew1 | refine below_set ?_ GE108.out) | exact HB.out), by repeat (first | (with_reducible first | exact HBW.out | apply below_alloc | apply pw_below_drewN | apply below_drew1 | refine below_set ?_ GW108.out) | exact HBW.out)⟩
    · rw [if_neg c3] at H
      exact absurd H (by simp)
  · rw [if_neg c2] at H
    have c2b0 : decide (2000 < (l0.length : Int)) = false := decide_eq_false c2
    have c2b1 : decide (2000 < l0.length) = false := decide_eq_false (by omega)
    clear c2
    simp only [Option.some.injEq, Prod.mk.injEq] at H
    obtain ⟨rfl, rfl⟩ := H
    go_enter Try.func63, Try.ntmps63
    go_wp2_with (first | ((with_reducible refine gate_dst (N := 10) rfl ?_); refine box_event ?hg (N := 10) ?hd (cs := #[.slice A0 l0.length c0, .int .i64 0]) (t := 74) ?hr ?_; (case hd => rfl); (case hg => rfl); (case hr => first | (go_simp; done) | (go_simp; rfl)); intro gb109 hg w6 hbox hb; have n0_ := Aside0.mk (below_step HBW.out hb); have n1_ := Aside0.mk (below_step (by repeat (first | (with_reducible first | exact HB.out | apply below_alloc | apply pw_below_drewN | apply below_drew1) | exact HB.out)) hb); have n2_ := Aside0.mk (hbox); have n3_ := Aside0.mk ((by rw [hg]; exact (below_size (by repeat (first | (with_reducible first | exact HBW.out | apply below_alloc | apply pw_below_drewN | apply below_drew1) | exact HBW.out))) : w.heap.size ≤ gb109)); have n4_ := Aside0.mk ((Nat.le_trans HW0.out (by rw [hg]; exact (below_size (by repeat (first | (with_reducible first | exact HBW.out | apply below_alloc | apply pw_below_drewN | apply below_drew1) | exact HBW.out))) : w.heap.size ≤ gb109) : w0.heap.size ≤ gb109)); clear HBW; clear HB; have HBW := n0_; have HB := n1_; have BK109 := n2_; have GW109 := n3_; have GE109 := n4_; clear n0_ n1_ n2_ n3_ n4_; clear hb hbox hg))
    go_ret
    exact ⟨_, rfl, (show IsS74 w0 _ gb109 l0 0 from ⟨_, _, by (with_reducible repeat (first | refine blk_drewN ?_ _ | refine blk_drew ?_ | refine blk_alloc ?_ _)); exact BK109.out, GE109.out, HR0.out⟩), by repeat (first | (with_reducible first | exact HB.out | apply below_alloc | apply pw_below_drewN | apply below_drew1 | refine below_set ?_ GE109.out) | exact HB.out), by repeat (first | (with_reducible first | exact HBW.out | apply below_alloc | apply pw_below_drewN | apply below_drew1 | refine below_set ?_ GW109.out) | exact HBW.out)⟩
def spec_l20Rd_pick.j0 : Nat → Int → Bool → List Int → Int → Option (Int × Int)
  | 0, _, _, _, _ => none
  | k + 1, x1, x24, x1000, x1001 => if x24 = true then (some (0, x1001)) else (if (wrap64 (x1001 - 1)) < (x1000.length : Int) then (if 0 ≤ (wrap64 (x1001 - 1)) then (if x1 = 0 then (none) else (some (Int.tmod (wrap64 (rd x1000 (wrap64 (x1001 - 1)))) x1, x1001))) else (none)) else (if (x1000.length : Int) = 0 then (none) else (if 0 ≤ (Int.tmod (wrap64 (x1001 - 1)) (x1000.length : Int)) then (if (Int.tmod (wrap64 (x1001 - 1)) (x1000.length : Int)) < (x1000.length : Int) then (if 0 ≤ (Int.tmod (wrap64 ((wrap64 ((wrap64 (x1001 - 1)) * 7)) + 3)) (x1000.length : Int)) then (if (Int.tmod (wrap64 ((wrap64 ((wrap64 (x1001 - 1)) * 7)) + 3)) (x1000.length : Int)) < (x1000.length : Int) then (if x1 = 0 then (none) else (some (Int.tmod (Go.bits .xor .i64 (wrap64 ((wrap64 ((wrap64 ((wrap64 ((wrap64 (rd x1000 (Int.tmod (wrap64 (x1001 - 1)) (x1000.length : Int)))) * 131)) + (wrap64 ((wrap64 (rd x1000 (Int.tmod (wrap64 ((wrap64 ((wrap64 (x1001 - 1)) * 7)) + 3)) (x1000.length : Int)))) * 1117)))) + (wrap64 ((wrap64 (x1001 - 1)) * 29)))) + (wrap64 ((wrap64 (Int.tdiv (wrap64 (x1001 - 1)) (x1000.length : Int))) * 53)))) (wrap64 (Int.tdiv (wrap64 ((wrap64 ((wrap64 ((wrap64 ((wrap64 (rd x1000 (Int.tmod (wrap64 (x1001 - 1)) (x1000.length : Int)))) * 131)) + (wrap64 ((wrap64 (rd x1000 (Int.tmod (wrap64 ((wrap64 ((wrap64 (x1001 - 1)) * 7)) + 3)) (x1000.length : Int)))) * 1117)))) + (wrap64 ((wrap64 (x1001 - 1)) * 29)))) + (wrap64 ((wrap64 (Int.tdiv (wrap64 (x1001 - 1)) (x1000.length : Int))) * 53)))) 64))) x1, x1001))) else (none)) else (none)) else (none)) else (none))))
def spec_l20Rd_pick.f (k : Nat) (s0_0 : List Int) (s0_1 : Int) (a1 : Int) : Option (Int × Int) := if a1 < 1 then (spec_l20Rd_pick.j0 k a1 true s0_0 (wrap64 (s0_1 + 1))) else (spec_l20Rd_pick.j0 k a1 ((s0_0.length : Int) == 0) s0_0 (wrap64 (s0_1 + 1)))
set_option maxHeartbeats 8000000 in
set_option maxRecDepth 100000 in
theorem spec_l20Rd_pick.calls (k : Nat) (g : Nat) (s0_0 : List Int) (s0_1 : Int) (a1 : Int) (r1 : Int) (r2 : Int) (w0 w : World) (hI : IsS74 w0 w g s0_0 s0_1) (hB : Below w0.heap.size w0 w) (h : spec_l20Rd_pick.f k s0_0 s0_1 a1 = some (r1, r2)) :
    Calls Try.prog 65 #[.pointer (some ⟨g, 0, none⟩), .int .i64 a1] w fun e w' => e = .returned (.int .i64 r1) ∧ IsS74 w0 w' g s0_0 r2 ∧ Below w0.heap.size w0 w' ∧ KeepBut w w' g none := by
  have HI0 := Aside0.mk hI
  have HK := Aside0.mk (KeepBut.refl w g none)
  have HL := Aside0.mk hB.size
  clear hI
  have HW0 := Aside0.mk hB.size
  have HB := Aside0.mk hB
  clear hB
  have H : (if a1 < 1 then (spec_l20Rd_pick.j0 k a1 true s0_0 (wrap64 (s0_1 + 1))) else (spec_l20Rd_pick.j0 k a1 ((s0_0.length : Int) == 0) s0_0 (wrap64 (s0_1 + 1)))) = some (r1, r2) := h
  clear h
  have HC3 := Aside0.mk H
  clear H
  obtain ⟨ASz4_0, cSz4_0, HGz4, hgz4, HSz4_0⟩ := HI0.out
  have hcz4_0 := cellS74_0 HGz4
  have hcz4_1 := cellS74_1 HGz4
  have hfz4_1 := blk_frozen HGz4 1
  clear HGz4 hgz4
  go_enter Try.func65, Try.ntmps65
  go_upto_region 2 with (fail)
  repeat (go_quiet (fail); go_upto_region 2 with (fail))
  go_cut [24] (fun v24 wc => ∃ (kq : Nat) (x24_2 : Bool), v24 = .bool x24_2 ∧ Aside0 (spec_l20Rd_pick.j0 kq a1 x24_2 s0_0 (wrap64 (s0_1 + 1)) = some (r1, r2)) ∧ Aside0 (kq ≤ k) ∧ Aside0 (IsS74 w0 wc g s0_0 (wrap64 (s0_1 + 1))) ∧ Aside0 (KeepBut w wc g none) ∧ Aside0 (Below w0.heap.size w0 wc))
  case first =>
    have H := HC3.out
    clear HC3
    by_cases c5 : a1 < 1
    · rw [if_pos c5] at H
      have c5b0 : decide (a1 < 1) = true := decide_eq_true c5
      clear c5
      (first | rw [c5b0] | (simp only [i64_w, i32_w]; rw [c5b0]) | skip)
      have H' := Aside0.mk H
      clear H
      go_wp2
      repeat (go_quiet (fail); try go_wp2)
      go_meet
      case rel => exact ⟨_, (true), (by first | rfl | (simp; done) | (simp [*]; done)), H', ⟨by first | omega | exact Nat.le_refl _⟩, ⟨by repeat (first | (with_reducible first | exact HI0.out | apply IsS74.alloc | apply IsS74.drewN | apply IsS74.drew | apply IsS74.set_1) | exact HI0.out)⟩, ⟨by repeat (first | (with_reducible first | exact HK.out | apply KeepBut.set_ | apply keep_drewN | apply keep_drew | apply keep_alloc) | exact HK.out)⟩, ⟨by repeat (first | (with_reducible first | exact HB.out | apply below_alloc | apply pw_below_drewN | apply below_drew1 | refine below_set ?_ (IsS74.ge HI0.out)) | exact HB.out)⟩⟩
    · rw [if_neg c5] at H
      have c5b0 : decide (a1 < 1) = false := decide_eq_false c5
      clear c5
      (first | rw [c5b0] | (simp only [i64_w, i32_w]; rw [c5b0]) | skip)
      have H' := Aside0.mk H
      clear H
      obtain ⟨ASz6_0, cSz6_0, HGz6, hgz6, HSz6_0⟩ := HI0.out
      have hcz6_0 := cellS74_0 HGz6
      have hcz6_1 := cellS74_1 HGz6
      have hfz6_1 := blk_frozen HGz6 1
      clear HGz6 hgz6
      go_wp2
      repeat (go_quiet (fail); try go_wp2)
      go_meet
      case rel => exact ⟨_, (((s0_0.length : Int) == 0)), (by first | rfl | (simp; done) | (simp [*]; done)), H', ⟨by first | omega | exact Nat.le_refl _⟩, ⟨by repeat (first | (with_reducible first | exact HI0.out | apply IsS74.alloc | apply IsS74.drewN | apply IsS74.drew | apply IsS74.set_1) | exact HI0.out)⟩, ⟨by repeat (first | (with_reducible first | exact HK.out | apply KeepBut.set_ | apply keep_drewN | apply keep_drew | apply keep_alloc) | exact HK.out)⟩, ⟨by repeat (first | (with_reducible first | exact HB.out | apply below_alloc | apply pw_below_drewN | apply below_drew1 | refine below_set ?_ (IsS74.ge HI0.out)) | exact HB.out)⟩⟩
  case rest =>
    clear HC3
    try clear p2
    try clear c5
    try clear c5b0
    try clear c6
    try clear p6
    try clear hcz4_0
    try clear hcz4_1
    try clear hcz6_0
    try clear hcz6_1
    try clear hfz4_1
    try clear hfz6_1
    obtain ⟨kq, x24_2, rfl, HA, HJ2, HI0, HK, HB⟩ := hcut
    cases kq with
    | zero => exact absurd HA.out (by simp [spec_l20Rd_pick.j0])
    | succ kj2 =>
      have H := HA.out
      clear HA
      simp only [spec_l20Rd_pick.j0] at H
      by_cases c7 : x24_2 = true
      · subst c7
        have H1 : (some (0, (wrap64 (s0_1 + 1)))) = some (r1, r2) := by rw [if_pos rfl] at H; exact H
        clear H
        have H := H1
        clear H1
        simp only [Option.some.injEq, Prod.mk.injEq] at H
        obtain ⟨rfl, rfl⟩ := H
        go_wp2
        repeat (go_quiet (fail); try go_wp2)
        go_ret
        exact ⟨by first | rfl | (simp [errW_none, errW_some] <;> rfl) | (simp [*, errW_none, errW_some] <;> rfl), by repeat (first | (with_reducible first | exact HI0.out | apply IsS74.alloc | apply IsS74.drewN | apply IsS74.drew | apply IsS74.set_1) | exact HI0.out), by repeat (first | (with_reducible first | exact HB.out | apply below_alloc | apply pw_below_drewN | apply below_drew1 | refine below_set ?_ (IsS74.ge HI0.out)) | exact HB.out), by repeat (first | (with_reducible first | exact HK.out | apply KeepBut.set_ | apply keep_drewN | apply keep_drew | apply keep_alloc) | exact HK.out)⟩
      · replace c7 := Bool.eq_false_iff.mpr c7
        subst c7
        have H1 : (if (wrap64 ((wrap64 (s0_1 + 1)) - 1)) < (s0_0.length : Int) then (if 0 ≤ (wrap64 ((wrap64 (s0_1 + 1)) - 1)) then (if a1 = 0 then (none) else (some (Int.tmod (wrap64 (rd s0_0 (wrap64 ((wrap64 (s0_1 + 1)) - 1)))) a1, (wrap64 (s0_1 + 1))))) else (none)) else (if (s0_0.length : Int) = 0 then (none) else (if 0 ≤ (Int.tmod (wrap64 ((wrap64 (s0_1 + 1)) - 1)) (s0_0.length : Int)) then (if (Int.tmod (wrap64 ((wrap64 (s0_1 + 1)) - 1)) (s0_0.length : Int)) < (s0_0.length : Int) then (if 0 ≤ (Int.tmod (wrap64 ((wrap64 ((wrap64 ((wrap64 (s0_1 + 1)) - 1)) * 7)) + 3)) (s0_0.length : Int)) then (if (Int.tmod (wrap64 ((wrap64 ((wrap64 ((wrap64 (s0_1 + 1)) - 1)) * 7)) + 3)) (s0_0.length : Int)) < (s0_0.length : Int) then (if a1 = 0 then (none) else (some (Int.tmod (Go.bits .xor .i64 (wrap64 ((wrap64 ((wrap64 ((wrap64 ((wrap64 (rd s0_0 (Int.tmod (wrap64 ((wrap64 (s0_1 + 1)) - 1)) (s0_0.length : Int)))) * 131)) + (wrap64 ((wrap64 (rd s0_0 (Int.tmod (wrap64 ((wrap64 ((wrap64 ((wrap64 (s0_1 + 1)) - 1)) * 7)) + 3)) (s0_0.length : Int)))) * 1117)))) + (wrap64 ((wrap64 ((wrap64 (s0_1 + 1)) - 1)) * 29)))) + (wrap64 ((wrap64 (Int.tdiv (wrap64 ((wrap64 (s0_1 + 1)) - 1)) (s0_0.length : Int))) * 53)))) (wrap64 (Int.tdiv (wrap64 ((wrap64 ((wrap64 ((wrap64 ((wrap64 (rd s0_0 (Int.tmod (wrap64 ((wrap64 (s0_1 + 1)) - 1)) (s0_0.length : Int)))) * 131)) + (wrap64 ((wrap64 (rd s0_0 (Int.tmod (wrap64 ((wrap64 ((wrap64 ((wrap64 (s0_1 + 1)) - 1)) * 7)) + 3)) (s0_0.length : Int)))) * 1117)))) + (wrap64 ((wrap64 ((wrap64 (s0_1 + 1)) - 1)) * 29)))) + (wrap64 ((wrap64 (Int.tdiv (wrap64 ((wrap64 (s0_1 + 1)) - 1)) (s0_0.length : Int))) * 53)))) 64))) a1, (wrap64 (s0_1 + 1))))) else (none)) else (none)) else (none)) else (none)))) = some (r1, r2) := by rw [if_neg (show ¬ (false = true) by decide)] at H; exact H
        clear H
        have H := H1
        clear H1
        by_cases c8 : (wrap64 ((wrap64 (s0_1 + 1)) - 1)) < (s0_0.length : Int)
        · rw [if_pos c8] at H
          have c8b0 : decide ((wrap64 ((wrap64 (s0_1 + 1)) - 1)) < (s0_0.length : Int)) = true := decide_eq_true c8
          clear c8
          obtain ⟨ji9, hji9⟩ : ∃ j_ : Int, (wrap64 ((wrap64 (s0_1 + 1)) - 1)) = j_ := ⟨_, rfl⟩
          replace H : (if 0 ≤ (ji9) then (if a1 = 0 then (none) else (some (Int.tmod (wrap64 (rd s0_0 (ji9))) a1, (wrap64 (s0_1 + 1))))) else (none)) = some (r1, r2) := by first | (rw [hji9] at H; exact H) | (simp only [hji9] at H ⊢; exact H)
          (try rw [hji9] at c8b0)
          have hji9w : (IntKind.i64.wrap ((wrap64 (s0_1 + 1)) - 1)) = ji9 := (i64_w _).trans hji9
          by_cases c10 : 0 ≤ (ji9)
          · rw [if_pos c10] at H
            have c10b0 : decide (0 ≤ (ji9)) = true := decide_eq_true c10
            clear c10
            by_cases c11 : a1 = 0
            · rw [if_pos c11] at H
              exact absurd H (by simp)
            · rw [if_neg c11] at H
              have c11b0 : (a1 == 0) = false := beq_eq_false_iff_ne.mpr c11
              have c11b1 : (a1 != 0) = true := bne_iff_ne.mpr c11
              simp only [Option.some.injEq, Prod.mk.injEq] at H
              obtain ⟨rfl, rfl⟩ := H
              obtain ⟨ASz12_0, cSz12_0, HGz12, hgz12, HSz12_0⟩ := HI0.out
              have hcz12_0 := cellS74_0 HGz12
              have hcz12_1 := cellS74_1 HGz12
              have hfz12_1 := blk_frozen HGz12 1
              clear HGz12 hgz12
              have p110 : 0 ≤ ((ji9) : Int) := of_decide_eq_true (by first | (with_reducible assumption) | assumption)
              have q110 : (ji9) < (s0_0.length : Int) := of_decide_eq_true (by first | (with_reducible assumption) | assumption)
              obtain ⟨ad110, e110, hx110_0⟩ := Kd.at_int HSz12_0 (ji9) p110 q110
              cases e110
              replace hx110_0 := pw_cell_below HB.out hx110_0
              replace p110 := eq_true p110
              replace q110 := eq_true q110
              go_wp2
              repeat (go_quiet (fail); try go_wp2)
              go_ret
              exact ⟨by first | rfl | (simp [errW_none, errW_some] <;> rfl) | (simp only [← hji9]; first | rfl | (simp [errW_none, errW_some] <;> rfl)) | (simp [*, errW_none, errW_some] <;> rfl), by repeat (first | (with_reducible first | exact HI0.out | apply IsS74.alloc | apply IsS74.drewN | apply IsS74.drew | apply IsS74.set_1) | exact HI0.out), by repeat (first | (with_reducible first | exact HB.out | apply below_alloc | apply pw_below_drewN | apply below_drew1 | refine below_set ?_ (IsS74.ge HI0.out)) | exact HB.out), by repeat (first | (with_reducible first | exact HK.out | apply KeepBut.set_ | apply keep_drewN | apply keep_drew | apply keep_alloc) | exact HK.out)⟩
          · rw [if_neg c10] at H
            exact absurd H (by simp)
        · rw [if_neg c8] at H
          have c8b0 : decide ((wrap64 ((wrap64 (s0_1 + 1)) - 1)) < (s0_0.length : Int)) = false := decide_eq_false c8
          clear c8
          by_cases c13 : (s0_0.length : Int) = 0
          · rw [if_pos c13] at H
            exact absurd H (by simp)
          · rw [if_neg c13] at H
            have c13b0 : ((s0_0.length : Int) == 0) = false := beq_eq_false_iff_ne.mpr c13
            have c13b1 : ((s0_0.length : Int) != 0) = true := bne_iff_ne.mpr c13
            have c13b2 : ¬ (s0_0 = []) := fun h_ => c13 (by rw [h_]; rfl)
            obtain ⟨ji14, hji14⟩ : ∃ j_ : Int, (Int.tmod (wrap64 ((wrap64 (s0_1 + 1)) - 1)) (s0_0.length : Int)) = j_ := ⟨_, rfl⟩
            replace H : (if 0 ≤ (ji14) then (if (ji14) < (s0_0.length : Int) then (if 0 ≤ (Int.tmod (wrap64 ((wrap64 ((wrap64 ((wrap64 (s0_1 + 1)) - 1)) * 7)) + 3)) (s0_0.length : Int)) then (if (Int.tmod (wrap64 ((wrap64 ((wrap64 ((wrap64 (s0_1 + 1)) - 1)) * 7)) + 3)) (s0_0.length : Int)) < (s0_0.length : Int) then (if a1 = 0 then (none) else (some (Int.tmod (Go.bits .xor .i64 (wrap64 ((wrap64 ((wrap64 ((wrap64 ((wrap64 (rd s0_0 (ji14))) * 131)) + (wrap64 ((wrap64 (rd s0_0 (Int.tmod (wrap64 ((wrap64 ((wrap64 ((wrap64 (s0_1 + 1)) - 1)) * 7)) + 3)) (s0_0.length : Int)))) * 1117)))) + (wrap64 ((wrap64 ((wrap64 (s0_1 + 1)) - 1)) * 29)))) + (wrap64 ((wrap64 (Int.tdiv (wrap64 ((wrap64 (s0_1 + 1)) - 1)) (s0_0.length : Int))) * 53)))) (wrap64 (Int.tdiv (wrap64 ((wrap64 ((wrap64 ((wrap64 ((wrap64 (rd s0_0 (ji14))) * 131)) + (wrap64 ((wrap64 (rd s0_0 (Int.tmod (wrap64 ((wrap64 ((wrap64 ((wrap64 (s0_1 + 1)) - 1)) * 7)) + 3)) (s0_0.length : Int)))) * 1117)))) + (wrap64 ((wrap64 ((wrap64 (s0_1 + 1)) - 1)) * 29)))) + (wrap64 ((wrap64 (Int.tdiv (wrap64 ((wrap64 (s0_1 + 1)) - 1)) (s0_0.length : Int))) * 53)))) 64))) a1, (wrap64 (s0_1 + 1))))) else (none)) else (none)) else (none)) else (none)) = some (r1, r2) := by first | (rw [hji14] at H; exact H) | (simp only [hji14] at H ⊢; exact H)
            by_cases c15 : 0 ≤ (ji14)
            · rw [if_pos c15] at H
              have c15b0 : decide (0 ≤ (ji14)) = true := decide_eq_true c15
              clear c15
              by_cases c16 : (ji14) < (s0_0.length : Int)
              · rw [if_pos c16] at H
                have c16b0 : decide ((ji14) < (s0_0.length : Int)) = true := decide_eq_true c16
                clear c16
                obtain ⟨ji17, hji17⟩ : ∃ j_ : Int, (Int.tmod (wrap64 ((wrap64 ((wrap64 ((wrap64 (s0_1 + 1)) - 1)) * 7)) + 3)) (s0_0.length : Int)) = j_ := ⟨_, rfl⟩
                replace H : (if 0 ≤ (ji17) then (if (ji17) < (s0_0.length : Int) then (if a1 = 0 then (none) else (some (Int.tmod (Go.bits .xor .i64 (wrap64 ((wrap64 ((wrap64 ((wrap64 ((wrap64 (rd s0_0 (ji14))) * 131)) + (wrap64 ((wrap64 (rd s0_0 (ji17))) * 1117)))) + (wrap64 ((wrap64 ((wrap64 (s0_1 + 1)) - 1)) * 29)))) + (wrap64 ((wrap64 (Int.tdiv (wrap64 ((wrap64 (s0_1 + 1)) - 1)) (s0_0.length : Int))) * 53)))) (wrap64 (Int.tdiv (wrap64 ((wrap64 ((wrap64 ((wrap64 ((wrap64 (rd s0_0 (ji14))) * 131)) + (wrap64 ((wrap64 (rd s0_0 (ji17))) * 1117)))) + (wrap64 ((wrap64 ((wrap64 (s0_1 + 1)) - 1)) * 29)))) + (wrap64 ((wrap64 (Int.tdiv (wrap64 ((wrap64 (s0_1 + 1)) - 1)) (s0_0.length : Int))) * 53)))) 64))) a1, (wrap64 (s0_1 + 1))))) else (none)) else (none)) = some (r1, r2) := by first | (rw [hji17] at H; exact H) | (simp only [hji17] at H ⊢; exact H)
                by_cases c18 : 0 ≤ (ji17)
                · rw [if_pos c18] at H
                  have c18b0 : decide (0 ≤ (ji17)) = true := decide_eq_true c18
                  clear c18
                  by_cases c19 : (ji17) < (s0_0.length : Int)
                  · rw [if_pos c19] at H
                    have c19b0 : decide ((ji17) < (s0_0.length : Int)) = true := decide_eq_true c19
                    clear c19
                    by_cases c20 : a1 = 0
                    · rw [if_pos c20] at H
                      exact absurd H (by simp)
                    · rw [if_neg c20] at H
                      have c20b0 : (a1 == 0) = false := beq_eq_false_iff_ne.mpr c20
                      have c20b1 : (a1 != 0) = true := bne_iff_ne.mpr c20
                      simp only [Option.some.injEq, Prod.mk.injEq] at H
                      obtain ⟨rfl, rfl⟩ := H
                      obtain ⟨ASz21_0, cSz21_0, HGz21, hgz21, HSz21_0⟩ := HI0.out
                      have hcz21_0 := cellS74_0 HGz21
                      have hcz21_1 := cellS74_1 HGz21
                      have hfz21_1 := blk_frozen HGz21 1
                      clear HGz21 hgz21
                      have p111 : 0 ≤ ((ji14) : Int) := of_decide_eq_true (by first | (with_reducible assumption) | assumption)
                      have q111 : (ji14) < (s0_0.length : Int) := of_decide_eq_true (by first | (with_reducible assumption) | assumption)
                      obtain ⟨ad111, e111, hx111_0⟩ := Kd.at_int HSz21_0 (ji14) p111 q111
                      cases e111
                      replace hx111_0 := pw_cell_below HB.out hx111_0
                      replace p111 := eq_true p111
                      replace q111 := eq_true q111
                      have p112 : 0 ≤ ((ji17) : Int) := of_decide_eq_true (by first | (with_reducible assumption) | assumption)
                      have q112 : (ji17) < (s0_0.length : Int) := of_decide_eq_true (by first | (with_reducible assumption) | assumption)
                      obtain ⟨ad112, e112, hx112_0⟩ := Kd.at_int HSz21_0 (ji17) p112 q112
                      obtain rfl : ad111 = ad112 := (by injection e112)
                      replace hx112_0 := pw_cell_below HB.out hx112_0
                      replace p112 := eq_true p112
                      replace q112 := eq_true q112
                      go_wp2
                      repeat (go_quiet (fail); try go_wp2)
                      go_ret
                      exact ⟨by first | rfl | (simp [errW_none, errW_some] <;> rfl) | (simp only [← hji14, ← hji17]; first | rfl | (simp [errW_none, errW_some] <;> rfl)) | (simp [*, errW_none, errW_some] <;> rfl), by repeat (first | (with_reducible first | exact HI0.out | apply IsS74.alloc | apply IsS74.drewN | apply IsS74.drew | apply IsS74.set_1) | exact HI0.out), by repeat (first | (with_reducible first | exact HB.out | apply below_alloc | apply pw_below_drewN | apply below_drew1 | refine below_set ?_ (IsS74.ge HI0.out)) | exact HB.out), by repeat (first | (with_reducible first | exact HK.out | apply KeepBut.set_ | apply keep_drewN | apply keep_drew | apply keep_alloc) | exact HK.out)⟩
                  · rw [if_neg c19] at H
                    exact absurd H (by simp)
                · rw [if_neg c18] at H
                  exact absurd H (by simp)
              · rw [if_neg c16] at H
                exact absurd H (by simp)
            · rw [if_neg c15] at H
              exact absurd H (by simp)
def spec_PlatOk.f (a0_0 : Int) (a0_1 : Int) (a0_2 : Int) : Option (Bool) := if a0_0 ≥ 1 then (if a0_0 ≤ 4 then (if a0_1 ≥ 1 then (if a0_1 ≤ 6 then (if a0_2 ≥ 1 then (some (decide (a0_2 ≤ 20))) else (some false)) else (some false)) else (some false)) else (some false)) else (some false)
set_option maxHeartbeats 8000000 in
set_option maxRecDepth 100000 in
theorem spec_PlatOk.calls (a0_0 : Int) (a0_1 : Int) (a0_2 : Int) (r : Bool) (w : World) (h : spec_PlatOk.f a0_0 a0_1 a0_2 = some r) :
    Calls Try.prog 35 #[.agg #[.int .i64 a0_0, .int .i64 a0_1, .int .i64 a0_2]] w fun e w' => e = .returned (.bool r) ∧ Below w.heap.size w w' := by
  have hu29 := Try.underlying29
  have HB := Aside0.mk (Below.refl w.heap.size w)
  have H : (if a0_0 ≥ 1 then (if a0_0 ≤ 4 then (if a0_1 ≥ 1 then (if a0_1 ≤ 6 then (if a0_2 ≥ 1 then (some (decide (a0_2 ≤ 20))) else (some false)) else (some false)) else (some false)) else (some false)) else (some false)) = some r := h
  clear h
  by_cases c2 : a0_0 ≥ 1
  · rw [if_pos c2] at H
    have c2b0 : decide (1 ≤ a0_0) = true := decide_eq_true c2
    clear c2
    by_cases c3 : a0_0 ≤ 4
    · rw [if_pos c3] at H
      have c3b0 : decide (a0_0 ≤ 4) = true := decide_eq_true c3
      clear c3
      by_cases c4 : a0_1 ≥ 1
      · rw [if_pos c4] at H
        have c4b0 : decide (1 ≤ a0_1) = true := decide_eq_true c4
        clear c4
        by_cases c5 : a0_1 ≤ 6
        · rw [if_pos c5] at H
          have c5b0 : decide (a0_1 ≤ 6) = true := decide_eq_true c5
          clear c5
          by_cases c6 : a0_2 ≥ 1
          · rw [if_pos c6] at H
            have c6b0 : decide (1 ≤ a0_2) = true := decide_eq_true c6
            clear c6
            obtain rfl := Option.some.inj H
            go_enter Try.func35, Try.ntmps35
            go_wp2_with (first | ((with_reducible refine gate_dst (N := 1) rfl ?_); refine box_event ?hg (N := 1) ?hd (cs := #[.int .i64 a0_0, .int .i64 a0_1, .int .i64 a0_2]) (t := 29) ?hr ?_; (case hd => rfl); (case hg => rfl); (case hr => first | (go_simp; done) | (go_simp; rfl)); intro gb113 hg w7 hbox hb; have n0_ := Aside0.mk (below_step (by repeat (first | (with_reducible first | exact HB.out | apply below_alloc | apply pw_below_drewN | apply below_drew1) | exact HB.out)) hb); have n1_ := Aside0.mk (hbox); have n2_ := Aside0.mk ((by rw [hg]; exact (below_size (by repeat (first | (with_reducible first | exact HB.out | apply below_alloc | apply pw_below_drewN | apply below_drew1) | exact HB.out))) : w.heap.size ≤ gb113)); have n3_ := Aside0.mk ((by rw [hg]; exact (below_size (by repeat (first | (with_reducible first | exact HB.out | apply below_alloc | apply pw_below_drewN | apply below_drew1) | exact HB.out))) : w.heap.size ≤ gb113)); clear HB; have HB := n0_; have BK113 := n1_; have GW113 := n2_; have GE113 := n3_; clear n0_ n1_ n2_ n3_; clear hb hbox hg; have hcz8_0 : w7.cell? ⟨gb113, 0, none⟩ = some (.int .i64 a0_0) := (blk_cell BK113.out 0).trans rfl; have hcz8_1 : w7.cell? ⟨gb113, 1, none⟩ = some (.int .i64 a0_1) := (blk_cell BK113.out 1).trans rfl; have hcz8_2 : w7.cell? ⟨gb113, 2, none⟩ = some (.int .i64 a0_2) := (blk_cell BK113.out 2).trans rfl; have hfz8_0 := blk_frozen BK113.out 0; have hfz8_1 := blk_frozen BK113.out 1; have hfz8_2 := blk_frozen BK113.out 2))
            go_ret
            exact ⟨by first | rfl | (simp [errW_none, errW_some] <;> rfl) | (simp [*, errW_none, errW_some] <;> rfl), by repeat (first | (with_reducible first | exact HB.out | apply below_alloc | apply pw_below_drewN | apply below_drew1 | refine below_set ?_ GE113.out) | exact HB.out)⟩
          · rw [if_neg c6] at H
            have c6b0 : decide (1 ≤ a0_2) = false := decide_eq_false c6
            clear c6
            obtain rfl := Option.some.inj H
            go_enter Try.func35, Try.ntmps35
            go_wp2_with (first | ((with_reducible refine gate_dst (N := 1) rfl ?_); refine box_event ?hg (N := 1) ?hd (cs := #[.int .i64 a0_0, .int .i64 a0_1, .int .i64 a0_2]) (t := 29) ?hr ?_; (case hd => rfl); (case hg => rfl); (case hr => first | (go_simp; done) | (go_simp; rfl)); intro gb113 hg w9 hbox hb; have n0_ := Aside0.mk (below_step (by repeat (first | (with_reducible first | exact HB.out | apply below_alloc | apply pw_below_drewN | apply below_drew1) | exact HB.out)) hb); have n1_ := Aside0.mk (hbox); have n2_ := Aside0.mk ((by rw [hg]; exact (below_size (by repeat (first | (with_reducible first | exact HB.out | apply below_alloc | apply pw_below_drewN | apply below_drew1) | exact HB.out))) : w.heap.size ≤ gb113)); have n3_ := Aside0.mk ((by rw [hg]; exact (below_size (by repeat (first | (with_reducible first | exact HB.out | apply below_alloc | apply pw_below_drewN | apply below_drew1) | exact HB.out))) : w.heap.size ≤ gb113)); clear HB; have HB := n0_; have BK113 := n1_; have GW113 := n2_; have GE113 := n3_; clear n0_ n1_ n2_ n3_; clear hb hbox hg; have hcz10_0 : w9.cell? ⟨gb113, 0, none⟩ = some (.int .i64 a0_0) := (blk_cell BK113.out 0).trans rfl; have hcz10_1 : w9.cell? ⟨gb113, 1, none⟩ = some (.int .i64 a0_1) := (blk_cell BK113.out 1).trans rfl; have hcz10_2 : w9.cell? ⟨gb113, 2, none⟩ = some (.int .i64 a0_2) := (blk_cell BK113.out 2).trans rfl; have hfz10_0 := blk_frozen BK113.out 0; have hfz10_1 := blk_frozen BK113.out 1; have hfz10_2 := blk_frozen BK113.out 2))
            go_ret
            exact ⟨by first | rfl | (simp [errW_none, errW_some] <;> rfl) | (simp [*, errW_none, errW_some] <;> rfl), by repeat (first | (with_reducible first | exact HB.out | apply below_alloc | apply pw_below_drewN | apply below_drew1 | refine below_set ?_ GE113.out) | exact HB.out)⟩
        · rw [if_neg c5] at H
          have c5b0 : decide (a0_1 ≤ 6) = false := decide_eq_false c5
          clear c5
          obtain rfl := Option.some.inj H
          go_enter Try.func35, Try.ntmps35
          go_wp2_with (first | ((with_reducible refine gate_dst (N := 1) rfl ?_); refine box_event ?hg (N := 1) ?hd (cs := #[.int .i64 a0_0, .int .i64 a0_1, .int .i64 a0_2]) (t := 29) ?hr ?_; (case hd => rfl); (case hg => rfl); (case hr => first | (go_simp; done) | (go_simp; rfl)); intro gb113 hg w11 hbox hb; have n0_ := Aside0.mk (below_step (by repeat (first | (with_reducible first | exact HB.out | apply below_alloc | apply pw_below_drewN | apply below_drew1) | exact HB.out)) hb); have n1_ := Aside0.mk (hbox); have n2_ := Aside0.mk ((by rw [hg]; exact (below_size (by repeat (first | (with_reducible first | exact HB.out | apply below_alloc | apply pw_below_drewN | apply below_drew1) | exact HB.out))) : w.heap.size ≤ gb113)); have n3_ := Aside0.mk ((by rw [hg]; exact (below_size (by repeat (first | (with_reducible first | exact HB.out | apply below_alloc | apply pw_below_drewN | apply below_drew1) | exact HB.out))) : w.heap.size ≤ gb113)); clear HB; have HB := n0_; have BK113 := n1_; have GW113 := n2_; have GE113 := n3_; clear n0_ n1_ n2_ n3_; clear hb hbox hg; have hcz12_0 : w11.cell? ⟨gb113, 0, none⟩ = some (.int .i64 a0_0) := (blk_cell BK113.out 0).trans rfl; have hcz12_1 : w11.cell? ⟨gb113, 1, none⟩ = some (.int .i64 a0_1) := (blk_cell BK113.out 1).trans rfl; have hcz12_2 : w11.cell? ⟨gb113, 2, none⟩ = some (.int .i64 a0_2) := (blk_cell BK113.out 2).trans rfl; have hfz12_0 := blk_frozen BK113.out 0; have hfz12_1 := blk_frozen BK113.out 1; have hfz12_2 := blk_frozen BK113.out 2))
          go_ret
          exact ⟨by first | rfl | (simp [errW_none, errW_some] <;> rfl) | (simp [*, errW_none, errW_some] <;> rfl), by repeat (first | (with_reducible first | exact HB.out | apply below_alloc | apply pw_below_drewN | apply below_drew1 | refine below_set ?_ GE113.out) | exact HB.out)⟩
      · rw [if_neg c4] at H
        have c4b0 : decide (1 ≤ a0_1) = false := decide_eq_false c4
        clear c4
        obtain rfl := Option.some.inj H
        go_enter Try.func35, Try.ntmps35
        go_wp2_with (first | ((with_reducible refine gate_dst (N := 1) rfl ?_); refine box_event ?hg (N := 1) ?hd (cs := #[.int .i64 a0_0, .int .i64 a0_1, .int .i64 a0_2]) (t := 29) ?hr ?_; (case hd => rfl); (case hg => rfl); (case hr => first | (go_simp; done) | (go_simp; rfl)); intro gb113 hg w13 hbox hb; have n0_ := Aside0.mk (below_step (by repeat (first | (with_reducible first | exact HB.out | apply below_alloc | apply pw_below_drewN | apply below_drew1) | exact HB.out)) hb); have n1_ := Aside0.mk (hbox); have n2_ := Aside0.mk ((by rw [hg]; exact (below_size (by repeat (first | (with_reducible first | exact HB.out | apply below_alloc | apply pw_below_drewN | apply below_drew1) | exact HB.out))) : w.heap.size ≤ gb113)); have n3_ := Aside0.mk ((by rw [hg]; exact (below_size (by repeat (first | (with_reducible first | exact HB.out | apply below_alloc | apply pw_below_drewN | apply below_drew1) | exact HB.out))) : w.heap.size ≤ gb113)); clear HB; have HB := n0_; have BK113 := n1_; have GW113 := n2_; have GE113 := n3_; clear n0_ n1_ n2_ n3_; clear hb hbox hg; have hcz14_0 : w13.cell? ⟨gb113, 0, none⟩ = some (.int .i64 a0_0) := (blk_cell BK113.out 0).trans rfl; have hcz14_1 : w13.cell? ⟨gb113, 1, none⟩ = some (.int .i64 a0_1) := (blk_cell BK113.out 1).trans rfl; have hcz14_2 : w13.cell? ⟨gb113, 2, none⟩ = some (.int .i64 a0_2) := (blk_cell BK113.out 2).trans rfl; have hfz14_0 := blk_frozen BK113.out 0; have hfz14_1 := blk_frozen BK113.out 1; have hfz14_2 := blk_frozen BK113.out 2))
        go_ret
        exact ⟨by first | rfl | (simp [errW_none, errW_some] <;> rfl) | (simp [*, errW_none, errW_some] <;> rfl), by repeat (first | (with_reducible first | exact HB.out | apply below_alloc | apply pw_below_drewN | apply below_drew1 | refine below_set ?_ GE113.out) | exact HB.out)⟩
    · rw [if_neg c3] at H
      have c3b0 : decide (a0_0 ≤ 4) = false := decide_eq_false c3
      clear c3
      obtain rfl := Option.some.inj H
      go_enter Try.func35, Try.ntmps35
      go_wp2_with (first | ((with_reducible refine gate_dst (N := 1) rfl ?_); refine box_event ?hg (N := 1) ?hd (cs := #[.int .i64 a0_0, .int .i64 a0_1, .int .i64 a0_2]) (t := 29) ?hr ?_; (case hd => rfl); (case hg => rfl); (case hr => first | (go_simp; done) | (go_simp; rfl)); intro gb113 hg w15 hbox hb; have n0_ := Aside0.mk (below_step (by repeat (first | (with_reducible first | exact HB.out | apply below_alloc | apply pw_below_drewN | apply below_drew1) | exact HB.out)) hb); have n1_ := Aside0.mk (hbox); have n2_ := Aside0.mk ((by rw [hg]; exact (below_size (by repeat (first | (with_reducible first | exact HB.out | apply below_alloc | apply pw_below_drewN | apply below_drew1) | exact HB.out))) : w.heap.size ≤ gb113)); have n3_ := Aside0.mk ((by rw [hg]; exact (below_size (by repeat (first | (with_reducible first | exact HB.out | apply below_alloc | apply pw_below_drewN | apply below_drew1) | exact HB.out))) : w.heap.size ≤ gb113)); clear HB; have HB := n0_; have BK113 := n1_; have GW113 := n2_; have GE113 := n3_; clear n0_ n1_ n2_ n3_; clear hb hbox hg; have hcz16_0 : w15.cell? ⟨gb113, 0, none⟩ = some (.int .i64 a0_0) := (blk_cell BK113.out 0).trans rfl; have hcz16_1 : w15.cell? ⟨gb113, 1, none⟩ = some (.int .i64 a0_1) := (blk_cell BK113.out 1).trans rfl; have hcz16_2 : w15.cell? ⟨gb113, 2, none⟩ = some (.int .i64 a0_2) := (blk_cell BK113.out 2).trans rfl; have hfz16_0 := blk_frozen BK113.out 0; have hfz16_1 := blk_frozen BK113.out 1; have hfz16_2 := blk_frozen BK113.out 2))
      go_ret
      exact ⟨by first | rfl | (simp [errW_none, errW_some] <;> rfl) | (simp [*, errW_none, errW_some] <;> rfl), by repeat (first | (with_reducible first | exact HB.out | apply below_alloc | apply pw_below_drewN | apply below_drew1 | refine below_set ?_ GE113.out) | exact HB.out)⟩
  · rw [if_neg c2] at H
    have c2b0 : decide (1 ≤ a0_0) = false := decide_eq_false c2
    clear c2
    obtain rfl := Option.some.inj H
    go_enter Try.func35, Try.ntmps35
    go_wp2_with (first | ((with_reducible refine gate_dst (N := 1) rfl ?_); refine box_event ?hg (N := 1) ?hd (cs := #[.int .i64 a0_0, .int .i64 a0_1, .int .i64 a0_2]) (t := 29) ?hr ?_; (case hd => rfl); (case hg => rfl); (case hr => first | (go_simp; done) | (go_simp; rfl)); intro gb113 hg w17 hbox hb; have n0_ := Aside0.mk (below_step (by repeat (first | (with_reducible first | exact HB.out | apply below_alloc | apply pw_below_drewN | apply below_drew1) | exact HB.out)) hb); have n1_ := Aside0.mk (hbox); have n2_ := Aside0.mk ((by rw [hg]; exact (below_size (by repeat (first | (with_reducible first | exact HB.out | apply below_alloc | apply pw_below_drewN | apply below_drew1) | exact HB.out))) : w.heap.size ≤ gb113)); have n3_ := Aside0.mk ((by rw [hg]; exact (below_size (by repeat (first | (with_reducible first | exact HB.out | apply below_alloc | apply pw_below_drewN | apply below_drew1) | exact HB.out))) : w.heap.size ≤ gb113)); clear HB; have HB := n0_; have BK113 := n1_; have GW113 := n2_; have GE113 := n3_; clear n0_ n1_ n2_ n3_; clear hb hbox hg; have hcz18_0 : w17.cell? ⟨gb113, 0, none⟩ = some (.int .i64 a0_0) := (blk_cell BK113.out 0).trans rfl; have hcz18_1 : w17.cell? ⟨gb113, 1, none⟩ = some (.int .i64 a0_1) := (blk_cell BK113.out 1).trans rfl; have hcz18_2 : w17.cell? ⟨gb113, 2, none⟩ = some (.int .i64 a0_2) := (blk_cell BK113.out 2).trans rfl; have hfz18_0 := blk_frozen BK113.out 0; have hfz18_1 := blk_frozen BK113.out 1; have hfz18_2 := blk_frozen BK113.out 2))
    go_ret
    exact ⟨by first | rfl | (simp [errW_none, errW_some] <;> rfl) | (simp [*, errW_none, errW_some] <;> rfl), by repeat (first | (with_reducible first | exact HB.out | apply below_alloc | apply pw_below_drewN | apply below_drew1 | refine below_set ?_ GE113.out) | exact HB.out)⟩
def spec_l20Rd_num.f (k : Nat) (s0_0 : List Int) (s0_1 : Int) (l1 : List Int) : Option (Int × Int) := (spec_l20Rd_pick.f k s0_0 s0_1 (l1.length : Int)).bind fun bt114 => (if 0 ≤ bt114.1 then (if bt114.1 < (l1.length : Int) then (some (rd l1 bt114.1, bt114.2)) else (none)) else (none))
set_option maxHeartbeats 8000000 in
set_option maxRecDepth 100000 in
theorem spec_l20Rd_num.calls (k : Nat) (g : Nat) (s0_0 : List Int) (s0_1 : Int) (A1 : Option Addr) (c1 : Nat) (l1 : List Int) (r1 : Int) (r2 : Int) (w0 w : World) (hI : IsS74 w0 w g s0_0 s0_1) (hB : Below w0.heap.size w0 w) (hr1 : Kd.C (Kd.int .i64) w A1 l1.length l1) (hc1 : l1.length ≤ c1) (hf1 : ∀ ad, A1 = some ad → 0 < l1.length → ad.block ≠ g) (h : spec_l20Rd_num.f k s0_0 s0_1 l1 = some (r1, r2)) :
    Calls Try.prog 89 #[.pointer (some ⟨g, 0, none⟩), .slice A1 l1.length c1] w fun e w' => e = .returned (.int .i64 r1) ∧ IsS74 w0 w' g s0_0 r2 ∧ Below w0.heap.size w0 w' ∧ KeepBut w w' g none := by
  have HR1 := Aside0.mk hr1
  have HC1 := Aside0.mk hc1
  clear hr1 hc1
  have HI0 := Aside0.mk hI
  have HK := Aside0.mk (KeepBut.refl w g none)
  have HL := Aside0.mk hB.size
  clear hI
  have HW0 := Aside0.mk hB.size
  have HB := Aside0.mk hB
  clear hB
  have H : ((spec_l20Rd_pick.f k s0_0 s0_1 (l1.length : Int)).bind fun bt114 => (if 0 ≤ bt114.1 then (if bt114.1 < (l1.length : Int) then (some (rd l1 bt114.1, bt114.2)) else (none)) else (none))) = some (r1, r2) := h
  clear h
  replace H := Option.bind_eq_some_iff.mp H
  obtain ⟨⟨t114, t115⟩, A30, H⟩ := H
  replace H : (if 0 ≤ t114 then (if t114 < (l1.length : Int) then (some (rd l1 t114, t115)) else (none)) else (none)) = some (r1, r2) := H
  have A3 := Aside0.mk A30
  clear A30
  by_cases c4 : 0 ≤ t114
  · rw [if_pos c4] at H
    have c4b0 : decide (0 ≤ t114) = true := decide_eq_true c4
    clear c4
    by_cases c5 : t114 < (l1.length : Int)
    · rw [if_pos c5] at H
      have c5b0 : decide (t114 < (l1.length : Int)) = true := decide_eq_true c5
      clear c5
      simp only [Option.some.injEq, Prod.mk.injEq] at H
      obtain ⟨rfl, rfl⟩ := H
      go_enter Try.func89, Try.ntmps89
      go_wp2_with (first | ((with_reducible refine gate_callee (f := 65) rfl ?_); refine goesL_ (some 9) rfl rfl Try.func65 (by kernel_rfl) rfl #[.pointer (some ⟨g, 0, none⟩), .int .i64 (l1.length : Int)] rfl (by (try simp only [List.map_toArray, List.map_cons, List.map_nil]); first | done | rfl | (simp only [List.length_drop, List.length_take]; rfl)) ?_; (with_reducible refine (spec_l20Rd_pick.calls k g s0_0 s0_1 (l1.length : Int) t114 t115 w0 _ ?side1 ?side2 A3.out).mono ?_); (case side1 => repeat (first | (with_reducible first | exact HI0.out | apply IsS74.alloc | apply IsS74.drewN | apply IsS74.drew | apply IsS74.set_1) | exact HI0.out)); (case side2 => repeat (first | (with_reducible first | exact HB.out | apply below_alloc | apply pw_below_drewN | apply below_drew1 | refine below_set ?_ (IsS74.ge HI0.out)) | exact HB.out)); rintro e w6 ⟨rfl, hi, hb, hk⟩; refine ⟨_, rfl, ?_⟩; have n0_ := Aside0.mk (KeepBut.trans (by repeat (first | (with_reducible first | exact HK.out | apply KeepBut.set_ | apply keep_drewN | apply keep_drew | apply keep_alloc) | exact HK.out)) hk (.inl rfl)); have n1_ := Aside0.mk (hb); have n2_ := Aside0.mk (hi); clear HK; clear HB; clear HI0; have HK := n0_; have HB := n1_; have HI0 := n2_; clear n0_ n1_ n2_; (try clear hb); (try clear hb2); (try clear hk); (try clear hi); have p116 : 0 ≤ (t114 : Int) := of_decide_eq_true (by first | (with_reducible assumption) | assumption); have q116 : t114 < (l1.length : Int) := of_decide_eq_true (by first | (with_reducible assumption) | assumption); obtain ⟨ad116, e116, hx116_0⟩ := Kd.at_int HR1.out t114 p116 q116; cases e116; replace hx116_0 := keep_cell HK.out hx116_0 (by first | (rw [add_block]; exact hf1 _ rfl (by omega)) | exact hf1 _ rfl (by omega) | exact hf1 ad116 rfl (by omega)); replace p116 := eq_true p116; replace q116 := eq_true q116))
      go_ret
      exact ⟨by first | rfl | (simp [errW_none, errW_some] <;> rfl) | (simp [*, errW_none, errW_some] <;> rfl), by repeat (first | (with_reducible first | exact HI0.out | apply IsS74.alloc | apply IsS74.drewN | apply IsS74.drew | apply IsS74.set_1) | exact HI0.out), by repeat (first | (with_reducible first | exact HB.out | apply below_alloc | apply pw_below_drewN | apply below_drew1 | refine below_set ?_ (IsS74.ge HI0.out)) | exact HB.out), by repeat (first | (with_reducible first | exact HK.out | apply KeepBut.set_ | apply keep_drewN | apply keep_drew | apply keep_alloc) | exact HK.out)⟩
    · rw [if_neg c5] at H
      exact absurd H (by simp)
  · rw [if_neg c4] at H
    exact absurd H (by simp)
end Go.Proofs.Ytekneicikmaplaa.PFnBookOf
namespace Go.Proofs.Ytekneicikmaplaa.PFnBookOf
open Go.RowKit Go.Proofs.YtekneicikmaplaaW.PrintWords Go.Proofs.YtekneicikmaplaaW.PrintLast Go.Proofs.YtekneicikmaplaaW.PrintMore
attribute [local go_sem] max2_int min2_int max_two min_two max_three min_three max_four min_four   -- for this text's walks alone
def spec_l2Cfg.f (k : Nat) (s0_0 : List Int) (s0_1 : Int) : Option (Int × Int × Int × Int) := (spec_l20Rd_pick.f k s0_0 s0_1 3).bind fun bt119 => ((spec_l20Rd_pick.f k s0_0 bt119.2 3).bind fun bt121 => ((spec_l20Rd_pick.f k s0_0 bt121.2 3).bind fun bt123 => (some (wrap64 (1 + bt119.1), wrap64 (1 + bt121.1), wrap64 (1 + bt123.1), bt123.2))))
set_option maxHeartbeats 8000000 in
set_option maxRecDepth 100000 in
theorem spec_l2Cfg.calls (k : Nat) (g : Nat) (s0_0 : List Int) (s0_1 : Int) (r1 : Int) (r2 : Int) (r3 : Int) (r4 : Int) (w0 w : World) (hI : IsS74 w0 w g s0_0 s0_1) (hB : Below w0.heap.size w0 w) (h : spec_l2Cfg.f k s0_0 s0_1 = some (r1, r2, r3, r4)) :
    Calls Try.prog 88 #[.pointer (some ⟨g, 0, none⟩)] w fun e w' => e = .returned (.agg #[.int .i64 r1, .int .i64 r2, .int .i64 r3]) ∧ IsS74 w0 w' g s0_0 r4 ∧ Below w0.heap.size w0 w' ∧ KeepBut w w' g none := by
  have hu29 := Try.underlying29
  have HI0 := Aside0.mk hI
  have HK := Aside0.mk (KeepBut.refl w g none)
  have HL := Aside0.mk hB.size
  clear hI
  have HW0 := Aside0.mk hB.size
  have HB := Aside0.mk hB
  clear hB
  have H : ((spec_l20Rd_pick.f k s0_0 s0_1 3).bind fun bt119 => ((spec_l20Rd_pick.f k s0_0 bt119.2 3).bind fun bt121 => ((spec_l20Rd_pick.f k s0_0 bt121.2 3).bind fun bt123 => (some (wrap64 (1 + bt119.1), wrap64 (1 + bt121.1), wrap64 (1 + bt123.1), bt123.2))))) = some (r1, r2, r3, r4) := h
  clear h
  replace H := Option.bind_eq_some_iff.mp H
  obtain ⟨⟨t119, t120⟩, A20, H⟩ := H
  replace H : ((spec_l20Rd_pick.f k s0_0 t120 3).bind fun bt121 => ((spec_l20Rd_pick.f k s0_0 bt121.2 3).bind fun bt123 => (some (wrap64 (1 + t119), wrap64 (1 + bt121.1), wrap64 (1 + bt123.1), bt123.2)))) = some (r1, r2, r3, r4) := H
  have A2 := Aside0.mk A20
  clear A20
  replace H := Option.bind_eq_some_iff.mp H
  obtain ⟨⟨t121, t122⟩, A30, H⟩ := H
  replace H : ((spec_l20Rd_pick.f k s0_0 t122 3).bind fun bt123 => (some (wrap64 (1 + t119), wrap64 (1 + t121), wrap64 (1 + bt123.1), bt123.2))) = some (r1, r2, r3, r4) := H
  have A3 := Aside0.mk A30
  clear A30
  replace H := Option.bind_eq_some_iff.mp H
  obtain ⟨⟨t123, t124⟩, A40, H⟩ := H
  replace H : (some (wrap64 (1 + t119), wrap64 (1 + t121), wrap64 (1 + t123), t124)) = some (r1, r2, r3, r4) := H
  have A4 := Aside0.mk A40
  clear A40
  simp only [Option.some.injEq, Prod.mk.injEq] at H
  obtain ⟨rfl, rfl, rfl, rfl⟩ := H
  go_enter Try.func88, Try.ntmps88
  go_wp2_with (first | ((with_reducible refine gate_dst (N := 2) rfl ?_); refine box_event ?hg (N := 2) ?hd (cs := #[.int .i64 0, .int .i64 0, .int .i64 0]) (t := 29) ?hr ?_; (case hd => rfl); (case hg => rfl); (case hr => first | (go_simp; done) | (go_simp; rfl)); intro gb118 hg w5 hbox hb; have n0_ := Aside0.mk (IsS74.below (by repeat (first | (with_reducible first | exact HI0.out | apply IsS74.alloc | apply IsS74.drewN | apply IsS74.drew | apply IsS74.set_1) | exact HI0.out)) hb); have n1_ := Aside0.mk (KeepBut.trans (by repeat (first | (with_reducible first | exact HK.out | apply KeepBut.set_ | apply keep_drewN | apply keep_drew | apply keep_alloc) | exact HK.out)) (KeepBut.of_below hb g none) (.inl rfl)); have n2_ := Aside0.mk (below_step (by repeat (first | (with_reducible first | exact HB.out | apply below_alloc | apply pw_below_drewN | apply below_drew1 | refine below_set ?_ (IsS74.ge HI0.out)) | exact HB.out)) hb); have n3_ := Aside0.mk (hbox); have n4_ := Aside0.mk ((by rw [hg]; exact (keep_size (w := w) (g := g) (row := none) (by repeat (first | (with_reducible first | exact HK.out | apply KeepBut.set_ | apply keep_drewN | apply keep_drew | apply keep_alloc) | exact HK.out))) : w.heap.size ≤ gb118)); have n5_ := Aside0.mk ((Nat.le_trans HW0.out (by rw [hg]; exact (keep_size (w := w) (g := g) (row := none) (by repeat (first | (with_reducible first | exact HK.out | apply KeepBut.set_ | apply keep_drewN | apply keep_drew | apply keep_alloc) | exact HK.out))) : w.heap.size ≤ gb118) : w0.heap.size ≤ gb118)); have n6_ := Aside0.mk ((by rw [hg]; exact Nat.ne_of_lt (IsS74.lt (show IsS74 w0 _ g s0_0 s0_1 from by repeat (first | (with_reducible first | exact HI0.out | apply IsS74.alloc | apply IsS74.drewN | apply IsS74.drew | apply IsS74.set_1) | exact HI0.out))) : g ≠ gb118)); have n7_ := Aside0.mk ((by rw [hg]; exact Nat.ne_of_gt (IsS74.lt (show IsS74 w0 _ g s0_0 s0_1 from by repeat (first | (with_reducible first | exact HI0.out | apply IsS74.alloc | apply IsS74.drewN | apply IsS74.drew | apply IsS74.set_1) | exact HI0.out))) : gb118 ≠ g)); clear HI0; clear HK; clear HB; have HI0 := n0_; have HK := n1_; have HB := n2_; have BK118 := n3_; have GW118 := n4_; have GE118 := n5_; have NB0_118 := n6_; have NB118_0 := n7_; clear n0_ n1_ n2_ n3_ n4_ n5_ n6_ n7_; clear hb hbox hg) | ((with_reducible refine gate_callee (f := 65) rfl ?_); refine goesL_ (some 4) rfl rfl Try.func65 (by kernel_rfl) rfl #[.pointer (some ⟨g, 0, none⟩), .int .i64 3] rfl (by (try simp only [List.map_toArray, List.map_cons, List.map_nil]); first | done | rfl | (simp only [List.length_drop, List.length_take]; rfl)) ?_; (with_reducible refine (spec_l20Rd_pick.calls k g s0_0 s0_1 3 t119 t120 w0 _ ?side1 ?side2 A2.out).mono ?_); (case side1 => repeat (first | (with_reducible first | exact HI0.out | apply IsS74.alloc | apply IsS74.drewN | apply IsS74.drew | apply IsS74.set_1 | refine IsS74.far ?_ NB0_118.out _) | exact HI0.out)); (case side2 => repeat (first | (with_reducible first | exact HB.out | apply below_alloc | apply pw_below_drewN | apply below_drew1 | refine below_set ?_ (IsS74.ge HI0.out) | refine below_set ?_ GE118.out) | exact HB.out)); rintro e w6 ⟨rfl, hi, hb, hk⟩; refine ⟨_, rfl, ?_⟩; have n0_ := Aside0.mk (KeepBut.blk hk (g' := gb118) (o := .cells #[.int .i64 0, .int .i64 0, .int .i64 0] 29 (0, 0)) (by (with_reducible repeat (first | refine blk_drewN ?_ _ | refine blk_drew ?_ | refine blk_alloc ?_ _)); exact BK118.out) NB118_0.out (by simp)); have n1_ := Aside0.mk (KeepBut.trans (by repeat (first | (with_reducible first | exact HK.out | apply KeepBut.set_ | apply keep_drewN | apply keep_drew | apply keep_alloc | refine keep_far ?_ GW118.out _) | exact HK.out)) hk (.inl rfl)); have n2_ := Aside0.mk (hb); have n3_ := Aside0.mk (hi); clear BK118; clear HK; clear HB; clear HI0; have BK118 := n0_; have HK := n1_; have HB := n2_; have HI0 := n3_; clear n0_ n1_ n2_ n3_; (try clear hb); (try clear hb2); (try clear hk); (try clear hi)) | ((with_reducible refine gate_callee (f := 65) rfl ?_); refine goesL_ (some 7) rfl rfl Try.func65 (by kernel_rfl) rfl #[.pointer (some ⟨g, 0, none⟩), .int .i64 3] rfl (by (try simp only [List.map_toArray, List.map_cons, List.map_nil]); first | done | rfl | (simp only [List.length_drop, List.length_take]; rfl)) ?_; (with_reducible refine (spec_l20Rd_pick.calls k g s0_0 t120 3 t121 t122 w0 _ ?side1 ?side2 A3.out).mono ?_); (case side1 => repeat (first | (with_reducible first | exact HI0.out | apply IsS74.alloc | apply IsS74.drewN | apply IsS74.drew | apply IsS74.set_1 | refine IsS74.far ?_ NB0_118.out _) | exact HI0.out)); (case side2 => repeat (first | (with_reducible first | exact HB.out | apply below_alloc | apply pw_below_drewN | apply below_drew1 | refine below_set ?_ (IsS74.ge HI0.out) | refine below_set ?_ GE118.out) | exact HB.out)); rintro e w7 ⟨rfl, hi, hb, hk⟩; refine ⟨_, rfl, ?_⟩; have n0_ := Aside0.mk (KeepBut.blk hk (g' := gb118) (o := .cells #[.int .i64 0, .int .i64 0, .int .i64 0] 29 (0, 0)) (by (with_reducible repeat (first | refine blk_drewN ?_ _ | refine blk_drew ?_ | refine blk_alloc ?_ _)); exact BK118.out) NB118_0.out (by simp)); have n1_ := Aside0.mk (KeepBut.trans (by repeat (first | (with_reducible first | exact HK.out | apply KeepBut.set_ | apply keep_drewN | apply keep_drew | apply keep_alloc | refine keep_far ?_ GW118.out _) | exact HK.out)) hk (.inl rfl)); have n2_ := Aside0.mk (hb); have n3_ := Aside0.mk (hi); clear BK118; clear HK; clear HB; clear HI0; have BK118 := n0_; have HK := n1_; have HB := n2_; have HI0 := n3_; clear n0_ n1_ n2_ n3_; (try clear hb); (try clear hb2); (try clear hk); (try clear hi)) | ((with_reducible refine gate_callee (f := 65) rfl ?_); refine goesL_ (some 10) rfl rfl Try.func65 (by kernel_rfl) rfl #[.pointer (some ⟨g, 0, none⟩), .int .i64 3] rfl (by (try simp only [List.map_toArray, List.map_cons, List.map_nil]); first | done | rfl | (simp only [List.length_drop, List.length_take]; rfl)) ?_; (with_reducible refine (spec_l20Rd_pick.calls k g s0_0 t122 3 t123 t124 w0 _ ?side1 ?side2 A4.out).mono ?_); (case side1 => repeat (first | (with_reducible first | exact HI0.out | apply IsS74.alloc | apply IsS74.drewN | apply IsS74.drew | apply IsS74.set_1 | refine IsS74.far ?_ NB0_118.out _) | exact HI0.out)); (case side2 => repeat (first | (with_reducible first | exact HB.out | apply below_alloc | apply pw_below_drewN | apply below_drew1 | refine below_set ?_ (IsS74.ge HI0.out) | refine below_set ?_ GE118.out) | exact HB.out)); rintro e w8 ⟨rfl, hi, hb, hk⟩; refine ⟨_, rfl, ?_⟩; have n0_ := Aside0.mk (KeepBut.blk hk (g' := gb118) (o := .cells #[.int .i64 0, .int .i64 0, .int .i64 0] 29 (0, 0)) (by (with_reducible repeat (first | refine blk_drewN ?_ _ | refine blk_drew ?_ | refine blk_alloc ?_ _)); exact BK118.out) NB118_0.out (by simp)); have n1_ := Aside0.mk (KeepBut.trans (by repeat (first | (with_reducible first | exact HK.out | apply KeepBut.set_ | apply keep_drewN | apply keep_drew | apply keep_alloc | refine keep_far ?_ GW118.out _) | exact HK.out)) hk (.inl rfl)); have n2_ := Aside0.mk (hb); have n3_ := Aside0.mk (hi); clear BK118; clear HK; clear HB; clear HI0; have BK118 := n0_; have HK := n1_; have HB := n2_; have HI0 := n3_; clear n0_ n1_ n2_ n3_; (try clear hb); (try clear hb2); (try clear hk); (try clear hi); have hnb9 := NB118_0.out; have hnc9 := NB0_118.out; have hcz10_0 : w8.cell? ⟨gb118, 0, none⟩ = some (.int .i64 0) := (blk_cell BK118.out 0).trans rfl; have hcz10_1 : w8.cell? ⟨gb118, 1, none⟩ = some (.int .i64 0) := (blk_cell BK118.out 1).trans rfl; have hcz10_2 : w8.cell? ⟨gb118, 2, none⟩ = some (.int .i64 0) := (blk_cell BK118.out 2).trans rfl; have hfz10_0 := blk_frozen BK118.out 0; have hfz10_1 := blk_frozen BK118.out 1; have hfz10_2 := blk_frozen BK118.out 2))
  refine bodyPost_ret (results_cell_row rfl _ _ gb118 29 #[.int .i64 (wrap64 (1 + t119)), .int .i64 (wrap64 (1 + t121)), .int .i64 (wrap64 (1 + t123))] (0, 0) _ rfl (by (with_reducible repeat (first | refine blk_drewN ?_ _ | refine blk_drew ?_ | refine blk_alloc ?_ _)); refine blk_put (cs := #[.int .i64 (wrap64 (1 + t119)), .int .i64 (wrap64 (1 + t121)), .int .i64 0]) ?_ 2 _ rfl; (with_reducible repeat (first | refine blk_drewN ?_ _ | refine blk_drew ?_ | refine blk_alloc ?_ _)); refine blk_put (cs := #[.int .i64 (wrap64 (1 + t119)), .int .i64 0, .int .i64 0]) ?_ 1 _ rfl; (with_reducible repeat (first | refine blk_drewN ?_ _ | refine blk_drew ?_ | refine blk_alloc ?_ _)); refine blk_put (cs := #[.int .i64 0, .int .i64 0, .int .i64 0]) ?_ 0 _ rfl; (with_reducible repeat (first | refine blk_drewN ?_ _ | refine blk_drew ?_ | refine blk_alloc ?_ _)); exact BK118.out) Try.underlying29 rfl (by kernel_rfl)) rfl ?_
  exact ⟨by first | rfl | (simp [errW_none, errW_some] <;> rfl) | (simp [*, errW_none, errW_some] <;> rfl), by repeat (first | (with_reducible first | exact HI0.out | apply IsS74.alloc | apply IsS74.drewN | apply IsS74.drew | apply IsS74.set_1 | refine IsS74.far ?_ NB0_118.out _) | exact HI0.out), by repeat (first | (with_reducible first | exact HB.out | apply below_alloc | apply pw_below_drewN | apply below_drew1 | refine below_set ?_ (IsS74.ge HI0.out) | refine below_set ?_ GE118.out) | exact HB.out), by repeat (first | (with_reducible first | exact HK.out | apply KeepBut.set_ | apply keep_drewN | apply keep_drew | apply keep_alloc | refine keep_far ?_ GW118.out _) | exact HK.out)⟩
end Go.Proofs.Ytekneicikmaplaa.PFnBookOf
namespace Go.Proofs.Ytekneicikmaplaa.Pl
open Go.RowKit Go.Proofs.YtekneicikmaplaaW.PrintWords Go.Proofs.YtekneicikmaplaaW.PrintMore
theorem w64 {n : Int} (h0 : -9223372036854775808 ≤ n) (h1 : n ≤ 9223372036854775807) : wrap64 n = n := by
  unfold wrap64; omega
/-- A number brought into 0 to m. -/
def cl (n m : Int) : Int := if n < 0 then 0 else if n > m then m else n
theorem bits_xor_i64 {x y : Int} (x0 : 0 ≤ x) (x1 : x < 4611686018427387904) (y0 : 0 ≤ y) (y1 : y < 4611686018427387904) : 0 ≤ Go.bits .xor .i64 x y ∧ Go.bits .xor .i64 x y < 4611686018427387904 := by
  obtain ⟨a, rfl⟩ := Int.eq_ofNat_of_zero_le x0
  obtain ⟨b, rfl⟩ := Int.eq_ofNat_of_zero_le y0
  have ha : a < 2 ^ 62 := by omega
  have hb : b < 2 ^ 62 := by omega
  have hx : a ^^^ b < 2 ^ 62 := Nat.xor_lt_two_pow ha hb
  have e : Go.bits .xor .i64 (a : Int) (b : Int) = ((a ^^^ b : Nat) : Int) := by
    have ha' : a % 2 ^ IntKind.i64.bits = a := Nat.mod_eq_of_lt (by show a < 2 ^ 64; omega)
    have hb' : b % 2 ^ IntKind.i64.bits = b := Nat.mod_eq_of_lt (by show b < 2 ^ 64; omega)
    simp only [Go.bits, BitVec.ofInt_natCast, BitVec.toNat_xor, BitVec.toNat_ofNat, ha', hb']
    rw [IntKind.wrap_i64]; omega
  rw [e]; omega
theorem rd_nat (x : List Int) (i : Nat) (h : i < x.length) : rd x i = x[i] := by
  unfold rd; rw [Int.toNat_natCast, List.getD_eq_getElem?_getD, List.getElem?_eq_getElem h]; rfl
theorem rd_get (x : List Int) {i : Int} (h0 : 0 ≤ i) (h : i.toNat < x.length) : rd x i = x[i.toNat] := by
  unfold rd; rw [List.getD_eq_getElem?_getD, List.getElem?_eq_getElem h]; rfl
theorem rd_mem (x : List Int) {i : Int} (h0 : 0 ≤ i) (h : i < x.length) : rd x i ∈ x := by
  rw [rd_get x h0 (by omega)]; exact List.getElem_mem _
end Go.Proofs.Ytekneicikmaplaa.Pl
namespace Go.Proofs.Ytekneicikmaplaa.Row
open Go Go.RowKit Go.Proofs.YtekneicikmaplaaW.PrintWords Go.Proofs.YtekneicikmaplaaW.PrintMore
theorem store_row_run {P : Program} {o : Oper} {a : Act} {W : World} {ty : TypeId} {x y : Operand} (ho : o.op = .store ty x y) {g : Nat} {cells : Array Value} (hx : a.eval x = .pointer (some ⟨g, 0, none⟩)) (hy : a.eval y = .agg cells)
    {t : TypeId} {old : Array Value} (hg : W.heap[g]? = some (.cells old t (0, 0))) (hi : (P.info? ty).map (·.size) = some cells.size) (hold : old.size = cells.size) (h1 : cells.all (·.oneCell') = true) :
    (execOp a.eval o).run P W = .ok .skip (W.setRow g cells) := by
  unfold execOp
  simp only [ho, hx, hy, Instr.storeAt, Instr.sureAddr, Sem.run_bind, Sem.run_pure, Result.andThen_ok, run_storeVar_row W g t ty old cells hg hi hold h1]
theorem load_row_run {P : Program} {o : Oper} {a : Act} {W : World} {ty : TypeId} {x : Operand} (ho : o.op = .load ty x) {g : Nat} {cells : Array Value} (hx : a.eval x = .pointer (some ⟨g, 0, none⟩))
    {t : TypeId} (hg : W.heap[g]? = some (.cells cells t (0, 0))) {d : TypeDesc} (hu : P.underlying ty = some d) (hd : (match d with | .struct _ | .array _ _ => true | _ => false) = true) (hi : (P.info? ty).map (·.size) = some cells.size) :
    (execOp a.eval o).run P W = .ok (.value (.agg cells)) W := by
  unfold execOp
  simp only [ho, hx, Instr.loadAt, Instr.sureAddr, Sem.run_bind, Sem.run_pure, Result.andThen_ok, run_loadVar_row W g t ty cells (0, 0) d hg hu hd hi]
theorem row_R {α : Type} {d : Kd α} {e base : Nat} {ok : Nat → Prop} {v : Value} {xs : List α} {W w1 : World} {g t : Nat} {old cs : Array Value} (hw : w1 = W.setRow g cs) (h : d.R e W base ok v xs) (hb : W.heap[g]? = some (.cells old t (0, 0))) (ht : ∀ q, q ∈ e :: d.E → q ≠ t) : d.R e w1 base ok v xs := by
  rw [hw]; exact Kd.R_mono (Kd.R_keep (Kd.R_types h hb ht) ⟨by simp, fun i _ h _ => setRow_other W g i cs h⟩ (fun _ hk => hk.2)) (fun _ h => h.1)
theorem keep_row (W : World) (g : Nat) (cs : Array Value) : KeepBut W (W.setRow g cs) g none := ⟨by simp, fun i _ h _ => setRow_other W g i cs h⟩
theorem row_here {W w1 : World} {g : Nat} {old cs : Array Value} {t : TypeId} (hw : w1 = W.setRow g cs) (h : W.heap[g]? = some (.cells old t (0, 0))) : w1.heap[g]? = some (.cells cs t (0, 0)) := by rw [hw]; exact setRow_heap W g old cs t (0, 0) h
theorem row_there {W w1 : World} {g k : Nat} {cs : Array Value} {x : Option Obj} (hw : w1 = W.setRow g cs) (h : W.heap[k]? = x) (hn : k ≠ g) : w1.heap[k]? = x := by rw [hw]; exact (setRow_other W g k cs hn).trans h
theorem row_below {W w0 w1 : World} {B g : Nat} {cs : Array Value} (hw : w1 = W.setRow g cs) (h : Below B w0 W) (hg : B ≤ g) : Below B w0 w1 := by rw [hw]; exact below_setRow h hg cs
end Go.Proofs.Ytekneicikmaplaa.Row
namespace Go.Proofs.Ytekneicikmaplaa.Bk
open Go.RowKit Go.Proofs.YtekneicikmaplaaW.PrintWords Go.Proofs.YtekneicikmaplaaW.PrintLast Go.Proofs.YtekneicikmaplaaW.PrintMore
theorem info3 : (Try.prog.info? 3).map (fun i => (i.zero, i.size, i.bytes)) = some (some (.int .i64 0), 1, 8) := by kernel_rfl
/-- A slice of ints that can be read in w. -/
def SlC (w : World) (A : Option Addr) (c : Nat) (l : List Int) : Prop := Kd.C (Kd.int .i64) w A l.length l ∧ l.length ≤ c
theorem SlC.below {w w1 : World} {A : Option Addr} {c : Nat} {l : List Int} (h : SlC w A c l) (hb : Below w.heap.size w w1) : SlC w1 A c l := ⟨Kd.C_below h.1 hb, h.2⟩
theorem SlC.drewN {w : World} {A : Option Addr} {c : Nat} {l : List Int} (h : SlC w A c l) (n : Nat) : SlC (w.drewN n) A c l := h
abbrev sl (A : Nat → Option Addr) (c : Nat → Nat) (L : Nat → List Int) (i : Nat) : Value := .slice (A i) (L i).length (c i)
/-- A book's cells. -/
abbrev bkCells (s : Int) (A : Nat → Option Addr) (c : Nat → Nat) (L : Nat → List Int) : Array Value :=
  #[.int .i64 s, .slice (A 0) (L 0).length (c 0), .slice (A 1) (L 1).length (c 1), .slice (A 2) (L 2).length (c 2), .slice (A 3) (L 3).length (c 3), .slice (A 4) (L 4).length (c 4), .slice (A 5) (L 5).length (c 5), .slice (A 6) (L 6).length (c 6), .slice (A 7) (L 7).length (c 7)]
/-- All rows of a book can be read. -/
def BkC (w : World) (A : Nat → Option Addr) (c : Nat → Nat) (L : Nat → List Int) : Prop := ∀ i, i < 8 → SlC w (A i) (c i) (L i)
theorem BkC.below {w w1 : World} {A : Nat → Option Addr} {c : Nat → Nat} {L : Nat → List Int} (h : BkC w A c L) (hb : Below w.heap.size w w1) : BkC w1 A c L := fun i hi => (h i hi).below hb
end Go.Proofs.Ytekneicikmaplaa.Bk
namespace Go.Proofs.Ytekneicikmaplaa.Bk
open Go.RowKit Go.Proofs.YtekneicikmaplaaW.PrintWords Go.Proofs.YtekneicikmaplaaW.PrintLast Go.Proofs.YtekneicikmaplaaW.PrintMore
theorem rd_nat (l : List Int) (k : Nat) : rd l (k : Int) = l.getD k 0 := by simp [rd]
theorem at_nat {w : World} {A : Option Addr} {c : Nat} {l : List Int} (h : SlC w A c l) (k : Nat) (hk : k < l.length) : ∃ ad, A = some ad ∧ w.cell? (ad.add k) = some (.int .i64 (l.getD k 0)) := by
  obtain ⟨ad, h1, h2⟩ := Kd.at_int h.1 (k : Int) (by omega) (by omega)
  exact ⟨ad, h1, by rw [Int.toNat_natCast, rd_nat] at h2; exact h2⟩
theorem SlC.drawn {w w1 : World} {A : Option Addr} {c : Nat} {l : List Int} (h : SlC w A c l) (hb : Drawn0 w w1) : SlC w1 A c l := by obtain ⟨n, rfl⟩ := hb.out; exact h
def ArC (w : World) (A : Nat → Option Addr) (c : Nat → Nat) (L : Nat → List Int) : Prop := ∀ i, i < 4 → SlC w (A i) (c i) (L i)
theorem ArC.below {w w1 : World} {A : Nat → Option Addr} {c : Nat → Nat} {L : Nat → List Int} (h : ArC w A c L) (hb : Below w.heap.size w w1) : ArC w1 A c L := fun i hi => (h i hi).below hb
theorem BkC.ar {w : World} {A : Nat → Option Addr} {c : Nat → Nat} {L : Nat → List Int} (h : BkC w A c L) : ArC w (fun i => A (i + 1)) (fun i => c (i + 1)) (fun i => L (i + 1)) := fun i hi => h (i + 1) (by omega)
end Go.Proofs.Ytekneicikmaplaa.Bk
namespace Go.Proofs.Ytekneicikmaplaa.Bk
open Go.RowKit Go.Proofs.YtekneicikmaplaaW.PrintWords Go.Proofs.YtekneicikmaplaaW.PrintLast Go.Proofs.YtekneicikmaplaaW.PrintMore
/-- A row of the call's own, its block from lo on and below hi. -/
def SlO (w : World) (lo hi : Nat) (A : Option Addr) (c : Nat) (l : List Int) : Prop := Kd.R (Kd.int .i64) 3 w lo (fun k => lo ≤ k ∧ k < hi) (.slice A l.length c) l
theorem SlO.move {w w1 : World} {lo hi : Nat} {A : Option Addr} {c : Nat} {l : List Int} (h : SlO w lo hi A c l) (hm : ∀ k, lo ≤ k → k < hi → k < w.heap.size → w1.heap[k]? = w.heap[k]?) : SlO w1 lo hi A c l := Kd.R_step h (fun k hk hs => hm k hk.1 hk.2 hs)
theorem SlO.below {w w1 : World} {lo hi : Nat} {A : Option Addr} {c : Nat} {l : List Int} (h : SlO w lo hi A c l) (hb : Below w.heap.size w w1) : SlO w1 lo hi A c l := Kd.R_below h hb
theorem SlO.wide {w : World} {lo hi lo' hi' : Nat} {A : Option Addr} {c : Nat} {l : List Int} (h : SlO w lo hi A c l) (h0 : lo' ≤ lo) (h1 : hi ≤ hi') : SlO w lo' hi' A c l := Kd.R_lower (Kd.R_mono h (fun k hk => ⟨by omega, by omega⟩)) h0
theorem SlO.c {w : World} {lo hi : Nat} {A : Option Addr} {c : Nat} {l : List Int} (h : SlO w lo hi A c l) : SlC w A c l := by
  obtain ⟨A', c', he, hl, hc⟩ := Kd.R_reads h
  injection he with ha hn hcc
  subst ha
  subst hcc
  exact ⟨hc, hl⟩
theorem SlO.of {w w' : World} {v : Value} {l : List Int} (h : Kd.R (Kd.int .i64) 3 w' w.heap.size (fun _ => True) v l) : ∃ A c, v = .slice A l.length c ∧ SlO w' w.heap.size w'.heap.size A c l := by
  obtain ⟨A, c, rfl⟩ := Kd.R_slice h
  exact ⟨A, c, rfl, Kd.R_mono (Kd.R_bound h) (fun k hk => ⟨hk.2.1, hk.2.2.1⟩)⟩
theorem getD_set_ne (x : List Int) (k j : Nat) (v : Int) (h : j ≠ k) : (x.set k v).getD j 0 = x.getD j 0 := by simp [List.getD, List.getElem?_set, Ne.symm h]
abbrev four (V : Nat → Value) : Array Value := #[V 0, V 1, V 2, V 3]
/-- The first n values are rows of the call's own, their blocks from lo on and below hi, none another's. -/
def VO (w : World) (lo hi : Nat) (L : Nat → List Int) (n : Nat) (V : Nat → Value) : Prop :=
  (∀ i, i < n → ∃ A c, V i = .slice A (L i).length c ∧ SlO w lo hi A c (L i)) ∧ ∀ i j, i < n → j < n → i ≠ j → NeRow (V i) (V j)
theorem SlO.lt {w : World} {lo hi : Nat} {A : Option Addr} {c : Nat} {l : List Int} (h : SlO w lo hi A c l) (k : Nat) (hk : (Value.slice A l.length c).ownBlock = some k) : lo ≤ k ∧ k < hi := h.1 k hk
theorem SlO.ne {w w1 : World} {lo hi lo' hi' : Nat} {A A' : Option Addr} {c c' : Nat} {l l' : List Int} (h : SlO w lo hi A c l) (h' : SlO w1 lo' hi' A' c' l') (hd : hi ≤ lo' ∨ hi' ≤ lo) : NeRow (.slice A l.length c) (.slice A' l'.length c') := fun k hk hk' => by
  have := h.lt k hk
  have := h'.lt k hk'
  omega
theorem VO.map {w w1 : World} {lo hi lo' hi' : Nat} {L : Nat → List Int} {n : Nat} {V : Nat → Value} (h : VO w lo hi L n V) (f : ∀ {A c l}, SlO w lo hi A c l → SlO w1 lo' hi' A c l) : VO w1 lo' hi' L n V :=
  ⟨fun i hi => by obtain ⟨A, c, e, ho⟩ := h.1 i hi; exact ⟨A, c, e, f ho⟩, h.2⟩
theorem VO.below {w w1 : World} {lo hi : Nat} {L : Nat → List Int} {n : Nat} {V : Nat → Value} (h : VO w lo hi L n V) (hb : Below w.heap.size w w1) : VO w1 lo hi L n V := h.map fun ho => ho.below hb
theorem VO.move {w w1 : World} {lo hi : Nat} {L : Nat → List Int} {n : Nat} {V : Nat → Value} (h : VO w lo hi L n V) (hm : ∀ k, lo ≤ k → k < hi → k < w.heap.size → w1.heap[k]? = w.heap[k]?) : VO w1 lo hi L n V := h.map fun ho => ho.move hm
theorem VO.wide {w : World} {lo hi lo' hi' : Nat} {L : Nat → List Int} {n : Nat} {V : Nat → Value} (h : VO w lo hi L n V) (h0 : lo' ≤ lo) (h1 : hi ≤ hi') : VO w lo' hi' L n V := h.map fun ho => ho.wide h0 h1
theorem SlO.set {w : World} {lo hi : Nat} {A : Option Addr} {c : Nat} {l : List Int} (h : SlO w lo hi A c l) {g t : Nat} {cells : Array Value} (hb : w.heap[g]? = some (.cells cells t (0, 0))) (ht : 3 ≠ t) (j : Nat) (u : Value) : SlO (w.setCell ⟨g, j, none⟩ u) lo hi A c l :=
  Kd.R_set h hb (fun q hq => by simp [Kd.int, Kd.scalar] at hq; subst hq; exact ht) j u
theorem size_set (w : World) (g j : Nat) (u : Value) : (w.setCell ⟨g, j, none⟩ u).heap.size = w.heap.size := by simp
theorem VO.set {w : World} {lo hi : Nat} {L : Nat → List Int} {n : Nat} {V : Nat → Value} (h : VO w lo hi L n V) {g t : Nat} {cells : Array Value} (hb : w.heap[g]? = some (.cells cells t (0, 0))) (ht : 3 ≠ t) (j : Nat) (u : Value) : VO (w.setCell ⟨g, j, none⟩ u) lo hi L n V := h.map fun ho => ho.set hb ht j u
theorem VO.snoc {w w1 : World} {lo : Nat} {L : Nat → List Int} {n : Nat} {V : Nat → Value} (h : VO w lo w.heap.size L n V) (hb : Below w.heap.size w w1) {A : Option Addr} {c : Nat} (ho : SlO w1 w.heap.size w1.heap.size A c (L n)) (hlo : lo ≤ w.heap.size) : VO w1 lo w1.heap.size L (n + 1) (fun i => if i = n then .slice A (L n).length c else V i) := by
  refine ⟨fun i hi => ?_, fun i j hi hj hne => ?_⟩
  · by_cases e : i = n
    · subst e; exact ⟨A, c, by simp, ho.wide hlo (Nat.le_refl _)⟩
    · obtain ⟨A', c', e', ho'⟩ := h.1 i (by omega); exact ⟨A', c', by simp [e, e'], (ho'.below hb).wide (Nat.le_refl _) hb.size⟩
  · by_cases e : i = n
    · subst e
      obtain ⟨A', c', e', ho'⟩ := h.1 j (by omega)
      have : j ≠ i := fun h => hne h.symm
      simp only [if_true, if_neg this, e']
      exact ho.ne ho' (Or.inr (Nat.le_refl _))
    · by_cases e2 : j = n
      · subst e2
        obtain ⟨A', c', e', ho'⟩ := h.1 i (by omega)
        simp only [if_true, if_neg e, e']
        exact ho'.ne ho (Or.inl (Nat.le_refl _))
      · simp only [if_neg e, if_neg e2]; exact h.2 i j (by omega) (by omega) hne
theorem VO.app {w w1 : World} {lo : Nat} {L : Nat → List Int} {n m : Nat} {V V' : Nat → Value} (h : VO w lo w.heap.size L n V) (hb : Below w.heap.size w w1) (h' : VO w1 w.heap.size w1.heap.size (fun i => L (i + n)) m V') (hlo : lo ≤ w.heap.size) : VO w1 lo w1.heap.size L (n + m) (fun i => if i < n then V i else V' (i - n)) := by
  have key : ∀ i, i < n + m → ¬ i < n → ∃ A c, V' (i - n) = .slice A (L i).length c ∧ SlO w1 w.heap.size w1.heap.size A c (L i) := fun i hi hn => by
    obtain ⟨A, c, e, ho⟩ := h'.1 (i - n) (by omega)
    have hin : i - n + n = i := by omega
    simp only [hin] at e ho
    exact ⟨A, c, e, ho⟩
  refine ⟨fun i hi => ?_, fun i j hi hj hne => ?_⟩
  · by_cases e : i < n
    · obtain ⟨A', c', e', ho'⟩ := h.1 i e; exact ⟨A', c', by simp [e, e'], (ho'.below hb).wide (Nat.le_refl _) hb.size⟩
    · obtain ⟨A, c, e', ho⟩ := key i hi e; exact ⟨A, c, by simp [e, e'], ho.wide hlo (Nat.le_refl _)⟩
  · by_cases e : i < n <;> by_cases e2 : j < n
    · simp only [if_pos e, if_pos e2]; exact h.2 i j e e2 hne
    · obtain ⟨A, c, q, ho⟩ := h.1 i e
      obtain ⟨A', c', q', ho'⟩ := key j hj e2
      simp only [if_pos e, if_neg e2, q, q']
      exact ho.ne ho' (Or.inl (Nat.le_refl _))
    · obtain ⟨A, c, q, ho⟩ := h.1 j e2
      obtain ⟨A', c', q', ho'⟩ := key i hi e
      simp only [if_neg e, if_pos e2, q, q']
      exact ho'.ne ho (Or.inr (Nat.le_refl _))
    · simp only [if_neg e, if_neg e2]; exact h'.2 (i - n) (j - n) (by omega) (by omega) (by omega)
theorem VO.none (w : World) (lo hi : Nat) (L : Nat → List Int) (V : Nat → Value) : VO w lo hi L 0 V := ⟨fun i hi => by omega, fun i j hi => by omega⟩
theorem VO.one {w : World} {lo hi : Nat} {L : Nat → List Int} {V : Nat → Value} (h : VO w lo hi L 4 V) : (four V).all (·.oneCell') = true := by
  obtain ⟨A0, c0, e0, _⟩ := h.1 0 (by omega)
  obtain ⟨A1, c1, e1, _⟩ := h.1 1 (by omega)
  obtain ⟨A2, c2, e2, _⟩ := h.1 2 (by omega)
  obtain ⟨A3, c3, e3, _⟩ := h.1 3 (by omega)
  simp [four, e0, e1, e2, e3, Value.oneCell']
theorem SlO.row {w : World} {lo hi : Nat} {A : Option Addr} {c : Nat} {l : List Int} (h : SlO w lo hi A c l) {g t : Nat} {cells : Array Value} (hb : w.heap[g]? = some (.cells cells t (0, 0))) (ht : 3 ≠ t) (cs : Array Value) : SlO (w.setRow g cs) lo hi A c l :=
  Row.row_R rfl h hb (fun q hq => by simp [Kd.int, Kd.scalar] at hq; subst hq; exact ht)
theorem size_row (w : World) (g : Nat) (cs : Array Value) : (w.setRow g cs).heap.size = w.heap.size := by simp
theorem VO.row {w : World} {lo hi : Nat} {L : Nat → List Int} {n : Nat} {V : Nat → Value} (h : VO w lo hi L n V) {g t : Nat} {cells : Array Value} (hb : w.heap[g]? = some (.cells cells t (0, 0))) (ht : 3 ≠ t) (cs : Array Value) : VO (w.setRow g cs) lo hi L n V := h.map fun ho => ho.row hb ht cs
def aOf : Value → Option Addr
  | .slice A _ _ => A
  | _ => none
def cOf : Value → Nat
  | .slice _ _ c => c
  | _ => 0
theorem VO.at_ {w : World} {lo hi : Nat} {L : Nat → List Int} {n : Nat} {V : Nat → Value} (h : VO w lo hi L n V) (i : Nat) (hi' : i < n) : V i = .slice (aOf (V i)) (L i).length (cOf (V i)) := by
  obtain ⟨A, c, e, _⟩ := h.1 i hi'
  rw [e]; rfl
/-- The rows, by their addresses and capacities. -/
abbrev slV (A : Nat → Option Addr) (c : Nat → Nat) (L : Nat → List Int) : Nat → Value := fun i => .slice (A i) (L i).length (c i)
theorem VO.sl {w : World} {lo hi : Nat} {L : Nat → List Int} {n : Nat} {V : Nat → Value} (h : VO w lo hi L n V) : VO w lo hi L n (slV (fun i => aOf (V i)) (fun i => cOf (V i)) L) :=
  ⟨fun i hi => by obtain ⟨A, c, e, ho⟩ := h.1 i hi; exact ⟨A, c, by simp [slV, e, aOf, cOf], ho⟩, fun i j hi hj hne => by have := h.2 i j hi hj hne; rw [h.at_ i hi, h.at_ j hj] at this; exact this⟩
theorem VO.c {w : World} {lo hi : Nat} {L : Nat → List Int} {n : Nat} {A : Nat → Option Addr} {c : Nat → Nat} (h : VO w lo hi L n (slV A c L)) (i : Nat) (hi' : i < n) : SlC w (A i) (c i) (L i) := by
  obtain ⟨A', c', e, ho⟩ := h.1 i hi'
  simp only [slV, Value.slice.injEq, true_and] at e
  obtain ⟨rfl, rfl⟩ := e
  exact ho.c
end Go.Proofs.Ytekneicikmaplaa.Bk
namespace Go.Proofs.Ytekneicikmaplaa.Bk
open Go.RowKit Go.Proofs.YtekneicikmaplaaW.PrintWords Go.Proofs.YtekneicikmaplaaW.PrintLast Go.Proofs.YtekneicikmaplaaW.PrintMore
/-- A book's rows are the call's own. -/
def BkO (w : World) (lo hi : Nat) (A : Nat → Option Addr) (c : Nat → Nat) (L : Nat → List Int) : Prop := VO w lo hi L 8 (slV A c L)
theorem BkO.c {w : World} {lo hi : Nat} {A : Nat → Option Addr} {c : Nat → Nat} {L : Nat → List Int} (h : BkO w lo hi A c L) : BkC w A c L := fun i hi => VO.c h i hi
theorem BkO.below {w w1 : World} {lo hi : Nat} {A : Nat → Option Addr} {c : Nat → Nat} {L : Nat → List Int} (h : BkO w lo hi A c L) (hb : Below w.heap.size w w1) : BkO w1 lo hi A c L := VO.below h hb
end Go.Proofs.Ytekneicikmaplaa.Bk
namespace Go.Proofs.Ytekneicikmaplaa.Bk
open Go.RowKit Go.Proofs.YtekneicikmaplaaW.PrintWords Go.Proofs.YtekneicikmaplaaW.PrintLast Go.Proofs.YtekneicikmaplaaW.PrintMore
/-- But for the blocks from lo on and below hi everything in memory is as it was. -/
structure Keep (lo hi : Nat) (w w' : World) : Prop where
  os : w'.os = w.os
  tape : w'.tape = w.tape
  output : w'.output = w.output
  size : w.heap.size ≤ w'.heap.size
  block : ∀ k, k < w.heap.size → ¬ (lo ≤ k ∧ k < hi) → w'.heap[k]? = w.heap[k]?
theorem Keep.refl (lo hi : Nat) (w : World) : Keep lo hi w w := ⟨rfl, rfl, rfl, Nat.le_refl _, fun _ _ _ => rfl⟩
theorem Keep.of_below {lo hi : Nat} {w w' : World} (h : Below w.heap.size w w') : Keep lo hi w w' := ⟨h.os, h.tape, h.output, h.size, fun k hk _ => h.block k hk⟩
theorem Keep.trans {lo hi : Nat} {w w1 w2 : World} (h : Keep lo hi w w1) (k : Keep lo hi w1 w2) : Keep lo hi w w2 := ⟨k.os.trans h.os, k.tape.trans h.tape, k.output.trans h.output, Nat.le_trans h.size k.size, fun i hi' hn => (k.block i (Nat.lt_of_lt_of_le hi' h.size) hn).trans (h.block i hi' hn)⟩
theorem Keep.below {lo hi : Nat} {w0 w w' : World} (hb : Below w0.heap.size w0 w) (h : Keep lo hi w w') (hlo : w0.heap.size ≤ lo) : Below w0.heap.size w0 w' := ⟨h.os.trans hb.os, h.tape.trans hb.tape, h.output.trans hb.output, Nat.le_trans hb.size h.size, fun k hk => (h.block k (Nat.lt_of_lt_of_le hk hb.size) (by omega)).trans (hb.block k hk)⟩
theorem Keep.wide {lo hi lo' hi' : Nat} {w w' : World} (h : Keep lo hi w w') (h0 : lo' ≤ lo) (h1 : hi ≤ hi') : Keep lo' hi' w w' := ⟨h.os, h.tape, h.output, h.size, fun k hk hn => h.block k hk (by omega)⟩
theorem Keep.set {lo hi g : Nat} {w w1 : World} (h : Keep lo hi w w1) (h0 : lo ≤ g) (h1 : g < hi) (j : Nat) (u : Value) : Keep lo hi w (w1.setCell ⟨g, j, none⟩ u) := by
  have hb : Below g w1 (w1.setCell ⟨g, j, none⟩ u) := (Below.refl g w1).setCell (Nat.le_refl g) _
  refine ⟨hb.os.trans h.os, hb.tape.trans h.tape, hb.output.trans h.output, Nat.le_trans h.size hb.size, fun k hk hn => ?_⟩
  have hne : k ≠ g := fun e => hn (by omega)
  exact (Below.heap_setCell w1 ⟨g, j, none⟩ u k hne).trans (h.block k hk hn)
/-- But for a row's own block everything in memory is as it was; nothing new. -/
structure KeepV (v : Value) (w w' : World) : Prop where
  os : w'.os = w.os
  tape : w'.tape = w.tape
  output : w'.output = w.output
  size : w'.heap.size = w.heap.size
  block : ∀ k, v.ownBlock ≠ some k → w'.heap[k]? = w.heap[k]?
theorem KeepV.refl (v : Value) (w : World) : KeepV v w w := ⟨rfl, rfl, rfl, rfl, fun _ _ => rfl⟩
theorem KeepV.set {g n c : Nat} {w w1 : World} (h : KeepV (.slice (some ⟨g, 0, none⟩) n c) w w1) (j : Nat) (u : Value) : KeepV (.slice (some ⟨g, 0, none⟩) n c) w (w1.setCell ⟨g, j, none⟩ u) := by
  have hb : Below g w1 (w1.setCell ⟨g, j, none⟩ u) := (Below.refl g w1).setCell (Nat.le_refl g) _
  refine ⟨hb.os.trans h.os, hb.tape.trans h.tape, hb.output.trans h.output, (size_set _ _ _ _).trans h.size, fun k hk => ?_⟩
  have hne : k ≠ g := fun e => hk (by simp [Value.ownBlock, e])
  exact (Below.heap_setCell w1 ⟨g, j, none⟩ u k hne).trans (h.block k hk)
theorem KeepV.keep {lo hi : Nat} {w w' : World} {A : Option Addr} {c : Nat} {l : List Int} (h : SlO w lo hi A c l) (k : KeepV (.slice A l.length c) w w') : Keep lo hi w w' :=
  ⟨k.os, k.tape, k.output, by rw [k.size]; exact Nat.le_refl _, fun i _ hn => k.block i (fun e => hn (h.lt i e))⟩
theorem SlO.moveV {w w1 : World} {lo hi : Nat} {A : Option Addr} {c : Nat} {l : List Int} (h : SlO w lo hi A c l) (hm : ∀ k, (Value.slice A l.length c).ownBlock = some k → w1.heap[k]? = w.heap[k]?) : SlO w1 lo hi A c l := by
  have h1 : Kd.R (Kd.int .i64) 3 w lo (fun k => (lo ≤ k ∧ k < hi) ∧ (Value.slice A l.length c).ownBlock = some k) (.slice A l.length c) l := Kd.R_flat (fun h => h) h (fun k hk h2 => ⟨h2, hk⟩)
  exact Kd.R_mono (Kd.R_move h1 (fun k hk => hm k hk.2)) (fun k hk => hk.1)
theorem SlO.far {w w1 : World} {lo hi : Nat} {A : Option Addr} {c : Nat} {l : List Int} {v : Value} (h : SlO w lo hi A c l) (hk : KeepV v w w1) (hn : NeRow (.slice A l.length c) v) : SlO w1 lo hi A c l := h.moveV fun k e => hk.block k (hn k e)
def upd (L : Nat → List Int) (i : Nat) (l : List Int) : Nat → List Int := fun x => if x = i then l else L x
theorem upd_len (L : Nat → List Int) (i : Nat) (l : List Int) (h : l.length = (L i).length) (x : Nat) : (upd L i l x).length = (L x).length := by
  unfold upd
  by_cases e : x = i
  · rw [if_pos e, e, h]
  · rw [if_neg e]
theorem VO.upd {w w1 : World} {lo hi : Nat} {L : Nat → List Int} {n : Nat} {A : Nat → Option Addr} {c : Nat → Nat} (h : VO w lo hi L n (slV A c L)) (i : Nat) (hin : i < n) (l : List Int) (hl : l.length = (L i).length) (hs : SlO w1 lo hi (A i) (c i) l) (hk : KeepV (.slice (A i) (L i).length (c i)) w w1) : VO w1 lo hi (upd L i l) n (slV A c (upd L i l)) := by
  refine ⟨fun x hx => ⟨A x, c x, rfl, ?_⟩, fun x y hx hy hne => ?_⟩
  · by_cases e : x = i
    · subst e; simp only [Bk.upd, if_true]; exact hs
    · obtain ⟨A', c', e', ho⟩ := h.1 x hx
      simp only [slV, Value.slice.injEq, true_and] at e'
      obtain ⟨rfl, rfl⟩ := e'
      simp only [Bk.upd, if_neg e]
      exact ho.far hk (h.2 x i hx hin e)
  · have := h.2 x y hx hy hne
    simp only [slV, upd_len L i l hl] at this ⊢
    exact this
end Go.Proofs.Ytekneicikmaplaa.Bk
namespace Go.Proofs.Ytekneicikmaplaa.Bk
open Go.RowKit Go.Proofs.YtekneicikmaplaaW.PrintWords Go.Proofs.YtekneicikmaplaaW.PrintLast Go.Proofs.YtekneicikmaplaaW.PrintMore
/-- What is known of the blocks from lo on and below hi. -/
structure Res where
  lo : Nat
  hi : Nat
  P : World → Prop
def Res.Stable (r : Res) : Prop := ∀ w w' : World, r.P w → w.heap.size ≤ w'.heap.size → (∀ k, r.lo ≤ k → k < r.hi → w'.heap[k]? = w.heap[k]?) → r.P w'
def blkP (g : Nat) (cs : Array Value) (t : TypeId) (w : World) : Prop := w.heap[g]? = some (.cells cs t (0, 0))
abbrev Blk (g : Nat) (cs : Array Value) (t : TypeId) : Res := ⟨g, g + 1, blkP g cs t⟩
theorem Blk.stable (g : Nat) (cs : Array Value) (t : TypeId) : (Blk g cs t).Stable := fun w w' h _ hk => (hk g (Nat.le_refl g) (Nat.lt_succ_self g)).trans h
/-- A walk's memory: what was there is as it was; what is known of what was made. -/
structure St (w0 w : World) (rs : List Res) : Prop where
  base : Below w0.heap.size w0 w
  has : ∀ r ∈ rs, r.P w ∧ r.Stable ∧ w0.heap.size ≤ r.lo ∧ r.lo ≤ r.hi ∧ r.hi ≤ w.heap.size
  apart : rs.Pairwise fun r q => r.hi ≤ q.lo ∨ q.hi ≤ r.lo
namespace St
variable {w0 w w' : World} {rs : List Res}
theorem start (w : World) : St w w [] := ⟨Below.refl _ _, fun r h => (by cases h), List.Pairwise.nil⟩
theorem call (h : St w0 w rs) (hb : Below w.heap.size w w') : St w0 w' rs :=
  ⟨below_step h.base hb, fun r hr => by
    obtain ⟨h1, h2, h3, h4, h5⟩ := h.has r hr
    exact ⟨h2 w w' h1 hb.size (fun k hk hk' => hb.block k (by omega)), h2, h3, h4, Nat.le_trans h5 hb.size⟩, h.apart⟩
theorem drew (h : St w0 w rs) : St w0 w.drew rs := ⟨below_drew h.base, fun r hr => by
    obtain ⟨h1, h2, h3, h4, h5⟩ := h.has r hr
    exact ⟨h2 w _ h1 (Nat.le_refl _) (fun k hk hk' => rfl), h2, h3, h4, h5⟩, h.apart⟩
theorem drewN (h : St w0 w rs) (n : Nat) : St w0 (w.drewN n) rs := ⟨pw_below_drewN h.base n, fun r hr => by
    obtain ⟨h1, h2, h3, h4, h5⟩ := h.has r hr
    exact ⟨h2 w _ h1 (Nat.le_refl _) (fun k hk hk' => rfl), h2, h3, h4, h5⟩, h.apart⟩
theorem size (h : St w0 w rs) : w0.heap.size ≤ w.heap.size := h.base.size
theorem mem {r : Res} (h : St w0 w rs) (i : Nat) (hi : rs[i]? = some r) : r.P w ∧ r.Stable ∧ w0.heap.size ≤ r.lo ∧ r.lo ≤ r.hi ∧ r.hi ≤ w.heap.size := h.has r (List.mem_of_getElem? hi)
theorem get {r : Res} (h : St w0 w rs) (i : Nat) (hi : rs[i]? = some r) : r.P w := (h.mem i hi).1
theorem le {r : Res} (h : St w0 w rs) (i : Nat) (hi : rs[i]? = some r) : r.hi ≤ w.heap.size := (h.mem i hi).2.2.2.2
theorem ge {r : Res} (h : St w0 w rs) (i : Nat) (hi : rs[i]? = some r) : w0.heap.size ≤ r.lo := (h.mem i hi).2.2.1
theorem blk {g : Nat} {cs : Array Value} {t : TypeId} (h : St w0 w rs) (i : Nat) (hi : rs[i]? = some (Blk g cs t)) : w.heap[g]? = some (.cells cs t (0, 0)) := (h.mem i hi).1
theorem cell {g : Nat} {cs : Array Value} {t : TypeId} (h : St w0 w rs) (i : Nat) (hi : rs[i]? = some (Blk g cs t)) (j : Nat) : w.cell? ⟨g, j, none⟩ = cs[j]? := blk_cell (h.blk i hi) j
theorem frozen {g : Nat} {cs : Array Value} {t : TypeId} (h : St w0 w rs) (i : Nat) (hi : rs[i]? = some (Blk g cs t)) (j : Nat) : w.frozen? ⟨g, j, none⟩ = false := blk_frozen (h.blk i hi) j
/-- What is new lies behind all that was. -/
theorem new (h : St w0 w rs) (hb : Below w.heap.size w w') {P : World → Prop} (hP : P w') (hs : Res.Stable ⟨w.heap.size, w'.heap.size, P⟩) : St w0 w' (⟨w.heap.size, w'.heap.size, P⟩ :: rs) := by
  have h1 := h.call hb
  refine ⟨h1.base, fun r hr => ?_, List.pairwise_cons.2 ⟨fun r hr => Or.inr (h.has r hr).2.2.2.2, h.apart⟩⟩
  rcases List.mem_cons.1 hr with rfl | hr
  · exact ⟨hP, hs, h.base.size, hb.size, Nat.le_refl _⟩
  · exact h1.has r hr
theorem box (h : St w0 w rs) {g : Nat} {cs : Array Value} {t : TypeId} (hg : g = w.heap.size) (hbox : w'.heap[g]? = some (.cells cs t (0, 0))) (hb : Below w.heap.size w w') : St w0 w' (Blk g cs t :: rs) := by
  have h1 := h.call hb
  refine ⟨h1.base, fun r hr => ?_, List.pairwise_cons.2 ⟨fun r hr => Or.inr (by rw [hg]; exact (h.has r hr).2.2.2.2), h.apart⟩⟩
  rcases List.mem_cons.1 hr with rfl | hr
  · exact ⟨hbox, Blk.stable g cs t, by rw [hg]; exact h.base.size, Nat.le_succ g, blk_lt hbox⟩
  · exact h1.has r hr
theorem drop (h : St w0 w rs) (i : Nat) {rs' : List Res} (e : rs.eraseIdx i = rs') : St w0 w rs' := by
  subst e
  exact ⟨h.base, fun q hq => h.has q (List.mem_of_mem_eraseIdx hq), h.apart.sublist (List.eraseIdx_sublist ..)⟩
theorem nil (h : St w0 w rs) : St w0 w [] := ⟨h.base, fun r h => (by cases h), List.Pairwise.nil⟩
theorem pair_set {R : Res → Res → Prop} : ∀ {rs : List Res} {i : Nat} {r q : Res}, rs.Pairwise R → rs[i]? = some r → (∀ x, R r x → R q x) → (∀ x, R x r → R x q) → (rs.set i q).Pairwise R
  | [], _, _, _, h, hi, _, _ => by cases hi
  | x :: rs, 0, r, q, h, hi, h1, h2 => by
    simp only [List.getElem?_cons_zero, Option.some.injEq] at hi
    subst hi
    exact List.pairwise_cons.2 ⟨fun y hy => h1 y ((List.pairwise_cons.1 h).1 y hy), (List.pairwise_cons.1 h).2⟩
  | x :: rs, i + 1, r, q, h, hi, h1, h2 => by
    simp only [List.getElem?_cons_succ] at hi
    refine List.pairwise_cons.2 ⟨fun y hy => ?_, pair_set (List.pairwise_cons.1 h).2 hi h1 h2⟩
    rcases List.mem_or_eq_of_mem_set hy with hy | rfl
    · exact (List.pairwise_cons.1 h).1 y hy
    · exact h2 x ((List.pairwise_cons.1 h).1 r (List.mem_of_getElem? hi))
theorem apart_of : ∀ {rs : List Res} {i j : Nat} {r q : Res}, rs.Pairwise (fun r q => r.hi ≤ q.lo ∨ q.hi ≤ r.lo) → rs[i]? = some r → rs[j]? = some q → i ≠ j → r.hi ≤ q.lo ∨ q.hi ≤ r.lo
  | [], _, _, _, _, _, hi, _, _ => by cases hi
  | x :: rs, 0, 0, _, _, _, _, _, hn => absurd rfl hn
  | x :: rs, 0, j + 1, r, q, h, hi, hj, _ => by
    simp only [List.getElem?_cons_zero, Option.some.injEq] at hi
    subst hi
    simp only [List.getElem?_cons_succ] at hj
    exact (List.pairwise_cons.1 h).1 q (List.mem_of_getElem? hj)
  | x :: rs, i + 1, 0, r, q, h, hi, hj, _ => by
    simp only [List.getElem?_cons_zero, Option.some.injEq] at hj
    subst hj
    simp only [List.getElem?_cons_succ] at hi
    exact ((List.pairwise_cons.1 h).1 r (List.mem_of_getElem? hi)).symm
  | x :: rs, i + 1, j + 1, r, q, h, hi, hj, hn => by
    simp only [List.getElem?_cons_succ] at hi hj
    exact apart_of (List.pairwise_cons.1 h).2 hi hj (fun e => hn (by rw [e]))
theorem ne {r q : Res} (h : St w0 w rs) (i j : Nat) (hi : rs[i]? = some r) (hj : rs[j]? = some q) (hn : i ≠ j) : r.hi ≤ q.lo ∨ q.hi ≤ r.lo := apart_of h.apart hi hj hn
/-- Written: only blocks of the i-th resource have changed. -/
theorem put {r : Res} (h : St w0 w rs) (i : Nat) (hi : rs[i]? = some r) (hk : Keep r.lo r.hi w w') {P : World → Prop} (hP : P w') (hs : Res.Stable ⟨r.lo, r.hi, P⟩) {rs' : List Res} (e : rs.set i ⟨r.lo, r.hi, P⟩ = rs') : St w0 w' rs' := by
  subst e
  have hm := h.mem i hi
  refine ⟨Keep.below h.base hk hm.2.2.1, fun q hq => ?_, pair_set h.apart hi (fun _ hx => hx) (fun _ hx => hx)⟩
  obtain ⟨j, hj⟩ := List.mem_iff_getElem?.1 hq
  by_cases hij : i = j
  · subst hij
    have hlt : i < rs.length := (List.getElem?_eq_some_iff.1 hi).1
    rw [List.getElem?_set_self hlt] at hj
    obtain rfl := Option.some.inj hj
    exact ⟨hP, hs, hm.2.2.1, hm.2.2.2.1, Nat.le_trans hm.2.2.2.2 hk.size⟩
  · rw [List.getElem?_set_ne hij] at hj
    obtain ⟨h1, h2, h3, h4, h5⟩ := h.mem j hj
    have hd := h.ne i j hi hj hij
    exact ⟨h2 w w' h1 hk.size (fun k hk1 hk2 => hk.block k (by omega) (by omega)), h2, h3, h4, Nat.le_trans h5 hk.size⟩
/-- Written in the i-th resource, and something new. -/
theorem setCell {g : Nat} {cs cs' : Array Value} {t : TypeId} (h : St w0 w rs) (i : Nat) (hi : rs[i]? = some (Blk g cs t)) (j : Nat) (u : Value) (e : cs.setIfInBounds j u = cs') {rs' : List Res} (e2 : rs.set i (Blk g cs' t) = rs') : St w0 (w.setCell ⟨g, j, none⟩ u) rs' := by
  subst e
  exact h.put i hi ((Keep.refl g (g + 1) w).set (Nat.le_refl g) (Nat.lt_succ_self g) j u) (blk_set (h.blk i hi) j u) (Blk.stable g _ t) e2
theorem keep_row (w : World) (g : Nat) (cs : Array Value) : Keep g (g + 1) w (w.setRow g cs) := ⟨rfl, rfl, rfl, by simp, fun k hk hn => setRow_other w g k cs (by omega)⟩
theorem setRow {g : Nat} {cs cs' : Array Value} {t : TypeId} (h : St w0 w rs) (i : Nat) (hi : rs[i]? = some (Blk g cs t)) {rs' : List Res} (e2 : rs.set i (Blk g cs' t) = rs') : St w0 (w.setRow g cs') rs' :=
  h.put i hi (keep_row w g cs') (setRow_heap w g cs cs' t (0, 0) (h.blk i hi)) (Blk.stable g _ t) e2
/-- A resource of one's own, of another's: the blocks are others. -/
theorem ne_blk {g g' : Nat} {cs cs' : Array Value} {t t' : TypeId} (h : St w0 w rs) (i j : Nat) (hi : rs[i]? = some (Blk g cs t)) (hj : rs[j]? = some (Blk g' cs' t')) (hn : i ≠ j) : g ≠ g' := by
  have := h.ne i j hi hj hn
  simp only at this
  omega
theorem of {w1 : World} (h : St w0 w rs) (e : w1 = w) : St w0 w1 rs := e ▸ h
end St
theorem SlO.stable (lo hi : Nat) (A : Option Addr) (c : Nat) (l : List Int) : Res.Stable ⟨lo, hi, fun w => SlO w lo hi A c l⟩ := fun w w' h _ hk => SlO.move h (fun k h1 h2 _ => hk k h1 h2)
theorem VO.stable (lo hi : Nat) (L : Nat → List Int) (n : Nat) (V : Nat → Value) : Res.Stable ⟨lo, hi, fun w => VO w lo hi L n V⟩ := fun w w' h _ hk => VO.move h (fun k h1 h2 _ => hk k h1 h2)
end Go.Proofs.Ytekneicikmaplaa.Bk
namespace Go.Proofs.Ytekneicikmaplaa.Bk
open Go.RowKit Go.Proofs.YtekneicikmaplaaW.PrintWords Go.Proofs.YtekneicikmaplaaW.PrintLast Go.Proofs.YtekneicikmaplaaW.PrintMore
/-- But for the blocks of 'own' everything in memory is as it was. -/
structure Fr (own : Nat → Prop) (w w' : World) : Prop where
  os : w'.os = w.os
  tape : w'.tape = w.tape
  output : w'.output = w.output
  size : w.heap.size ≤ w'.heap.size
  block : ∀ k, k < w.heap.size → ¬ own k → w'.heap[k]? = w.heap[k]?
theorem Fr.refl (own : Nat → Prop) (w : World) : Fr own w w := ⟨rfl, rfl, rfl, Nat.le_refl _, fun _ _ _ => rfl⟩
theorem Fr.of_below {own : Nat → Prop} {w w' : World} (h : Below w.heap.size w w') : Fr own w w' := ⟨h.os, h.tape, h.output, h.size, fun k hk _ => h.block k hk⟩
theorem Fr.trans {own own' : Nat → Prop} {w w1 w2 : World} (h : Fr own w w1) (k : Fr own' w1 w2) (ho : ∀ j, own' j → own j ∨ w.heap.size ≤ j) : Fr own w w2 :=
  ⟨k.os.trans h.os, k.tape.trans h.tape, k.output.trans h.output, Nat.le_trans h.size k.size, fun i hi hn => (k.block i (Nat.lt_of_lt_of_le hi h.size) (fun q => (ho i q).elim hn (fun e => by omega))).trans (h.block i hi hn)⟩
theorem Fr.below {own : Nat → Prop} {w w' : World} (h : Fr own w w') (ho : ∀ j, own j → w.heap.size ≤ j) : Below w.heap.size w w' :=
  ⟨h.os, h.tape, h.output, h.size, fun k hk => h.block k hk (fun q => by have := ho k q; omega)⟩
theorem Fr.wide {own own' : Nat → Prop} {w w' : World} (h : Fr own w w') (ho : ∀ j, own j → own' j) : Fr own' w w' := ⟨h.os, h.tape, h.output, h.size, fun k hk hn => h.block k hk (fun q => hn (ho k q))⟩
theorem Fr.drew {own : Nat → Prop} {w w' : World} (h : Fr own w w') : Fr own w w'.drew := by
  have hb := below_drew (Below.refl w'.heap.size w')
  exact h.trans (Fr.of_below (own := own) hb) (fun j q => .inl q)
theorem Fr.drewN {own : Nat → Prop} {w w' : World} (h : Fr own w w') (n : Nat) : Fr own w (w'.drewN n) := by
  have hb := pw_below_drewN (Below.refl w'.heap.size w') n
  exact h.trans (Fr.of_below (own := own) hb) (fun j q => .inl q)
theorem Fr.setCell (w : World) (g j : Nat) (u : Value) {own : Nat → Prop} (ho : own g) : Fr own w (w.setCell ⟨g, j, none⟩ u) := by
  have hb : Below g w (w.setCell ⟨g, j, none⟩ u) := (Below.refl g w).setCell (Nat.le_refl g) _
  exact ⟨hb.os, hb.tape, hb.output, hb.size, fun k hk hn => Below.heap_setCell w ⟨g, j, none⟩ u k (fun e => hn (by rw [e]; exact ho))⟩
/-- What is known of the blocks of a set. -/
structure Rx where
  own : Nat → Prop
  P : World → Prop
def Rx.Stable (r : Rx) : Prop := ∀ w w' : World, r.P w → w.heap.size ≤ w'.heap.size → (∀ k, r.own k → w'.heap[k]? = w.heap[k]?) → r.P w'
abbrev Bx (g : Nat) (cs : Array Value) (t : TypeId) : Rx := ⟨fun k => k = g, blkP g cs t⟩
theorem Bx.stable (g : Nat) (cs : Array Value) (t : TypeId) : (Bx g cs t).Stable := fun w w' h _ hk => (hk g rfl).trans h
/-- A walk's memory: what isn't its own or its caller's is as it was. -/
structure Sx (ar : Nat → Prop) (w0 w : World) (rs : List Rx) : Prop where
  base : Fr ar w0 w
  has : ∀ r ∈ rs, r.P w ∧ r.Stable ∧ ∀ k, r.own k → (ar k ∨ w0.heap.size ≤ k) ∧ k < w.heap.size
  apart : rs.Pairwise fun r q => ∀ k, r.own k → ¬ q.own k
namespace Sx
variable {ar : Nat → Prop} {w0 w w' : World} {rs : List Rx}
theorem start (w : World) : Sx ar w w [] := ⟨Fr.refl _ _, fun r h => (by cases h), List.Pairwise.nil⟩
theorem one {r : Rx} (hP : r.P w) (hs : r.Stable) (ho : ∀ k, r.own k → k < w.heap.size) : Sx r.own w w [r] :=
  ⟨Fr.refl _ _, fun q hq => by obtain rfl := List.mem_singleton.1 hq; exact ⟨hP, hs, fun k hk => ⟨.inl hk, ho k hk⟩⟩, List.pairwise_singleton _ _⟩
theorem size (h : Sx ar w0 w rs) : w0.heap.size ≤ w.heap.size := h.base.size
theorem mem {r : Rx} (h : Sx ar w0 w rs) (i : Nat) (hi : rs[i]? = some r) : r.P w ∧ r.Stable ∧ ∀ k, r.own k → (ar k ∨ w0.heap.size ≤ k) ∧ k < w.heap.size := h.has r (List.mem_of_getElem? hi)
theorem get {r : Rx} (h : Sx ar w0 w rs) (i : Nat) (hi : rs[i]? = some r) : r.P w := (h.mem i hi).1
theorem lt {r : Rx} (h : Sx ar w0 w rs) (i : Nat) (hi : rs[i]? = some r) (k : Nat) (hk : r.own k) : k < w.heap.size := ((h.mem i hi).2.2 k hk).2
theorem arg {r : Rx} (h : Sx ar w0 w rs) (i : Nat) (hi : rs[i]? = some r) (k : Nat) (hk : r.own k) : ar k ∨ w0.heap.size ≤ k := ((h.mem i hi).2.2 k hk).1
theorem blk {g : Nat} {cs : Array Value} {t : TypeId} (h : Sx ar w0 w rs) (i : Nat) (hi : rs[i]? = some (Bx g cs t)) : w.heap[g]? = some (.cells cs t (0, 0)) := (h.mem i hi).1
theorem cell {g : Nat} {cs : Array Value} {t : TypeId} (h : Sx ar w0 w rs) (i : Nat) (hi : rs[i]? = some (Bx g cs t)) (j : Nat) : w.cell? ⟨g, j, none⟩ = cs[j]? := blk_cell (h.blk i hi) j
theorem frozen {g : Nat} {cs : Array Value} {t : TypeId} (h : Sx ar w0 w rs) (i : Nat) (hi : rs[i]? = some (Bx g cs t)) (j : Nat) : w.frozen? ⟨g, j, none⟩ = false := blk_frozen (h.blk i hi) j
/-- A call that writes into nothing that was there. -/
theorem call (h : Sx ar w0 w rs) (hb : Below w.heap.size w w') : Sx ar w0 w' rs :=
  ⟨h.base.trans (Fr.of_below (own := ar) hb) (fun j q => .inl q), fun r hr => by
    obtain ⟨h1, h2, h3⟩ := h.has r hr
    exact ⟨h2 w w' h1 hb.size (fun k hk => hb.block k (h3 k hk).2), h2, fun k hk => ⟨(h3 k hk).1, Nat.lt_of_lt_of_le (h3 k hk).2 hb.size⟩⟩, h.apart⟩
theorem drew (h : Sx ar w0 w rs) : Sx ar w0 w.drew rs := h.call (below_drew (Below.refl _ _))
theorem drewN (h : Sx ar w0 w rs) (n : Nat) : Sx ar w0 (w.drewN n) rs := h.call (pw_below_drewN (Below.refl _ _) n)
/-- What is new lies behind all that was. -/
theorem new (h : Sx ar w0 w rs) (hb : Below w.heap.size w w') {r : Rx} (hP : r.P w') (hs : r.Stable) (ho : ∀ k, r.own k → w.heap.size ≤ k ∧ k < w'.heap.size) : Sx ar w0 w' (r :: rs) := by
  have h1 := h.call hb
  refine ⟨h1.base, fun q hq => ?_, List.pairwise_cons.2 ⟨fun q hq k hk hk' => ?_, h.apart⟩⟩
  · rcases List.mem_cons.1 hq with rfl | hq
    · exact ⟨hP, hs, fun k hk => ⟨.inr (Nat.le_trans h.size (ho k hk).1), (ho k hk).2⟩⟩
    · exact h1.has q hq
  · have := ((h.has q hq).2.2 k hk').2
    have := (ho k hk).1
    omega
theorem box (h : Sx ar w0 w rs) {g : Nat} {cs : Array Value} {t : TypeId} (hg : g = w.heap.size) (hbox : w'.heap[g]? = some (.cells cs t (0, 0))) (hb : Below w.heap.size w w') : Sx ar w0 w' (Bx g cs t :: rs) :=
  h.new hb hbox (Bx.stable g cs t) (fun k hk => by have hk : k = g := hk; rw [hk, hg]; exact ⟨Nat.le_refl _, by rw [← hg]; exact blk_lt hbox⟩)
theorem drop (h : Sx ar w0 w rs) (i : Nat) {rs' : List Rx} (e : rs.eraseIdx i = rs') : Sx ar w0 w rs' := by
  subst e
  exact ⟨h.base, fun q hq => h.has q (List.mem_of_mem_eraseIdx hq), h.apart.sublist (List.eraseIdx_sublist ..)⟩
theorem pair_set' {R : Rx → Rx → Prop} : ∀ {rs : List Rx} {i : Nat} {r q : Rx}, rs.Pairwise R → rs[i]? = some r → (∀ x ∈ rs, R r x → R q x) → (∀ x ∈ rs, R x r → R x q) → (rs.set i q).Pairwise R
  | [], _, _, _, h, hi, _, _ => by cases hi
  | x :: rs, 0, r, q, h, hi, h1, h2 => by
    simp only [List.getElem?_cons_zero, Option.some.injEq] at hi
    subst hi
    exact List.pairwise_cons.2 ⟨fun y hy => h1 y (List.mem_cons_of_mem _ hy) ((List.pairwise_cons.1 h).1 y hy), (List.pairwise_cons.1 h).2⟩
  | x :: rs, i + 1, r, q, h, hi, h1, h2 => by
    simp only [List.getElem?_cons_succ] at hi
    refine List.pairwise_cons.2 ⟨fun y hy => ?_, pair_set' (List.pairwise_cons.1 h).2 hi (fun x hx => h1 x (List.mem_cons_of_mem _ hx)) (fun x hx => h2 x (List.mem_cons_of_mem _ hx))⟩
    rcases List.mem_or_eq_of_mem_set hy with hy | rfl
    · exact (List.pairwise_cons.1 h).1 y hy
    · exact h2 x List.mem_cons_self ((List.pairwise_cons.1 h).1 r (List.mem_of_getElem? hi))
theorem apart_of : ∀ {rs : List Rx} {i j : Nat} {r q : Rx}, rs.Pairwise (fun r q => ∀ k, r.own k → ¬ q.own k) → rs[i]? = some r → rs[j]? = some q → i ≠ j → ∀ k, r.own k → ¬ q.own k
  | [], _, _, _, _, _, hi, _, _ => by cases hi
  | x :: rs, 0, 0, _, _, _, _, _, hn => absurd rfl hn
  | x :: rs, 0, j + 1, r, q, h, hi, hj, _ => by
    simp only [List.getElem?_cons_zero, Option.some.injEq] at hi
    subst hi
    simp only [List.getElem?_cons_succ] at hj
    exact (List.pairwise_cons.1 h).1 q (List.mem_of_getElem? hj)
  | x :: rs, i + 1, 0, r, q, h, hi, hj, _ => by
    simp only [List.getElem?_cons_zero, Option.some.injEq] at hj
    subst hj
    simp only [List.getElem?_cons_succ] at hi
    exact fun k hk hk' => (List.pairwise_cons.1 h).1 r (List.mem_of_getElem? hi) k hk' hk
  | x :: rs, i + 1, j + 1, r, q, h, hi, hj, hn => by
    simp only [List.getElem?_cons_succ] at hi hj
    exact apart_of (List.pairwise_cons.1 h).2 hi hj (fun e => hn (by rw [e]))
theorem ne {r q : Rx} (h : Sx ar w0 w rs) (i j : Nat) (hi : rs[i]? = some r) (hj : rs[j]? = some q) (hn : i ≠ j) : ∀ k, r.own k → ¬ q.own k := apart_of h.apart hi hj hn
/-- A call that writes into the i-th thing alone, and may make it anew. -/
theorem put {r r' : Rx} (h : Sx ar w0 w rs) (i : Nat) (hi : rs[i]? = some r) (hk : Fr r.own w w') (hP : r'.P w') (hs : r'.Stable) (ho : ∀ k, r'.own k → (r.own k ∨ w.heap.size ≤ k) ∧ k < w'.heap.size) {rs' : List Rx} (e : rs.set i r' = rs') : Sx ar w0 w' rs' := by
  subst e
  have hm := h.mem i hi
  refine ⟨h.base.trans hk (fun j hj => (hm.2.2 j hj).1), fun q hq => ?_, ?_⟩
  · obtain ⟨j, hj⟩ := List.mem_iff_getElem?.1 hq
    by_cases hij : i = j
    · subst hij
      have hlt : i < rs.length := (List.getElem?_eq_some_iff.1 hi).1
      rw [List.getElem?_set_self hlt] at hj
      obtain rfl := Option.some.inj hj
      exact ⟨hP, hs, fun k hk' => ⟨(ho k hk').1.elim (fun q => (hm.2.2 k q).1) (fun q => .inr (Nat.le_trans h.size q)), (ho k hk').2⟩⟩
    · rw [List.getElem?_set_ne hij] at hj
      obtain ⟨h1, h2, h3⟩ := h.mem j hj
      have hd := h.ne i j hi hj hij
      exact ⟨h2 w w' h1 hk.size (fun k hk1 => hk.block k (h3 k hk1).2 (fun q => hd k q hk1)), h2, fun k hk1 => ⟨(h3 k hk1).1, Nat.lt_of_lt_of_le (h3 k hk1).2 hk.size⟩⟩
  · refine pair_set' h.apart hi (fun x hx hR k hk1 hk2 => ?_) (fun x hx hR k hk1 hk2 => ?_)
    · rcases (ho k hk1).1 with q | q
      · exact hR k q hk2
      · have := ((h.has x hx).2.2 k hk2).2; omega
    · rcases (ho k hk2).1 with q | q
      · exact hR k hk1 q
      · have := ((h.has x hx).2.2 k hk1).2; omega
theorem setCell {g : Nat} {cs cs' : Array Value} {t : TypeId} (h : Sx ar w0 w rs) (i : Nat) (hi : rs[i]? = some (Bx g cs t)) (j : Nat) (u : Value) (e : cs.setIfInBounds j u = cs') {rs' : List Rx} (e2 : rs.set i (Bx g cs' t) = rs') : Sx ar w0 (w.setCell ⟨g, j, none⟩ u) rs' := by
  subst e
  exact h.put (r' := Bx g (cs.setIfInBounds j u) t) i hi (Fr.setCell w g j u rfl) (blk_set (h.blk i hi) j u) (Bx.stable g _ t) (fun k hk => ⟨.inl hk, by have := h.lt i hi k hk; simpa using this⟩) e2
theorem setRow {g : Nat} {cs cs' : Array Value} {t : TypeId} (h : Sx ar w0 w rs) (i : Nat) (hi : rs[i]? = some (Bx g cs t)) {rs' : List Rx} (e2 : rs.set i (Bx g cs' t) = rs') : Sx ar w0 (w.setRow g cs') rs' :=
  h.put (r' := Bx g cs' t) (w' := w.setRow g cs') i hi ⟨rfl, rfl, rfl, by simp, fun k hk hn => setRow_other w g k cs' (fun e => hn e)⟩ (setRow_heap w g cs cs' t (0, 0) (h.blk i hi)) (Bx.stable g _ t) (fun k hk => ⟨.inl hk, by have := h.lt i hi k hk; simpa using this⟩) e2
theorem of {w1 : World} (h : Sx ar w0 w rs) (e : w1 = w) : Sx ar w0 w1 rs := e ▸ h
end Sx
end Go.Proofs.Ytekneicikmaplaa.Bk
namespace Go.Proofs.Ytekneicikmaplaa.Bk
open Go.RowKit Go.Proofs.YtekneicikmaplaaW.PrintWords Go.Proofs.YtekneicikmaplaaW.PrintLast Go.Proofs.YtekneicikmaplaaW.PrintMore
def IR (w : World) (v : Value) (l : List Int) : Prop := (v = .slice none 0 0 ∧ l = []) ∨
  ∃ g o cap cells, v = .slice (some ⟨g, o, none⟩) l.length cap ∧ w.heap[g]? = some (.cells cells 3 (0, 0)) ∧ l.length ≤ cap ∧ cap ≤ 9223372036854775807 ∧ o + cap ≤ cells.size ∧ ∀ j, j < l.length → cells[o + j]? = some (.int .i64 (l.getD j 0))
theorem IR.nil (w : World) : IR w (.slice none 0 0) [] := .inl ⟨rfl, rfl⟩
theorem IR.form {w : World} {v : Value} {l : List Int} (h : IR w v l) : ∃ A c, v = .slice A l.length c := by
  rcases h with ⟨rfl, rfl⟩ | ⟨g, o, cap, cells, rfl, _⟩
  · exact ⟨none, 0, rfl⟩
  · exact ⟨_, _, rfl⟩
theorem IR.len {w : World} {v : Value} {l : List Int} (h : IR w v l) : l.length ≤ 9223372036854775807 := by
  rcases h with ⟨rfl, rfl⟩ | ⟨g, o, cap, cells, rfl, _, h1, h2, _⟩
  · simp
  · omega
theorem IR.move {w w' : World} {v : Value} {l : List Int} (h : IR w v l) (hm : ∀ k, v.ownBlock = some k → w'.heap[k]? = w.heap[k]?) : IR w' v l := by
  rcases h with h | ⟨g, o, cap, cells, rfl, hg, h⟩
  · exact .inl h
  · exact .inr ⟨g, o, cap, cells, rfl, (hm g rfl).trans hg, h⟩
theorem IR.lt {w : World} {v : Value} {l : List Int} (h : IR w v l) {k : Nat} (hk : v.ownBlock = some k) : k < w.heap.size := by
  rcases h with ⟨rfl, rfl⟩ | ⟨g, o, cap, cells, rfl, hg, h⟩
  · cases hk
  · obtain rfl := Option.some.inj hk
    exact blk_lt hg
theorem IR.slC {w : World} {A : Option Addr} {c : Nat} {l : List Int} (h : IR w (.slice A l.length c) l) : SlC w A c l := by
  refine ⟨⟨rfl, h.len, fun hn => ?_⟩, ?_⟩
  · rcases h with ⟨e, rfl⟩ | ⟨g, o, cap, cells, e, hg, h1, h2, h3, h4⟩
    · simp at hn
    · injection e with e1 e2 e3
      refine ⟨_, e1, fun j p hj => ?_⟩
      have hjl : j < l.length := (List.getElem?_eq_some_iff.1 hj).1
      have hp : l.getD j 0 = p := by simp [List.getD, hj]
      refine ⟨[.int .i64 p], rfl, rfl, fun i u hu => ?_⟩
      have hi : i = 0 := by
        have := (List.getElem?_eq_some_iff.1 hu).1
        simpa using this
      subst hi
      have hu : Value.int .i64 p = u := by simpa using hu
      rw [Addr.add_lit, show j * (Kd.int .i64).sz + 0 = j from Nat.mul_one j]
      have := h4 j hjl
      rw [hp, hu] at this
      exact (blk_cell hg (o + j)).trans this
  · rcases h with ⟨e, rfl⟩ | ⟨g, o, cap, cells, e, hg, h1, h2, h3, h4⟩
    · simp
    · injection e with e1 e2 e3; omega
theorem IR.at {w : World} {v : Value} {l : List Int} (h : IR w v l) (k : Nat) (hk : k < l.length) :
    ∃ g o cap, v = .slice (some ⟨g, o, none⟩) l.length cap ∧ w.cell? ⟨g, o + k, none⟩ = some (.int .i64 (l.getD k 0)) ∧ w.frozen? ⟨g, o + k, none⟩ = false := by
  rcases h with ⟨e, rfl⟩ | ⟨g, o, cap, cells, e, hg, h1, h2, h3, h4⟩
  · simp at hk
  · exact ⟨g, o, cap, e, (blk_cell hg _).trans (h4 k hk), blk_frozen hg _⟩
theorem getD_set_self' (x : List Int) (k : Nat) (v : Int) (h : k < x.length) : (x.set k v).getD k 0 = v := by simp [h]
theorem getD_set_ne' (x : List Int) (k j : Nat) (v : Int) (h : j ≠ k) : (x.set k v).getD j 0 = x.getD j 0 := by simp [List.getD, List.getElem?_set, Ne.symm h]
theorem IR.set {w : World} {l : List Int} {g o cap : Nat} (h : IR w (.slice (some ⟨g, o, none⟩) l.length cap) l) (k : Nat) (hk : k < l.length) (n : Int) :
    IR (w.setCell ⟨g, o + k, none⟩ (.int .i64 n)) (.slice (some ⟨g, o, none⟩) l.length cap) (l.set k n) := by
  rcases h with ⟨e, rfl⟩ | ⟨g', o', cap', cells, e, hg, h1, h2, h3, h4⟩
  · cases e
  · injection e with e1 e2 e3
    injection e1 with e1
    injection e1 with e1 e4
    subst e1 e4 e3
    refine .inr ⟨g, o, cap, cells.setIfInBounds (o + k) (.int .i64 n), by rw [List.length_set], blk_set hg _ _, by rw [List.length_set]; exact h1, h2, by simpa using h3, fun j hj => ?_⟩
    rw [List.length_set] at hj
    by_cases e : j = k
    · subst e
      rw [getD_set_self' _ _ _ hk, Array.getElem?_setIfInBounds, if_pos rfl, if_pos (by omega)]
    · rw [getD_set_ne' _ _ _ _ e, Array.getElem?_setIfInBounds, if_neg (by omega)]
      exact h4 j hj
theorem IR.tail {w : World} {x : Int} {t : List Int} {g o cap : Nat} (h : IR w (.slice (some ⟨g, o, none⟩) (x :: t).length cap) (x :: t)) : IR w (.slice (some ⟨g, o + 1, none⟩) t.length (cap - 1)) t := by
  rcases h with ⟨e, h⟩ | ⟨g', o', cap', cells, e, hg, h1, h2, h3, h4⟩
  · cases e
  · injection e with e1 e2 e3
    injection e1 with e1
    injection e1 with e1 e4
    subst e1 e4 e3
    rw [List.length_cons] at h1
    refine .inr ⟨g, o + 1, cap - 1, cells, rfl, hg, by omega, by omega, by omega, fun j hj => ?_⟩
    have := h4 (j + 1) (by rw [List.length_cons]; omega)
    rw [show o + 1 + j = o + (j + 1) by omega, this]
    simp
/-- A row that the kit knows. -/
theorem IR.of_own {w : World} {base : Nat} {v : Value} {l : List Int} (h : w.ownsRow base 3 1 v l.length (l.map (Value.int .i64))) : IR w v l := by
  obtain ⟨hl, h⟩ := h
  rcases h with ⟨e, hn⟩ | ⟨g, cap, cur, e, hb, hg, h1, h2, h3, h4⟩
  · have : l = [] := List.eq_nil_of_length_eq_zero hn
    subst this
    exact .inl ⟨e, rfl⟩
  · refine .inr ⟨g, 0, cap, cur, e, hg, h1, by simp only [maxLen] at h2; omega, by omega, fun j hj => ?_⟩
    have h5 : (cur.toList.take (l.length * 1))[j]? = (l.map (Value.int .i64))[j]? := by rw [h4]
    rw [List.getElem?_take_of_lt (by omega), List.getElem?_map] at h5
    rw [Nat.zero_add, ← Array.getElem?_toList, h5]
    simp [List.getD, hj]
theorem IR.of_R {w : World} {base : Nat} {ok : Nat → Prop} {v : Value} {l : List Int} (h : Kd.R (Kd.int .i64) 3 w base ok v l) : IR w v l := by
  obtain ⟨_, inner, ho, hr⟩ := h
  have e : inner = l.map (Value.int .i64) := by
    obtain ⟨h1, h2⟩ := hr
    have h1 : inner.length = l.length := h1.trans (Nat.mul_one _)
    apply List.ext_getElem (by rw [List.length_map, h1])
    intro j hj hj'
    have hjl : j < l.length := by omega
    have h3 : (inner.drop (j * 1)).take 1 = [.int .i64 l[j]] := h2 j l[j] (List.getElem?_eq_getElem hjl)
    rw [Nat.mul_one] at h3
    have h4 : ((inner.drop j).take 1)[0]? = some (.int .i64 l[j]) := by rw [h3]; rfl
    rw [List.getElem?_take_of_lt (by omega), List.getElem?_drop, Nat.add_zero, List.getElem?_eq_getElem hj] at h4
    rw [List.getElem_map]
    exact Option.some.inj h4
  subst e
  exact IR.of_own ho
/-- append(v, p), behind 'at_builtin'; the goal's world is the variadic's box laid. -/
theorem ir_append {P : Program} {ops : Array Oper} {rest : List Oper} {o : Oper} {a : Act} {Q : Exit → Act → World → Prop} {W : World} (hgd : o.guard = none) (s x : Operand) (t : TypeId)
    (ho : o.op = .call { callee := .builtin .append, args := #[s, x], argTypes := #[t, t] }) (ht : P.underlying t = some (.slice 3)) (hinfo : (P.info? 3).map (fun i => (i.zero, i.size, i.bytes)) = some (some (.int .i64 0), 1, 8))
    (v : Value) (l : List Int) (p : Int) (hs : a.eval s = v) (hx : a.eval x = .slice (some ⟨W.heap.size, 0, none⟩) 1 1) (HO : IR W v l) (hl : l.length ≤ 1048576)
    (h : ∀ v1 w1, IR w1 v1 (l ++ [p]) → Fr (fun k => v.ownBlock = some k) W w1 → (∀ k, v1.ownBlock = some k → (v.ownBlock = some k ∨ W.heap.size ≤ k) ∧ k < w1.heap.size) → wpList P ops Q rest (a.put o.dst v1) w1) :
    wpList P ops Q (o :: rest) a (W.alloc (.cells #[.int .i64 p] 3)) := by
  obtain ⟨i0, hi, hzz⟩ := Option.map_eq_some_iff.1 hinfo
  simp only [Prod.mk.injEq] at hzz
  obtain ⟨hz0, hz1, hz2⟩ := hzz
  have hnew : ∀ j u, [Value.int .i64 p][j]? = some u → (W.alloc (.cells #[.int .i64 p] 3)).cell? ((⟨W.heap.size, 0, none⟩ : Addr).add j) = some u := by
    simpa using World.news_of_block (cs := #[Value.int .i64 p]) (t := 3) (fr := (0, 0)) (heap_alloc_new W (.cells #[.int .i64 p] 3))
  have hfA : Below W.heap.size W (W.alloc (.cells #[.int .i64 p] 3)) := below_alloc (Below.refl _ _) _
  have hszA : (W.alloc (.cells #[.int .i64 p] 3)).heap.size = W.heap.size + 1 := by simp
  have grown : ∀ {v' : Value} {w' : World}, w'.ownsRow (W.alloc (.cells #[.int .i64 p] 3)).heap.size 3 1 v' (l.length + 1) (l.map (Value.int .i64) ++ [.int .i64 p]) → (W.alloc (.cells #[.int .i64 p] 3)).grownBy w' none → wpList P ops Q rest (a.put o.dst v') w' := fun {v' w'} hown hg => by
    have hown' : w'.ownsRow (W.alloc (.cells #[.int .i64 p] 3)).heap.size 3 1 v' (l ++ [p]).length ((l ++ [p]).map (Value.int .i64)) := by
      rw [List.length_append, List.length_singleton, List.map_append, List.map_singleton]; exact hown
    refine h v' w' (IR.of_own hown') ⟨hg.os.trans hfA.os, hg.tape.trans hfA.tape, hg.output.trans hfA.output, Nat.le_trans hfA.size hg.size, fun k hk _ => (hg.block k (by rw [hszA]; omega) (by simp)).trans (hfA.block k hk)⟩ (fun k hk => ?_)
    have := hown.lt k hk
    rw [hszA] at this
    exact ⟨.inr (by omega), this.2⟩
  rcases HO with ⟨rfl, rfl⟩ | ⟨g, oo, cap, cells, rfl, hg, h1, h2, h3, h4⟩
  · refine wpList_append_grows (W.alloc (.cells #[.int .i64 p] 3)) hgd s x t ho 3 i0 (.int .i64 0) 1 8 ht hi hz0 hz1 hz2 rfl (by decide) none 0 0 [] hs (fun _ => ⟨rfl, rfl⟩) rfl (fun b e => by cases e) ⟨W.heap.size, 0, none⟩ 1 1 [.int .i64 p] hx rfl hnew (by simp [Value.oneCell']) (by omega) (by simp [maxLen]) (by omega) (fun v' w' r1 r2 => ?_)
    exact grown r1 r2
  · have hgl := blk_lt hg
    have hgA : (W.alloc (.cells #[.int .i64 p] 3)).heap[g]? = some (.cells cells 3 (0, 0)) := (hfA.block g hgl).trans hg
    refine wpList_append_arg (W.alloc (.cells #[.int .i64 p] 3)) hgd s x t ho 3 i0 (.int .i64 0) 1 8 ht hi hz0 hz1 hz2 rfl (by decide) g oo l.length cap (l.map (Value.int .i64)) hs (by simp) (fun j u hj => ?_) ⟨W.heap.size, 0, none⟩ 1 1 [.int .i64 p] hx rfl hnew (by simp [Value.oneCell']) (fun hr j hj => ?_) (by simp only [maxLen]; omega) (by omega) (fun hr => ?_) (fun _ v' w' r1 r2 => grown r1 r2)
    · rw [List.getElem?_map] at hj
      obtain ⟨y, hy, rfl⟩ := Option.map_eq_some_iff.1 hj
      have hjl : j < l.length := (List.getElem?_eq_some_iff.1 hy).1
      have := h4 j hjl
      rw [show l.getD j 0 = y by simp [List.getD, hy]] at this
      exact (blk_cell hgA _).trans this
    · have hj0 : j = 0 := by simpa using hj
      subst hj0
      refine ⟨?_, blk_frozen hgA _⟩
      rw [blk_cell hgA]
      rw [Array.getElem?_eq_getElem (by omega)]; rfl
    · have hw : (W.alloc (.cells #[.int .i64 p] 3)).setCells g (oo + l.length * 1) [.int .i64 p] = (W.alloc (.cells #[.int .i64 p] 3)).setCell ⟨g, oo + l.length, none⟩ (.int .i64 p) := by
        rw [Nat.mul_one]; rfl
      rw [hw]
      have hFr : Fr (fun k => k = g) W ((W.alloc (.cells #[.int .i64 p] 3)).setCell ⟨g, oo + l.length, none⟩ (.int .i64 p)) :=
        (Fr.of_below (own := fun k => k = g) hfA).trans (Fr.setCell (own := fun k => k = g) _ g _ _ rfl) (fun j q => .inl q)
      have := h (.slice (some ⟨g, oo, none⟩) (l.length + 1) cap) _ (.inr ⟨g, oo, cap, cells.setIfInBounds (oo + l.length) (.int .i64 p), by rw [List.length_append, List.length_singleton], blk_set hgA _ _, by rw [List.length_append, List.length_singleton]; omega, h2, by simpa using h3, fun j hj => ?_⟩) (hFr.wide (fun k hk => by rw [hk]; rfl)) (fun k hk => ?_)
      · exact this
      · rw [List.length_append, List.length_singleton] at hj
        rw [Array.getElem?_setIfInBounds]
        by_cases e : j = l.length
        · subst e
          rw [if_pos rfl, if_pos (by omega)]
          simp [List.getD]
        · rw [if_neg (by omega), h4 j (by omega)]
          simp [List.getD, List.getElem?_append_left (show j < l.length by omega)]
      · obtain rfl := Option.some.inj hk
        refine ⟨.inl rfl, ?_⟩
        exact Nat.lt_of_lt_of_le hgl hFr.size
end Go.Proofs.Ytekneicikmaplaa.Bk
namespace Go.Proofs.Ytekneicikmaplaa.Bk
open Go.RowKit Go.Proofs.YtekneicikmaplaaW.PrintWords Go.Proofs.YtekneicikmaplaaW.PrintLast Go.Proofs.YtekneicikmaplaaW.PrintMore
/-- How many operations have not come up. -/
def missing (l : Array Bool) : Nat := l.toList.count false
theorem missing_set {l : Array Bool} {i : Nat} (h : l.getD i true = false) : missing (l.setIfInBounds i true) + 1 = missing l := by
  have hlt : i < l.size := by
    rcases Nat.lt_or_ge i l.size with h1 | h1
    · exact h1
    · simp [Array.getD, Nat.not_lt.2 h1] at h
  have hb : l[i] = false := by simpa [Array.getD, hlt] using h
  have hb' : l.toList[i]'(by simpa using hlt) = false := by simpa using hb
  unfold missing
  rw [Array.toList_setIfInBounds, List.count_set (by simpa using hlt), hb']
  have : 0 < l.toList.count false := List.count_pos_iff.2 (by rw [← hb']; exact List.getElem_mem _)
  simp only [show (false == false) = true from rfl, show (true == false) = false from rfl, if_true, Bool.false_eq_true, if_false]
  omega
section
variable {P : Program} {ops : Array Oper} {Q : Exit → Act → World → Prop} {md : Region.Mode} {S : World → Prop} {ds : List Nat}
/-- An invariant over what has come up: shown behind every operation that may come up, left where 'hstep' chooses its first way. -/
theorem inv_go (I : Array Bool → Act → World → Prop)
    (hstep : ∀ l a w, S w → I l a w → (∀ fuel, missing l ≤ fuel → wpAnyLast P md ops Q S ds fuel l a w) ∨ (Region.ready md ops l ≠ [] ∧ ∀ i ∈ Region.ready md ops l, wpOp P ops Q i (fun a' w' => S w' ∧ I (l.setIfInBounds i true) a' w') a w)) :
    ∀ fuel l a w, missing l ≤ fuel → S w → I l a w → wpAnyLast P md ops Q S ds fuel l a w
  | 0, l, a, w, hm, hs, hi => by
    rcases hstep l a w hs hi with h | ⟨h0, h1⟩
    · exact h 0 hm
    · obtain ⟨i, hi'⟩ := List.exists_mem_of_ne_nil _ h0
      have := missing_set (mem_ready.1 hi').1
      omega
  | fuel + 1, l, a, w, hm, hs, hi => by
    rcases hstep l a w hs hi with h | ⟨h0, h1⟩
    · exact h _ hm
    · exact ⟨fun h => absurd h h0, fun i hi' => wpOp_mono (fun a' w' h => ⟨fun _ _ => h.1, inv_go I hstep fuel _ a' w' (by have := missing_set (mem_ready.1 hi').1; omega) h.1 h.2⟩) (h1 i hi')⟩
theorem inv_ {fuel : Nat} {l0 : Array Bool} {A0 : Act} {w0 : World} (I : Act → World → Array Bool → Act → World → Prop) (hm : missing l0 ≤ fuel) (hs : S w0) (hi : I A0 w0 l0 A0 w0)
    (hstep : ∀ l a w, S w → I A0 w0 l a w → (∀ fuel, missing l ≤ fuel → wpAnyLast P md ops Q S ds fuel l a w) ∨ (Region.ready md ops l ≠ [] ∧ ∀ i ∈ Region.ready md ops l, wpOp P ops Q i (fun a' w' => S w' ∧ I A0 w0 (l.setIfInBounds i true) a' w') a w)) :
    wpAnyLast P md ops Q S ds fuel l0 A0 w0 := inv_go (I A0 w0) hstep fuel l0 A0 w0 hm hs hi
theorem ready_ne {l : Array Bool} {i : Nat} (h : i ∈ Region.ready md ops l) : Region.ready md ops l ≠ [] := fun e => by rw [e] at h; cases h
end
theorem R_tight {w : World} {base : Nat} {ok : Nat → Prop} {v : Value} {l : List Int} (h : Kd.R (Kd.int .i64) 3 w base ok v l) : Kd.R (Kd.int .i64) 3 w base (fun k => v.ownBlock = some k) v l := by
  obtain ⟨_, inner, ho, hr⟩ := h
  exact ⟨fun k hk => hk, inner, ho, hr.imp_ (fun _ _ hp => hp)⟩
/-- Each row of D is the call's own, none is another's. -/
def Own (w : World) (lo : Nat) (D : Nat → Option (Value × List Int)) : Prop :=
  (∀ i v l, D i = some (v, l) → Kd.R (Kd.int .i64) 3 w lo (fun _ => True) v l) ∧ ∀ i j v l v' l', i ≠ j → D i = some (v, l) → D j = some (v', l') → NeRow v v'
theorem NeRow.symm {v v' : Value} (h : NeRow v v') : NeRow v' v := fun k hk hk' => h k hk' hk
theorem Own.nil (w : World) (lo : Nat) : Own w lo (fun _ => none) := ⟨fun i v l h => (by cases h), fun i j v l v' l' _ h => (by cases h)⟩
theorem Own.congr {w : World} {lo : Nat} {D D' : Nat → Option (Value × List Int)} (h : Own w lo D) (e : ∀ i, D' i = D i) : Own w lo D' := by
  obtain rfl : D' = D := funext e
  exact h
theorem R_keep {w w1 : World} {lo : Nat} {ok : Nat → Prop} {v : Value} {l : List Int} (h : Kd.R (Kd.int .i64) 3 w lo ok v l) {row : Option Nat} (hg : w.grownBy w1 row) (hne : ∀ k, v.ownBlock = some k → some k ≠ row) : Kd.R (Kd.int .i64) 3 w1 lo (fun _ => True) v l :=
  Kd.R_mono (Kd.R_grown (R_tight h) hg hne) (fun _ _ => trivial)
theorem Own.keep {w w1 : World} {lo : Nat} {D : Nat → Option (Value × List Int)} (h : Own w lo D) (hg : w.grownBy w1 none) : Own w1 lo D :=
  ⟨fun i v l e => R_keep (h.1 i v l e) hg (fun k hk => by simp), h.2⟩
theorem Own.below {w w1 : World} {lo : Nat} {D : Nat → Option (Value × List Int)} (h : Own w lo D) (hb : Below w.heap.size w w1) : Own w1 lo D := h.keep (grown_of_below hb none)
theorem Own.add {w w1 : World} {lo : Nat} {D D' : Nat → Option (Value × List Int)} (h : Own w lo D) (hg : w.grownBy w1 none) (i : Nat) {v : Value} {l : List Int} (hv : Kd.R (Kd.int .i64) 3 w1 lo (fun _ => True) v l) (hnew : ∀ k, v.ownBlock = some k → w.heap.size ≤ k)
    (hi : D' i = some (v, l)) (hD : ∀ j, j ≠ i → D' j = D j) : Own w1 lo D' := by
  refine ⟨fun j v' l' e => ?_, fun j j' v1 l1 v2 l2 hne e1 e2 => ?_⟩
  · by_cases hj : j = i
    · subst hj; rw [hi] at e; cases e; exact hv
    · rw [hD j hj] at e; exact R_keep (h.1 j _ _ e) hg (fun k hk => by simp)
  · by_cases hj : j = i
    · subst hj
      rw [hi] at e1; cases e1
      rw [hD j' (Ne.symm hne)] at e2
      exact fun k hk hk' => by have := hnew k hk; have := Kd.R_lt (h.1 j' _ _ e2) k hk'; omega
    · rw [hD j hj] at e1
      by_cases hj' : j' = i
      · subst hj'
        rw [hi] at e2; cases e2
        exact fun k hk hk' => by have := hnew k hk'; have := Kd.R_lt (h.1 j _ _ e1) k hk; omega
      · rw [hD j' hj'] at e2; exact h.2 j j' _ _ _ _ hne e1 e2
theorem Own.app {w w1 : World} {lo : Nat} {D D' : Nat → Option (Value × List Int)} (h : Own w lo D) (i : Nat) {v0 v : Value} {l0 l : List Int} (h0 : D i = some (v0, l0)) (hg : w.grownBy w1 v0.ownBlock) (hv : Kd.R (Kd.int .i64) 3 w1 lo (fun _ => True) v l)
    (hat : v.ownBlock = v0.ownBlock ∨ ∃ b, v.ownBlock = some b ∧ w.heap.size ≤ b) (hi : D' i = some (v, l)) (hD : ∀ j, j ≠ i → D' j = D j) : Own w1 lo D' := by
  have far : ∀ j v' l', j ≠ i → D j = some (v', l') → NeRow v v' := fun j v' l' hj e k hk hk' => by
    rcases hat with ha | ⟨b, hb, hs⟩
    · exact h.2 i j _ _ _ _ (Ne.symm hj) h0 e k (by rw [← ha]; exact hk) hk'
    · rw [hb] at hk; cases hk; have := Kd.R_lt (h.1 j _ _ e) k hk'; omega
  refine ⟨fun j v' l' e => ?_, fun j j' v1 l1 v2 l2 hne e1 e2 => ?_⟩
  · by_cases hj : j = i
    · subst hj; rw [hi] at e; cases e; exact hv
    · rw [hD j hj] at e; exact R_keep (h.1 j _ _ e) hg (fun k hk hk' => h.2 j i _ _ _ _ hj e h0 k hk hk'.symm)
  · by_cases hj : j = i
    · subst hj
      rw [hi] at e1; cases e1
      rw [hD j' (Ne.symm hne)] at e2
      exact far j' _ _ (Ne.symm hne) e2
    · rw [hD j hj] at e1
      by_cases hj' : j' = i
      · subst hj'
        rw [hi] at e2; cases e2
        exact NeRow.symm (far j _ _ hj e1)
      · rw [hD j' hj'] at e2; exact h.2 j j' _ _ _ _ hne e1 e2
theorem Own.row {w : World} {lo : Nat} {D : Nat → Option (Value × List Int)} (h : Own w lo D) {g t : Nat} {cells : Array Value} (hb : w.heap[g]? = some (.cells cells t (0, 0))) (ht : 3 ≠ t) (cs : Array Value) : Own (w.setRow g cs) lo D :=
  ⟨fun i v l e => Row.row_R rfl (h.1 i v l e) hb (fun q hq => by simp [Kd.int, Kd.scalar] at hq; subst hq; exact ht), h.2⟩
theorem Own.set {w : World} {lo : Nat} {D : Nat → Option (Value × List Int)} (h : Own w lo D) {g t : Nat} {cells : Array Value} (hb : w.heap[g]? = some (.cells cells t (0, 0))) (ht : 3 ≠ t) (j : Nat) (u : Value) : Own (w.setCell ⟨g, j, none⟩ u) lo D :=
  ⟨fun i v l e => Kd.R_set (h.1 i v l e) hb (fun q hq => by simp [Kd.int, Kd.scalar] at hq; subst hq; exact ht) j u, h.2⟩
/-- Eight rows, each of D or nil: a book of the call's own. -/
theorem Own.bk {w : World} {lo : Nat} {D : Nat → Option (Value × List Int)} (h : Own w lo D) {V : Nat → Value} {L : Nat → List Int} (hD : ∀ i, i < 8 → D i = some (V i, L i) ∨ (V i = .slice none 0 0 ∧ L i = [])) :
    BkO w lo w.heap.size (fun i => aOf (V i)) (fun i => cOf (V i)) L := by
  refine VO.sl ⟨fun i hi => ?_, fun i j hi hj hne => ?_⟩
  · rcases hD i hi with e | ⟨e, e'⟩
    · have hr := h.1 i _ _ e
      obtain ⟨A, c, hv⟩ := Kd.R_slice hr
      refine ⟨A, c, hv, ?_⟩
      rw [hv] at hr
      exact Kd.R_mono (Kd.R_bound hr) (fun k hk => ⟨hk.2.1, hk.2.2.1⟩)
    · exact ⟨none, 0, by rw [e, e']; rfl, by rw [e']; exact Kd.R_nil _ _ _ _ _⟩
  · rcases hD i hi with e | ⟨e, e'⟩
    · rcases hD j hj with f | ⟨f, f'⟩
      · exact h.2 i j _ _ _ _ hne e f
      · rw [f]; exact fun k hk hk' => by simp [Value.ownBlock] at hk'
    · rw [e]; exact fun k hk => by simp [Value.ownBlock] at hk
theorem Own.slice {w : World} {lo : Nat} {D : Nat → Option (Value × List Int)} (h : Own w lo D) {i : Nat} {v : Value} {l : List Int} (e : D i = some (v, l)) : v = .slice (aOf v) l.length (cOf v) := by
  obtain ⟨A, c, rfl⟩ := Kd.R_slice (h.1 i v l e)
  rfl
/-- Four rows at 0, 5, 6, 7. -/
def four8 (o0 o1 o2 o3 : Option (Value × List Int)) : Nat → Option (Value × List Int)
  | 0 => o0
  | 5 => o1
  | 6 => o2
  | 7 => o3
  | _ => none
theorem four8_ne0 {o0 o1 o2 o3 o : Option (Value × List Int)} : ∀ j, j ≠ 0 → four8 o o1 o2 o3 j = four8 o0 o1 o2 o3 j := fun j hj => by unfold four8; split <;> first | rfl | exact absurd rfl hj
theorem four8_ne5 {o0 o1 o2 o3 o : Option (Value × List Int)} : ∀ j, j ≠ 5 → four8 o0 o o2 o3 j = four8 o0 o1 o2 o3 j := fun j hj => by unfold four8; split <;> first | rfl | exact absurd rfl hj
theorem four8_ne6 {o0 o1 o2 o3 o : Option (Value × List Int)} : ∀ j, j ≠ 6 → four8 o0 o1 o o3 j = four8 o0 o1 o2 o3 j := fun j hj => by unfold four8; split <;> first | rfl | exact absurd rfl hj
theorem four8_ne7 {o0 o1 o2 o3 o : Option (Value × List Int)} : ∀ j, j ≠ 7 → four8 o0 o1 o2 o j = four8 o0 o1 o2 o3 j := fun j hj => by unfold four8; split <;> first | rfl | exact absurd rfl hj
end Go.Proofs.Ytekneicikmaplaa.Bk
namespace Go.Proofs.Ytekneicikmaplaa.Bk
open Go.RowKit Go.Proofs.YtekneicikmaplaaW.PrintWords Go.Proofs.YtekneicikmaplaaW.PrintLast Go.Proofs.YtekneicikmaplaaW.PrintMore
theorem ready_lt {md : Region.Mode} {ops : Array Oper} {l : Array Bool} {i : Nat} (h : i ∈ Region.ready md ops l) : i < l.size := by
  have h1 := (mem_ready.1 h).1
  rcases Nat.lt_or_ge i l.size with h2 | h2
  · exact h2
  · simp [Array.getD, Nat.not_lt.2 h2] at h1
def depB (md : Region.Mode) (ops : Array Oper) (i j : Nat) : Bool := match ops[i]? with
  | some o => o.after.any fun e => Region.binds md e && e.on == j
  | none => false
theorem dep_ {md : Region.Mode} {ops : Array Oper} {l : Array Bool} {i j : Nat} (h : i ∈ Region.ready md ops l) (hj : depB md ops i j = true) : l.getD j false = true := by
  obtain ⟨_, o, ho, hd⟩ := mem_ready.1 h
  unfold depB at hj
  rw [ho] at hj
  obtain ⟨e, he, hb⟩ := Array.any_eq_true'.1 hj
  simp only [Bool.and_eq_true, beq_iff_eq] at hb
  rw [← hb.2]
  exact hd e he hb.1
theorem ready_mem {md : Region.Mode} {ops : Array Oper} {l : Array Bool} {i : Nat} {o : Oper} (h0 : l.getD i true = false) (ho : ops[i]? = some o) (hd : (o.after.all fun e => !Region.binds md e || l.getD e.on false) = true) : i ∈ Region.ready md ops l := by
  refine mem_ready.2 ⟨h0, o, ho, fun e he hb => ?_⟩
  have := Array.all_eq_true_iff_forall_mem.1 hd e he
  simpa [hb] using this
theorem R_ne_blk {w : World} {lo : Nat} {ok : Nat → Prop} {v : Value} {l : List Int} (h : Kd.R (Kd.int .i64) 3 w lo ok v l) {g t : Nat} {cells : Array Value} (hb : w.heap[g]? = some (.cells cells t (0, 0))) (ht : 3 ≠ t) : some g ≠ v.ownBlock := by
  intro e
  obtain ⟨_, _, _, q, hq, cs, hc⟩ := (Kd.R_bound h).1 g e.symm
  simp [Kd.int, Kd.scalar] at hq
  subst hq
  rw [hb] at hc
  cases hc
  exact ht rfl
end Go.Proofs.Ytekneicikmaplaa.Bk
namespace Go.Proofs.Ytekneicikmaplaa.Bk
open Go.RowKit Go.Proofs.YtekneicikmaplaaW.PrintWords Go.Proofs.YtekneicikmaplaaW.PrintLast Go.Proofs.YtekneicikmaplaaW.PrintMore
def vals8 (v0 v5 v6 v7 : Value) : Nat → Value
  | 0 => v0
  | 5 => v5
  | 6 => v6
  | 7 => v7
  | _ => .slice none 0 0
abbrev bkV (s : Int) (V : Nat → Value) : Array Value := #[.int .i64 s, V 0, V 1, V 2, V 3, V 4, V 5, V 6, V 7]
def copyD (V : Nat → Value) (L : Nat → List Int) (k i : Nat) : Option (Value × List Int) := if i < 8 ∧ (i = 0 ∨ 5 ≤ i ∨ i ≤ k) then some (V i, L i) else none
theorem bkV_set (s : Int) (V : Nat → Value) (k : Nat) (v : Value) (hk : k < 4) : (bkV s V).setIfInBounds (2 + k) v = bkV s (fun i => if i = k + 1 then v else V i) := by
  match k, hk with
  | 0, _ => rfl
  | 1, _ => rfl
  | 2, _ => rfl
  | 3, _ => rfl
theorem bkV_at (s : Int) (V : Nat → Value) (k : Nat) (hk : k < 4) : (bkV s V)[2 + k]? = some (V (k + 1)) := by
  match k, hk with
  | 0, _ => rfl
  | 1, _ => rfl
  | 2, _ => rfl
  | 3, _ => rfl
theorem copyD_new {V : Nat → Value} {L : Nat → List Int} {k : Nat} {v : Value} (hk : k < 4) : copyD (fun i => if i = k + 1 then v else V i) L (k + 1) (k + 1) = some (v, L (k + 1)) := by
  unfold copyD
  rw [if_pos ⟨by omega, by omega⟩]
  simp
theorem copyD_all {V : Nat → Value} {L : Nat → List Int} {i : Nat} (hi : i < 8) : copyD V L 4 i = some (V i, L i) := by
  unfold copyD
  rw [if_pos ⟨hi, by omega⟩]
theorem copyD_four {v0 v5 v6 v7 : Value} {L : Nat → List Int} : ∀ i, copyD (vals8 v0 v5 v6 v7) L 0 i = four8 (some (v0, L 0)) (some (v5, L 5)) (some (v6, L 6)) (some (v7, L 7)) i
  | 0 => rfl
  | 1 => rfl
  | 2 => rfl
  | 3 => rfl
  | 4 => rfl
  | 5 => rfl
  | 6 => rfl
  | 7 => rfl
  | i + 8 => by
    unfold copyD
    rw [if_neg (by omega)]
    rfl
theorem Own.bkV {w : World} {lo : Nat} {V : Nat → Value} {L : Nat → List Int} (h : Own w lo (copyD V L 4)) (s : Int) : bkV s V = bkCells s (fun i => aOf (V i)) (fun i => cOf (V i)) L := by
  have e := fun i (hi : i < 8) => h.slice (copyD_all (V := V) (L := L) hi)
  show #[.int .i64 s, V 0, V 1, V 2, V 3, V 4, V 5, V 6, V 7] = #[.int .i64 s, .slice (aOf (V 0)) (L 0).length (cOf (V 0)), .slice (aOf (V 1)) (L 1).length (cOf (V 1)), .slice (aOf (V 2)) (L 2).length (cOf (V 2)), .slice (aOf (V 3)) (L 3).length (cOf (V 3)), .slice (aOf (V 4)) (L 4).length (cOf (V 4)), .slice (aOf (V 5)) (L 5).length (cOf (V 5)), .slice (aOf (V 6)) (L 6).length (cOf (V 6)), .slice (aOf (V 7)) (L 7).length (cOf (V 7))]
  rw [← e 0 (by omega), ← e 1 (by omega), ← e 2 (by omega), ← e 3 (by omega), ← e 4 (by omega), ← e 5 (by omega), ← e 6 (by omega), ← e 7 (by omega)]
theorem bkCells_at (s : Int) (A : Nat → Option Addr) (c : Nat → Nat) (L : Nat → List Int) (k : Nat) (hk : k < 4) : (bkCells s A c L)[2 + k]? = some (.slice (A (k + 1)) (L (k + 1)).length (c (k + 1))) := by
  match k, hk with
  | 0, _ => rfl
  | 1, _ => rfl
  | 2, _ => rfl
  | 3, _ => rfl
end Go.Proofs.Ytekneicikmaplaa.Bk
namespace Go.Proofs.Ytekneicikmaplaa.Bk
open Go.RowKit Go.Proofs.YtekneicikmaplaaW.PrintWords Go.Proofs.YtekneicikmaplaaW.PrintLast Go.Proofs.YtekneicikmaplaaW.PrintMore
/-- How many numbers stand in the rows ahead of row i. -/
def off (L : Nat → List Int) : Nat → Nat
  | 0 => 0
  | i + 1 => off L i + (L i).length
theorem off_same {L L' : Nat → List Int} (h : ∀ i, (L' i).length = (L i).length) (i : Nat) : off L' i = off L i := by
  induction i with
  | zero => rfl
  | succ i ih =>
    have h1 : off L' (i + 1) = off L' i + (L' i).length := rfl
    have h2 : off L (i + 1) = off L i + (L i).length := rfl
    rw [h1, h2, ih, h]
def MarkR (b : Int) (L0 L : Nat → List Int) (i : Nat) : Prop := ∀ j, j < (L i).length → (L i).getD j 0 = b + (off L0 i : Nat) + (j : Nat)
/-- Row i gets its marks: what comes of the book. -/
theorem BkO.mark {w w1 : World} {lo hi : Nat} {A : Nat → Option Addr} {c : Nat → Nat} {L : Nat → List Int} (h : BkO w lo hi A c L) (i : Nat) (hi8 : i < 8) {l : List Int} (hl : l.length = (L i).length) (hs : SlO w1 lo hi (A i) (c i) l) (hk : KeepV (.slice (A i) (L i).length (c i)) w w1) : BkO w1 lo hi A c (upd L i l) := VO.upd h i hi8 l hl hs hk
theorem VO.s {w : World} {lo hi : Nat} {L : Nat → List Int} {n : Nat} {A : Nat → Option Addr} {c : Nat → Nat} (h : VO w lo hi L n (slV A c L)) (i : Nat) (hi' : i < n) : SlO w lo hi (A i) (c i) (L i) := by
  obtain ⟨A', c', e, ho⟩ := h.1 i hi'
  simp only [slV, Value.slice.injEq, true_and] at e
  obtain ⟨rfl, rfl⟩ := e
  exact ho
theorem upd_at (L : Nat → List Int) (i : Nat) (l : List Int) : upd L i l i = l := by simp [upd]
theorem upd_ne (L : Nat → List Int) (i x : Nat) (l : List Int) (h : x ≠ i) : upd L i l x = L x := by simp [upd, h]
theorem Keep.blk {lo hi g : Nat} {w w1 : World} {o : Obj} (h : Keep lo hi w w1) (hg : w.heap[g]? = some o) (hn : ¬ (lo ≤ g ∧ g < hi)) : w1.heap[g]? = some o := (h.block g (blk_lt hg) hn).trans hg
end Go.Proofs.Ytekneicikmaplaa.Bk
namespace Go.Proofs.Ytekneicikmaplaa.Bk
open Go.RowKit Go.Proofs.YtekneicikmaplaaW.PrintWords Go.Proofs.YtekneicikmaplaaW.PrintLast Go.Proofs.YtekneicikmaplaaW.PrintMore
def BoV (V : Nat → Value) (L : Nat → List Int) (w : World) : Prop := (∀ i, i < 8 → IR w (V i) (L i)) ∧ ∀ i j, i < 8 → j < 8 → i ≠ j → ∀ k, (V i).ownBlock = some k → (V j).ownBlock ≠ some k
def ownV (V : Nat → Value) (k : Nat) : Prop := ∃ i, i < 8 ∧ (V i).ownBlock = some k
abbrev Rb (V : Nat → Value) (L : Nat → List Int) : Rx := ⟨ownV V, BoV V L⟩
theorem Rb.stable (V : Nat → Value) (L : Nat → List Int) : (Rb V L).Stable := fun w w' h _ hk => ⟨fun i hi => (h.1 i hi).move (fun k e => hk k ⟨i, hi, e⟩), h.2⟩
theorem BoV.lt {V : Nat → Value} {L : Nat → List Int} {w : World} (h : BoV V L w) {k : Nat} (hk : ownV V k) : k < w.heap.size := by
  obtain ⟨i, hi, e⟩ := hk
  exact (h.1 i hi).lt e
theorem BoV.form {V : Nat → Value} {L : Nat → List Int} {w : World} (h : BoV V L w) {i : Nat} (hi : i < 8) : V i = .slice (aOf (V i)) (L i).length (cOf (V i)) := by
  obtain ⟨A, c, e⟩ := (h.1 i hi).form
  rw [e]; rfl
theorem BoV.bkC {V : Nat → Value} {L : Nat → List Int} {w : World} (h : BoV V L w) : BkC w (fun i => aOf (V i)) (fun i => cOf (V i)) L := fun i hi => by
  have := h.1 i hi
  rw [h.form hi] at this
  exact this.slC
theorem BoV.cells {V : Nat → Value} {L : Nat → List Int} {w : World} (h : BoV V L w) (s : Int) : bkV s V = bkCells s (fun i => aOf (V i)) (fun i => cOf (V i)) L := by
  show (#[.int .i64 s, V 0, V 1, V 2, V 3, V 4, V 5, V 6, V 7] : Array Value) = _
  rw [h.form (i := 0) (by omega), h.form (i := 1) (by omega), h.form (i := 2) (by omega), h.form (i := 3) (by omega), h.form (i := 4) (by omega), h.form (i := 5) (by omega), h.form (i := 6) (by omega), h.form (i := 7) (by omega)]
def updV (V : Nat → Value) (i : Nat) (v : Value) : Nat → Value := fun x => if x = i then v else V x
theorem updV_at (V : Nat → Value) (i : Nat) (v : Value) : updV V i v i = v := by simp [updV]
theorem updV_ne (V : Nat → Value) (i x : Nat) (v : Value) (h : x ≠ i) : updV V i v x = V x := by simp [updV, h]
/-- One row is another one now, or as it was but for what it holds. -/
theorem BoV.row {V : Nat → Value} {L : Nat → List Int} {w w' : World} (h : BoV V L w) {i : Nat} (hi : i < 8) {v' : Value} {l' : List Int} (hv : IR w' v' l') (hf : Fr (fun k => (V i).ownBlock = some k) w w')
    (ho : ∀ k, v'.ownBlock = some k → (V i).ownBlock = some k ∨ w.heap.size ≤ k) : BoV (updV V i v') (upd L i l') w' := by
  refine ⟨fun j hj => ?_, fun a b ha hb hab k e1 e2 => ?_⟩
  · by_cases e : j = i
    · rw [e, updV_at, upd_at]; exact hv
    · rw [updV_ne _ _ _ _ e, upd_ne _ _ _ _ e]
      exact (h.1 j hj).move (fun k hk => hf.block k ((h.1 j hj).lt hk) (fun q => h.2 j i hj hi e k hk q))
  · by_cases ea : a = i
    · rw [ea, updV_at] at e1
      have eb : b ≠ i := fun q => hab (ea.trans q.symm)
      rw [updV_ne _ _ _ _ eb] at e2
      rcases ho k e1 with q | q
      · exact h.2 i b hi hb (fun q => eb q.symm) k q e2
      · have := (h.1 b hb).lt e2; omega
    · rw [updV_ne _ _ _ _ ea] at e1
      by_cases eb : b = i
      · rw [eb, updV_at] at e2
        rcases ho k e2 with q | q
        · exact h.2 a i ha hi ea k e1 q
        · have := (h.1 a ha).lt e1; omega
      · rw [updV_ne _ _ _ _ eb] at e2
        exact h.2 a b ha hb hab k e1 e2
theorem updV_self (V : Nat → Value) (i : Nat) : updV V i (V i) = V := by
  funext x; unfold updV; split
  · rename_i e; rw [e]
  · rfl
namespace Sx
variable {ar : Nat → Prop} {w0 w w' : World} {rs : List Rx}
theorem row (h : Sx ar w0 w rs) (q : Nat) {V : Nat → Value} {L : Nat → List Int} (hq : rs[q]? = some (Rb V L)) {i : Nat} (hi : i < 8) {v' : Value} {l' : List Int} (hv : IR w' v' l') (hf : Fr (fun k => (V i).ownBlock = some k) w w')
    (ho : ∀ k, v'.ownBlock = some k → ((V i).ownBlock = some k ∨ w.heap.size ≤ k) ∧ k < w'.heap.size) {rs' : List Rx} (e : rs.set q (Rb (updV V i v') (upd L i l')) = rs') : Sx ar w0 w' rs' := by
  refine h.put q hq (hf.wide (fun k hk => ⟨i, hi, hk⟩)) ((h.get q hq).row hi hv hf (fun k hk => (ho k hk).1)) (Rb.stable _ _) (fun k hk => ?_) e
  obtain ⟨j, hj, e1⟩ := hk
  by_cases ej : j = i
  · rw [ej, updV_at] at e1
    exact ⟨(ho k e1).1.imp (fun q => ⟨i, hi, q⟩) (fun q => q), (ho k e1).2⟩
  · rw [updV_ne _ _ _ _ ej] at e1
    exact ⟨.inl ⟨j, hj, e1⟩, Nat.lt_of_lt_of_le (h.lt q hq k ⟨j, hj, e1⟩) hf.size⟩
/-- A number is stored into a row. -/
theorem rowSet (h : Sx ar w0 w rs) (q : Nat) {V : Nat → Value} {L : Nat → List Int} (hq : rs[q]? = some (Rb V L)) {i : Nat} (hi : i < 8) {g o cap : Nat} (hv : V i = .slice (some ⟨g, o, none⟩) (L i).length cap) (k : Nat) (hk : k < (L i).length) (n : Int)
    {rs' : List Rx} (e : rs.set q (Rb V (upd L i ((L i).set k n))) = rs') : Sx ar w0 (w.setCell ⟨g, o + k, none⟩ (.int .i64 n)) rs' := by
  have hI := (h.get q hq).1 i hi
  rw [hv] at hI
  have hs := hI.set k hk n
  refine h.row q hq hi (v' := V i) (l' := (L i).set k n) (by rw [hv]; exact hs) (Fr.setCell w g _ _ (by rw [hv]; rfl)) (fun j hj => ⟨.inl hj, ?_⟩) (by rw [updV_self]; exact e)
  have := h.lt q hq j ⟨i, hi, hj⟩
  simpa using this
/-- A row's cell, as it is read. -/
theorem rowAt (h : Sx ar w0 w rs) (q : Nat) {V : Nat → Value} {L : Nat → List Int} (hq : rs[q]? = some (Rb V L)) {i : Nat} (hi : i < 8) (k : Nat) (hk : k < (L i).length) :
    ∃ g o cap, V i = .slice (some ⟨g, o, none⟩) (L i).length cap ∧ w.cell? ⟨g, o + k, none⟩ = some (.int .i64 ((L i).getD k 0)) ∧ w.frozen? ⟨g, o + k, none⟩ = false := ((h.get q hq).1 i hi).at k hk
end Sx
/-- A book that the kit knows (new rows from lo on). -/
theorem BoV.of_VO {w : World} {lo hi : Nat} {L : Nat → List Int} {V : Nat → Value} (h : VO w lo hi L 8 V) : BoV V L w ∧ ∀ k, ownV V k → lo ≤ k ∧ k < hi := by
  refine ⟨⟨fun i hi => ?_, fun i j hi hj hij k e1 e2 => h.2 i j hi hj hij k e1 e2⟩, fun k hk => ?_⟩
  · obtain ⟨A, c, e, ho⟩ := h.1 i hi
    rw [e]; exact IR.of_R ho
  · obtain ⟨i, hi, e1⟩ := hk
    obtain ⟨A, c, e, ho⟩ := h.1 i hi
    rw [e] at e1
    exact ho.lt k e1
end Go.Proofs.Ytekneicikmaplaa.Bk
namespace Go.Proofs.Ytekneicikmaplaa.Bk
open Go.RowKit Go.Proofs.YtekneicikmaplaaW.PrintWords Go.Proofs.YtekneicikmaplaaW.PrintLast Go.Proofs.YtekneicikmaplaaW.PrintMore
abbrev Rl (v : Value) (l : List Int) : Rx := ⟨fun k => v.ownBlock = some k, fun w => IR w v l⟩
theorem Rl.stable (v : Value) (l : List Int) : (Rl v l).Stable := fun w w' h _ hk => h.move (fun k e => hk k e)
/-- The first resource, a row, becomes row i of the book. -/
theorem Sx.adopt {ar : Nat → Prop} {w0 w : World} {rs : List Rx} {v : Value} {l : List Int} (h : Sx ar w0 w (Rl v l :: rs)) (q : Nat) {V : Nat → Value} {L : Nat → List Int} (hq : rs[q]? = some (Rb V L)) {i : Nat} (hi : i < 8)
    {rs' : List Rx} (e : rs.set q (Rb (updV V i v) (upd L i l)) = rs') : Sx ar w0 w rs' := by
  subst e
  have h0 := h.has (Rl v l) List.mem_cons_self
  have hB := h.has (Rb V L) (List.mem_cons_of_mem _ (List.mem_of_getElem? hq))
  have hap : ∀ k, v.ownBlock = some k → ¬ ownV V k := fun k hk => (List.pairwise_cons.1 h.apart).1 (Rb V L) (List.mem_of_getElem? hq) k hk
  have hown : ∀ k, ownV (updV V i v) k → v.ownBlock = some k ∨ ownV V k := fun k hk => by
    obtain ⟨j, hj, e1⟩ := hk
    by_cases ej : j = i
    · rw [ej, updV_at] at e1; exact .inl e1
    · rw [updV_ne _ _ _ _ ej] at e1; exact .inr ⟨j, hj, e1⟩
  have hP : BoV (updV V i v) (upd L i l) w := by
    refine ⟨fun j hj => ?_, fun a b ha hb hab k e1 e2 => ?_⟩
    · by_cases ej : j = i
      · rw [ej, updV_at, upd_at]; exact h0.1
      · rw [updV_ne _ _ _ _ ej, upd_ne _ _ _ _ ej]; exact hB.1.1 j hj
    · by_cases ea : a = i
      · have eb : b ≠ i := fun q => hab (ea.trans q.symm)
        rw [ea, updV_at] at e1
        rw [updV_ne _ _ _ _ eb] at e2
        exact hap k e1 ⟨b, hb, e2⟩
      · rw [updV_ne _ _ _ _ ea] at e1
        by_cases eb : b = i
        · rw [eb, updV_at] at e2
          exact hap k e2 ⟨a, ha, e1⟩
        · rw [updV_ne _ _ _ _ eb] at e2
          exact hB.1.2 a b ha hb hab k e1 e2
  refine ⟨h.base, fun r hr => ?_, ?_⟩
  · rcases List.mem_or_eq_of_mem_set hr with hr | rfl
    · exact h.has r (List.mem_cons_of_mem _ hr)
    · exact ⟨hP, Rb.stable _ _, fun k hk => (hown k hk).elim (fun q => h0.2.2 k q) (fun q => hB.2.2 k q)⟩
  · refine Sx.pair_set' (List.pairwise_cons.1 h.apart).2 hq (fun x hx hR k hk1 hk2 => ?_) (fun x hx hR k hk1 hk2 => ?_)
    · rcases hown k hk1 with q | q
      · exact (List.pairwise_cons.1 h.apart).1 x hx k q hk2
      · exact hR k q hk2
    · rcases hown k hk2 with q | q
      · exact (List.pairwise_cons.1 h.apart).1 x hx k q hk1
      · exact hR k hk1 q
end Go.Proofs.Ytekneicikmaplaa.Bk
namespace Go.Proofs.Ytekneicikmaplaa.Bk
open Go.RowKit Go.Proofs.Ytekneicikmaplaa.PFnBookOf Go.Proofs.YtekneicikmaplaaW.PrintWords Go.Proofs.YtekneicikmaplaaW.PrintLast Go.Proofs.YtekneicikmaplaaW.PrintMore Go.Proofs.Ytekneicikmaplaa.Pl
/-- A code's bytes. -/
def bytes (s : List Int) : Prop := ∀ x ∈ s, 0 ≤ x ∧ x ≤ 255
theorem bytes_rd {s : List Int} (h : bytes s) {i : Int} (h0 : 0 ≤ i) (h1 : i < (s.length : Int)) : 0 ≤ rd s i ∧ rd s i ≤ 255 := h _ (rd_mem s h0 h1)
theorem open_ok (l : List Int) (hl : l.length ≤ 1048576) (hb : ∀ x ∈ l, (Lit.int .u8 x).wf = true) : ∃ s, spec_l20Open.f l = some (s, 0) ∧ bytes s ∧ s.length ≤ 2000 := by
  have hb' : bytes l := fun x hx => by have := hb x hx; simpa [Lit.wf, IntKind.min, IntKind.max, IntKind.bits, IntKind.signed] using this
  unfold spec_l20Open.f
  by_cases h : (l.length : Int) > 2000
  · rw [if_pos h, if_pos (by omega)]
    exact ⟨l.take 2000, rfl, fun x hx => hb' x (List.mem_of_mem_take hx), by rw [List.length_take]; omega⟩
  · rw [if_neg h]; exact ⟨l, rfl, hb', by omega⟩
theorem tmod_rng {x n : Int} (h0 : 0 ≤ x) (h1 : 1 ≤ n) : 0 ≤ Int.tmod x n ∧ Int.tmod x n < n := by
  rw [Int.tmod_eq_emod_of_nonneg h0]; exact ⟨Int.emod_nonneg _ (by omega), Int.emod_lt_of_pos _ (by omega)⟩
theorem pick_ok (s : List Int) (hb : bytes s) (hl : s.length ≤ 2000) {p n : Int} (p0 : 0 ≤ p) (p1 : p ≤ 1000000000) (n0 : 1 ≤ n) (k : Nat) (hk : 0 < k) :
    ∃ r, spec_l20Rd_pick.f k s p n = some (r, p + 1) ∧ 0 ≤ r ∧ r < n := by
  obtain ⟨k, rfl⟩ : ∃ m, k = m + 1 := ⟨k - 1, by omega⟩
  unfold spec_l20Rd_pick.f
  rw [if_neg (by omega), w64 (n := p + 1) (by omega) (by omega)]
  simp only [spec_l20Rd_pick.j0]
  by_cases e : (s.length : Int) = 0
  · rw [if_pos (by simpa using e)]; exact ⟨0, rfl, by omega, by omega⟩
  · rw [if_neg (by simpa using e), show p + 1 - 1 = p from by omega, w64 (n := p) (by omega) (by omega)]
    by_cases q : p < (s.length : Int)
    · rw [if_pos q, if_pos p0, if_neg (by omega)]
      obtain ⟨b0, b1⟩ := bytes_rd hb p0 q
      rw [w64 (n := rd s p) (by omega) (by omega)]
      exact ⟨_, rfl, tmod_rng b0 n0⟩
    · obtain ⟨u0, u1⟩ := tmod_rng (x := p) (n := (s.length : Int)) p0 (by omega)
      rw [if_neg q, if_neg e, if_pos u0, if_pos u1, w64 (n := p * 7) (by omega) (by omega), w64 (n := p * 7 + 3) (by omega) (by omega)]
      obtain ⟨v0, v1⟩ := tmod_rng (x := p * 7 + 3) (n := (s.length : Int)) (by omega) (by omega)
      rw [if_pos v0, if_pos v1, if_neg (by omega)]
      obtain ⟨b0, b1⟩ := bytes_rd hb u0 u1
      obtain ⟨c0, c1⟩ := bytes_rd hb v0 v1
      have d0 : 0 ≤ Int.tdiv p (s.length : Int) ∧ Int.tdiv p (s.length : Int) ≤ p := by
        rw [Int.tdiv_eq_ediv_of_nonneg p0]
        exact ⟨Int.ediv_nonneg p0 (by omega), Int.ediv_le_self _ p0⟩
      generalize rd s (Int.tmod p (s.length : Int)) = B at *
      generalize rd s (Int.tmod (p * 7 + 3) (s.length : Int)) = C at *
      generalize Int.tdiv p (s.length : Int) = Q at *
      rw [w64 (n := B) (by omega) (by omega), w64 (n := C) (by omega) (by omega), w64 (n := Q) (by omega) (by omega), w64 (n := B * 131) (by omega) (by omega), w64 (n := C * 1117) (by omega) (by omega), w64 (n := p * 29) (by omega) (by omega), w64 (n := Q * 53) (by omega) (by omega), w64 (n := B * 131 + C * 1117) (by omega) (by omega), w64 (n := B * 131 + C * 1117 + p * 29) (by omega) (by omega), w64 (n := B * 131 + C * 1117 + p * 29 + Q * 53) (by omega) (by omega)]
      have X0 : 0 ≤ B * 131 + C * 1117 + p * 29 + Q * 53 ∧ B * 131 + C * 1117 + p * 29 + Q * 53 < 1000000000000 := by omega
      generalize B * 131 + C * 1117 + p * 29 + Q * 53 = X at *
      have D0 : 0 ≤ Int.tdiv X 64 ∧ Int.tdiv X 64 ≤ X := by rw [Int.tdiv_eq_ediv_of_nonneg X0.1]; omega
      rw [w64 (n := Int.tdiv X 64) (by omega) (by omega)]
      obtain ⟨x0, _⟩ := bits_xor_i64 (x := X) (y := Int.tdiv X 64) (by omega) (by omega) (by omega) (by omega)
      exact ⟨_, rfl, tmod_rng x0 n0⟩
theorem num_ok (s : List Int) (hb : bytes s) (hl : s.length ≤ 2000) {p : Int} (p0 : 0 ≤ p) (p1 : p ≤ 1000000000) (l : List Int) (h : 0 < l.length) (k : Nat) (hk : 0 < k) :
    ∃ r, spec_l20Rd_num.f k s p l = some (r, p + 1) ∧ r ∈ l := by
  obtain ⟨i, e, i0, i1⟩ := pick_ok s hb hl p0 p1 (n := (l.length : Int)) (by omega) k hk
  unfold spec_l20Rd_num.f
  rw [e]
  simp only [Option.bind_some]
  rw [if_pos i0, if_pos i1]
  exact ⟨_, rfl, rd_mem l i0 i1⟩
abbrev Rr (w0 : World) (g : Nat) (bs : List Int) (p : Int) : Rx := ⟨fun k => k = g, fun w => IsS74 w0 w g bs p⟩
theorem Rr.stable (w0 : World) (g : Nat) (bs : List Int) (p : Int) : (Rr w0 g bs p).Stable := fun w w' h _ hk => by
  obtain ⟨A0, c0, hb, hg, hr⟩ := h
  exact ⟨A0, c0, (hk g rfl).trans hb, hg, hr⟩
theorem below_fr {own : Nat → Prop} {w0 w w' : World} (hB : Below w0.heap.size w0 w) (h : Fr own w w') (ho : ∀ k, own k → w0.heap.size ≤ k) : Below w0.heap.size w0 w' :=
  ⟨h.os.trans hB.os, h.tape.trans hB.tape, h.output.trans hB.output, Nat.le_trans hB.size h.size, fun k hk => (h.block k (Nat.lt_of_lt_of_le hk hB.size) (fun q => by have := ho k q; omega)).trans (hB.block k hk)⟩
theorem fr_of {w0 w w' : World} {g : Nat} (hB : Below w0.heap.size w0 w) (hB' : Below w0.heap.size w0 w') (hk : KeepBut w w' g none) : Fr (fun k => k = g) w w' :=
  ⟨hB'.os.trans hB.os.symm, hB'.tape.trans hB.tape.symm, hB'.output.trans hB.output.symm, hk.1, fun k hlt hn => hk.2 k hlt hn (by simp)⟩
/-- What a reader reads: bytes, no more than two thousand. -/
def BsOk (bs : List Int) : Prop := bytes bs ∧ bs.length ≤ 2000
/-- One number drawn: below n. -/
def PickR (w0 : World) (g : Nat) (bs : List Int) (p n : Int) (w : World) (e : Ending) (w' : World) : Prop := ∃ r : Int, e = .returned (.int .i64 r) ∧ 0 ≤ r ∧ r < n ∧ IsS74 w0 w' g bs (p + 1) ∧ Fr (fun k => k = g) w w'
theorem pickS {w0 w : World} {g : Nat} {bs : List Int} {p : Int} (hs : BsOk bs) (hI : IsS74 w0 w g bs p) (hB : Below w0.heap.size w0 w) (p0 : 0 ≤ p) (p1 : p ≤ 1000000000) (n : Int) (n0 : 1 ≤ n) :
    Calls Try.prog 65 #[.pointer (some ⟨g, 0, none⟩), .int .i64 n] w (PickR w0 g bs p n w) := by
  obtain ⟨r, e, r0, r1⟩ := pick_ok bs hs.1 hs.2 p0 p1 n0 1 (by omega)
  refine (spec_l20Rd_pick.calls 1 g bs p n r (p + 1) w0 w hI hB e).mono ?_
  rintro e w' ⟨rfl, h1, h2, h3⟩
  exact ⟨r, rfl, r0, r1, h1, fr_of hB h2 h3⟩
/-- One number drawn out of a list. -/
def NumR (w0 : World) (g : Nat) (bs : List Int) (p : Int) (l : List Int) (w : World) (e : Ending) (w' : World) : Prop := ∃ r : Int, e = .returned (.int .i64 r) ∧ r ∈ l ∧ IsS74 w0 w' g bs (p + 1) ∧ Fr (fun k => k = g) w w'
theorem numS {w0 w : World} {g : Nat} {bs : List Int} {p : Int} (hs : BsOk bs) (hI : IsS74 w0 w g bs p) (hB : Below w0.heap.size w0 w) (p0 : 0 ≤ p) (p1 : p ≤ 1000000000) (A : Option Addr) (c : Nat) (l : List Int) (hl : 0 < l.length) (hlc : l.length ≤ c)
    (hr : Kd.C (Kd.int .i64) w A l.length l) (hf : ∀ ad, A = some ad → 0 < l.length → ad.block ≠ g) :
    Calls Try.prog 89 #[.pointer (some ⟨g, 0, none⟩), .slice A l.length c] w (NumR w0 g bs p l w) := by
  obtain ⟨r, e, r1⟩ := num_ok bs hs.1 hs.2 p0 p1 l hl 1 (by omega)
  refine (spec_l20Rd_num.calls 1 g bs p A c l r (p + 1) w0 w hI hB hr hlc hf e).mono ?_
  rintro e w' ⟨rfl, h1, h2, h3⟩
  exact ⟨r, rfl, r1, h1, fr_of hB h2 h3⟩
theorem lit_C (w : World) (l : List Int) (hl : l.length ≤ 1000) : Kd.C (Kd.int .i64) (w.alloc (.cells ((l.map (Value.int .i64)).toArray) 3)) (some ⟨w.heap.size, 0, none⟩) l.length l := by
  have h := heap_alloc_new w (.cells ((l.map (Value.int .i64)).toArray) 3)
  have : IR (w.alloc (.cells ((l.map (Value.int .i64)).toArray) 3)) (.slice (some ⟨w.heap.size, 0, none⟩) l.length l.length) l := .inr ⟨w.heap.size, 0, l.length, _, rfl, h, Nat.le_refl _, by omega, by simp, fun j hj => by
    rw [show (l.map (Value.int .i64)).toArray[0 + j]? = (l.map (Value.int .i64))[j]? by rw [Nat.zero_add]; simp, List.getElem?_map, List.getElem?_eq_getElem hj]
    simp [List.getD, List.getElem?_eq_getElem hj]⟩
  exact this.slC.1
/-- A number drawn out of a literal that was just laid. -/
theorem numL {w0 w : World} {g : Nat} {bs : List Int} {p : Int} (hs : BsOk bs) (hI : IsS74 w0 w g bs p) (hB : Below w0.heap.size w0 w) (p0 : 0 ≤ p) (p1 : p ≤ 1000000000) (l : List Int) (hl : 0 < l.length) (hl2 : l.length ≤ 1000) :
    Calls Try.prog 89 #[.pointer (some ⟨g, 0, none⟩), .slice (some ⟨w.heap.size, 0, none⟩) l.length l.length] (w.alloc (.cells ((l.map (Value.int .i64)).toArray) 3)) (NumR w0 g bs p l w) := by
  have hb := below_alloc (Below.refl w.heap.size w) (.cells ((l.map (Value.int .i64)).toArray) 3)
  have hB' : Below w0.heap.size w0 (w.alloc (.cells ((l.map (Value.int .i64)).toArray) 3)) := below_fr hB (Fr.of_below (own := fun _ => False) hb) (fun _ q => q.elim)
  have hgl : g < w.heap.size := hI.lt
  refine (numS hs (hI.below hb) hB' p0 p1 (some ⟨w.heap.size, 0, none⟩) l.length l hl (Nat.le_refl _) (lit_C w l hl2) (fun ad e _ => by cases e; exact fun q => by have q : w.heap.size = g := q; omega)).mono ?_
  rintro e w' ⟨r, rfl, r1, h1, h2⟩
  exact ⟨r, rfl, r1, h1, (Fr.of_below (own := fun k => k = g) hb).trans h2 (fun j q => .inl q)⟩
theorem openS (w0 w : World) (hB : Below w0.heap.size w0 w) (A0 : Option Addr) (c0 : Nat) (l0 : List Int) (hr0 : Kd.C (Kd.int .u8) w0 A0 l0.length l0) (hc0 : l0.length ≤ c0) (hl : l0.length ≤ 1048576) (hb : ∀ x ∈ l0, (Lit.int .u8 x).wf = true) :
    Calls Try.prog 63 #[.slice A0 l0.length c0] w fun e w' => ∃ (g : Nat) (bs : List Int), e = .returned (.pointer (some ⟨g, 0, none⟩)) ∧ BsOk bs ∧ IsS74 w0 w' g bs 0 ∧ Below w.heap.size w w' := by
  obtain ⟨s, e, h1, h2⟩ := open_ok l0 hl hb
  refine (spec_l20Open.calls A0 c0 l0 s 0 w0 w hB hr0 hc0 e).mono ?_
  rintro e w' ⟨g, rfl, a1, a2, a3⟩
  exact ⟨g, s, rfl, ⟨h1, h2⟩, a1, a3⟩
theorem cfgS {w0 w : World} {g : Nat} {bs : List Int} {p : Int} (hs : BsOk bs) (hI : IsS74 w0 w g bs p) (hB : Below w0.heap.size w0 w) (p0 : 0 ≤ p) (p1 : p ≤ 1000000) :
    Calls Try.prog 88 #[.pointer (some ⟨g, 0, none⟩)] w fun e w' => ∃ a b c : Int, e = .returned (.agg #[.int .i64 a, .int .i64 b, .int .i64 c]) ∧ 1 ≤ a ∧ a ≤ 3 ∧ 1 ≤ b ∧ b ≤ 3 ∧ 1 ≤ c ∧ c ≤ 3 ∧ IsS74 w0 w' g bs (p + 3) ∧ Fr (fun k => k = g) w w' := by
  obtain ⟨a, e1, a0, a1⟩ := pick_ok bs hs.1 hs.2 p0 (by omega) (n := 3) (by omega) 1 (by omega)
  obtain ⟨b, e2, b0, b1⟩ := pick_ok bs hs.1 hs.2 (p := p + 1) (by omega) (by omega) (n := 3) (by omega) 1 (by omega)
  obtain ⟨c, e3, c0, c1⟩ := pick_ok bs hs.1 hs.2 (p := p + 1 + 1) (by omega) (by omega) (n := 3) (by omega) 1 (by omega)
  have hf : spec_l2Cfg.f 1 bs p = some (1 + a, 1 + b, 1 + c, p + 3) := by
    unfold spec_l2Cfg.f
    rw [e1]; simp only [Option.bind_some]
    rw [e2]; simp only [Option.bind_some]
    rw [e3]; simp only [Option.bind_some]
    rw [w64 (n := 1 + a) (by omega) (by omega), w64 (n := 1 + b) (by omega) (by omega), w64 (n := 1 + c) (by omega) (by omega), show p + 1 + 1 + 1 = p + 3 by omega]
  refine (spec_l2Cfg.calls 1 g bs p _ _ _ _ w0 w hI hB hf).mono ?_
  rintro e w' ⟨rfl, h1, h2, h3⟩
  exact ⟨_, _, _, rfl, by omega, by omega, by omega, by omega, by omega, by omega, h1, fr_of hB h2 h3⟩
end Go.Proofs.Ytekneicikmaplaa.Bk
namespace Go.Proofs.Ytekneicikmaplaa.Bk
open Go.RowKit Go.Proofs.YtekneicikmaplaaW.PrintWords Go.Proofs.YtekneicikmaplaaW.PrintLast Go.Proofs.YtekneicikmaplaaW.PrintMore
def kindN (s : Int) : Int := if s < 1 then -1 else if s > 4 then -1 else s - 1
theorem l3Kind_calls (s : Int) (w : World) : Calls Try.prog 66 #[.int .i64 s] w fun e w' => e = .returned (.int .i64 (kindN s)) ∧ w = w' := by
  by_cases h1 : s < 1
  · have HF : Aside0 (kindN s = -1) := ⟨if_pos h1⟩
    go_enter Try.func66, Try.ntmps66
    go_wp2
    go_ret
    exact ⟨by rw [HF.out]; rfl, rfl⟩
  · by_cases h2 : s > 4
    · have HF : Aside0 (kindN s = -1) := ⟨by unfold kindN; rw [if_neg h1, if_pos h2]⟩
      go_enter Try.func66, Try.ntmps66
      go_wp2
      go_ret
      exact ⟨by rw [HF.out]; rfl, rfl⟩
    · have HF : Aside0 (kindN s = s - 1) := ⟨by unfold kindN; rw [if_neg h1, if_neg h2]⟩
      go_enter Try.func66, Try.ntmps66
      go_wp2
      go_ret
      exact ⟨by rw [HF.out]; rfl, rfl⟩
def sizeN : Nat → Nat
  | 0 => 1
  | 1 => 2
  | 2 => 4
  | _ => 8
theorem l3Size_calls (k : Nat) (hk : k < 4) (w : World) : Calls Try.prog 67 #[.int .i64 (k : Int)] w fun e w' => e = .returned (.int .i64 (sizeN k : Nat)) ∧ Below w.heap.size w w' := by
  match k, hk with
  | 0, _ =>
    go_enter Try.func67, Try.ntmps67
    go_wp2
    go_ret
    exact ⟨rfl, below_alloc (Below.refl _ _) _⟩
  | 1, _ =>
    go_enter Try.func67, Try.ntmps67
    go_wp2
    go_ret
    exact ⟨rfl, below_alloc (Below.refl _ _) _⟩
  | 2, _ =>
    go_enter Try.func67, Try.ntmps67
    go_wp2
    go_ret
    exact ⟨rfl, below_alloc (Below.refl _ _) _⟩
  | 3, _ =>
    go_enter Try.func67, Try.ntmps67
    go_wp2
    go_ret
    exact ⟨rfl, below_alloc (Below.refl _ _) _⟩
def cnt (l : List Int) (x : Int) : Nat := l.count x
theorem cnt_succ (l : List Int) (x : Int) (k : Nat) (hk : k < l.length) : cnt (l.take (k + 1)) x = cnt (l.take k) x + (if l.getD k 0 = x then 1 else 0) := by
  unfold cnt
  rw [List.take_succ_eq_append_getElem hk, List.count_append, List.count_singleton]
  have : l.getD k 0 = l[k] := by simp [List.getD, List.getElem?_eq_getElem hk]
  rw [this]
  congr 1
  by_cases e : l[k] = x <;> simp [e]
theorem cnt_le (l : List Int) (x : Int) : cnt l x ≤ l.length := List.count_le_length
set_option maxRecDepth 100000 in
theorem l3In_calls (A : Option Addr) (c : Nat) (l : List Int) (x : Int) (w : World) (h : SlC w A c l) (hl : l.length ≤ 35184372088832) :
    Calls Try.prog 90 #[.slice A l.length c, .int .i64 x] w fun e w' => e = .returned (.int .i64 (cnt l x : Nat)) ∧ w = w' := by
  have HR := Aside0.mk h
  have HLn := Aside0.mk hl
  clear h
  go_enter Try.func90, Try.ntmps90
  go_wp2
  go_loopg [5, 6] (l.length + 1) (fun kq v5 v6 w' => ∃ k n : Nat, k ≤ l.length ∧ kq = l.length + 1 - k ∧ n ≤ k ∧ v5 = .int .i64 n ∧ v6 = .int .i64 k ∧ Aside0 (n = cnt (l.take k) x) ∧ w = w')
  case atStart => exact ⟨0, 0, by omega, by omega, by omega, rfl, rfl, ⟨by simp [cnt]⟩, rfl⟩
  case round =>
    obtain ⟨k, n, hk, rfl, hnk, rfl, rfl, HN, rfl⟩ := hrel
    by_cases hlt : k < l.length
    · obtain ⟨ad, rfl, hc⟩ := at_nat HR.out k hlt
      have hi : (k : Int) < (l.length : Int) := by omega
      have HS := Aside0.mk (cnt_succ l x k hlt)
      generalize hv : l.getD k 0 = v at hc
      rw [hv] at HS
      clear hv
      by_cases e : v = x
      · subst e
        have HS2 : Aside0 (n + 1 = cnt (l.take (k + 1)) v) := ⟨by rw [HS.out, HN.out]; simp⟩
        go_wp2
        go_roundg (l.length + 1 - (k + 1))
        case measure => omega
        case rel => exact ⟨k + 1, n + 1, by omega, rfl, by omega, by go_num, by go_num, HS2, rfl⟩
      · have HS2 : Aside0 (n = cnt (l.take (k + 1)) x) := ⟨by rw [HS.out, HN.out, if_neg e]; rfl⟩
        have hb : (v == x) = false := beq_eq_false_iff_ne.mpr e
        clear e
        go_wp2
        go_roundg (l.length + 1 - (k + 1))
        case measure => omega
        case rel => exact ⟨k + 1, n, by omega, rfl, by omega, rfl, by go_num, HS2, rfl⟩
    · have hkl : k = l.length := by omega
      have HZ : Aside0 (cnt l x = n) := ⟨by rw [HN.out, hkl, List.take_length]⟩
      go_wp2
      go_ret
      exact ⟨by rw [HZ.out]; rfl, rfl⟩
end Go.Proofs.Ytekneicikmaplaa.Bk
namespace Go.Proofs.Ytekneicikmaplaa.Bk
open Go.RowKit Go.Proofs.YtekneicikmaplaaW.PrintWords Go.Proofs.YtekneicikmaplaaW.PrintLast Go.Proofs.YtekneicikmaplaaW.PrintMore
/-- The call answers a bool, which is P's. -/
def RetB (P : Prop) (w : World) (e : Ending) (w' : World) : Prop := ∃ r : Bool, e = .returned (.bool r) ∧ (r = true ↔ P) ∧ Below w.heap.size w w'
theorem RetB.mk {P : Prop} {w w' : World} {e : Ending} {r : Bool} (he : e = .returned (.bool r)) (h : r = true ↔ P) (hb : Below w.heap.size w w') : RetB P w e w' := ⟨r, he, h, hb⟩
theorem iff_t {P : Prop} (h : P) : true = true ↔ P := ⟨fun _ => h, fun _ => rfl⟩
theorem iff_f {P : Prop} (h : ¬ P) : false = true ↔ P := ⟨fun e => (by cases e), fun p => absurd p h⟩
theorem at_v {w : World} {A : Option Addr} {c : Nat} {l : List Int} (h : SlC w A c l) (k : Nat) (hk : k < l.length) : ∃ ad v, A = some ad ∧ w.cell? (ad.add k) = some (.int .i64 v) ∧ Aside0 (l.getD k 0 = v) := by
  obtain ⟨ad, h1, h2⟩ := at_nat h k hk
  exact ⟨ad, _, h1, h2, ⟨rfl⟩⟩
def FreeP (O : List Int) (p f : Nat) : Prop := ∀ u, f ≤ u → u < 8 → ¬ O.getD (p * 8 + u) 0 > 0
set_option maxRecDepth 100000 in
theorem l3Free_calls (s : Int) (A : Nat → Option Addr) (c : Nat → Nat) (L : Nat → List Int) (p f : Nat) (w : World) (h : BkC w A c L) (hp : p * 8 + 8 ≤ (L 5).length) (hl : (L 5).length ≤ 35184372088832) (hf : f ≤ 8) :
    Calls Try.prog 68 #[.agg (bkCells s A c L), .int .i64 (p : Int), .int .i64 (f : Int)] w (RetB (FreeP (L 5) p f) w) := by
  have HR := Aside0.mk h
  have HP := Aside0.mk hp
  have HLn := Aside0.mk hl
  clear h
  have HB := Aside0.mk (Below.refl w.heap.size w)
  go_enter Try.func68, Try.ntmps68
  go_wp2_with (first | ((with_reducible refine gate_dst (N := 3) rfl ?_); refine box_event rfl (N := 3) rfl (cs := bkCells s A c L) (t := 27) (by first | (go_simp; done) | (go_simp; rfl)) ?_; intro gb hggb w1 hbox hb; have n0_ := Aside0.mk (below_step HB.out hb); have BKgb := Aside0.mk hbox; have HGgb := Aside0.mk (show w.heap.size ≤ gb by rw [hggb]; exact HB.out.size); clear HB; have HB := n0_; clear n0_ hbox hb hggb))
  go_loopg [7] (9 - f) (fun kq v7 w' => ∃ k : Nat, k ≤ 8 ∧ kq = 9 - k ∧ v7 = .int .i64 k ∧ Aside0 (f ≤ k) ∧ Aside0 (∀ u, f ≤ u → u < k → ¬ (L 5).getD (p * 8 + u) 0 > 0) ∧ Aside0 (w'.heap[gb]? = some (.cells (bkCells s A c L) 27 (0, 0))) ∧ Aside0 (Below w.heap.size w w'))
  case atStart => exact ⟨f, by omega, rfl, rfl, ⟨by omega⟩, ⟨fun u h1 h2 => by omega⟩, BKgb, HB⟩
  case round =>
    clear HB BKgb
    obtain ⟨k, hk, rfl, rfl, HF, HU, BKgb, HB⟩ := hrel
    by_cases hlt : k < 8
    · have p1 : (0 : Int) ≤ (p : Int) * 8 + (k : Int) := by omega
      have p2 : (p : Int) * 8 + (k : Int) < ((L 5).length : Int) := by have := HP.out; omega
      obtain ⟨ad, v, ea, hx, HV⟩ := at_v ((HR.out 5 (by omega)).below HB.out) (p * 8 + k) (by have := HP.out; omega)
      have hc6 : wr.cell? ⟨gb, 6, none⟩ = some (.slice (some ad) (L 5).length (c 5)) := (blk_cell BKgb.out 6).trans (by rw [← ea]; rfl)
      have hz6 := blk_frozen BKgb.out 6
      clear ea
      have hi : (k : Int) < 8 := by omega
      have hp6 : (p : Int) ≤ 35184372088832 := by have := HP.out; have := HLn.out; omega
      by_cases hv : v > 0
      · have HZ : Aside0 (¬ FreeP (L 5) p f) := ⟨fun hh => hh k HF.out hlt (by rw [HV.out]; exact hv)⟩
        go_wp2
        go_ret
        exact RetB.mk rfl (iff_f HZ.out) HB.out
      · have HZ : Aside0 (∀ u, f ≤ u → u < k + 1 → ¬ (L 5).getD (p * 8 + u) 0 > 0) := ⟨fun u h1 h2 => if e : u < k then HU.out u h1 e else (show k = u by omega) ▸ (show ¬ (L 5).getD (p * 8 + k) 0 > 0 by rw [HV.out]; exact hv)⟩
        go_wp2
        go_roundg (9 - (k + 1))
        case measure => omega
        case rel => exact ⟨k + 1, by omega, rfl, by go_num, ⟨by have := HF.out; omega⟩, HZ, BKgb, HB⟩
    · have HZ : Aside0 (FreeP (L 5) p f) := ⟨fun u h1 h2 => HU.out u h1 (by omega)⟩
      go_wp2
      go_ret
      exact RetB.mk rfl (iff_t HZ.out) HB.out
end Go.Proofs.Ytekneicikmaplaa.Bk
namespace Go.Proofs.Ytekneicikmaplaa.Bk
open Go.RowKit Go.Proofs.YtekneicikmaplaaW.PrintWords Go.Proofs.YtekneicikmaplaaW.PrintLast Go.Proofs.YtekneicikmaplaaW.PrintMore
def RoomU (O H : List Int) (z p u : Nat) : Prop :=
  if u % z > 0 then ¬ (O.getD (p * 8 + u) 0 > 0 ∨ cnt H ((p : Int) * 8 + (u : Int)) > 0)
  else ¬ ((O.getD (p * 8 + u) 0 > 0 ↔ cnt H ((p : Int) * 8 + (u : Int)) > 0) ∨ cnt H ((p : Int) * 8 + (u : Int)) > 1)
def RoomsP (O H : List Int) (z p : Nat) : Prop := (∀ u, u < 8 → RoomU O H z p u) ∧ ∃ u, u < 8 ∧ u % z = 0 ∧ O.getD (p * 8 + u) 0 > 0
theorem sizeN_pos (k : Nat) : 0 < sizeN k := by unfold sizeN; split <;> omega
theorem sizeN_le (k : Nat) : sizeN k ≤ 8 := by unfold sizeN; split <;> omega
/-- How many of the first n units, that are a room's first, have an owner. -/
def OwnN (O : List Int) (z p : Nat) : Nat → Nat
  | 0 => 0
  | n + 1 => OwnN O z p n + if n % z = 0 ∧ O.getD (p * 8 + n) 0 > 0 then 1 else 0
theorem OwnN_pos (O : List Int) (z p n : Nat) : OwnN O z p n > 0 ↔ ∃ u, u < n ∧ u % z = 0 ∧ O.getD (p * 8 + u) 0 > 0 := by
  induction n with
  | zero => simp [OwnN]
  | succ n ih =>
    unfold OwnN
    by_cases h : n % z = 0 ∧ O.getD (p * 8 + n) 0 > 0
    · rw [if_pos h]; exact ⟨fun _ => ⟨n, by omega, h.1, h.2⟩, fun _ => by omega⟩
    · rw [if_neg h, Nat.add_zero, ih]
      exact ⟨fun ⟨u, a, b⟩ => ⟨u, by omega, b⟩, fun ⟨u, a, b⟩ => by
        by_cases e : u = n
        · subst e; exact absurd b h
        · exact ⟨u, by omega, b⟩⟩
theorem OwnN_le (O : List Int) (z p n : Nat) : OwnN O z p n ≤ n := by
  induction n with
  | zero => simp [OwnN]
  | succ n ih => unfold OwnN; split <;> omega
set_option maxHeartbeats 1000000 in
set_option maxRecDepth 100000 in
theorem l3Rooms_calls (s : Int) (A : Nat → Option Addr) (c : Nat → Nat) (L : Nat → List Int) (p k : Nat) (w : World) (h : BkC w A c L) (hk : k < 4) (hp : p * 8 + 8 ≤ (L 5).length) (hl : ∀ i, (L i).length ≤ 35184372088832) :
    Calls Try.prog 69 #[.agg (bkCells s A c L), .int .i64 (p : Int), .int .i64 (k : Int)] w (RetB (RoomsP (L 5) (L (k + 1)) (sizeN k) p) w) := by
  have HR := Aside0.mk h
  have HP := Aside0.mk hp
  have HLn := Aside0.mk hl
  clear h hl
  have HB := Aside0.mk (Below.refl w.heap.size w)
  have HZ0 := Aside0.mk (sizeN_pos k)
  have HZ8 := Aside0.mk (sizeN_le k)
  have hp6 : (p : Int) ≤ 35184372088832 := by have := HP.out; have := HLn.out 5; omega
  go_enter Try.func69, Try.ntmps69
  go_wp2_with (first | ((with_reducible refine gate_dst (N := 3) rfl ?_); refine box_event rfl (N := 3) rfl (cs := bkCells s A c L) (t := 27) (by first | (go_simp; done) | (go_simp; rfl)) ?_; intro gb hggb w1 hbox hb; have n0_ := Aside0.mk (below_step HB.out hb); have BKgb := Aside0.mk hbox; have HGgb := Aside0.mk (show w.heap.size ≤ gb by rw [hggb]; exact HB.out.size); clear HB; have HB := n0_; clear n0_ hbox hb hggb))
  go_loopg [7, 8] 9 (fun kq v7 v8 w' => ∃ u : Nat, u ≤ 8 ∧ kq = 9 - u ∧ v8 = .int .i64 u ∧ v7 = .int .i64 (OwnN (L 5) (sizeN k) p u : Nat) ∧ Aside0 (∀ j, j < u → RoomU (L 5) (L (k + 1)) (sizeN k) p j) ∧ Aside0 (w'.heap[gb]? = some (.cells (bkCells s A c L) 27 (0, 0))) ∧ Aside0 (Below w.heap.size w w'))
  case atStart => exact ⟨0, by omega, rfl, rfl, rfl, ⟨fun u h1 => by omega⟩, BKgb, HB⟩
  case round =>
    clear HB BKgb
    obtain ⟨u, hu, rfl, rfl, rfl, HU, BKgb, HB⟩ := hrel
    have HO := Aside0.mk (OwnN_le (L 5) (sizeN k) p u)
    obtain ⟨ow, how⟩ : ∃ ow : Nat, OwnN (L 5) (sizeN k) p u = ow := ⟨_, rfl⟩
    rw [how] at HO
    rw [how]
    have HOW := Aside0.mk how
    have how8 : (ow : Int) ≤ 8 := by have := HO.out; omega
    clear how
    by_cases hlt : u < 8
    · have hi : (u : Int) < 8 := by omega
      have p1 : (0 : Int) ≤ (p : Int) * 8 + (u : Int) := by omega
      have p2 : (p : Int) * 8 + (u : Int) < ((L 5).length : Int) := by have := HP.out; omega
      obtain ⟨ad, v, ea, hx, HV⟩ := at_v ((HR.out 5 (by omega)).below HB.out) (p * 8 + u) (by have := HP.out; omega)
      have hc6 : wr.cell? ⟨gb, 6, none⟩ = some (.slice (some ad) (L 5).length (c 5)) := (blk_cell BKgb.out 6).trans (by rw [← ea]; rfl)
      have hz6 := blk_frozen BKgb.out 6
      have hck : wr.cell? ⟨gb, 2 + k, none⟩ = some (.slice (A (k + 1)) (L (k + 1)).length (c (k + 1))) := (blk_cell BKgb.out (2 + k)).trans (by match k, hk with | 0, _ => rfl | 1, _ => rfl | 2, _ => rfl | 3, _ => rfl)
      have hzk := blk_frozen BKgb.out (2 + k)
      have hki : (k : Int) < 4 := by omega
      go_wp2_with fail
      refine (l3In_calls _ _ _ _ _ ((HR.out (k + 1) (by omega)).below HB.out) (HLn.out (k + 1))).mono ?_
      rintro e w2 ⟨rfl, rfl⟩
      obtain ⟨n, hn⟩ : ∃ n : Nat, cnt (L (k + 1)) ((p : Int) * 8 + (u : Int)) = n := ⟨_, rfl⟩
      rw [hn]
      have HN := Aside0.mk hn
      have hn8 : (n : Int) ≤ 35184372088832 := by have := cnt_le (L (k + 1)) ((p : Int) * 8 + (u : Int)); have := HLn.out (k + 1); rw [HN.out] at *; omega
      clear hn
      go_wp2_with fail
      refine (l3Size_calls k hk _).mono ?_
      rintro e w3 ⟨rfl, hb⟩
      have HB3 := Aside0.mk (below_step HB.out hb)
      have BK3 := Aside0.mk (blk_below BKgb.out hb)
      have hx3 := (hb.cell (World.block_lt_of_cell? _ _ hx)).trans hx
      clear hb hx hc6 hz6 hck hzk HB BKgb
      have hc6 : w3.cell? ⟨gb, 6, none⟩ = some (.slice (some ad) (L 5).length (c 5)) := (blk_cell BK3.out 6).trans (by rw [← ea]; rfl)
      have hz6 := blk_frozen BK3.out 6
      clear ea
      obtain ⟨z, hz⟩ : ∃ z : Nat, sizeN k = z := ⟨_, rfl⟩
      rw [hz]
      have HZ := Aside0.mk hz
      have z0 : (0 : Int) < (z : Int) := by have := HZ0.out; omega
      clear hz
      have hmod : (u : Int) % (z : Int) = ((u % z : Nat) : Int) := by omega
      have hz' : ((z : Int) == 0) = false := by rw [beq_eq_false_iff_ne]; omega
      by_cases hm : u % z > 0
      · have hm' : 0 < (u : Int) % (z : Int) := by omega
        have HRU : Aside0 (RoomU (L 5) (L (k + 1)) (sizeN k) p u ↔ ¬ (v > 0 ∨ n > 0)) := ⟨by unfold RoomU; rw [HZ.out, HV.out, HN.out, if_pos hm]⟩
        have hmn : ¬ (u % z = 0) := by omega
        have HMN := Aside0.mk hmn
        clear hmod hmn hm
        by_cases hv : v > 0
        · have HF : Aside0 (¬ RoomsP (L 5) (L (k + 1)) (sizeN k) p) := ⟨fun hh => (HRU.out.mp (hh.1 u hlt)) (Or.inl hv)⟩
          go_wp2
          go_ret
          exact RetB.mk rfl (iff_f HF.out) HB3.out
        · by_cases hn : 0 < n
          · have hn' : 0 < (n : Int) := by omega
            have HF : Aside0 (¬ RoomsP (L 5) (L (k + 1)) (sizeN k) p) := ⟨fun hh => (HRU.out.mp (hh.1 u hlt)) (Or.inr hn)⟩
            go_wp2
            go_ret
            exact RetB.mk rfl (iff_f HF.out) HB3.out
          · have hn' : ¬ 0 < (n : Int) := by omega
            have HU2 : Aside0 (∀ j, j < u + 1 → RoomU (L 5) (L (k + 1)) (sizeN k) p j) := ⟨fun j hj => if e : j < u then HU.out j e else (show u = j by omega) ▸ HRU.out.mpr (fun o => o.elim hv hn)⟩
            have HO2 : Aside0 (OwnN (L 5) (sizeN k) p (u + 1) = ow) := ⟨by unfold OwnN; rw [HOW.out, HZ.out, HV.out, if_neg (fun q => HMN.out q.1), Nat.add_zero]⟩
            go_wp2
            go_roundg (9 - (u + 1))
            case measure => omega
            case rel => exact ⟨u + 1, by omega, rfl, by go_num, by rw [HO2.out], HU2, BK3, HB3⟩
      · have hm0 : u % z = 0 := by omega
        have hm' : ¬ 0 < (u : Int) % (z : Int) := by omega
        have HRU : Aside0 (RoomU (L 5) (L (k + 1)) (sizeN k) p u ↔ ¬ ((v > 0 ↔ n > 0) ∨ n > 1)) := ⟨by unfold RoomU; rw [HZ.out, HV.out, HN.out, if_neg hm]⟩
        have HM0 := Aside0.mk hm0
        clear hmod hm hm0
        by_cases hv : v > 0
        · by_cases hn : 0 < n
          · have hn' : 0 < (n : Int) := by omega
            have HF : Aside0 (¬ RoomsP (L 5) (L (k + 1)) (sizeN k) p) := ⟨fun hh => (HRU.out.mp (hh.1 u hlt)) (Or.inl ⟨fun _ => hn, fun _ => hv⟩)⟩
            go_wp2
            go_ret
            exact RetB.mk rfl (iff_f HF.out) HB3.out
          · have hn' : ¬ 0 < (n : Int) := by omega
            have hn2 : ¬ 1 < (n : Int) := by omega
            have hn3 : ¬ 1 < n := by omega
            have HU2 : Aside0 (∀ j, j < u + 1 → RoomU (L 5) (L (k + 1)) (sizeN k) p j) := ⟨fun j hj => if e : j < u then HU.out j e else (show u = j by omega) ▸ HRU.out.mpr (fun o => o.elim (fun q => hn (q.mp hv)) (fun q => by omega))⟩
            have HO2 : Aside0 (OwnN (L 5) (sizeN k) p (u + 1) = ow + 1) := ⟨by unfold OwnN; rw [HOW.out, HZ.out, HV.out, if_pos ⟨HM0.out, hv⟩]⟩
            go_wp2
            go_roundg (9 - (u + 1))
            case measure => omega
            case rel => exact ⟨u + 1, by omega, rfl, by go_num, by rw [HO2.out]; go_num, HU2, BK3, HB3⟩
        · by_cases hn : 0 < n
          · have hn' : 0 < (n : Int) := by omega
            by_cases hn1 : 1 < n
            · have hn1' : 1 < (n : Int) := by omega
              have HF : Aside0 (¬ RoomsP (L 5) (L (k + 1)) (sizeN k) p) := ⟨fun hh => (HRU.out.mp (hh.1 u hlt)) (Or.inr hn1)⟩
              go_wp2
              go_ret
              exact RetB.mk rfl (iff_f HF.out) HB3.out
            · have hn1' : ¬ 1 < (n : Int) := by omega
              have HU2 : Aside0 (∀ j, j < u + 1 → RoomU (L 5) (L (k + 1)) (sizeN k) p j) := ⟨fun j hj => if e : j < u then HU.out j e else (show u = j by omega) ▸ HRU.out.mpr (fun o => o.elim (fun q => hv (q.mpr hn)) (fun q => hn1 q))⟩
              have HO2 : Aside0 (OwnN (L 5) (sizeN k) p (u + 1) = ow) := ⟨by unfold OwnN; rw [HOW.out, HZ.out, HV.out, if_neg (fun q => hv q.2), Nat.add_zero]⟩
              go_wp2
              go_roundg (9 - (u + 1))
              case measure => omega
              case rel => exact ⟨u + 1, by omega, rfl, by go_num, by rw [HO2.out], HU2, BK3, HB3⟩
          · have hn' : ¬ 0 < (n : Int) := by omega
            have HF : Aside0 (¬ RoomsP (L 5) (L (k + 1)) (sizeN k) p) := ⟨fun hh => (HRU.out.mp (hh.1 u hlt)) (Or.inl ⟨fun q => absurd q hv, fun q => absurd q hn⟩)⟩
            go_wp2
            go_ret
            exact RetB.mk rfl (iff_f HF.out) HB3.out
    · have hu8 : u = 8 := by omega
      subst hu8
      by_cases how : 0 < ow
      · have how' : 0 < (ow : Int) := by omega
        have HF : Aside0 (RoomsP (L 5) (L (k + 1)) (sizeN k) p) := ⟨⟨HU.out, (OwnN_pos _ _ _ _).mp (by rw [HOW.out]; exact how)⟩⟩
        go_wp2
        go_ret
        exact RetB.mk rfl (iff_t HF.out) HB.out
      · have how' : ¬ 0 < (ow : Int) := by omega
        have HF : Aside0 (¬ RoomsP (L 5) (L (k + 1)) (sizeN k) p) := ⟨fun hh => how (by have := (OwnN_pos _ _ _ _).mpr hh.2; rw [HOW.out] at this; exact this)⟩
        go_wp2
        go_ret
        exact RetB.mk rfl (iff_f HF.out) HB.out
end Go.Proofs.Ytekneicikmaplaa.Bk
namespace Go.Proofs.Ytekneicikmaplaa.Bk
open Go.RowKit Go.Proofs.YtekneicikmaplaaW.PrintWords Go.Proofs.YtekneicikmaplaaW.PrintLast Go.Proofs.YtekneicikmaplaaW.PrintMore
/-- A list of 64-bit numbers. -/
def Wf64 (l : List Int) : Prop := ∀ k, -9223372036854775808 ≤ l.getD k 0 ∧ l.getD k 0 ≤ 9223372036854775807
def WideP (P O : List Int) (p : Nat) : Prop :=
  2 ≤ P.getD p 0 - 8 ∧ P.getD p 0 - 8 ≤ 4 ∧ (p : Int) + (P.getD p 0 - 8) ≤ P.length ∧ O.getD (p * 8) 0 ≠ 0 ∧ FreeP O p 1 ∧ ∀ i : Nat, 1 ≤ i → (i : Int) < P.getD p 0 - 8 → P.getD (p + i) 0 = 7
theorem wrap_sub8 {v n : Int} (h0 : -9223372036854775808 ≤ v) (h1 : v ≤ 9223372036854775807) (hn : wrap64 (v - 8) = n) : (n = v - 8) ∨ (v - 8 < 2 ∧ 4 < n) := by
  unfold wrap64 at hn
  omega
set_option maxHeartbeats 1000000 in
set_option maxRecDepth 100000 in
theorem l3Wide_calls (s : Int) (A : Nat → Option Addr) (c : Nat → Nat) (L : Nat → List Int) (p : Nat) (w : World) (h : BkC w A c L) (hp0 : p < (L 0).length) (hp : p * 8 + 8 ≤ (L 5).length) (hl : ∀ i, (L i).length ≤ 35184372088832) (hw : Wf64 (L 0)) :
    Calls Try.prog 71 #[.agg (bkCells s A c L), .int .i64 (p : Int)] w (RetB (WideP (L 0) (L 5) p) w) := by
  have HR := Aside0.mk h
  have HP := Aside0.mk hp
  have HP0 := Aside0.mk hp0
  have HLn := Aside0.mk hl
  clear h hl hp hp0
  have HB := Aside0.mk (Below.refl w.heap.size w)
  have hp6 : (p : Int) ≤ 35184372088832 := by have := HP.out; have := HLn.out 5; omega
  obtain ⟨ad, v, ea, hx, HV⟩ := at_v (HR.out 0 (by omega)) p HP0.out
  obtain ⟨n, hn⟩ : ∃ n, wrap64 (v - 8) = n := ⟨_, rfl⟩
  have HN : Aside0 (n = v - 8 ∨ (v - 8 < 2 ∧ 4 < n)) := ⟨wrap_sub8 (by rw [← HV.out]; exact (hw p).1) (by rw [← HV.out]; exact (hw p).2) hn⟩
  obtain ⟨ad5, o, ea5, hx5, HO⟩ := at_v (HR.out 5 (by omega)) (p * 8) (by have := HP.out; omega)
  have p0 : (0 : Int) ≤ (p : Int) := by omega
  have p1 : (p : Int) < ((L 0).length : Int) := by have := HP0.out; omega
  have p5 : (p : Int) * 8 < ((L 5).length : Int) := by have := HP.out; omega
  clear hw
  by_cases hA : n < 2
  · have HF : Aside0 (¬ WideP (L 0) (L 5) p) := ⟨fun hh => by obtain ⟨h1, h2, h3, h4, h5, h6⟩ := hh; rw [HV.out] at h1 h2; have := HN.out; omega⟩
    go_enter Try.func71, Try.ntmps71
    go_wp2_with (first | ((with_reducible refine gate_dst (N := 2) rfl ?_); refine box_event rfl (N := 2) rfl (cs := bkCells s A c L) (t := 27) (by first | (go_simp; done) | (go_simp; rfl)) ?_; intro gb hggb w1 hbox hb; have n0_ := Aside0.mk (below_step HB.out hb); have BKgb := Aside0.mk hbox; have HGgb := Aside0.mk (show w.heap.size ≤ gb by rw [hggb]; exact HB.out.size); clear HB; have HB := n0_; have hx1 := (hb.cell (World.block_lt_of_cell? _ _ hx)).trans hx; have hx51 := (hb.cell (World.block_lt_of_cell? _ _ hx5)).trans hx5; have fgbs0 : w1.cell? ⟨gb, 0, none⟩ = some (.int .i64 _) := (blk_cell BKgb.out 0).trans rfl; have fgb1 : w1.cell? ⟨gb, 1, none⟩ = some (.slice (A 0) (L 0).length (c 0)) := (blk_cell BKgb.out 1).trans rfl; have fgb2 : w1.cell? ⟨gb, 2, none⟩ = some (.slice (A 1) (L 1).length (c 1)) := (blk_cell BKgb.out 2).trans rfl; have fgb3 : w1.cell? ⟨gb, 3, none⟩ = some (.slice (A 2) (L 2).length (c 2)) := (blk_cell BKgb.out 3).trans rfl; have fgb4 : w1.cell? ⟨gb, 4, none⟩ = some (.slice (A 3) (L 3).length (c 3)) := (blk_cell BKgb.out 4).trans rfl; have fgb5 : w1.cell? ⟨gb, 5, none⟩ = some (.slice (A 4) (L 4).length (c 4)) := (blk_cell BKgb.out 5).trans rfl; have fgb6 : w1.cell? ⟨gb, 6, none⟩ = some (.slice (A 5) (L 5).length (c 5)) := (blk_cell BKgb.out 6).trans rfl; have fgb7 : w1.cell? ⟨gb, 7, none⟩ = some (.slice (A 6) (L 6).length (c 6)) := (blk_cell BKgb.out 7).trans rfl; have fgb8 : w1.cell? ⟨gb, 8, none⟩ = some (.slice (A 7) (L 7).length (c 7)) := (blk_cell BKgb.out 8).trans rfl; have fgbz0 := blk_frozen BKgb.out 0; have fgbz1 := blk_frozen BKgb.out 1; have fgbz2 := blk_frozen BKgb.out 2; have fgbz3 := blk_frozen BKgb.out 3; have fgbz4 := blk_frozen BKgb.out 4; have fgbz5 := blk_frozen BKgb.out 5; have fgbz6 := blk_frozen BKgb.out 6; have fgbz7 := blk_frozen BKgb.out 7; have fgbz8 := blk_frozen BKgb.out 8; rw [ea] at fgb1; rw [ea5] at fgb6; clear n0_ hbox hb hggb))
    go_ret
    exact RetB.mk rfl (iff_f HF.out) HB.out
  by_cases hB : n > 4
  · have HF : Aside0 (¬ WideP (L 0) (L 5) p) := ⟨fun hh => by obtain ⟨h1, h2, h3, h4, h5, h6⟩ := hh; rw [HV.out] at h1 h2; have := HN.out; omega⟩
    go_enter Try.func71, Try.ntmps71
    go_wp2_with (first | ((with_reducible refine gate_dst (N := 2) rfl ?_); refine box_event rfl (N := 2) rfl (cs := bkCells s A c L) (t := 27) (by first | (go_simp; done) | (go_simp; rfl)) ?_; intro gb hggb w1 hbox hb; have n0_ := Aside0.mk (below_step HB.out hb); have BKgb := Aside0.mk hbox; have HGgb := Aside0.mk (show w.heap.size ≤ gb by rw [hggb]; exact HB.out.size); clear HB; have HB := n0_; have hx1 := (hb.cell (World.block_lt_of_cell? _ _ hx)).trans hx; have hx51 := (hb.cell (World.block_lt_of_cell? _ _ hx5)).trans hx5; have fgbs0 : w1.cell? ⟨gb, 0, none⟩ = some (.int .i64 _) := (blk_cell BKgb.out 0).trans rfl; have fgb1 : w1.cell? ⟨gb, 1, none⟩ = some (.slice (A 0) (L 0).length (c 0)) := (blk_cell BKgb.out 1).trans rfl; have fgb2 : w1.cell? ⟨gb, 2, none⟩ = some (.slice (A 1) (L 1).length (c 1)) := (blk_cell BKgb.out 2).trans rfl; have fgb3 : w1.cell? ⟨gb, 3, none⟩ = some (.slice (A 2) (L 2).length (c 2)) := (blk_cell BKgb.out 3).trans rfl; have fgb4 : w1.cell? ⟨gb, 4, none⟩ = some (.slice (A 3) (L 3).length (c 3)) := (blk_cell BKgb.out 4).trans rfl; have fgb5 : w1.cell? ⟨gb, 5, none⟩ = some (.slice (A 4) (L 4).length (c 4)) := (blk_cell BKgb.out 5).trans rfl; have fgb6 : w1.cell? ⟨gb, 6, none⟩ = some (.slice (A 5) (L 5).length (c 5)) := (blk_cell BKgb.out 6).trans rfl; have fgb7 : w1.cell? ⟨gb, 7, none⟩ = some (.slice (A 6) (L 6).length (c 6)) := (blk_cell BKgb.out 7).trans rfl; have fgb8 : w1.cell? ⟨gb, 8, none⟩ = some (.slice (A 7) (L 7).length (c 7)) := (blk_cell BKgb.out 8).trans rfl; have fgbz0 := blk_frozen BKgb.out 0; have fgbz1 := blk_frozen BKgb.out 1; have fgbz2 := blk_frozen BKgb.out 2; have fgbz3 := blk_frozen BKgb.out 3; have fgbz4 := blk_frozen BKgb.out 4; have fgbz5 := blk_frozen BKgb.out 5; have fgbz6 := blk_frozen BKgb.out 6; have fgbz7 := blk_frozen BKgb.out 7; have fgbz8 := blk_frozen BKgb.out 8; rw [ea] at fgb1; rw [ea5] at fgb6; clear n0_ hbox hb hggb))
    go_ret
    exact RetB.mk rfl (iff_f HF.out) HB.out
  have HN2 : Aside0 (v - 8 = n) := ⟨by have := HN.out; omega⟩
  have hA' : 2 ≤ n := by omega
  have hB' : n ≤ 4 := by omega
  clear HN hA hB
  by_cases hC : (p : Int) + n > ((L 0).length : Int)
  · have HF : Aside0 (¬ WideP (L 0) (L 5) p) := ⟨fun hh => by obtain ⟨h1, h2, h3, h4, h5, h6⟩ := hh; rw [HV.out, HN2.out] at h3; omega⟩
    go_enter Try.func71, Try.ntmps71
    go_wp2_with (first | ((with_reducible refine gate_dst (N := 2) rfl ?_); refine box_event rfl (N := 2) rfl (cs := bkCells s A c L) (t := 27) (by first | (go_simp; done) | (go_simp; rfl)) ?_; intro gb hggb w1 hbox hb; have n0_ := Aside0.mk (below_step HB.out hb); have BKgb := Aside0.mk hbox; have HGgb := Aside0.mk (show w.heap.size ≤ gb by rw [hggb]; exact HB.out.size); clear HB; have HB := n0_; have hx1 := (hb.cell (World.block_lt_of_cell? _ _ hx)).trans hx; have hx51 := (hb.cell (World.block_lt_of_cell? _ _ hx5)).trans hx5; have fgbs0 : w1.cell? ⟨gb, 0, none⟩ = some (.int .i64 _) := (blk_cell BKgb.out 0).trans rfl; have fgb1 : w1.cell? ⟨gb, 1, none⟩ = some (.slice (A 0) (L 0).length (c 0)) := (blk_cell BKgb.out 1).trans rfl; have fgb2 : w1.cell? ⟨gb, 2, none⟩ = some (.slice (A 1) (L 1).length (c 1)) := (blk_cell BKgb.out 2).trans rfl; have fgb3 : w1.cell? ⟨gb, 3, none⟩ = some (.slice (A 2) (L 2).length (c 2)) := (blk_cell BKgb.out 3).trans rfl; have fgb4 : w1.cell? ⟨gb, 4, none⟩ = some (.slice (A 3) (L 3).length (c 3)) := (blk_cell BKgb.out 4).trans rfl; have fgb5 : w1.cell? ⟨gb, 5, none⟩ = some (.slice (A 4) (L 4).length (c 4)) := (blk_cell BKgb.out 5).trans rfl; have fgb6 : w1.cell? ⟨gb, 6, none⟩ = some (.slice (A 5) (L 5).length (c 5)) := (blk_cell BKgb.out 6).trans rfl; have fgb7 : w1.cell? ⟨gb, 7, none⟩ = some (.slice (A 6) (L 6).length (c 6)) := (blk_cell BKgb.out 7).trans rfl; have fgb8 : w1.cell? ⟨gb, 8, none⟩ = some (.slice (A 7) (L 7).length (c 7)) := (blk_cell BKgb.out 8).trans rfl; have fgbz0 := blk_frozen BKgb.out 0; have fgbz1 := blk_frozen BKgb.out 1; have fgbz2 := blk_frozen BKgb.out 2; have fgbz3 := blk_frozen BKgb.out 3; have fgbz4 := blk_frozen BKgb.out 4; have fgbz5 := blk_frozen BKgb.out 5; have fgbz6 := blk_frozen BKgb.out 6; have fgbz7 := blk_frozen BKgb.out 7; have fgbz8 := blk_frozen BKgb.out 8; rw [ea] at fgb1; rw [ea5] at fgb6; clear n0_ hbox hb hggb))
    go_ret
    exact RetB.mk rfl (iff_f HF.out) HB.out
  by_cases hD : o = 0
  · have HD := Aside0.mk hD
    have hD' : (o == 0) = true := by rw [hD]; rfl
    clear hD
    have HF : Aside0 (¬ WideP (L 0) (L 5) p) := ⟨fun hh => by obtain ⟨h1, h2, h3, h4, h5, h6⟩ := hh; exact h4 (by rw [HO.out, HD.out])⟩
    go_enter Try.func71, Try.ntmps71
    go_wp2_with (first | ((with_reducible refine gate_dst (N := 2) rfl ?_); refine box_event rfl (N := 2) rfl (cs := bkCells s A c L) (t := 27) (by first | (go_simp; done) | (go_simp; rfl)) ?_; intro gb hggb w1 hbox hb; have n0_ := Aside0.mk (below_step HB.out hb); have BKgb := Aside0.mk hbox; have HGgb := Aside0.mk (show w.heap.size ≤ gb by rw [hggb]; exact HB.out.size); clear HB; have HB := n0_; have hx1 := (hb.cell (World.block_lt_of_cell? _ _ hx)).trans hx; have hx51 := (hb.cell (World.block_lt_of_cell? _ _ hx5)).trans hx5; have fgbs0 : w1.cell? ⟨gb, 0, none⟩ = some (.int .i64 _) := (blk_cell BKgb.out 0).trans rfl; have fgb1 : w1.cell? ⟨gb, 1, none⟩ = some (.slice (A 0) (L 0).length (c 0)) := (blk_cell BKgb.out 1).trans rfl; have fgb2 : w1.cell? ⟨gb, 2, none⟩ = some (.slice (A 1) (L 1).length (c 1)) := (blk_cell BKgb.out 2).trans rfl; have fgb3 : w1.cell? ⟨gb, 3, none⟩ = some (.slice (A 2) (L 2).length (c 2)) := (blk_cell BKgb.out 3).trans rfl; have fgb4 : w1.cell? ⟨gb, 4, none⟩ = some (.slice (A 3) (L 3).length (c 3)) := (blk_cell BKgb.out 4).trans rfl; have fgb5 : w1.cell? ⟨gb, 5, none⟩ = some (.slice (A 4) (L 4).length (c 4)) := (blk_cell BKgb.out 5).trans rfl; have fgb6 : w1.cell? ⟨gb, 6, none⟩ = some (.slice (A 5) (L 5).length (c 5)) := (blk_cell BKgb.out 6).trans rfl; have fgb7 : w1.cell? ⟨gb, 7, none⟩ = some (.slice (A 6) (L 6).length (c 6)) := (blk_cell BKgb.out 7).trans rfl; have fgb8 : w1.cell? ⟨gb, 8, none⟩ = some (.slice (A 7) (L 7).length (c 7)) := (blk_cell BKgb.out 8).trans rfl; have fgbz0 := blk_frozen BKgb.out 0; have fgbz1 := blk_frozen BKgb.out 1; have fgbz2 := blk_frozen BKgb.out 2; have fgbz3 := blk_frozen BKgb.out 3; have fgbz4 := blk_frozen BKgb.out 4; have fgbz5 := blk_frozen BKgb.out 5; have fgbz6 := blk_frozen BKgb.out 6; have fgbz7 := blk_frozen BKgb.out 7; have fgbz8 := blk_frozen BKgb.out 8; rw [ea] at fgb1; rw [ea5] at fgb6; clear n0_ hbox hb hggb))
    go_ret
    exact RetB.mk rfl (iff_f HF.out) HB.out
  have HD := Aside0.mk hD
  have hD' : (o == 0) = false := beq_eq_false_iff_ne.mpr hD
  have HC := Aside0.mk (show (p : Int) + n ≤ ((L 0).length : Int) by omega)
  clear hD
  go_enter Try.func71, Try.ntmps71
  go_wp2_with (first | ((with_reducible refine gate_dst (N := 2) rfl ?_); refine box_event rfl (N := 2) rfl (cs := bkCells s A c L) (t := 27) (by first | (go_simp; done) | (go_simp; rfl)) ?_; intro gb hggb w1 hbox hb; have n0_ := Aside0.mk (below_step HB.out hb); have BKgb := Aside0.mk hbox; have HGgb := Aside0.mk (show w.heap.size ≤ gb by rw [hggb]; exact HB.out.size); clear HB; have HB := n0_; have hx1 := (hb.cell (World.block_lt_of_cell? _ _ hx)).trans hx; have hx51 := (hb.cell (World.block_lt_of_cell? _ _ hx5)).trans hx5; have fgbs0 : w1.cell? ⟨gb, 0, none⟩ = some (.int .i64 _) := (blk_cell BKgb.out 0).trans rfl; have fgb1 : w1.cell? ⟨gb, 1, none⟩ = some (.slice (A 0) (L 0).length (c 0)) := (blk_cell BKgb.out 1).trans rfl; have fgb2 : w1.cell? ⟨gb, 2, none⟩ = some (.slice (A 1) (L 1).length (c 1)) := (blk_cell BKgb.out 2).trans rfl; have fgb3 : w1.cell? ⟨gb, 3, none⟩ = some (.slice (A 2) (L 2).length (c 2)) := (blk_cell BKgb.out 3).trans rfl; have fgb4 : w1.cell? ⟨gb, 4, none⟩ = some (.slice (A 3) (L 3).length (c 3)) := (blk_cell BKgb.out 4).trans rfl; have fgb5 : w1.cell? ⟨gb, 5, none⟩ = some (.slice (A 4) (L 4).length (c 4)) := (blk_cell BKgb.out 5).trans rfl; have fgb6 : w1.cell? ⟨gb, 6, none⟩ = some (.slice (A 5) (L 5).length (c 5)) := (blk_cell BKgb.out 6).trans rfl; have fgb7 : w1.cell? ⟨gb, 7, none⟩ = some (.slice (A 6) (L 6).length (c 6)) := (blk_cell BKgb.out 7).trans rfl; have fgb8 : w1.cell? ⟨gb, 8, none⟩ = some (.slice (A 7) (L 7).length (c 7)) := (blk_cell BKgb.out 8).trans rfl; have fgbz0 := blk_frozen BKgb.out 0; have fgbz1 := blk_frozen BKgb.out 1; have fgbz2 := blk_frozen BKgb.out 2; have fgbz3 := blk_frozen BKgb.out 3; have fgbz4 := blk_frozen BKgb.out 4; have fgbz5 := blk_frozen BKgb.out 5; have fgbz6 := blk_frozen BKgb.out 6; have fgbz7 := blk_frozen BKgb.out 7; have fgbz8 := blk_frozen BKgb.out 8; rw [ea] at fgb1; rw [ea5] at fgb6; clear n0_ hbox hb hggb))
  have HW : Aside0 (WideP (L 0) (L 5) p ↔ (FreeP (L 5) p 1 ∧ ∀ i : Nat, 1 ≤ i → (i : Int) < n → (L 0).getD (p + i) 0 = 7)) := ⟨by
    unfold WideP
    rw [HV.out, HN2.out, HO.out]
    exact ⟨fun hh => ⟨hh.2.2.2.2.1, hh.2.2.2.2.2⟩, fun hh => ⟨hA', hB', HC.out, HD.out, hh.1, hh.2⟩⟩⟩
  rw [← ea, ← ea5]
  refine (l3Free_calls s A c L p 1 _ (HR.out.below HB.out) HP.out (HLn.out 5) (by omega)).mono ?_
  rintro e w3 ⟨r, rfl, hr, hb⟩
  have HB3 := Aside0.mk (below_step HB.out hb)
  have BK3 := Aside0.mk (blk_below BKgb.out hb)
  clear HB BKgb fgbs0 fgbz0 fgb1 fgbz1 fgb2 fgbz2 fgb3 fgbz3 fgb4 fgbz4 fgb5 fgbz5 fgb6 fgbz6 fgb7 fgbz7 fgb8 fgbz8 hx hx1 hx5 hx51 hb
  cases r with
  | false =>
    have HF : Aside0 (¬ WideP (L 0) (L 5) p) := ⟨fun hh => by have := hr.mpr (HW.out.mp hh).1; cases this⟩
    clear hr
    go_wp2
    go_ret
    exact RetB.mk rfl (iff_f HF.out) HB3.out
  | true =>
    have HFr := Aside0.mk (hr.mp rfl)
    clear hr
    go_wp2
    go_loopg [6] 4 (fun kq v6 w' => ∃ i : Nat, i ≤ 4 ∧ kq = 5 - i ∧ v6 = .int .i64 i ∧ Aside0 ((i : Int) ≤ n ∧ 1 ≤ i) ∧ Aside0 (∀ j : Nat, 1 ≤ j → j < i → (L 0).getD (p + j) 0 = 7) ∧ Aside0 (w'.heap[gb]? = some (.cells (bkCells s A c L) 27 (0, 0))) ∧ Aside0 (Below w.heap.size w w'))
    case atStart => exact ⟨1, by omega, rfl, rfl, ⟨by omega, by omega⟩, ⟨fun j h1 h2 => by omega⟩, BK3, HB3⟩
    case round =>
      clear HB3 BK3
      obtain ⟨i, hi4, rfl, rfl, HI, HU, BKgb, HB⟩ := hrel
      by_cases hlt : (i : Int) < n
      · have q0 : (0 : Int) ≤ (p : Int) + (i : Int) := by omega
        have q1 : (p : Int) + (i : Int) < ((L 0).length : Int) := by have := HC.out; omega
        obtain ⟨adi, vi, eai, hxi, HVi⟩ := at_v ((HR.out 0 (by omega)).below HB.out) (p + i) (by omega)
        have hc1 : wr.cell? ⟨gb, 1, none⟩ = some (.slice (some adi) (L 0).length (c 0)) := (blk_cell BKgb.out 1).trans (by rw [← eai]; rfl)
        have hz1 := blk_frozen BKgb.out 1
        clear eai
        by_cases hv : vi = 7
        · have HZ : Aside0 (∀ j : Nat, 1 ≤ j → j < i + 1 → (L 0).getD (p + j) 0 = 7) := ⟨fun j h1 h2 => if e : j < i then HU.out j h1 e else (show i = j by omega) ▸ (by rw [HVi.out, hv])⟩
          have hv' : (vi != 7) = false := by rw [hv]; rfl
          clear hv
          go_wp2
          go_roundg (5 - (i + 1))
          case measure => omega
          case rel => exact ⟨i + 1, by omega, rfl, by go_num, ⟨by omega, by omega⟩, HZ, BKgb, HB⟩
        · have HF : Aside0 (¬ WideP (L 0) (L 5) p) := ⟨fun hh => hv (by rw [← HVi.out]; exact (HW.out.mp hh).2 i HI.out.2 hlt)⟩
          have hv' : (vi != 7) = true := bne_iff_ne.mpr hv
          clear hv
          go_wp2
          go_ret
          exact RetB.mk rfl (iff_f HF.out) HB.out
      · have HF : Aside0 (WideP (L 0) (L 5) p) := ⟨HW.out.mpr ⟨HFr.out, fun j h1 h2 => HU.out j h1 (by have := HI.out; omega)⟩⟩
        go_wp2
        go_ret
        exact RetB.mk rfl (iff_t HF.out) HB.out
end Go.Proofs.Ytekneicikmaplaa.Bk
namespace Go.Proofs.Ytekneicikmaplaa.Bk
open Go.RowKit Go.Proofs.YtekneicikmaplaaW.PrintWords Go.Proofs.YtekneicikmaplaaW.PrintLast Go.Proofs.YtekneicikmaplaaW.PrintMore
/-- q is where a page's room begins. -/
def RestQ (P : List Int) (p q : Nat) : Prop := q ≤ p ∧ (∀ j, q < j → j ≤ p → P.getD j 0 = 7) ∧ (q = 0 ∨ P.getD q 0 ≠ 7)
theorem RestQ.one {P : List Int} {p q q' : Nat} (h : RestQ P p q) (h' : RestQ P p q') : q = q' := by
  obtain ⟨a, b, c⟩ := h
  obtain ⟨a', b', c'⟩ := h'
  by_cases e : q < q'
  · have := b q' e a'
    rcases c' with c' | c'
    · omega
    · exact absurd this c'
  · by_cases e' : q' < q
    · have := b' q e' a
      rcases c with c | c
      · omega
      · exact absurd this c
    · omega
def RestP (P O : List Int) (p : Nat) : Prop := ∃ q, RestQ P p q ∧ P.getD q 0 > 8 ∧ wrap64 (wrap64 ((q : Int) + P.getD q 0) - 8) > (p : Int) ∧ FreeP O p 0
set_option maxHeartbeats 1000000 in
set_option maxRecDepth 100000 in
theorem l3Rest_calls (s : Int) (A : Nat → Option Addr) (c : Nat → Nat) (L : Nat → List Int) (p : Nat) (w : World) (h : BkC w A c L) (hp0 : p < (L 0).length) (hp : p * 8 + 8 ≤ (L 5).length) (hl : ∀ i, (L i).length ≤ 35184372088832) :
    Calls Try.prog 70 #[.agg (bkCells s A c L), .int .i64 (p : Int)] w (RetB (RestP (L 0) (L 5) p) w) := by
  have HR := Aside0.mk h
  have HP := Aside0.mk hp
  have HP0 := Aside0.mk hp0
  have HLn := Aside0.mk hl
  clear h hl hp hp0
  have HB := Aside0.mk (Below.refl w.heap.size w)
  have hp6 : (p : Int) ≤ 35184372088832 := by have := HP.out; have := HLn.out 5; omega
  go_enter Try.func70, Try.ntmps70
  go_wp2_with (first | ((with_reducible refine gate_dst (N := 2) rfl ?_); refine box_event rfl (N := 2) rfl (cs := bkCells s A c L) (t := 27) (by first | (go_simp; done) | (go_simp; rfl)) ?_; intro gb hggb w1 hbox hb; have n0_ := Aside0.mk (below_step HB.out hb); have BKgb := Aside0.mk hbox; have HGgb := Aside0.mk (show w.heap.size ≤ gb by rw [hggb]; exact HB.out.size); clear HB; have HB := n0_; clear n0_ hbox hb hggb))
  go_loopg [5] (p + 1) (fun kq v5 w' => ∃ q : Nat, q ≤ p ∧ kq = q + 1 ∧ v5 = .int .i64 q ∧ Aside0 (∀ j, q < j → j ≤ p → (L 0).getD j 0 = 7) ∧ Aside0 (w'.heap[gb]? = some (.cells (bkCells s A c L) 27 (0, 0))) ∧ Aside0 (Below w.heap.size w w'))
  case atStart => exact ⟨p, by omega, rfl, rfl, ⟨fun j h1 h2 => by omega⟩, BKgb, HB⟩
  case round =>
    clear HB BKgb
    obtain ⟨q, hq, rfl, rfl, HU, BKgb, HB⟩ := hrel
    have q0 : (0 : Int) ≤ (q : Int) := by omega
    have q1 : (q : Int) < ((L 0).length : Int) := by have := HP0.out; omega
    obtain ⟨ad, v, ea, hx, HV⟩ := at_v ((HR.out 0 (by omega)).below HB.out) q (by omega)
    have hc1 : wr.cell? ⟨gb, 1, none⟩ = some (.slice (some ad) (L 0).length (c 0)) := (blk_cell BKgb.out 1).trans (by rw [← ea]; rfl)
    have hz1 := blk_frozen BKgb.out 1
    by_cases hg : 0 < q ∧ v = 7
    · obtain ⟨hg0, hg7⟩ := hg
      have hg0' : (0 : Int) < (q : Int) := by omega
      have hv' : (v == 7) = true := by rw [hg7]; rfl
      have HZ : Aside0 (∀ j, q - 1 < j → j ≤ p → (L 0).getD j 0 = 7) := ⟨fun j h1 h2 => if e : q < j then HU.out j e h2 else (show q = j by omega) ▸ (by rw [HV.out, hg7])⟩
      clear hg7 ea
      go_wp2
      go_roundg (q - 1 + 1)
      case measure => omega
      case rel => exact ⟨q - 1, by omega, rfl, by rw [show ((q - 1 : Nat) : Int) = (q : Int) - 1 by omega], HZ, BKgb, HB⟩
    · have HQ : Aside0 (RestQ (L 0) p q) := ⟨⟨hq, HU.out, by rw [HV.out]; by_cases e : q = 0; exact Or.inl e; exact Or.inr (fun e7 => hg ⟨by omega, e7⟩)⟩⟩
      have HRP : Aside0 (RestP (L 0) (L 5) p ↔ (v > 8 ∧ wrap64 (wrap64 ((q : Int) + v) - 8) > (p : Int) ∧ FreeP (L 5) p 0)) := ⟨⟨fun ⟨q', h1, h2, h3, h4⟩ => by
        obtain rfl := HQ.out.one h1
        rw [HV.out] at h2 h3
        exact ⟨h2, h3, h4⟩, fun ⟨h2, h3, h4⟩ => ⟨q, HQ.out, by rw [HV.out]; exact h2, by rw [HV.out]; exact h3, h4⟩⟩⟩
      by_cases hq0 : q = 0
      · have hqz : (q : Int) ≤ 0 := by omega
        clear hg hq0
        by_cases hv : v > 8
        · by_cases ht : wrap64 (wrap64 ((q : Int) + v) - 8) > (p : Int)
          · have HF : Aside0 (RestP (L 0) (L 5) p ↔ FreeP (L 5) p 0) := ⟨by rw [HRP.out]; exact ⟨fun hh => hh.2.2, fun hh => ⟨hv, ht, hh⟩⟩⟩
            clear HRP
            have HE := Aside0.mk ea
            clear ea
            have fgbs0 : wr.cell? ⟨gb, 0, none⟩ = some (.int .i64 _) := (blk_cell BKgb.out 0).trans rfl; have fgb1 : wr.cell? ⟨gb, 1, none⟩ = some (.slice (A 0) (L 0).length (c 0)) := (blk_cell BKgb.out 1).trans rfl; have fgb2 : wr.cell? ⟨gb, 2, none⟩ = some (.slice (A 1) (L 1).length (c 1)) := (blk_cell BKgb.out 2).trans rfl; have fgb3 : wr.cell? ⟨gb, 3, none⟩ = some (.slice (A 2) (L 2).length (c 2)) := (blk_cell BKgb.out 3).trans rfl; have fgb4 : wr.cell? ⟨gb, 4, none⟩ = some (.slice (A 3) (L 3).length (c 3)) := (blk_cell BKgb.out 4).trans rfl; have fgb5 : wr.cell? ⟨gb, 5, none⟩ = some (.slice (A 4) (L 4).length (c 4)) := (blk_cell BKgb.out 5).trans rfl; have fgb6 : wr.cell? ⟨gb, 6, none⟩ = some (.slice (A 5) (L 5).length (c 5)) := (blk_cell BKgb.out 6).trans rfl; have fgb7 : wr.cell? ⟨gb, 7, none⟩ = some (.slice (A 6) (L 6).length (c 6)) := (blk_cell BKgb.out 7).trans rfl; have fgb8 : wr.cell? ⟨gb, 8, none⟩ = some (.slice (A 7) (L 7).length (c 7)) := (blk_cell BKgb.out 8).trans rfl; have fgbz0 := blk_frozen BKgb.out 0; have fgbz1 := blk_frozen BKgb.out 1; have fgbz2 := blk_frozen BKgb.out 2; have fgbz3 := blk_frozen BKgb.out 3; have fgbz4 := blk_frozen BKgb.out 4; have fgbz5 := blk_frozen BKgb.out 5; have fgbz6 := blk_frozen BKgb.out 6; have fgbz7 := blk_frozen BKgb.out 7; have fgbz8 := blk_frozen BKgb.out 8
            clear fgb1 fgbz1
            go_wp2_with fail
            rw [← HE.out]
            refine (l3Free_calls s A c L p 0 _ (HR.out.below HB.out) HP.out (HLn.out 5) (by omega)).mono ?_
            rintro e w3 ⟨r, rfl, hr, hb⟩
            have HB3 := Aside0.mk (below_step HB.out hb)
            have HRR := Aside0.mk hr
            clear hr hb
            go_wp2
            go_ret
            exact RetB.mk rfl (HRR.out.trans HF.out.symm) HB3.out
          · have HF : Aside0 (¬ RestP (L 0) (L 5) p) := ⟨fun hh => ht (HRP.out.mp hh).2.1⟩
            clear HRP
            go_wp2
            go_ret
            exact RetB.mk rfl (iff_f HF.out) HB.out
        · have HF : Aside0 (¬ RestP (L 0) (L 5) p) := ⟨fun hh => hv (HRP.out.mp hh).1⟩
          clear HRP
          go_wp2
          go_ret
          exact RetB.mk rfl (iff_f HF.out) HB.out
      · have hqz : (0 : Int) < (q : Int) := by omega
        have hv7 : (v == 7) = false := beq_eq_false_iff_ne.mpr (fun e7 => hg ⟨by omega, e7⟩)
        clear hg hq0
        by_cases hv : v > 8
        · by_cases ht : wrap64 (wrap64 ((q : Int) + v) - 8) > (p : Int)
          · have HF : Aside0 (RestP (L 0) (L 5) p ↔ FreeP (L 5) p 0) := ⟨by rw [HRP.out]; exact ⟨fun hh => hh.2.2, fun hh => ⟨hv, ht, hh⟩⟩⟩
            clear HRP
            have HE := Aside0.mk ea
            clear ea
            have fgbs0 : wr.cell? ⟨gb, 0, none⟩ = some (.int .i64 _) := (blk_cell BKgb.out 0).trans rfl; have fgb1 : wr.cell? ⟨gb, 1, none⟩ = some (.slice (A 0) (L 0).length (c 0)) := (blk_cell BKgb.out 1).trans rfl; have fgb2 : wr.cell? ⟨gb, 2, none⟩ = some (.slice (A 1) (L 1).length (c 1)) := (blk_cell BKgb.out 2).trans rfl; have fgb3 : wr.cell? ⟨gb, 3, none⟩ = some (.slice (A 2) (L 2).length (c 2)) := (blk_cell BKgb.out 3).trans rfl; have fgb4 : wr.cell? ⟨gb, 4, none⟩ = some (.slice (A 3) (L 3).length (c 3)) := (blk_cell BKgb.out 4).trans rfl; have fgb5 : wr.cell? ⟨gb, 5, none⟩ = some (.slice (A 4) (L 4).length (c 4)) := (blk_cell BKgb.out 5).trans rfl; have fgb6 : wr.cell? ⟨gb, 6, none⟩ = some (.slice (A 5) (L 5).length (c 5)) := (blk_cell BKgb.out 6).trans rfl; have fgb7 : wr.cell? ⟨gb, 7, none⟩ = some (.slice (A 6) (L 6).length (c 6)) := (blk_cell BKgb.out 7).trans rfl; have fgb8 : wr.cell? ⟨gb, 8, none⟩ = some (.slice (A 7) (L 7).length (c 7)) := (blk_cell BKgb.out 8).trans rfl; have fgbz0 := blk_frozen BKgb.out 0; have fgbz1 := blk_frozen BKgb.out 1; have fgbz2 := blk_frozen BKgb.out 2; have fgbz3 := blk_frozen BKgb.out 3; have fgbz4 := blk_frozen BKgb.out 4; have fgbz5 := blk_frozen BKgb.out 5; have fgbz6 := blk_frozen BKgb.out 6; have fgbz7 := blk_frozen BKgb.out 7; have fgbz8 := blk_frozen BKgb.out 8
            clear fgb1 fgbz1
            go_wp2_with fail
            rw [← HE.out]
            refine (l3Free_calls s A c L p 0 _ (HR.out.below HB.out) HP.out (HLn.out 5) (by omega)).mono ?_
            rintro e w3 ⟨r, rfl, hr, hb⟩
            have HB3 := Aside0.mk (below_step HB.out hb)
            have HRR := Aside0.mk hr
            clear hr hb
            go_wp2
            go_ret
            exact RetB.mk rfl (HRR.out.trans HF.out.symm) HB3.out
          · have HF : Aside0 (¬ RestP (L 0) (L 5) p) := ⟨fun hh => ht (HRP.out.mp hh).2.1⟩
            clear HRP
            go_wp2
            go_ret
            exact RetB.mk rfl (iff_f HF.out) HB.out
        · have HF : Aside0 (¬ RestP (L 0) (L 5) p) := ⟨fun hh => hv (HRP.out.mp hh).1⟩
          clear HRP
          go_wp2
          go_ret
          exact RetB.mk rfl (iff_f HF.out) HB.out
end Go.Proofs.Ytekneicikmaplaa.Bk
namespace Go.Proofs.Ytekneicikmaplaa.Bk
open Go.RowKit Go.Proofs.YtekneicikmaplaaW.PrintWords Go.Proofs.YtekneicikmaplaaW.PrintLast Go.Proofs.YtekneicikmaplaaW.PrintMore
def PageP (L : Nat → List Int) (p : Nat) : Prop :=
  if (L 0).getD p 0 = 0 then FreeP (L 5) p 0
  else if 1 ≤ (L 0).getD p 0 ∧ (L 0).getD p 0 ≤ 4 then RoomsP (L 5) (L (((L 0).getD p 0 - 1).toNat + 1)) (sizeN ((L 0).getD p 0 - 1).toNat) p
  else if (L 0).getD p 0 = 7 then RestP (L 0) (L 5) p
  else WideP (L 0) (L 5) p
set_option maxHeartbeats 1000000 in
set_option maxRecDepth 100000 in
theorem l3Page_calls (s : Int) (A : Nat → Option Addr) (c : Nat → Nat) (L : Nat → List Int) (p : Nat) (w : World) (h : BkC w A c L) (hp0 : p < (L 0).length) (hp : p * 8 + 8 ≤ (L 5).length) (hl : ∀ i, (L i).length ≤ 35184372088832) (hw : Wf64 (L 0)) :
    Calls Try.prog 48 #[.agg (bkCells s A c L), .int .i64 (p : Int)] w (RetB (PageP L p) w) := by
  have HR := Aside0.mk h
  have HP := Aside0.mk hp
  have HP0 := Aside0.mk hp0
  have HLn := Aside0.mk hl
  have HW := Aside0.mk hw
  clear h hl hp hp0 hw
  have HB := Aside0.mk (Below.refl w.heap.size w)
  have hp6 : (p : Int) ≤ 35184372088832 := by have := HP.out; have := HLn.out 5; omega
  obtain ⟨ad, v, ea, hx, HV⟩ := at_v (HR.out 0 (by omega)) p HP0.out
  have p0 : (0 : Int) ≤ (p : Int) := by omega
  have p1 : (p : Int) < ((L 0).length : Int) := by have := HP0.out; omega
  have HE := Aside0.mk ea
  have hPG : PageP L p = if v = 0 then FreeP (L 5) p 0 else if 1 ≤ v ∧ v ≤ 4 then RoomsP (L 5) (L ((v - 1).toNat + 1)) (sizeN (v - 1).toNat) p else if v = 7 then RestP (L 0) (L 5) p else WideP (L 0) (L 5) p := by unfold PageP; rw [HV.out]
  have HPG := Aside0.mk hPG
  clear hPG
  by_cases h0 : v = 0
  · have HF : Aside0 (PageP L p = FreeP (L 5) p 0) := ⟨by rw [HPG.out, if_pos h0]⟩
    have h0' : (v == 0) = true := by rw [h0]; rfl
    clear h0
    go_enter Try.func48, Try.ntmps48
    go_wp2_with (first | ((with_reducible refine gate_dst (N := 2) rfl ?_); refine box_event rfl (N := 2) rfl (cs := bkCells s A c L) (t := 27) (by first | (go_simp; done) | (go_simp; rfl)) ?_; intro gb hggb w1 hbox hb; have n0_ := Aside0.mk (below_step HB.out hb); have BKgb := Aside0.mk hbox; have HGgb := Aside0.mk (show w.heap.size ≤ gb by rw [hggb]; exact HB.out.size); clear HB; have HB := n0_; have hx1 := (hb.cell (World.block_lt_of_cell? _ _ hx)).trans hx; have fgbs0 : w1.cell? ⟨gb, 0, none⟩ = some (.int .i64 _) := (blk_cell BKgb.out 0).trans rfl; have fgb1 : w1.cell? ⟨gb, 1, none⟩ = some (.slice (A 0) (L 0).length (c 0)) := (blk_cell BKgb.out 1).trans rfl; have fgb2 : w1.cell? ⟨gb, 2, none⟩ = some (.slice (A 1) (L 1).length (c 1)) := (blk_cell BKgb.out 2).trans rfl; have fgb3 : w1.cell? ⟨gb, 3, none⟩ = some (.slice (A 2) (L 2).length (c 2)) := (blk_cell BKgb.out 3).trans rfl; have fgb4 : w1.cell? ⟨gb, 4, none⟩ = some (.slice (A 3) (L 3).length (c 3)) := (blk_cell BKgb.out 4).trans rfl; have fgb5 : w1.cell? ⟨gb, 5, none⟩ = some (.slice (A 4) (L 4).length (c 4)) := (blk_cell BKgb.out 5).trans rfl; have fgb6 : w1.cell? ⟨gb, 6, none⟩ = some (.slice (A 5) (L 5).length (c 5)) := (blk_cell BKgb.out 6).trans rfl; have fgb7 : w1.cell? ⟨gb, 7, none⟩ = some (.slice (A 6) (L 6).length (c 6)) := (blk_cell BKgb.out 7).trans rfl; have fgb8 : w1.cell? ⟨gb, 8, none⟩ = some (.slice (A 7) (L 7).length (c 7)) := (blk_cell BKgb.out 8).trans rfl; have fgbz0 := blk_frozen BKgb.out 0; have fgbz1 := blk_frozen BKgb.out 1; have fgbz2 := blk_frozen BKgb.out 2; have fgbz3 := blk_frozen BKgb.out 3; have fgbz4 := blk_frozen BKgb.out 4; have fgbz5 := blk_frozen BKgb.out 5; have fgbz6 := blk_frozen BKgb.out 6; have fgbz7 := blk_frozen BKgb.out 7; have fgbz8 := blk_frozen BKgb.out 8; rw [ea] at fgb1; clear ea; clear n0_ hbox hb hggb))
    rw [← HE.out]
    refine (l3Free_calls s A c L p 0 _ (HR.out.below HB.out) HP.out (HLn.out 5) (by omega)).mono ?_
    rintro e w3 ⟨r, rfl, hr, hb⟩
    have HB3 := Aside0.mk (below_step HB.out hb)
    have HRR := Aside0.mk hr
    clear hr hb
    go_wp2
    go_ret
    exact RetB.mk rfl (HRR.out.trans (iff_of_eq HF.out.symm)) HB3.out
  by_cases h4 : 1 ≤ v ∧ v ≤ 4
  · obtain ⟨h41, h42⟩ := h4
    have HF : Aside0 (PageP L p = RoomsP (L 5) (L ((v - 1).toNat + 1)) (sizeN (v - 1).toNat) p) := ⟨by rw [HPG.out, if_neg h0, if_pos ⟨h41, h42⟩]⟩
    have h0' : (v == 0) = false := beq_eq_false_iff_ne.mpr h0
    have HK : Aside0 (kindN v = v - 1) := ⟨by unfold kindN; rw [if_neg (by omega), if_neg (by omega)]⟩
    clear h0
    go_enter Try.func48, Try.ntmps48
    go_wp2_with (first | ((with_reducible refine gate_dst (N := 2) rfl ?_); refine box_event rfl (N := 2) rfl (cs := bkCells s A c L) (t := 27) (by first | (go_simp; done) | (go_simp; rfl)) ?_; intro gb hggb w1 hbox hb; have n0_ := Aside0.mk (below_step HB.out hb); have BKgb := Aside0.mk hbox; have HGgb := Aside0.mk (show w.heap.size ≤ gb by rw [hggb]; exact HB.out.size); clear HB; have HB := n0_; have hx1 := (hb.cell (World.block_lt_of_cell? _ _ hx)).trans hx; have fgbs0 : w1.cell? ⟨gb, 0, none⟩ = some (.int .i64 _) := (blk_cell BKgb.out 0).trans rfl; have fgb1 : w1.cell? ⟨gb, 1, none⟩ = some (.slice (A 0) (L 0).length (c 0)) := (blk_cell BKgb.out 1).trans rfl; have fgb2 : w1.cell? ⟨gb, 2, none⟩ = some (.slice (A 1) (L 1).length (c 1)) := (blk_cell BKgb.out 2).trans rfl; have fgb3 : w1.cell? ⟨gb, 3, none⟩ = some (.slice (A 2) (L 2).length (c 2)) := (blk_cell BKgb.out 3).trans rfl; have fgb4 : w1.cell? ⟨gb, 4, none⟩ = some (.slice (A 3) (L 3).length (c 3)) := (blk_cell BKgb.out 4).trans rfl; have fgb5 : w1.cell? ⟨gb, 5, none⟩ = some (.slice (A 4) (L 4).length (c 4)) := (blk_cell BKgb.out 5).trans rfl; have fgb6 : w1.cell? ⟨gb, 6, none⟩ = some (.slice (A 5) (L 5).length (c 5)) := (blk_cell BKgb.out 6).trans rfl; have fgb7 : w1.cell? ⟨gb, 7, none⟩ = some (.slice (A 6) (L 6).length (c 6)) := (blk_cell BKgb.out 7).trans rfl; have fgb8 : w1.cell? ⟨gb, 8, none⟩ = some (.slice (A 7) (L 7).length (c 7)) := (blk_cell BKgb.out 8).trans rfl; have fgbz0 := blk_frozen BKgb.out 0; have fgbz1 := blk_frozen BKgb.out 1; have fgbz2 := blk_frozen BKgb.out 2; have fgbz3 := blk_frozen BKgb.out 3; have fgbz4 := blk_frozen BKgb.out 4; have fgbz5 := blk_frozen BKgb.out 5; have fgbz6 := blk_frozen BKgb.out 6; have fgbz7 := blk_frozen BKgb.out 7; have fgbz8 := blk_frozen BKgb.out 8; rw [ea] at fgb1; clear ea; clear n0_ hbox hb hggb) | (go_at_call 66; refine (l3Kind_calls _ _).mono ?_; rintro e w' ⟨rfl, rfl⟩; rw [HK.out]))
    refine wp_region_still_tail 4 (by kernel_rfl) (by kernel_rfl) ?_
    simp only [List.take_succ_cons, List.take_zero, List.drop_succ_cons, List.drop_zero]
    change wpStill _ _ w1.drew _ _ _
    still_step
    still_step
    still_step
    still_call ((l3Kind_calls v w1.drew).mono fun _ _ ⟨h1, h2⟩ => ⟨h1, h2.symm⟩)
    refine wpStill_nil ?_
    change wpList _ _ _ _ _ w1.drew
    rw [HK.out]
    go_wp2_with fail
    rw [← HE.out, show v - 1 = ((v - 1).toNat : Int) by omega]
    refine (l3Rooms_calls s A c L p (v - 1).toNat _ (HR.out.below (below_drew HB.out)) (by omega) HP.out HLn.out).mono ?_
    rintro e w3 ⟨r, rfl, hr, hb⟩
    have HB3 := Aside0.mk (below_step (below_drew HB.out) hb)
    have HRR := Aside0.mk hr
    clear hr hb
    go_wp2
    go_ret
    exact RetB.mk rfl (HRR.out.trans (iff_of_eq HF.out.symm)) HB3.out
  have h0' : (v == 0) = false := beq_eq_false_iff_ne.mpr h0
  have HK : Aside0 (kindN v = -1) := ⟨by unfold kindN; by_cases e : v < 1; exact if_pos e; rw [if_neg e, if_pos (by omega)]⟩
  by_cases h7 : v = 7
  · have HF : Aside0 (PageP L p = RestP (L 0) (L 5) p) := ⟨by rw [HPG.out, if_neg h0, if_neg h4, if_pos h7]⟩
    have h7' : (v == 7) = true := by rw [h7]; rfl
    clear h0 h4 h7
    go_enter Try.func48, Try.ntmps48
    go_wp2_with (first | ((with_reducible refine gate_dst (N := 2) rfl ?_); refine box_event rfl (N := 2) rfl (cs := bkCells s A c L) (t := 27) (by first | (go_simp; done) | (go_simp; rfl)) ?_; intro gb hggb w1 hbox hb; have n0_ := Aside0.mk (below_step HB.out hb); have BKgb := Aside0.mk hbox; have HGgb := Aside0.mk (show w.heap.size ≤ gb by rw [hggb]; exact HB.out.size); clear HB; have HB := n0_; have hx1 := (hb.cell (World.block_lt_of_cell? _ _ hx)).trans hx; have fgbs0 : w1.cell? ⟨gb, 0, none⟩ = some (.int .i64 _) := (blk_cell BKgb.out 0).trans rfl; have fgb1 : w1.cell? ⟨gb, 1, none⟩ = some (.slice (A 0) (L 0).length (c 0)) := (blk_cell BKgb.out 1).trans rfl; have fgb2 : w1.cell? ⟨gb, 2, none⟩ = some (.slice (A 1) (L 1).length (c 1)) := (blk_cell BKgb.out 2).trans rfl; have fgb3 : w1.cell? ⟨gb, 3, none⟩ = some (.slice (A 2) (L 2).length (c 2)) := (blk_cell BKgb.out 3).trans rfl; have fgb4 : w1.cell? ⟨gb, 4, none⟩ = some (.slice (A 3) (L 3).length (c 3)) := (blk_cell BKgb.out 4).trans rfl; have fgb5 : w1.cell? ⟨gb, 5, none⟩ = some (.slice (A 4) (L 4).length (c 4)) := (blk_cell BKgb.out 5).trans rfl; have fgb6 : w1.cell? ⟨gb, 6, none⟩ = some (.slice (A 5) (L 5).length (c 5)) := (blk_cell BKgb.out 6).trans rfl; have fgb7 : w1.cell? ⟨gb, 7, none⟩ = some (.slice (A 6) (L 6).length (c 6)) := (blk_cell BKgb.out 7).trans rfl; have fgb8 : w1.cell? ⟨gb, 8, none⟩ = some (.slice (A 7) (L 7).length (c 7)) := (blk_cell BKgb.out 8).trans rfl; have fgbz0 := blk_frozen BKgb.out 0; have fgbz1 := blk_frozen BKgb.out 1; have fgbz2 := blk_frozen BKgb.out 2; have fgbz3 := blk_frozen BKgb.out 3; have fgbz4 := blk_frozen BKgb.out 4; have fgbz5 := blk_frozen BKgb.out 5; have fgbz6 := blk_frozen BKgb.out 6; have fgbz7 := blk_frozen BKgb.out 7; have fgbz8 := blk_frozen BKgb.out 8; rw [ea] at fgb1; clear ea; clear n0_ hbox hb hggb) | (go_at_call 66; refine (l3Kind_calls _ _).mono ?_; rintro e w' ⟨rfl, rfl⟩; rw [HK.out]))
    rw [← HE.out]
    refine (l3Rest_calls s A c L p _ (HR.out.below HB.out) HP0.out HP.out HLn.out).mono ?_
    rintro e w3 ⟨r, rfl, hr, hb⟩
    have HB3 := Aside0.mk (below_step HB.out hb)
    have HRR := Aside0.mk hr
    clear hr hb
    go_wp2
    go_ret
    exact RetB.mk rfl (HRR.out.trans (iff_of_eq HF.out.symm)) HB3.out
  have HF : Aside0 (PageP L p = WideP (L 0) (L 5) p) := ⟨by rw [HPG.out, if_neg h0, if_neg h4, if_neg h7]⟩
  have h7' : (v == 7) = false := beq_eq_false_iff_ne.mpr h7
  clear h0 h4 h7
  go_enter Try.func48, Try.ntmps48
  go_wp2_with (first | ((with_reducible refine gate_dst (N := 2) rfl ?_); refine box_event rfl (N := 2) rfl (cs := bkCells s A c L) (t := 27) (by first | (go_simp; done) | (go_simp; rfl)) ?_; intro gb hggb w1 hbox hb; have n0_ := Aside0.mk (below_step HB.out hb); have BKgb := Aside0.mk hbox; have HGgb := Aside0.mk (show w.heap.size ≤ gb by rw [hggb]; exact HB.out.size); clear HB; have HB := n0_; have hx1 := (hb.cell (World.block_lt_of_cell? _ _ hx)).trans hx; have fgbs0 : w1.cell? ⟨gb, 0, none⟩ = some (.int .i64 _) := (blk_cell BKgb.out 0).trans rfl; have fgb1 : w1.cell? ⟨gb, 1, none⟩ = some (.slice (A 0) (L 0).length (c 0)) := (blk_cell BKgb.out 1).trans rfl; have fgb2 : w1.cell? ⟨gb, 2, none⟩ = some (.slice (A 1) (L 1).length (c 1)) := (blk_cell BKgb.out 2).trans rfl; have fgb3 : w1.cell? ⟨gb, 3, none⟩ = some (.slice (A 2) (L 2).length (c 2)) := (blk_cell BKgb.out 3).trans rfl; have fgb4 : w1.cell? ⟨gb, 4, none⟩ = some (.slice (A 3) (L 3).length (c 3)) := (blk_cell BKgb.out 4).trans rfl; have fgb5 : w1.cell? ⟨gb, 5, none⟩ = some (.slice (A 4) (L 4).length (c 4)) := (blk_cell BKgb.out 5).trans rfl; have fgb6 : w1.cell? ⟨gb, 6, none⟩ = some (.slice (A 5) (L 5).length (c 5)) := (blk_cell BKgb.out 6).trans rfl; have fgb7 : w1.cell? ⟨gb, 7, none⟩ = some (.slice (A 6) (L 6).length (c 6)) := (blk_cell BKgb.out 7).trans rfl; have fgb8 : w1.cell? ⟨gb, 8, none⟩ = some (.slice (A 7) (L 7).length (c 7)) := (blk_cell BKgb.out 8).trans rfl; have fgbz0 := blk_frozen BKgb.out 0; have fgbz1 := blk_frozen BKgb.out 1; have fgbz2 := blk_frozen BKgb.out 2; have fgbz3 := blk_frozen BKgb.out 3; have fgbz4 := blk_frozen BKgb.out 4; have fgbz5 := blk_frozen BKgb.out 5; have fgbz6 := blk_frozen BKgb.out 6; have fgbz7 := blk_frozen BKgb.out 7; have fgbz8 := blk_frozen BKgb.out 8; rw [ea] at fgb1; clear ea; clear n0_ hbox hb hggb) | (go_at_call 66; refine (l3Kind_calls _ _).mono ?_; rintro e w' ⟨rfl, rfl⟩; rw [HK.out]))
  rw [← HE.out]
  refine (l3Wide_calls s A c L p _ (HR.out.below HB.out) HP0.out HP.out HLn.out HW.out).mono ?_
  rintro e w3 ⟨r, rfl, hr, hb⟩
  have HB3 := Aside0.mk (below_step HB.out hb)
  have HRR := Aside0.mk hr
  clear hr hb
  go_wp2
  go_ret
  exact RetB.mk rfl (HRR.out.trans (iff_of_eq HF.out.symm)) HB3.out
end Go.Proofs.Ytekneicikmaplaa.Bk
namespace Go.Proofs.Ytekneicikmaplaa.Bk
open Go.RowKit Go.Proofs.YtekneicikmaplaaW.PrintWords Go.Proofs.YtekneicikmaplaaW.PrintLast Go.Proofs.YtekneicikmaplaaW.PrintMore
def SlotU (I E : List Int) (i : Nat) : Prop := ¬ I.getD i 0 < 0 ∧ ¬ I.getD i 0 > 2 ∧ ¬ E.getD i 0 < 0 ∧ ¬ E.getD i 0 > 4095 ∧ ¬ (E.getD i 0 = 0 ∧ I.getD i 0 > 0)
def UnitU (s : Int) (I O : List Int) (u : Nat) : Prop := ¬ O.getD u 0 < 0 ∧ ¬ O.getD u 0 > s ∧ ¬ (O.getD u 0 > 0 ∧ I.getD (O.getD u 0 - 1).toNat 0 = 0)
def SizesP (s : Int) (L : Nat → List Int) : Prop := ¬ s < 1 ∧ ¬ s > 4 ∧ ((L 6).length : Int) = s ∧ ((L 7).length : Int) = s ∧ ¬ ((L 0).length : Int) < 1 ∧ ¬ ((L 0).length : Int) > 6 ∧ ((L 5).length : Int) = ((L 0).length : Int) * 8
def SlotsP (s : Int) (L : Nat → List Int) : Prop := SizesP s L ∧ (∀ i : Nat, (i : Int) < s → SlotU (L 6) (L 7) i) ∧ ∀ u, u < (L 5).length → UnitU s (L 6) (L 5) u
set_option maxHeartbeats 4000000 in
set_option maxRecDepth 100000 in
theorem l3Slots_calls (s : Int) (A : Nat → Option Addr) (c : Nat → Nat) (L : Nat → List Int) (w : World) (h : BkC w A c L) (hl : ∀ i, (L i).length ≤ 35184372088832) :
    Calls Try.prog 46 #[.agg (bkCells s A c L)] w (RetB (SlotsP s L) w) := by
  have HR := Aside0.mk h
  have HL := Aside0.mk hl
  have hl0 : ((L 0).length : Int) ≤ 35184372088832 := by have := hl 0; omega
  have hl5 : ((L 5).length : Int) ≤ 35184372088832 := by have := hl 5; omega
  clear h hl
  have HB := Aside0.mk (Below.refl w.heap.size w)
  by_cases h1 : s < 1
  · have HF : Aside0 (¬ SlotsP s L) := ⟨fun hh => hh.1.1 h1⟩
    go_enter Try.func46, Try.ntmps46
    go_wp2_with (first | ((with_reducible refine gate_dst (N := 1) rfl ?_); refine box_event rfl (N := 1) rfl (cs := bkCells s A c L) (t := 27) (by first | (go_simp; done) | (go_simp; rfl)) ?_; intro gb hggb w1 hbox hb; have n0_ := Aside0.mk (below_step HB.out hb); have BKgb := Aside0.mk hbox; have HGgb := Aside0.mk (show w.heap.size ≤ gb by rw [hggb]; exact HB.out.size); clear HB; have HB := n0_; have fgbs0 : w1.cell? ⟨gb, 0, none⟩ = some (.int .i64 _) := (blk_cell BKgb.out 0).trans rfl; have fgb1 : w1.cell? ⟨gb, 1, none⟩ = some (.slice (A 0) (L 0).length (c 0)) := (blk_cell BKgb.out 1).trans rfl; have fgb2 : w1.cell? ⟨gb, 2, none⟩ = some (.slice (A 1) (L 1).length (c 1)) := (blk_cell BKgb.out 2).trans rfl; have fgb3 : w1.cell? ⟨gb, 3, none⟩ = some (.slice (A 2) (L 2).length (c 2)) := (blk_cell BKgb.out 3).trans rfl; have fgb4 : w1.cell? ⟨gb, 4, none⟩ = some (.slice (A 3) (L 3).length (c 3)) := (blk_cell BKgb.out 4).trans rfl; have fgb5 : w1.cell? ⟨gb, 5, none⟩ = some (.slice (A 4) (L 4).length (c 4)) := (blk_cell BKgb.out 5).trans rfl; have fgb6 : w1.cell? ⟨gb, 6, none⟩ = some (.slice (A 5) (L 5).length (c 5)) := (blk_cell BKgb.out 6).trans rfl; have fgb7 : w1.cell? ⟨gb, 7, none⟩ = some (.slice (A 6) (L 6).length (c 6)) := (blk_cell BKgb.out 7).trans rfl; have fgb8 : w1.cell? ⟨gb, 8, none⟩ = some (.slice (A 7) (L 7).length (c 7)) := (blk_cell BKgb.out 8).trans rfl; have fgbz0 := blk_frozen BKgb.out 0; have fgbz1 := blk_frozen BKgb.out 1; have fgbz2 := blk_frozen BKgb.out 2; have fgbz3 := blk_frozen BKgb.out 3; have fgbz4 := blk_frozen BKgb.out 4; have fgbz5 := blk_frozen BKgb.out 5; have fgbz6 := blk_frozen BKgb.out 6; have fgbz7 := blk_frozen BKgb.out 7; have fgbz8 := blk_frozen BKgb.out 8; clear n0_ hbox hb hggb))
    go_ret
    exact RetB.mk rfl (iff_f HF.out) HB.out
  have Hh1 := Aside0.mk h1
  by_cases h2 : s > 4
  · have HF : Aside0 (¬ SlotsP s L) := ⟨fun hh => hh.1.2.1 h2⟩
    go_enter Try.func46, Try.ntmps46
    go_wp2_with (first | ((with_reducible refine gate_dst (N := 1) rfl ?_); refine box_event rfl (N := 1) rfl (cs := bkCells s A c L) (t := 27) (by first | (go_simp; done) | (go_simp; rfl)) ?_; intro gb hggb w1 hbox hb; have n0_ := Aside0.mk (below_step HB.out hb); have BKgb := Aside0.mk hbox; have HGgb := Aside0.mk (show w.heap.size ≤ gb by rw [hggb]; exact HB.out.size); clear HB; have HB := n0_; have fgbs0 : w1.cell? ⟨gb, 0, none⟩ = some (.int .i64 _) := (blk_cell BKgb.out 0).trans rfl; have fgb1 : w1.cell? ⟨gb, 1, none⟩ = some (.slice (A 0) (L 0).length (c 0)) := (blk_cell BKgb.out 1).trans rfl; have fgb2 : w1.cell? ⟨gb, 2, none⟩ = some (.slice (A 1) (L 1).length (c 1)) := (blk_cell BKgb.out 2).trans rfl; have fgb3 : w1.cell? ⟨gb, 3, none⟩ = some (.slice (A 2) (L 2).length (c 2)) := (blk_cell BKgb.out 3).trans rfl; have fgb4 : w1.cell? ⟨gb, 4, none⟩ = some (.slice (A 3) (L 3).length (c 3)) := (blk_cell BKgb.out 4).trans rfl; have fgb5 : w1.cell? ⟨gb, 5, none⟩ = some (.slice (A 4) (L 4).length (c 4)) := (blk_cell BKgb.out 5).trans rfl; have fgb6 : w1.cell? ⟨gb, 6, none⟩ = some (.slice (A 5) (L 5).length (c 5)) := (blk_cell BKgb.out 6).trans rfl; have fgb7 : w1.cell? ⟨gb, 7, none⟩ = some (.slice (A 6) (L 6).length (c 6)) := (blk_cell BKgb.out 7).trans rfl; have fgb8 : w1.cell? ⟨gb, 8, none⟩ = some (.slice (A 7) (L 7).length (c 7)) := (blk_cell BKgb.out 8).trans rfl; have fgbz0 := blk_frozen BKgb.out 0; have fgbz1 := blk_frozen BKgb.out 1; have fgbz2 := blk_frozen BKgb.out 2; have fgbz3 := blk_frozen BKgb.out 3; have fgbz4 := blk_frozen BKgb.out 4; have fgbz5 := blk_frozen BKgb.out 5; have fgbz6 := blk_frozen BKgb.out 6; have fgbz7 := blk_frozen BKgb.out 7; have fgbz8 := blk_frozen BKgb.out 8; clear n0_ hbox hb hggb))
    go_ret
    exact RetB.mk rfl (iff_f HF.out) HB.out
  have Hh2 := Aside0.mk h2
  by_cases h3 : ((L 6).length : Int) = s
  rotate_left
  · have HF : Aside0 (¬ SlotsP s L) := ⟨fun hh => h3 hh.1.2.2.1⟩
    have h3b : (((L 6).length : Int) != s) = true := bne_iff_ne.mpr h3
    clear h3
    go_enter Try.func46, Try.ntmps46
    go_wp2_with (first | ((with_reducible refine gate_dst (N := 1) rfl ?_); refine box_event rfl (N := 1) rfl (cs := bkCells s A c L) (t := 27) (by first | (go_simp; done) | (go_simp; rfl)) ?_; intro gb hggb w1 hbox hb; have n0_ := Aside0.mk (below_step HB.out hb); have BKgb := Aside0.mk hbox; have HGgb := Aside0.mk (show w.heap.size ≤ gb by rw [hggb]; exact HB.out.size); clear HB; have HB := n0_; have fgbs0 : w1.cell? ⟨gb, 0, none⟩ = some (.int .i64 _) := (blk_cell BKgb.out 0).trans rfl; have fgb1 : w1.cell? ⟨gb, 1, none⟩ = some (.slice (A 0) (L 0).length (c 0)) := (blk_cell BKgb.out 1).trans rfl; have fgb2 : w1.cell? ⟨gb, 2, none⟩ = some (.slice (A 1) (L 1).length (c 1)) := (blk_cell BKgb.out 2).trans rfl; have fgb3 : w1.cell? ⟨gb, 3, none⟩ = some (.slice (A 2) (L 2).length (c 2)) := (blk_cell BKgb.out 3).trans rfl; have fgb4 : w1.cell? ⟨gb, 4, none⟩ = some (.slice (A 3) (L 3).length (c 3)) := (blk_cell BKgb.out 4).trans rfl; have fgb5 : w1.cell? ⟨gb, 5, none⟩ = some (.slice (A 4) (L 4).length (c 4)) := (blk_cell BKgb.out 5).trans rfl; have fgb6 : w1.cell? ⟨gb, 6, none⟩ = some (.slice (A 5) (L 5).length (c 5)) := (blk_cell BKgb.out 6).trans rfl; have fgb7 : w1.cell? ⟨gb, 7, none⟩ = some (.slice (A 6) (L 6).length (c 6)) := (blk_cell BKgb.out 7).trans rfl; have fgb8 : w1.cell? ⟨gb, 8, none⟩ = some (.slice (A 7) (L 7).length (c 7)) := (blk_cell BKgb.out 8).trans rfl; have fgbz0 := blk_frozen BKgb.out 0; have fgbz1 := blk_frozen BKgb.out 1; have fgbz2 := blk_frozen BKgb.out 2; have fgbz3 := blk_frozen BKgb.out 3; have fgbz4 := blk_frozen BKgb.out 4; have fgbz5 := blk_frozen BKgb.out 5; have fgbz6 := blk_frozen BKgb.out 6; have fgbz7 := blk_frozen BKgb.out 7; have fgbz8 := blk_frozen BKgb.out 8; clear n0_ hbox hb hggb))
    go_ret
    exact RetB.mk rfl (iff_f HF.out) HB.out
  have Hh3 := Aside0.mk h3
  have h3b : (((L 6).length : Int) != s) = false := bne_eq_false_iff_eq.mpr h3
  clear h3
  by_cases h4 : ((L 7).length : Int) = s
  rotate_left
  · have HF : Aside0 (¬ SlotsP s L) := ⟨fun hh => h4 hh.1.2.2.2.1⟩
    have h4b : (((L 7).length : Int) != s) = true := bne_iff_ne.mpr h4
    clear h4
    go_enter Try.func46, Try.ntmps46
    go_wp2_with (first | ((with_reducible refine gate_dst (N := 1) rfl ?_); refine box_event rfl (N := 1) rfl (cs := bkCells s A c L) (t := 27) (by first | (go_simp; done) | (go_simp; rfl)) ?_; intro gb hggb w1 hbox hb; have n0_ := Aside0.mk (below_step HB.out hb); have BKgb := Aside0.mk hbox; have HGgb := Aside0.mk (show w.heap.size ≤ gb by rw [hggb]; exact HB.out.size); clear HB; have HB := n0_; have fgbs0 : w1.cell? ⟨gb, 0, none⟩ = some (.int .i64 _) := (blk_cell BKgb.out 0).trans rfl; have fgb1 : w1.cell? ⟨gb, 1, none⟩ = some (.slice (A 0) (L 0).length (c 0)) := (blk_cell BKgb.out 1).trans rfl; have fgb2 : w1.cell? ⟨gb, 2, none⟩ = some (.slice (A 1) (L 1).length (c 1)) := (blk_cell BKgb.out 2).trans rfl; have fgb3 : w1.cell? ⟨gb, 3, none⟩ = some (.slice (A 2) (L 2).length (c 2)) := (blk_cell BKgb.out 3).trans rfl; have fgb4 : w1.cell? ⟨gb, 4, none⟩ = some (.slice (A 3) (L 3).length (c 3)) := (blk_cell BKgb.out 4).trans rfl; have fgb5 : w1.cell? ⟨gb, 5, none⟩ = some (.slice (A 4) (L 4).length (c 4)) := (blk_cell BKgb.out 5).trans rfl; have fgb6 : w1.cell? ⟨gb, 6, none⟩ = some (.slice (A 5) (L 5).length (c 5)) := (blk_cell BKgb.out 6).trans rfl; have fgb7 : w1.cell? ⟨gb, 7, none⟩ = some (.slice (A 6) (L 6).length (c 6)) := (blk_cell BKgb.out 7).trans rfl; have fgb8 : w1.cell? ⟨gb, 8, none⟩ = some (.slice (A 7) (L 7).length (c 7)) := (blk_cell BKgb.out 8).trans rfl; have fgbz0 := blk_frozen BKgb.out 0; have fgbz1 := blk_frozen BKgb.out 1; have fgbz2 := blk_frozen BKgb.out 2; have fgbz3 := blk_frozen BKgb.out 3; have fgbz4 := blk_frozen BKgb.out 4; have fgbz5 := blk_frozen BKgb.out 5; have fgbz6 := blk_frozen BKgb.out 6; have fgbz7 := blk_frozen BKgb.out 7; have fgbz8 := blk_frozen BKgb.out 8; clear n0_ hbox hb hggb))
    go_ret
    exact RetB.mk rfl (iff_f HF.out) HB.out
  have Hh4 := Aside0.mk h4
  have h4b : (((L 7).length : Int) != s) = false := bne_eq_false_iff_eq.mpr h4
  clear h4
  by_cases h5 : ((L 0).length : Int) < 1
  · have HF : Aside0 (¬ SlotsP s L) := ⟨fun hh => hh.1.2.2.2.2.1 h5⟩
    go_enter Try.func46, Try.ntmps46
    go_wp2_with (first | ((with_reducible refine gate_dst (N := 1) rfl ?_); refine box_event rfl (N := 1) rfl (cs := bkCells s A c L) (t := 27) (by first | (go_simp; done) | (go_simp; rfl)) ?_; intro gb hggb w1 hbox hb; have n0_ := Aside0.mk (below_step HB.out hb); have BKgb := Aside0.mk hbox; have HGgb := Aside0.mk (show w.heap.size ≤ gb by rw [hggb]; exact HB.out.size); clear HB; have HB := n0_; have fgbs0 : w1.cell? ⟨gb, 0, none⟩ = some (.int .i64 _) := (blk_cell BKgb.out 0).trans rfl; have fgb1 : w1.cell? ⟨gb, 1, none⟩ = some (.slice (A 0) (L 0).length (c 0)) := (blk_cell BKgb.out 1).trans rfl; have fgb2 : w1.cell? ⟨gb, 2, none⟩ = some (.slice (A 1) (L 1).length (c 1)) := (blk_cell BKgb.out 2).trans rfl; have fgb3 : w1.cell? ⟨gb, 3, none⟩ = some (.slice (A 2) (L 2).length (c 2)) := (blk_cell BKgb.out 3).trans rfl; have fgb4 : w1.cell? ⟨gb, 4, none⟩ = some (.slice (A 3) (L 3).length (c 3)) := (blk_cell BKgb.out 4).trans rfl; have fgb5 : w1.cell? ⟨gb, 5, none⟩ = some (.slice (A 4) (L 4).length (c 4)) := (blk_cell BKgb.out 5).trans rfl; have fgb6 : w1.cell? ⟨gb, 6, none⟩ = some (.slice (A 5) (L 5).length (c 5)) := (blk_cell BKgb.out 6).trans rfl; have fgb7 : w1.cell? ⟨gb, 7, none⟩ = some (.slice (A 6) (L 6).length (c 6)) := (blk_cell BKgb.out 7).trans rfl; have fgb8 : w1.cell? ⟨gb, 8, none⟩ = some (.slice (A 7) (L 7).length (c 7)) := (blk_cell BKgb.out 8).trans rfl; have fgbz0 := blk_frozen BKgb.out 0; have fgbz1 := blk_frozen BKgb.out 1; have fgbz2 := blk_frozen BKgb.out 2; have fgbz3 := blk_frozen BKgb.out 3; have fgbz4 := blk_frozen BKgb.out 4; have fgbz5 := blk_frozen BKgb.out 5; have fgbz6 := blk_frozen BKgb.out 6; have fgbz7 := blk_frozen BKgb.out 7; have fgbz8 := blk_frozen BKgb.out 8; clear n0_ hbox hb hggb))
    go_ret
    exact RetB.mk rfl (iff_f HF.out) HB.out
  have Hh5 := Aside0.mk h5
  by_cases h6 : ((L 0).length : Int) > 6
  · have HF : Aside0 (¬ SlotsP s L) := ⟨fun hh => hh.1.2.2.2.2.2.1 h6⟩
    go_enter Try.func46, Try.ntmps46
    go_wp2_with (first | ((with_reducible refine gate_dst (N := 1) rfl ?_); refine box_event rfl (N := 1) rfl (cs := bkCells s A c L) (t := 27) (by first | (go_simp; done) | (go_simp; rfl)) ?_; intro gb hggb w1 hbox hb; have n0_ := Aside0.mk (below_step HB.out hb); have BKgb := Aside0.mk hbox; have HGgb := Aside0.mk (show w.heap.size ≤ gb by rw [hggb]; exact HB.out.size); clear HB; have HB := n0_; have fgbs0 : w1.cell? ⟨gb, 0, none⟩ = some (.int .i64 _) := (blk_cell BKgb.out 0).trans rfl; have fgb1 : w1.cell? ⟨gb, 1, none⟩ = some (.slice (A 0) (L 0).length (c 0)) := (blk_cell BKgb.out 1).trans rfl; have fgb2 : w1.cell? ⟨gb, 2, none⟩ = some (.slice (A 1) (L 1).length (c 1)) := (blk_cell BKgb.out 2).trans rfl; have fgb3 : w1.cell? ⟨gb, 3, none⟩ = some (.slice (A 2) (L 2).length (c 2)) := (blk_cell BKgb.out 3).trans rfl; have fgb4 : w1.cell? ⟨gb, 4, none⟩ = some (.slice (A 3) (L 3).length (c 3)) := (blk_cell BKgb.out 4).trans rfl; have fgb5 : w1.cell? ⟨gb, 5, none⟩ = some (.slice (A 4) (L 4).length (c 4)) := (blk_cell BKgb.out 5).trans rfl; have fgb6 : w1.cell? ⟨gb, 6, none⟩ = some (.slice (A 5) (L 5).length (c 5)) := (blk_cell BKgb.out 6).trans rfl; have fgb7 : w1.cell? ⟨gb, 7, none⟩ = some (.slice (A 6) (L 6).length (c 6)) := (blk_cell BKgb.out 7).trans rfl; have fgb8 : w1.cell? ⟨gb, 8, none⟩ = some (.slice (A 7) (L 7).length (c 7)) := (blk_cell BKgb.out 8).trans rfl; have fgbz0 := blk_frozen BKgb.out 0; have fgbz1 := blk_frozen BKgb.out 1; have fgbz2 := blk_frozen BKgb.out 2; have fgbz3 := blk_frozen BKgb.out 3; have fgbz4 := blk_frozen BKgb.out 4; have fgbz5 := blk_frozen BKgb.out 5; have fgbz6 := blk_frozen BKgb.out 6; have fgbz7 := blk_frozen BKgb.out 7; have fgbz8 := blk_frozen BKgb.out 8; clear n0_ hbox hb hggb))
    go_ret
    exact RetB.mk rfl (iff_f HF.out) HB.out
  have Hh6 := Aside0.mk h6
  by_cases h7 : ((L 5).length : Int) = ((L 0).length : Int) * 8
  rotate_left
  · have HF : Aside0 (¬ SlotsP s L) := ⟨fun hh => h7 hh.1.2.2.2.2.2.2⟩
    have h7b : (((L 5).length : Int) != ((L 0).length : Int) * 8) = true := bne_iff_ne.mpr h7
    clear h7
    go_enter Try.func46, Try.ntmps46
    go_wp2_with (first | ((with_reducible refine gate_dst (N := 1) rfl ?_); refine box_event rfl (N := 1) rfl (cs := bkCells s A c L) (t := 27) (by first | (go_simp; done) | (go_simp; rfl)) ?_; intro gb hggb w1 hbox hb; have n0_ := Aside0.mk (below_step HB.out hb); have BKgb := Aside0.mk hbox; have HGgb := Aside0.mk (show w.heap.size ≤ gb by rw [hggb]; exact HB.out.size); clear HB; have HB := n0_; have fgbs0 : w1.cell? ⟨gb, 0, none⟩ = some (.int .i64 _) := (blk_cell BKgb.out 0).trans rfl; have fgb1 : w1.cell? ⟨gb, 1, none⟩ = some (.slice (A 0) (L 0).length (c 0)) := (blk_cell BKgb.out 1).trans rfl; have fgb2 : w1.cell? ⟨gb, 2, none⟩ = some (.slice (A 1) (L 1).length (c 1)) := (blk_cell BKgb.out 2).trans rfl; have fgb3 : w1.cell? ⟨gb, 3, none⟩ = some (.slice (A 2) (L 2).length (c 2)) := (blk_cell BKgb.out 3).trans rfl; have fgb4 : w1.cell? ⟨gb, 4, none⟩ = some (.slice (A 3) (L 3).length (c 3)) := (blk_cell BKgb.out 4).trans rfl; have fgb5 : w1.cell? ⟨gb, 5, none⟩ = some (.slice (A 4) (L 4).length (c 4)) := (blk_cell BKgb.out 5).trans rfl; have fgb6 : w1.cell? ⟨gb, 6, none⟩ = some (.slice (A 5) (L 5).length (c 5)) := (blk_cell BKgb.out 6).trans rfl; have fgb7 : w1.cell? ⟨gb, 7, none⟩ = some (.slice (A 6) (L 6).length (c 6)) := (blk_cell BKgb.out 7).trans rfl; have fgb8 : w1.cell? ⟨gb, 8, none⟩ = some (.slice (A 7) (L 7).length (c 7)) := (blk_cell BKgb.out 8).trans rfl; have fgbz0 := blk_frozen BKgb.out 0; have fgbz1 := blk_frozen BKgb.out 1; have fgbz2 := blk_frozen BKgb.out 2; have fgbz3 := blk_frozen BKgb.out 3; have fgbz4 := blk_frozen BKgb.out 4; have fgbz5 := blk_frozen BKgb.out 5; have fgbz6 := blk_frozen BKgb.out 6; have fgbz7 := blk_frozen BKgb.out 7; have fgbz8 := blk_frozen BKgb.out 8; clear n0_ hbox hb hggb))
    go_ret
    exact RetB.mk rfl (iff_f HF.out) HB.out
  have Hh7 := Aside0.mk h7
  have h7b : (((L 5).length : Int) != ((L 0).length : Int) * 8) = false := bne_eq_false_iff_eq.mpr h7
  clear h7
  have HS : Aside0 (SizesP s L) := ⟨⟨Hh1.out, Hh2.out, Hh3.out, Hh4.out, Hh5.out, Hh6.out, Hh7.out⟩⟩
  have s4 : s ≤ 4 := by omega
  go_enter Try.func46, Try.ntmps46
  go_wp2_with (first | ((with_reducible refine gate_dst (N := 1) rfl ?_); refine box_event rfl (N := 1) rfl (cs := bkCells s A c L) (t := 27) (by first | (go_simp; done) | (go_simp; rfl)) ?_; intro gb hggb w1 hbox hb; have n0_ := Aside0.mk (below_step HB.out hb); have BKgb := Aside0.mk hbox; have HGgb := Aside0.mk (show w.heap.size ≤ gb by rw [hggb]; exact HB.out.size); clear HB; have HB := n0_; have fgbs0 : w1.cell? ⟨gb, 0, none⟩ = some (.int .i64 _) := (blk_cell BKgb.out 0).trans rfl; have fgb1 : w1.cell? ⟨gb, 1, none⟩ = some (.slice (A 0) (L 0).length (c 0)) := (blk_cell BKgb.out 1).trans rfl; have fgb2 : w1.cell? ⟨gb, 2, none⟩ = some (.slice (A 1) (L 1).length (c 1)) := (blk_cell BKgb.out 2).trans rfl; have fgb3 : w1.cell? ⟨gb, 3, none⟩ = some (.slice (A 2) (L 2).length (c 2)) := (blk_cell BKgb.out 3).trans rfl; have fgb4 : w1.cell? ⟨gb, 4, none⟩ = some (.slice (A 3) (L 3).length (c 3)) := (blk_cell BKgb.out 4).trans rfl; have fgb5 : w1.cell? ⟨gb, 5, none⟩ = some (.slice (A 4) (L 4).length (c 4)) := (blk_cell BKgb.out 5).trans rfl; have fgb6 : w1.cell? ⟨gb, 6, none⟩ = some (.slice (A 5) (L 5).length (c 5)) := (blk_cell BKgb.out 6).trans rfl; have fgb7 : w1.cell? ⟨gb, 7, none⟩ = some (.slice (A 6) (L 6).length (c 6)) := (blk_cell BKgb.out 7).trans rfl; have fgb8 : w1.cell? ⟨gb, 8, none⟩ = some (.slice (A 7) (L 7).length (c 7)) := (blk_cell BKgb.out 8).trans rfl; have fgbz0 := blk_frozen BKgb.out 0; have fgbz1 := blk_frozen BKgb.out 1; have fgbz2 := blk_frozen BKgb.out 2; have fgbz3 := blk_frozen BKgb.out 3; have fgbz4 := blk_frozen BKgb.out 4; have fgbz5 := blk_frozen BKgb.out 5; have fgbz6 := blk_frozen BKgb.out 6; have fgbz7 := blk_frozen BKgb.out 7; have fgbz8 := blk_frozen BKgb.out 8; clear n0_ hbox hb hggb))
  clear h3b h4b h7b h1 h2 h5 h6
  go_loopg [3] 5 (fun kq v3 w' => ∃ k : Nat, k ≤ 4 ∧ kq = 5 - k ∧ v3 = .int .i64 k ∧ Aside0 ((k : Int) ≤ s) ∧ Aside0 (∀ j, j < k → SlotU (L 6) (L 7) j) ∧ Aside0 (w'.heap[gb]? = some (.cells (bkCells s A c L) 27 (0, 0))) ∧ Aside0 (Below w.heap.size w w'))
  case atStart => exact ⟨0, by omega, rfl, rfl, ⟨by have := Hh1.out; omega⟩, ⟨fun j hj => by omega⟩, BKgb, HB⟩
  case round =>
    clear HB BKgb fgbs0 fgbz0 fgb1 fgbz1 fgb2 fgbz2 fgb3 fgbz3 fgb4 fgbz4 fgb5 fgbz5 fgb6 fgbz6 fgb7 fgbz7 fgb8 fgbz8
    obtain ⟨k, hk4, rfl, rfl, HK, HU, BKgb, HB⟩ := hrel
    by_cases hlt : (k : Int) < s
    · have k0 : (0 : Int) ≤ (k : Int) := by omega
      have k6 : (k : Int) < ((L 6).length : Int) := by have := Hh3.out; omega
      have k7 : (k : Int) < ((L 7).length : Int) := by have := Hh4.out; omega
      obtain ⟨ad6, v, ea6, hx6, HV⟩ := at_v ((HR.out 6 (by omega)).below HB.out) k (by omega)
      obtain ⟨ad7, e, ea7, hx7, HE⟩ := at_v ((HR.out 7 (by omega)).below HB.out) k (by omega)
      have hc0 : wr.cell? ⟨gb, 0, none⟩ = some (.int .i64 s) := (blk_cell BKgb.out 0).trans rfl
      have hz0 := blk_frozen BKgb.out 0
      have hc7 : wr.cell? ⟨gb, 7, none⟩ = some (.slice (some ad6) (L 6).length (c 6)) := (blk_cell BKgb.out 7).trans (by rw [← ea6]; rfl)
      have hz7 := blk_frozen BKgb.out 7
      have hc8 : wr.cell? ⟨gb, 8, none⟩ = some (.slice (some ad7) (L 7).length (c 7)) := (blk_cell BKgb.out 8).trans (by rw [← ea7]; rfl)
      have hz8 := blk_frozen BKgb.out 8
      clear ea6 ea7
      have HSU : Aside0 (SlotU (L 6) (L 7) k ↔ (¬ v < 0 ∧ ¬ v > 2 ∧ ¬ e < 0 ∧ ¬ e > 4095 ∧ ¬ (e = 0 ∧ v > 0))) := ⟨by unfold SlotU; rw [HV.out, HE.out]⟩
      by_cases g1 : v < 0
      · skip
        have HF : Aside0 (¬ SlotsP s L) := ⟨fun hh => (HSU.out.mp (hh.2.1 k hlt)).1 g1⟩
        go_wp2
        go_ret
        exact RetB.mk rfl (iff_f HF.out) HB.out
      have Gg1 := Aside0.mk g1
      by_cases g2 : v > 2
      · skip
        have HF : Aside0 (¬ SlotsP s L) := ⟨fun hh => (HSU.out.mp (hh.2.1 k hlt)).2.1 g2⟩
        go_wp2
        go_ret
        exact RetB.mk rfl (iff_f HF.out) HB.out
      have Gg2 := Aside0.mk g2
      by_cases g3 : e < 0
      · skip
        have HF : Aside0 (¬ SlotsP s L) := ⟨fun hh => (HSU.out.mp (hh.2.1 k hlt)).2.2.1 g3⟩
        go_wp2
        go_ret
        exact RetB.mk rfl (iff_f HF.out) HB.out
      have Gg3 := Aside0.mk g3
      by_cases g4 : e > 4095
      · skip
        have HF : Aside0 (¬ SlotsP s L) := ⟨fun hh => (HSU.out.mp (hh.2.1 k hlt)).2.2.2.1 g4⟩
        go_wp2
        go_ret
        exact RetB.mk rfl (iff_f HF.out) HB.out
      have Gg4 := Aside0.mk g4
      by_cases g5 : e = 0
      · have G5 := Aside0.mk g5
        have g5b : (e == 0) = true := by rw [g5]; rfl
        clear g5
        by_cases g6 : v > 0
        · skip
          have HF : Aside0 (¬ SlotsP s L) := ⟨fun hh => (HSU.out.mp (hh.2.1 k hlt)).2.2.2.2 ⟨G5.out, g6⟩⟩
          go_wp2
          go_ret
          exact RetB.mk rfl (iff_f HF.out) HB.out
        · skip
          have HZ : Aside0 (∀ j, j < k + 1 → SlotU (L 6) (L 7) j) := ⟨fun j hj => if q : j < k then HU.out j q else (show k = j by omega) ▸ HSU.out.mpr ⟨Gg1.out, Gg2.out, Gg3.out, Gg4.out, fun q => g6 q.2⟩⟩
          go_wp2
          go_roundg (5 - (k + 1))
          case measure => omega
          case rel => exact ⟨k + 1, by omega, rfl, by go_num, ⟨by omega⟩, HZ, BKgb, HB⟩
      · have g5b : (e == 0) = false := beq_eq_false_iff_ne.mpr g5
        have G5 := Aside0.mk g5
        clear g5
        have HZ : Aside0 (∀ j, j < k + 1 → SlotU (L 6) (L 7) j) := ⟨fun j hj => if q : j < k then HU.out j q else (show k = j by omega) ▸ HSU.out.mpr ⟨Gg1.out, Gg2.out, Gg3.out, Gg4.out, fun q => G5.out q.1⟩⟩
        go_wp2
        go_roundg (5 - (k + 1))
        case measure => omega
        case rel => exact ⟨k + 1, by omega, rfl, by go_num, ⟨by omega⟩, HZ, BKgb, HB⟩
    · have HA : Aside0 (∀ i : Nat, (i : Int) < s → SlotU (L 6) (L 7) i) := ⟨fun i hi => HU.out i (by omega)⟩
      have hc0 : wr.cell? ⟨gb, 0, none⟩ = some (.int .i64 s) := (blk_cell BKgb.out 0).trans rfl
      have hz0 := blk_frozen BKgb.out 0
      clear HU HK
      go_wp2
      clear hc0 hz0
      obtain ⟨wo, rfl⟩ : ∃ wo : World, wo = wr := ⟨_, rfl⟩
      go_loopg [4] ((L 5).length + 1) (fun kq v4 w' => ∃ u : Nat, u ≤ (L 5).length ∧ kq = (L 5).length + 1 - u ∧ v4 = .int .i64 u ∧ Aside0 (∀ j, j < u → UnitU s (L 6) (L 5) j) ∧ Aside0 (w'.heap[gb]? = some (.cells (bkCells s A c L) 27 (0, 0))) ∧ Aside0 (Below w.heap.size w w'))
      case atStart => exact ⟨0, by omega, rfl, rfl, ⟨fun j hj => by omega⟩, BKgb, HB⟩
      case round =>
        clear HB BKgb
        obtain ⟨u, hu5, rfl, rfl, HU, BKgb, HB⟩ := hrel
        have hc0 : wr.cell? ⟨gb, 0, none⟩ = some (.int .i64 s) := (blk_cell BKgb.out 0).trans rfl
        have hz0 := blk_frozen BKgb.out 0
        by_cases hlt5 : u < (L 5).length
        · have u0 : (0 : Int) ≤ (u : Int) := by omega
          have u5 : (u : Int) < ((L 5).length : Int) := by omega
          obtain ⟨ad5, o, ea5, hx5, HO⟩ := at_v ((HR.out 5 (by omega)).below HB.out) u hlt5
          have hc6 : wr.cell? ⟨gb, 6, none⟩ = some (.slice (some ad5) (L 5).length (c 5)) := (blk_cell BKgb.out 6).trans (by rw [← ea5]; rfl)
          have hz6 := blk_frozen BKgb.out 6
          clear ea5
          have HUU : Aside0 (UnitU s (L 6) (L 5) u ↔ (¬ o < 0 ∧ ¬ o > s ∧ ¬ (o > 0 ∧ (L 6).getD (o - 1).toNat 0 = 0))) := ⟨by unfold UnitU; rw [HO.out]⟩
          by_cases g1 : o < 0
          · have g1b : decide (o < 0) = true := decide_eq_true g1
            have HF : Aside0 (¬ SlotsP s L) := ⟨fun hh => (HUU.out.mp (hh.2.2 u hlt5)).1 g1⟩
            go_wp2
            go_quiet (fail)
            go_wp2
            go_ret
            exact RetB.mk rfl (iff_f HF.out) (pw_below_drewN HB.out _)
          have Gg1 := Aside0.mk g1
          have g1b : decide (o < 0) = false := decide_eq_false g1
          by_cases g2 : o > s
          · have g2b : decide (o > s) = true := decide_eq_true g2
            have HF : Aside0 (¬ SlotsP s L) := ⟨fun hh => (HUU.out.mp (hh.2.2 u hlt5)).2.1 g2⟩
            go_wp2
            go_quiet (fail)
            go_wp2
            go_ret
            exact RetB.mk rfl (iff_f HF.out) (pw_below_drewN HB.out _)
          have Gg2 := Aside0.mk g2
          have g2b : decide (o > s) = false := decide_eq_false g2
          by_cases g3 : o > 0
          · have g3b : decide (o > 0) = true := decide_eq_true g3
            obtain ⟨t, ht⟩ : ∃ t, o - 1 = t := ⟨_, rfl⟩
            have HT := Aside0.mk ht
            have o0 : (0 : Int) ≤ t := by omega
            have o6 : t < ((L 6).length : Int) := by have := Hh3.out; omega
            obtain ⟨ad6, v, ea6, hx6, HV⟩ := at_v ((HR.out 6 (by omega)).below HB.out) t.toNat (by omega)
            have hc7 : wr.cell? ⟨gb, 7, none⟩ = some (.slice (some ad6) (L 6).length (c 6)) := (blk_cell BKgb.out 7).trans (by rw [← ea6]; rfl)
            have hz7 := blk_frozen BKgb.out 7
            clear ea6
            by_cases g4 : v = 0
            · have G4 := Aside0.mk g4
              have g4b : (v == 0) = true := by rw [g4]; rfl
              clear g4
              have HF : Aside0 (¬ SlotsP s L) := ⟨fun hh => (HUU.out.mp (hh.2.2 u hlt5)).2.2 ⟨g3, by rw [HT.out, HV.out]; exact G4.out⟩⟩
              go_wp2
              go_quiet (fail)
              go_wp2
              go_ret
              exact RetB.mk rfl (iff_f HF.out) (pw_below_drewN HB.out _)
            · have G4 := Aside0.mk g4
              have g4b : (v == 0) = false := beq_eq_false_iff_ne.mpr g4
              clear g4
              have HZ : Aside0 (∀ j, j < u + 1 → UnitU s (L 6) (L 5) j) := ⟨fun j hj => if q : j < u then HU.out j q else (show u = j by omega) ▸ HUU.out.mpr ⟨Gg1.out, Gg2.out, fun q => G4.out (by have h2 := q.2; rw [HT.out, HV.out] at h2; exact h2)⟩⟩
              go_wp2
              go_quiet (fail)
              go_wp2
              go_roundg ((L 5).length + 1 - (u + 1))
              case measure => omega
              case rel => exact ⟨u + 1, by omega, rfl, by go_num, HZ, ⟨blk_drewN BKgb.out _⟩, ⟨pw_below_drewN HB.out _⟩⟩
          · have g3b : decide (o > 0) = false := decide_eq_false g3
            have HZ : Aside0 (∀ j, j < u + 1 → UnitU s (L 6) (L 5) j) := ⟨fun j hj => if q : j < u then HU.out j q else (show u = j by omega) ▸ HUU.out.mpr ⟨Gg1.out, Gg2.out, fun q => g3 q.1⟩⟩
            go_wp2
            go_quiet (fail)
            go_wp2
            go_roundg ((L 5).length + 1 - (u + 1))
            case measure => omega
            case rel => exact ⟨u + 1, by omega, rfl, by go_num, HZ, ⟨blk_drewN BKgb.out _⟩, ⟨pw_below_drewN HB.out _⟩⟩
        · have HF : Aside0 (SlotsP s L) := ⟨⟨HS.out, HA.out, fun j hj => HU.out j (by omega)⟩⟩
          have hc6 : wr.cell? ⟨gb, 6, none⟩ = some (.slice (A 5) (L 5).length (c 5)) := (blk_cell BKgb.out 6).trans rfl
          have hz6 := blk_frozen BKgb.out 6
          go_wp2
          go_ret
          exact RetB.mk rfl (iff_t HF.out) HB.out
end Go.Proofs.Ytekneicikmaplaa.Bk
namespace Go.Proofs.Ytekneicikmaplaa.Bk
open Go.RowKit Go.Proofs.YtekneicikmaplaaW.PrintWords Go.Proofs.YtekneicikmaplaaW.PrintLast Go.Proofs.YtekneicikmaplaaW.PrintMore
/-- Entry i of list k is a room of its kind. -/
def EntryU (P O H : List Int) (k i : Nat) : Prop := ¬ H.getD i 0 < 0 ∧ ¬ H.getD i 0 ≥ (O.length : Int) ∧ kindN (P.getD (H.getD i 0 / 8).toNat 0) = (k : Int) ∧ ¬ (H.getD i 0 % (sizeN k : Int) > 0)
def ListP (P O H : List Int) (k : Nat) : Prop := H.length ≤ O.length ∧ ∀ i, i < H.length → EntryU P O H k i
def ListsP (L : Nat → List Int) : Prop := ∀ k, k < 4 → ListP (L 0) (L 5) (L (k + 1)) k
theorem sizeN_pos' (k : Nat) : 0 < (sizeN k : Int) := by have := sizeN_pos k; omega
set_option maxHeartbeats 4000000 in
set_option maxRecDepth 100000 in
theorem l3Lists_calls (s : Int) (A : Nat → Option Addr) (c : Nat → Nat) (L : Nat → List Int) (w : World) (h : BkC w A c L) (hl : ∀ i, (L i).length ≤ 35184372088832) (h05 : (L 5).length = (L 0).length * 8) :
    Calls Try.prog 47 #[.agg (bkCells s A c L)] w (RetB (ListsP L) w) := by
  have HR := Aside0.mk h
  have HL := Aside0.mk hl
  have H05 := Aside0.mk h05
  clear h hl h05
  have HB := Aside0.mk (Below.refl w.heap.size w)
  go_enter Try.func47, Try.ntmps47
  go_wp2_with (first | ((with_reducible refine gate_dst (N := 1) rfl ?_); refine box_event rfl (N := 1) rfl (cs := bkCells s A c L) (t := 27) (by first | (go_simp; done) | (go_simp; rfl)) ?_; intro gb hggb w1 hbox hb; have n0_ := Aside0.mk (below_step HB.out hb); have BKgb := Aside0.mk hbox; have HGgb := Aside0.mk (show w.heap.size ≤ gb by rw [hggb]; exact HB.out.size); clear HB; have HB := n0_; clear n0_ hbox hb hggb))
  go_loopg [3] 5 (fun kq v3 w' => ∃ k : Nat, k ≤ 4 ∧ kq = 5 - k ∧ v3 = .int .i64 k ∧ Aside0 (∀ j, j < k → ListP (L 0) (L 5) (L (j + 1)) j) ∧ Aside0 (w'.heap[gb]? = some (.cells (bkCells s A c L) 27 (0, 0))) ∧ Aside0 (Below w.heap.size w w'))
  case atStart => exact ⟨0, by omega, rfl, rfl, ⟨fun j hj => by omega⟩, BKgb, HB⟩
  case round =>
    clear HB BKgb
    obtain ⟨k, hk4, rfl, rfl, HU, BKgb, HB⟩ := hrel
    by_cases hlt : k < 4
    · have hi4 : (k : Int) < 4 := by omega
      have k0 : (0 : Int) ≤ (k : Int) := by omega
      have hck : wr.cell? ⟨gb, 2 + k, none⟩ = some (.slice (A (k + 1)) (L (k + 1)).length (c (k + 1))) := (blk_cell BKgb.out (2 + k)).trans (by match k, hlt with | 0, _ => rfl | 1, _ => rfl | 2, _ => rfl | 3, _ => rfl)
      have hzk := blk_frozen BKgb.out (2 + k)
      have hc6 : wr.cell? ⟨gb, 6, none⟩ = some (.slice (A 5) (L 5).length (c 5)) := (blk_cell BKgb.out 6).trans rfl
      have hz6 := blk_frozen BKgb.out 6
      by_cases hlen : (L (k + 1)).length > (L 5).length
      · have HF : Aside0 (¬ ListsP L) := ⟨fun hh => by have := (hh k hlt).1; omega⟩
        have hlen' : ((L 5).length : Int) < ((L (k + 1)).length : Int) := by omega
        go_wp2
        go_quiet (fail)
        go_wp2
        go_ret
        exact RetB.mk rfl (iff_f HF.out) (pw_below_drewN HB.out _)
      · have hlen' : ¬ ((L 5).length : Int) < ((L (k + 1)).length : Int) := by omega
        have HLE : Aside0 ((L (k + 1)).length ≤ (L 5).length) := ⟨by omega⟩
        go_wp2
        go_quiet (fail)
        go_wp2
        have HB2 := Aside0.mk (pw_below_drewN HB.out nq)
        have BK2 := Aside0.mk (blk_drewN BKgb.out nq)
        clear hck hzk hc6 hz6 HB BKgb hlen hlen'
        obtain ⟨wo, hwo⟩ : ∃ wo : World, wo = wr.drewN nq := ⟨_, rfl⟩
        rw [← hwo] at HB2 BK2 ⊢
        clear hwo
        go_loopg [4] ((L (k + 1)).length + 1) (fun kq v4 w' => ∃ i : Nat, i ≤ (L (k + 1)).length ∧ kq = (L (k + 1)).length + 1 - i ∧ v4 = .int .i64 i ∧ Aside0 (∀ j, j < i → EntryU (L 0) (L 5) (L (k + 1)) k j) ∧ Aside0 (w'.heap[gb]? = some (.cells (bkCells s A c L) 27 (0, 0))) ∧ Aside0 (Below w.heap.size w w'))
        case atStart => exact ⟨0, by omega, rfl, rfl, ⟨fun j hj => by omega⟩, BK2, HB2⟩
        case round =>
          clear HB2 BK2
          obtain ⟨i, hil, rfl, rfl, HI, BKgb, HB⟩ := hrel
          have hck : wr.cell? ⟨gb, 2 + k, none⟩ = some (.slice (A (k + 1)) (L (k + 1)).length (c (k + 1))) := (blk_cell BKgb.out (2 + k)).trans (by match k, hlt with | 0, _ => rfl | 1, _ => rfl | 2, _ => rfl | 3, _ => rfl)
          have hzk := blk_frozen BKgb.out (2 + k)
          have hl64 : ((L (k + 1)).length : Int) ≤ 35184372088832 := by have := HL.out (k + 1); omega
          by_cases hlti : i < (L (k + 1)).length
          · have i0 : (0 : Int) ≤ (i : Int) := by omega
            have i1 : (i : Int) < ((L (k + 1)).length : Int) := by omega
            obtain ⟨adk, a, eak, hxk, HA⟩ := at_v ((HR.out (k + 1) (by omega)).below HB.out) i hlti
            rw [eak] at hck
            clear eak
            have hc6 : wr.cell? ⟨gb, 6, none⟩ = some (.slice (A 5) (L 5).length (c 5)) := (blk_cell BKgb.out 6).trans rfl
            have hz6 := blk_frozen BKgb.out 6
            have HE : Aside0 (EntryU (L 0) (L 5) (L (k + 1)) k i ↔ (¬ a < 0 ∧ ¬ a ≥ ((L 5).length : Int) ∧ kindN ((L 0).getD (a / 8).toNat 0) = (k : Int) ∧ ¬ (a % (sizeN k : Int) > 0))) := ⟨by unfold EntryU; rw [HA.out]⟩
            by_cases g1 : a < 0
            · have HF : Aside0 (¬ ListsP L) := ⟨fun hh => (HE.out.mp ((hh k hlt).2 i hlti)).1 g1⟩
              go_wp2
              go_ret
              exact RetB.mk rfl (iff_f HF.out) HB.out
            by_cases g2 : a ≥ ((L 5).length : Int)
            · have HF : Aside0 (¬ ListsP L) := ⟨fun hh => (HE.out.mp ((hh k hlt).2 i hlti)).2.1 g2⟩
              go_wp2
              go_ret
              exact RetB.mk rfl (iff_f HF.out) HB.out
            have G12 := Aside0.mk (And.intro g1 g2)
            have a0 : (0 : Int) ≤ a := by omega
            have aM : a ≤ 35184372088832 := by have := HL.out 5; omega
            have hdv : wrap64 (a.tdiv 8) = a / 8 := by rw [Int.tdiv_eq_ediv_of_nonneg a0]; unfold wrap64; omega
            have a8 : (0 : Int) ≤ a / 8 := by omega
            have a9 : a / 8 < ((L 0).length : Int) := by have := H05.out; omega
            obtain ⟨ad0, q, ea0, hx0, HQ⟩ := at_v ((HR.out 0 (by omega)).below HB.out) (a / 8).toNat (by omega)
            have hc1 : wr.cell? ⟨gb, 1, none⟩ = some (.slice (some ad0) (L 0).length (c 0)) := (blk_cell BKgb.out 1).trans (by rw [← ea0]; rfl)
            have hz1 := blk_frozen BKgb.out 1
            clear ea0
            obtain ⟨d, hd⟩ : ∃ d, kindN q = d := ⟨_, rfl⟩
            have HD := Aside0.mk hd
            clear hd
            go_wp2_with fail
            refine (l3Kind_calls _ _).mono ?_
            rintro e w2 ⟨rfl, rfl⟩
            rw [HD.out]
            by_cases g3 : d = (k : Int)
            · have G3 := Aside0.mk g3
              have g3b : (d != (k : Int)) = false := bne_eq_false_iff_eq.mpr g3
              clear g3
              go_wp2_with fail
              refine (l3Size_calls k hlt _).mono ?_
              rintro e w3 ⟨rfl, hb⟩
              have HB3 := Aside0.mk (below_step HB.out hb)
              have BK3 := Aside0.mk (blk_below BKgb.out hb)
              clear hb hc1 hz1 hc6 hz6 hck hzk hx0 hxk HB BKgb
              obtain ⟨z, hz⟩ : ∃ z : Nat, sizeN k = z := ⟨_, rfl⟩
              have HZ := Aside0.mk hz
              have z0 : (0 : Int) < (z : Int) := by have := sizeN_pos k; omega
              rw [hz]
              clear hz
              have hzb : ((z : Int) == 0) = false := by rw [beq_eq_false_iff_ne]; omega
              by_cases g4 : a % (z : Int) > 0
              · have HF : Aside0 (¬ ListsP L) := ⟨fun hh => by have h4 := (HE.out.mp ((hh k hlt).2 i hlti)).2.2.2; rw [HZ.out] at h4; omega⟩
                go_wp2
                go_ret
                exact RetB.mk rfl (iff_f HF.out) HB3.out
              · have HI2 : Aside0 (∀ j, j < i + 1 → EntryU (L 0) (L 5) (L (k + 1)) k j) := ⟨fun j hj => if p : j < i then HI.out j p else (show i = j by omega) ▸ HE.out.mpr ⟨G12.out.1, G12.out.2, by rw [HQ.out, HD.out]; exact G3.out, by rw [HZ.out]; omega⟩⟩
                go_wp2
                go_roundg ((L (k + 1)).length + 1 - (i + 1))
                case measure => omega
                case rel => exact ⟨i + 1, by omega, rfl, by go_num, HI2, BK3, HB3⟩
            · have HF : Aside0 (¬ ListsP L) := ⟨fun hh => g3 (by rw [← HD.out, ← HQ.out]; exact (HE.out.mp ((hh k hlt).2 i hlti)).2.2.1)⟩
              have g3b : (d != (k : Int)) = true := bne_iff_ne.mpr g3
              clear g3
              go_wp2
              go_ret
              exact RetB.mk rfl (iff_f HF.out) HB.out
          · have HU2 : Aside0 (∀ j, j < k + 1 → ListP (L 0) (L 5) (L (j + 1)) j) := ⟨fun j hj => if p : j < k then HU.out j p else (show k = j by omega) ▸ ⟨HLE.out, fun x hx => HI.out x (by omega)⟩⟩
            have hni : ¬ (i : Int) < ((L (k + 1)).length : Int) := by omega
            go_wp2
            go_roundg (5 - (k + 1))
            case measure => omega
            case rel => exact ⟨k + 1, by omega, rfl, by go_num, HU2, BKgb, HB⟩
    · have HF : Aside0 (ListsP L) := ⟨fun j hj => HU.out j (by omega)⟩
      go_wp2
      go_ret
      exact RetB.mk rfl (iff_t HF.out) HB.out
end Go.Proofs.Ytekneicikmaplaa.Bk
namespace Go.Proofs.Ytekneicikmaplaa.Bk
open Go.RowKit Go.Proofs.YtekneicikmaplaaW.PrintWords Go.Proofs.YtekneicikmaplaaW.PrintLast Go.Proofs.YtekneicikmaplaaW.PrintMore
def BookP (s : Int) (L : Nat → List Int) : Prop := SlotsP s L ∧ ListsP L ∧ ∀ p, p < (L 0).length → PageP L p
set_option maxHeartbeats 1000000 in
set_option maxRecDepth 100000 in
theorem specBookOk_calls (s : Int) (A : Nat → Option Addr) (c : Nat → Nat) (L : Nat → List Int) (w : World) (h : BkC w A c L) (hl : ∀ i, (L i).length ≤ 35184372088832) (hw : Wf64 (L 0)) :
    Calls Try.prog 21 #[.agg (bkCells s A c L)] w (RetB (BookP s L) w) := by
  have HR := Aside0.mk h
  have HL := Aside0.mk hl
  have HW := Aside0.mk hw
  have hl0 : ((L 0).length : Int) ≤ 35184372088832 := by have := hl 0; omega
  clear h hl hw
  have HB := Aside0.mk (Below.refl w.heap.size w)
  go_enter Try.func21, Try.ntmps21
  go_wp2_with (first | ((with_reducible refine gate_dst (N := 1) rfl ?_); refine box_event rfl (N := 1) rfl (cs := bkCells s A c L) (t := 27) (by first | (go_simp; done) | (go_simp; rfl)) ?_; intro gb hggb w1 hbox hb; have n0_ := Aside0.mk (below_step HB.out hb); have BKgb := Aside0.mk hbox; have HGgb := Aside0.mk (show w.heap.size ≤ gb by rw [hggb]; exact HB.out.size); clear HB; have HB := n0_; have fgbs0 : w1.cell? ⟨gb, 0, none⟩ = some (.int .i64 _) := (blk_cell BKgb.out 0).trans rfl; have fgb1 : w1.cell? ⟨gb, 1, none⟩ = some (.slice (A 0) (L 0).length (c 0)) := (blk_cell BKgb.out 1).trans rfl; have fgb2 : w1.cell? ⟨gb, 2, none⟩ = some (.slice (A 1) (L 1).length (c 1)) := (blk_cell BKgb.out 2).trans rfl; have fgb3 : w1.cell? ⟨gb, 3, none⟩ = some (.slice (A 2) (L 2).length (c 2)) := (blk_cell BKgb.out 3).trans rfl; have fgb4 : w1.cell? ⟨gb, 4, none⟩ = some (.slice (A 3) (L 3).length (c 3)) := (blk_cell BKgb.out 4).trans rfl; have fgb5 : w1.cell? ⟨gb, 5, none⟩ = some (.slice (A 4) (L 4).length (c 4)) := (blk_cell BKgb.out 5).trans rfl; have fgb6 : w1.cell? ⟨gb, 6, none⟩ = some (.slice (A 5) (L 5).length (c 5)) := (blk_cell BKgb.out 6).trans rfl; have fgb7 : w1.cell? ⟨gb, 7, none⟩ = some (.slice (A 6) (L 6).length (c 6)) := (blk_cell BKgb.out 7).trans rfl; have fgb8 : w1.cell? ⟨gb, 8, none⟩ = some (.slice (A 7) (L 7).length (c 7)) := (blk_cell BKgb.out 8).trans rfl; have fgbz0 := blk_frozen BKgb.out 0; have fgbz1 := blk_frozen BKgb.out 1; have fgbz2 := blk_frozen BKgb.out 2; have fgbz3 := blk_frozen BKgb.out 3; have fgbz4 := blk_frozen BKgb.out 4; have fgbz5 := blk_frozen BKgb.out 5; have fgbz6 := blk_frozen BKgb.out 6; have fgbz7 := blk_frozen BKgb.out 7; have fgbz8 := blk_frozen BKgb.out 8; clear n0_ hbox hb hggb))
  refine (l3Slots_calls s A c L _ (HR.out.below HB.out) HL.out).mono ?_
  rintro e w3 ⟨r, rfl, hr, hb⟩
  have HB3 := Aside0.mk (below_step HB.out hb)
  have BK3 := Aside0.mk (blk_below BKgb.out hb)
  clear HB BKgb fgbs0 fgbz0 fgb1 fgbz1 fgb2 fgbz2 fgb3 fgbz3 fgb4 fgbz4 fgb5 fgbz5 fgb6 fgbz6 fgb7 fgbz7 fgb8 fgbz8 hb
  cases r with
  | false =>
    have HF : Aside0 (¬ BookP s L) := ⟨fun hh => by have := hr.mpr hh.1; cases this⟩
    clear hr
    go_wp2
    go_ret
    exact RetB.mk rfl (iff_f HF.out) HB3.out
  | true =>
    have HS := Aside0.mk (hr.mp rfl)
    clear hr
    have fgbs0 : w3.cell? ⟨gb, 0, none⟩ = some (.int .i64 _) := (blk_cell BK3.out 0).trans rfl; have fgb1 : w3.cell? ⟨gb, 1, none⟩ = some (.slice (A 0) (L 0).length (c 0)) := (blk_cell BK3.out 1).trans rfl; have fgb2 : w3.cell? ⟨gb, 2, none⟩ = some (.slice (A 1) (L 1).length (c 1)) := (blk_cell BK3.out 2).trans rfl; have fgb3 : w3.cell? ⟨gb, 3, none⟩ = some (.slice (A 2) (L 2).length (c 2)) := (blk_cell BK3.out 3).trans rfl; have fgb4 : w3.cell? ⟨gb, 4, none⟩ = some (.slice (A 3) (L 3).length (c 3)) := (blk_cell BK3.out 4).trans rfl; have fgb5 : w3.cell? ⟨gb, 5, none⟩ = some (.slice (A 4) (L 4).length (c 4)) := (blk_cell BK3.out 5).trans rfl; have fgb6 : w3.cell? ⟨gb, 6, none⟩ = some (.slice (A 5) (L 5).length (c 5)) := (blk_cell BK3.out 6).trans rfl; have fgb7 : w3.cell? ⟨gb, 7, none⟩ = some (.slice (A 6) (L 6).length (c 6)) := (blk_cell BK3.out 7).trans rfl; have fgb8 : w3.cell? ⟨gb, 8, none⟩ = some (.slice (A 7) (L 7).length (c 7)) := (blk_cell BK3.out 8).trans rfl; have fgbz0 := blk_frozen BK3.out 0; have fgbz1 := blk_frozen BK3.out 1; have fgbz2 := blk_frozen BK3.out 2; have fgbz3 := blk_frozen BK3.out 3; have fgbz4 := blk_frozen BK3.out 4; have fgbz5 := blk_frozen BK3.out 5; have fgbz6 := blk_frozen BK3.out 6; have fgbz7 := blk_frozen BK3.out 7; have fgbz8 := blk_frozen BK3.out 8
    go_wp2_with fail
    refine (l3Lists_calls s A c L _ (HR.out.below HB3.out) HL.out (by have := HS.out.1.2.2.2.2.2.2; omega)).mono ?_
    rintro e w4 ⟨r, rfl, hr, hb⟩
    have HB4 := Aside0.mk (below_step HB3.out hb)
    have BK4 := Aside0.mk (blk_below BK3.out hb)
    clear HB3 BK3 fgbs0 fgbz0 fgb1 fgbz1 fgb2 fgbz2 fgb3 fgbz3 fgb4 fgbz4 fgb5 fgbz5 fgb6 fgbz6 fgb7 fgbz7 fgb8 fgbz8 hb
    cases r with
    | false =>
      have HF : Aside0 (¬ BookP s L) := ⟨fun hh => by have := hr.mpr hh.2.1; cases this⟩
      clear hr
      go_wp2
      go_ret
      exact RetB.mk rfl (iff_f HF.out) HB4.out
    | true =>
      have HLs := Aside0.mk (hr.mp rfl)
      clear hr
      go_wp2
      go_loopg [3] ((L 0).length + 1) (fun kq v3 w' => ∃ p : Nat, p ≤ (L 0).length ∧ kq = (L 0).length + 1 - p ∧ v3 = .int .i64 p ∧ Aside0 (∀ j, j < p → PageP L j) ∧ Aside0 (w'.heap[gb]? = some (.cells (bkCells s A c L) 27 (0, 0))) ∧ Aside0 (Below w.heap.size w w'))
      case atStart => exact ⟨0, by omega, rfl, rfl, ⟨fun j hj => by omega⟩, BK4, HB4⟩
      case round =>
        clear HB4 BK4
        obtain ⟨p, hp, rfl, rfl, HU, BKgb, HB⟩ := hrel
        have fgbs0 : wr.cell? ⟨gb, 0, none⟩ = some (.int .i64 _) := (blk_cell BKgb.out 0).trans rfl; have fgb1 : wr.cell? ⟨gb, 1, none⟩ = some (.slice (A 0) (L 0).length (c 0)) := (blk_cell BKgb.out 1).trans rfl; have fgb2 : wr.cell? ⟨gb, 2, none⟩ = some (.slice (A 1) (L 1).length (c 1)) := (blk_cell BKgb.out 2).trans rfl; have fgb3 : wr.cell? ⟨gb, 3, none⟩ = some (.slice (A 2) (L 2).length (c 2)) := (blk_cell BKgb.out 3).trans rfl; have fgb4 : wr.cell? ⟨gb, 4, none⟩ = some (.slice (A 3) (L 3).length (c 3)) := (blk_cell BKgb.out 4).trans rfl; have fgb5 : wr.cell? ⟨gb, 5, none⟩ = some (.slice (A 4) (L 4).length (c 4)) := (blk_cell BKgb.out 5).trans rfl; have fgb6 : wr.cell? ⟨gb, 6, none⟩ = some (.slice (A 5) (L 5).length (c 5)) := (blk_cell BKgb.out 6).trans rfl; have fgb7 : wr.cell? ⟨gb, 7, none⟩ = some (.slice (A 6) (L 6).length (c 6)) := (blk_cell BKgb.out 7).trans rfl; have fgb8 : wr.cell? ⟨gb, 8, none⟩ = some (.slice (A 7) (L 7).length (c 7)) := (blk_cell BKgb.out 8).trans rfl; have fgbz0 := blk_frozen BKgb.out 0; have fgbz1 := blk_frozen BKgb.out 1; have fgbz2 := blk_frozen BKgb.out 2; have fgbz3 := blk_frozen BKgb.out 3; have fgbz4 := blk_frozen BKgb.out 4; have fgbz5 := blk_frozen BKgb.out 5; have fgbz6 := blk_frozen BKgb.out 6; have fgbz7 := blk_frozen BKgb.out 7; have fgbz8 := blk_frozen BKgb.out 8
        by_cases hlt : p < (L 0).length
        · have p1 : (p : Int) < ((L 0).length : Int) := by omega
          go_wp2_with fail
          refine (l3Page_calls s A c L p _ (HR.out.below HB.out) hlt (by have := HS.out.1.2.2.2.2.2.2; omega) HL.out HW.out).mono ?_
          rintro e w3 ⟨r, rfl, hr, hb⟩
          have HB3 := Aside0.mk (below_step HB.out hb)
          have BK3 := Aside0.mk (blk_below BKgb.out hb)
          clear HB BKgb fgbs0 fgbz0 fgb1 fgbz1 fgb2 fgbz2 fgb3 fgbz3 fgb4 fgbz4 fgb5 fgbz5 fgb6 fgbz6 fgb7 fgbz7 fgb8 fgbz8 hb
          cases r with
          | false =>
            have HF : Aside0 (¬ BookP s L) := ⟨fun hh => by have := hr.mpr (hh.2.2 p hlt); cases this⟩
            clear hr
            go_wp2
            go_ret
            exact RetB.mk rfl (iff_f HF.out) HB3.out
          | true =>
            have HU2 : Aside0 (∀ j, j < p + 1 → PageP L j) := ⟨fun j hj => if q : j < p then HU.out j q else (show p = j by omega) ▸ hr.mp rfl⟩
            clear hr
            go_wp2
            go_roundg ((L 0).length + 1 - (p + 1))
            case measure => omega
            case rel => exact ⟨p + 1, by omega, rfl, by go_num, HU2, BK3, HB3⟩
        · have HF : Aside0 (BookP s L) := ⟨⟨HS.out, HLs.out, fun j hj => HU.out j (by omega)⟩⟩
          go_wp2
          go_ret
          exact RetB.mk rfl (iff_t HF.out) HB.out
end Go.Proofs.Ytekneicikmaplaa.Bk

-- own text, written by wip/tools/pp.py
import Derived.Test.YtfpdccaomhjpjaaPSPlatCheckx0
import Derived.Test.YtfpdccaomhjpjaaPSPlatCheckx1
namespace Go.Proofs.Ytfpdccaomhjpjaa.PSPlatCheck
open Go.RowKit Go.Proofs.YtfpdccaomhjpjaaW.PrintWords Go.Proofs.YtfpdccaomhjpjaaW.PrintLast Go.Proofs.YtfpdccaomhjpjaaW.PrintMore
attribute [local go_sem] max2_int min2_int max_two min_two max_three min_three max_four min_four   -- for this text's walks alone
set_option linter.unusedVariables false
set_option linter.unusedSimpArgs false
theorem zA2_0 {p : Prop} (h : p := by repeat (first | (with_reducible first | exact HB.out | apply below_alloc | apply pw_below_drewN | apply below_drew1 | refine below_set ?_ GE109.out | refine below_set ?_ GE112.out) | exact HB.out)) : p := h
theorem zA2_1 {p : Prop} (h : p := by (with_reducible repeat (first | refine blk_drewN ?_ _ | refine blk_drew ?_ | refine blk_alloc ?_ _)); exact BK109.out) : p := h
theorem zA2_2 {p : Prop} (h : p := by repeat (first | (with_reducible first | exact HB.out | apply below_alloc | apply pw_below_drewN | apply below_drew1 | refine below_set ?_ GE109.out) | exact HB.out)) : p := h
theorem zA2_3 {p : Prop} (h : p := by (with_reducible repeat (first | refine blk_drewN ?_ _ | refine blk_drew ?_ | refine blk_alloc ?_ _)); refine blk_put (cs := #[.int .i64 (Int.tmod t111 8), .int .i64 (Int.tmod (wrap64 (Int.tdiv t111 8)) 8), .int .i64 0]) ?_ 2 _ rfl; (with_reducible repeat (first | refine blk_drewN ?_ _ | refine blk_drew ?_ | refine blk_alloc ?_ _)); refine blk_put (cs := #[.int .i64 (Int.tmod t111 8), .int .i64 0, .int .i64 0]) ?_ 1 _ rfl; (with_reducible repeat (first | refine blk_drewN ?_ _ | refine blk_drew ?_ | refine blk_alloc ?_ _)); refine blk_put (cs := #[.int .i64 0, .int .i64 0, .int .i64 0]) ?_ 0 _ rfl; (with_reducible repeat (first | refine blk_drewN ?_ _ | refine blk_drew ?_ | refine blk_alloc ?_ _)); exact BK112.out) : p := h
theorem zA2_4 {p : Prop} (h : p := by (with_reducible repeat (first | refine blk_drewN ?_ _ | refine blk_drew ?_ | refine blk_alloc ?_ _)); refine blk_put (cs := #[.int .i64 0, .int .i64 0, .int .i64 0]) ?_ 2 _ rfl; (with_reducible repeat (first | refine blk_drewN ?_ _ | refine blk_drew ?_ | refine blk_alloc ?_ _)); refine blk_put (cs := #[.int .i64 0, .int .i64 0, .int .i64 0]) ?_ 1 _ rfl; (with_reducible repeat (first | refine blk_drewN ?_ _ | refine blk_drew ?_ | refine blk_alloc ?_ _)); refine blk_put (cs := #[.int .i64 0, .int .i64 0, .int .i64 0]) ?_ 0 _ rfl; (with_reducible repeat (first | refine blk_drewN ?_ _ | refine blk_drew ?_ | refine blk_alloc ?_ _)); exact BK109.out) : p := h
theorem zA2_5 {p : Prop} (h : p := by repeat (first | (with_reducible first | exact HB.out | apply below_alloc | apply pw_below_drewN | apply below_drew1) | exact HB.out)) : p := h
theorem zA2_6 {p : Prop} (h : p := by (try simp only [List.map_toArray, List.map_cons, List.map_nil]); first | done | rfl | (simp only [List.length_drop, List.length_take]; rfl)) : p := h
theorem zA2_7 {p : Prop} (h : p := by (with_reducible repeat (first | refine blk_drewN ?_ _ | refine blk_drew ?_ | refine blk_alloc ?_ _)); refine blk_far ?_ NB109_112.out _; (with_reducible repeat (first | refine blk_drewN ?_ _ | refine blk_drew ?_ | refine blk_alloc ?_ _)); refine blk_far ?_ NB109_112.out _; (with_reducible repeat (first | refine blk_drewN ?_ _ | refine blk_drew ?_ | refine blk_alloc ?_ _)); refine blk_far ?_ NB109_112.out _; (with_reducible repeat (first | refine blk_drewN ?_ _ | refine blk_drew ?_ | refine blk_alloc ?_ _)); exact BK109.out) : p := h
theorem zA2_8 {p : Prop} (h : p := by (with_reducible repeat (first | refine blk_drewN ?_ _ | refine blk_drew ?_ | refine blk_alloc ?_ _)); exact BK112.out) : p := h
theorem zA2_9 {p : Prop} (h : p := by kernel_rfl) : p := h
theorem zA2_10 {p : Prop} (h : p := by first | rfl | (simp [errW_none, errW_some] <;> rfl) | (simp [*, errW_none, errW_some] <;> rfl)) : p := h
theorem zA2_11 {p : Prop} (h : p := by rw [hg]; exact Nat.ne_of_lt (blk_lt (g := gb109) (o := .cells #[.int .i64 0, .int .i64 0, .int .i64 0] 43 (0, 0)) zA2_1)) : p := h
theorem zA2_12 {p : Prop} (h : p := by rw [hg]; exact Nat.ne_of_gt (blk_lt (g := gb109) (o := .cells #[.int .i64 0, .int .i64 0, .int .i64 0] 43 (0, 0)) zA2_1)) : p := h
theorem zA2_13 {p : Prop} (h : p := by rw [hg]; exact (below_size zA2_5)) : p := h
theorem zA2_14 {p : Prop} (h : p := by first | (with_reducible assumption) | assumption) : p := h
theorem zA2_15 {p : Prop} (h : p := by rw [hg]; exact (below_size zA2_2)) : p := h
theorem zp2_ {P : Program} {md : Region.Mode} {ops : Array Oper} {Q : Exit → Act → World → Prop} {S : World → Prop} {ds : List Nat} (i : Nat) (N : Tmp) {oi : Oper} {v : Value} {fuel : Nat} {l : Array Bool} {a : Act} {w : World} (l' : Array Bool) (hc : anyB md ops l l' i = true) {a' : Act} (h : wpAnyLast P md ops Q S ds fuel l' a' w) (hi : ops[i]? = some oi := by rfl) (hN : oi.dst = some N := by rfl) (hq : ∀ c a w, Q (.panic c) (a.put oi.dst v) w → Q (.panic c) a w := by exact fun _ _ _ h => h) (hy : Yields P ops oi v a := by exact Or.inl ⟨by rfl, by intro w'; go_simp; with_reducible rfl⟩) (ha : a.put (some N) v = a' := by simp only [Act.put, List.setIfInBounds_toArray, List.set_cons_zero, List.set_cons_succ, i64_w, i32_w]; rfl) : wpAnyLast P md ops Q S ds (fuel + 1) l a w := pure_ l' hi hN hc hq hy ha h
theorem zu2_ {P : Program} {md : Region.Mode} {ops : Array Oper} {Q : Exit → Act → World → Prop} {S : World → Prop} {ds : List Nat} (i : Nat) (N : Tmp) {oi : Oper} {fuel : Nat} {l : Array Bool} {a : Act} {w : World} (l' : Array Bool) (hc : anyB md ops l l' i = true) {a' : Act} (h : wpAnyLast P md ops Q S ds fuel l' a' w) (hi : ops[i]? = some oi := by rfl) (hN : oi.dst = some N := by rfl) (hq : ∀ c a w, Q (.panic c) (a.put oi.dst undef) w → Q (.panic c) a w := by exact fun _ _ _ h => h) (hy : Yields P ops oi undef a := by exact Or.inr ⟨by rfl, rfl⟩) (ha : a.put (some N) undef = a' := by simp only [Act.put, List.setIfInBounds_toArray, List.set_cons_zero, List.set_cons_succ, i64_w, i32_w]; rfl) : wpAnyLast P md ops Q S ds (fuel + 1) l a w := pure_ l' hi hN hc hq hy ha h
theorem zt2_2_ {P : Program} {md : Region.Mode} {ops : Array Oper} {Q : Exit → Act → World → Prop} {S : World → Prop} {ds : List Nat} (i : Nat) (N : Tmp) {oi : Oper} {v : Value} {fuel : Nat} {l : Array Bool} {a : Act} {w : World} (l' : Array Bool) (hc : takeB md ops ds l l' i = true) (hS : S w) {a' : Act} (h : wpAnyLast P md ops Q S ds fuel l' a' w) (hi : ops[i]? = some oi := by rfl) (hN : oi.dst = some N := by rfl) (hq : ∀ c a w, Q (.panic c) (a.put oi.dst v) w → Q (.panic c) a w := by exact fun _ _ _ h => h) (hy : YieldsIf P ops S oi v a := by exact Or.inl ⟨by rfl, by intro w' zz; (iterate 2 obtain ⟨_, zz⟩ := zz); go_simp; with_reducible rfl⟩) (ha : a.put (some N) v = a' := by simp only [Act.put, List.setIfInBounds_toArray, List.set_cons_zero, List.set_cons_succ, i64_w, i32_w]; rfl) : wpAnyLast P md ops Q S ds (fuel + 1) l a w := take_ l' hi hN hc hq hy hS ha h
theorem zt2_3_ {P : Program} {md : Region.Mode} {ops : Array Oper} {Q : Exit → Act → World → Prop} {S : World → Prop} {ds : List Nat} (i : Nat) (N : Tmp) {oi : Oper} {v : Value} {fuel : Nat} {l : Array Bool} {a : Act} {w : World} (l' : Array Bool) (hc : takeB md ops ds l l' i = true) (hS : S w) {a' : Act} (h : wpAnyLast P md ops Q S ds fuel l' a' w) (hi : ops[i]? = some oi := by rfl) (hN : oi.dst = some N := by rfl) (hq : ∀ c a w, Q (.panic c) (a.put oi.dst v) w → Q (.panic c) a w := by exact fun _ _ _ h => h) (hy : YieldsIf P ops S oi v a := by exact Or.inl ⟨by rfl, by intro w' zz; (iterate 3 obtain ⟨_, zz⟩ := zz); go_simp; with_reducible rfl⟩) (ha : a.put (some N) v = a' := by simp only [Act.put, List.setIfInBounds_toArray, List.set_cons_zero, List.set_cons_succ, i64_w, i32_w]; rfl) : wpAnyLast P md ops Q S ds (fuel + 1) l a w := take_ l' hi hN hc hq hy hS ha h
theorem zf2_3 {w : World} {g : Nat} {t : TypeId} {v0 v1 v2 : Value} (h : w.heap[g]? = some (.cells #[v0, v1, v2] t (0, 0))) : w.cell? ⟨g, 0, none⟩ = some v0 ∧ w.cell? ⟨g, 1, none⟩ = some v1 ∧ w.cell? ⟨g, 2, none⟩ = some v2 ∧ w.frozen? ⟨g, 0, none⟩ = false ∧ w.frozen? ⟨g, 1, none⟩ = false ∧ w.frozen? ⟨g, 2, none⟩ = false := ⟨(blk_cell h 0).trans rfl, (blk_cell h 1).trans rfl, (blk_cell h 2).trans rfl, blk_frozen h 0, blk_frozen h 1, blk_frozen h 2⟩
abbrev zl2_0 : Array Bool := #[false, false, false, false, false, false, false, false, false, false, false, false, false, false, false, false, false, false]
abbrev zl2_1 : Array Bool := #[true, false, false, false, false, false, false, false, false, false, false, false, false, false, false, false, false, false]
abbrev zl2_2 : Array Bool := #[true, true, false, false, false, false, false, false, false, false, false, false, false, false, false, false, false, false]
abbrev zl2_3 : Array Bool := #[true, true, true, false, false, false, false, false, false, false, false, false, false, false, false, false, false, false]
abbrev zl2_4 : Array Bool := #[true, true, true, true, false, false, false, false, false, false, false, false, false, false, false, false, false, false]
abbrev zl2_5 : Array Bool := #[true, true, true, true, true, false, false, false, false, false, false, false, false, false, false, false, false, false]
abbrev zl2_6 : Array Bool := #[true, true, true, true, true, true, false, false, false, false, false, false, false, false, false, false, false, false]
abbrev zl2_7 : Array Bool := #[true, true, true, true, true, true, true, false, false, false, false, false, false, false, false, false, false, false]
abbrev zl2_8 : Array Bool := #[true, true, true, true, true, true, true, true, false, false, false, false, false, false, false, false, false, false]
abbrev zl2_9 : Array Bool := #[true, true, true, true, true, true, true, true, true, false, false, false, false, false, false, false, false, false]
abbrev zl2_10 : Array Bool := #[true, true, true, true, true, true, true, true, true, true, false, false, false, false, false, false, false, false]
abbrev zl2_11 : Array Bool := #[true, true, true, true, true, true, true, true, true, true, true, false, false, false, false, false, false, false]
abbrev zl2_12 : Array Bool := #[true, true, true, true, true, true, true, true, true, true, true, true, false, false, false, false, false, false]
abbrev zl2_13 : Array Bool := #[true, true, true, true, true, true, true, true, true, true, true, true, true, false, false, false, false, false]
abbrev zl2_14 : Array Bool := #[true, true, true, true, true, true, true, true, true, true, true, true, true, true, false, false, false, false]
abbrev zl2_15 : Array Bool := #[true, true, true, true, true, true, true, true, true, true, true, true, true, true, true, false, false, false]
abbrev zl2_16 : Array Bool := #[true, true, true, true, true, true, true, true, true, true, true, true, true, true, true, true, false, false]
abbrev zl2_17 : Array Bool := #[true, true, true, true, true, true, true, true, true, true, true, true, true, true, true, true, true, false]
abbrev zl2_18 : Array Bool := #[true, true, true, true, true, true, true, true, true, true, true, true, true, true, true, true, true, true]

/-! ### spec_PlatCheck: function 22 -/
def spec_PlatCheck.f (l0 : List Int) : Option (Int × Int × Int × Bool) := if (l0.length : Int) = 0 then (some (0, 0, 0, false)) else (if 0 < (l0.length : Int) then ((spec_CellVal.f (rd l0 0)).bind fun t111 => ((spec_PlatOk.f (Int.tmod t111 8) (Int.tmod (wrap64 (Int.tdiv t111 8)) 8) (wrap64 (Int.tdiv t111 64))).bind fun t113 => (if t113 = true then ((spec_l2Magic.f (Int.tmod t111 8) (Int.tmod (wrap64 (Int.tdiv t111 8)) 8) (wrap64 (Int.tdiv t111 64))).bind fun t115 => (if (rd l0 0) = t115 then ((spec_l2Size.f (Int.tmod t111 8) (Int.tmod (wrap64 (Int.tdiv t111 8)) 8) (wrap64 (Int.tdiv t111 64))).bind fun t116 => (if (l0.length : Int) = t116 then (some (Int.tmod t111 8, Int.tmod (wrap64 (Int.tdiv t111 8)) 8, wrap64 (Int.tdiv t111 64), true)) else (some (0, 0, 0, false)))) else (some (0, 0, 0, false)))) else (some (0, 0, 0, false))))) else (none))
def spec_PlatCheck.T5 : Bool × List (List Nat × List Nat) := (true, [([], []), ([0], [0]), ([1], [1]), ([2, 1], [2]), ([3], [3]), ([4, 3], [3, 4]), ([5, 3], [3, 5]), ([3], [3]), ([7, 3, 3], [3, 7]), ([6, 8, 3], [3, 6, 8]), ([3, 9], [3, 9]), ([10, 8], [10]), ([11], [11]), ([12, 11], [11, 12]), ([11], [11]), ([14, 11, 11], [11, 14]), ([13, 15, 11], [11, 13, 15]), ([11, 16], [11, 16])])
def spec_PlatCheck.B5 : List Nat := [0, 1, 3, 7, 15, 31, 63, 15, 143, 511, 1023, 2047, 4095, 8191, 4095, 20479, 65535, 131071]
theorem spec_PlatCheck.tab5 : rtab .any (opsOf Try.f22 5) = spec_PlatCheck.T5 := by kernel_rfl
theorem spec_PlatCheck.bits5 : waitsOk spec_PlatCheck.T5.2 spec_PlatCheck.B5 = true := by kernel_rfl
set_option maxHeartbeats 8000000 in
set_option maxRecDepth 100000 in
theorem spec_PlatCheck.calls (A0 : Option Addr) (c0 : Nat) (l0 : List Int) (r1 : Int) (r2 : Int) (r3 : Int) (r4 : Bool) (w : World) (hr0 : Kd.C (Kd.int .u64) w A0 l0.length l0) (hc0 : l0.length ≤ c0) (h : spec_PlatCheck.f l0 = some (r1, r2, r3, r4)) :
  Calls Try.prog 22 #[.slice A0 l0.length c0] w fun e w' => e = .returned (.tuple #[.agg #[.int .i64 r1, .int .i64 r2, .int .i64 r3], .bool r4]) ∧ Below w.heap.size w w' := by
 have hu43 := Try.underlying43
 have HR0 := Aside0.mk hr0
 have HC0 := Aside0.mk hc0
 clear hr0 hc0
 have HB := Aside0.mk (Below.refl w.heap.size w)
 have H : (if (l0.length : Int) = 0 then (some (0, 0, 0, false)) else (if 0 < (l0.length : Int) then ((spec_CellVal.f (rd l0 0)).bind fun t111 => ((spec_PlatOk.f (Int.tmod t111 8) (Int.tmod (wrap64 (Int.tdiv t111 8)) 8) (wrap64 (Int.tdiv t111 64))).bind fun t113 => (if t113 = true then ((spec_l2Magic.f (Int.tmod t111 8) (Int.tmod (wrap64 (Int.tdiv t111 8)) 8) (wrap64 (Int.tdiv t111 64))).bind fun t115 => (if (rd l0 0) = t115 then ((spec_l2Size.f (Int.tmod t111 8) (Int.tmod (wrap64 (Int.tdiv t111 8)) 8) (wrap64 (Int.tdiv t111 64))).bind fun t116 => (if (l0.length : Int) = t116 then (some (Int.tmod t111 8, Int.tmod (wrap64 (Int.tdiv t111 8)) 8, wrap64 (Int.tdiv t111 64), true)) else (some (0, 0, 0, false)))) else (some (0, 0, 0, false)))) else (some (0, 0, 0, false))))) else (none))) = some (r1, r2, r3, r4) := h
 clear h
 by_cases c2 : (l0.length : Int) = 0
 ·rw [if_pos c2] at H
  have c2b0 : ((l0.length : Int) == 0) = true := beq_iff_eq.mpr c2
  have c2b1 : ((l0.length : Int) != 0) = false := bne_eq_false_iff_eq.mpr c2
  clear c2
  simp only [Option.some.injEq, Prod.mk.injEq] at H
  obtain ⟨rfl, rfl, rfl, rfl⟩ := H
  go_enter Try.func22, Try.ntmps22
  go_wp2_with (first | ((with_reducible refine gate_dst (N := 2) rfl ?_); (try (refine gate_guard (by rfl) ?_; dsimp only)); refine box_event ?hg (N := 2) ?hd (cs := #[.int .i64 0, .int .i64 0, .int .i64 0]) (t := 43) ?hr ?_; (case hd => rfl); (case hg => rfl); (case hr => first | (go_simp; done) | (go_simp; rfl)); intro gb109 hg w3 hbox hb; have n0_ := Aside0.mk (below_step zA2_5 hb); have n1_ := Aside0.mk (hbox); have n2_ := Aside0.mk ((zA2_13 : w.heap.size ≤ gb109)); have n3_ := Aside0.mk ((zA2_13 : w.heap.size ≤ gb109)); clear HB; have HB := n0_; have BK109 := n1_; have GW109 := n2_; have GE109 := n3_; clear n0_ n1_ n2_ n3_; clear hb hbox hg; have zz := zf2_3 BK109.out; (iterate 5 obtain ⟨_, zz⟩ := zz)))
  refine bodyPost_ret (results_ct rfl _ _ gb109 43 #[.int .i64 0, .int .i64 0, .int .i64 0] (0, 0) _ rfl zA2_4 Try.underlying43 rfl zA2_9) rfl ?_
  exact ⟨zA2_10, zA2_2⟩
 ·rw [if_neg c2] at H
  have c2b0 : ((l0.length : Int) == 0) = false := beq_eq_false_iff_ne.mpr c2
  have c2b1 : ((l0.length : Int) != 0) = true := bne_iff_ne.mpr c2
  have c2b2 : ¬ (l0 = []) := fun h_ => c2 (by rw [h_]; rfl)
  by_cases c5 : 0 < (l0.length : Int)
  ·rw [if_pos c5] at H
   have c5b0 : decide (0 < (l0.length : Int)) = true := decide_eq_true c5
   have c5b1 : decide (0 < l0.length) = true := decide_eq_true (by omega)
   clear c5
   replace H := Option.bind_eq_some_iff.mp H
   obtain ⟨t111, A60, H⟩ := H
   replace H : ((spec_PlatOk.f (Int.tmod t111 8) (Int.tmod (wrap64 (Int.tdiv t111 8)) 8) (wrap64 (Int.tdiv t111 64))).bind fun t113 => (if t113 = true then ((spec_l2Magic.f (Int.tmod t111 8) (Int.tmod (wrap64 (Int.tdiv t111 8)) 8) (wrap64 (Int.tdiv t111 64))).bind fun t115 => (if (rd l0 0) = t115 then ((spec_l2Size.f (Int.tmod t111 8) (Int.tmod (wrap64 (Int.tdiv t111 8)) 8) (wrap64 (Int.tdiv t111 64))).bind fun t116 => (if (l0.length : Int) = t116 then (some (Int.tmod t111 8, Int.tmod (wrap64 (Int.tdiv t111 8)) 8, wrap64 (Int.tdiv t111 64), true)) else (some (0, 0, 0, false)))) else (some (0, 0, 0, false)))) else (some (0, 0, 0, false)))) = some (r1, r2, r3, r4) := H
   have A6 := Aside0.mk A60
   clear A60
   replace H := Option.bind_eq_some_iff.mp H
   obtain ⟨t113, A70, H⟩ := H
   replace H : (if t113 = true then ((spec_l2Magic.f (Int.tmod t111 8) (Int.tmod (wrap64 (Int.tdiv t111 8)) 8) (wrap64 (Int.tdiv t111 64))).bind fun t115 => (if (rd l0 0) = t115 then ((spec_l2Size.f (Int.tmod t111 8) (Int.tmod (wrap64 (Int.tdiv t111 8)) 8) (wrap64 (Int.tdiv t111 64))).bind fun t116 => (if (l0.length : Int) = t116 then (some (Int.tmod t111 8, Int.tmod (wrap64 (Int.tdiv t111 8)) 8, wrap64 (Int.tdiv t111 64), true)) else (some (0, 0, 0, false)))) else (some (0, 0, 0, false)))) else (some (0, 0, 0, false))) = some (r1, r2, r3, r4) := H
   have A7 := Aside0.mk A70
   clear A70
   by_cases c8 : t113 = true
   ·subst c8
    have H1 : ((spec_l2Magic.f (Int.tmod t111 8) (Int.tmod (wrap64 (Int.tdiv t111 8)) 8) (wrap64 (Int.tdiv t111 64))).bind fun t115 => (if (rd l0 0) = t115 then ((spec_l2Size.f (Int.tmod t111 8) (Int.tmod (wrap64 (Int.tdiv t111 8)) 8) (wrap64 (Int.tdiv t111 64))).bind fun t116 => (if (l0.length : Int) = t116 then (some (Int.tmod t111 8, Int.tmod (wrap64 (Int.tdiv t111 8)) 8, wrap64 (Int.tdiv t111 64), true)) else (some (0, 0, 0, false)))) else (some (0, 0, 0, false)))) = some (r1, r2, r3, r4) := by rw [if_pos rfl] at H; exact H
    clear H
    have H := H1
    clear H1
    replace H := Option.bind_eq_some_iff.mp H
    obtain ⟨t115, A90, H⟩ := H
    replace H : (if (rd l0 0) = t115 then ((spec_l2Size.f (Int.tmod t111 8) (Int.tmod (wrap64 (Int.tdiv t111 8)) 8) (wrap64 (Int.tdiv t111 64))).bind fun t116 => (if (l0.length : Int) = t116 then (some (Int.tmod t111 8, Int.tmod (wrap64 (Int.tdiv t111 8)) 8, wrap64 (Int.tdiv t111 64), true)) else (some (0, 0, 0, false)))) else (some (0, 0, 0, false))) = some (r1, r2, r3, r4) := H
    have A9 := Aside0.mk A90
    clear A90
    by_cases c10 : (rd l0 0) = t115
    ·rw [if_pos c10] at H
     have c10b0 : ((rd l0 0) == t115) = true := beq_iff_eq.mpr c10
     have c10b1 : ((rd l0 0) != t115) = false := bne_eq_false_iff_eq.mpr c10
     clear c10
     replace H := Option.bind_eq_some_iff.mp H
     obtain ⟨t116, A110, H⟩ := H
     replace H : (if (l0.length : Int) = t116 then (some (Int.tmod t111 8, Int.tmod (wrap64 (Int.tdiv t111 8)) 8, wrap64 (Int.tdiv t111 64), true)) else (some (0, 0, 0, false))) = some (r1, r2, r3, r4) := H
     have A11 := Aside0.mk A110
     clear A110
     by_cases c12 : (l0.length : Int) = t116
     ·rw [if_pos c12] at H
      have c12b0 : ((l0.length : Int) == t116) = true := beq_iff_eq.mpr c12
      have c12b1 : ((l0.length : Int) != t116) = false := bne_eq_false_iff_eq.mpr c12
      clear c12
      simp only [Option.some.injEq, Prod.mk.injEq] at H
      obtain ⟨rfl, rfl, rfl, rfl⟩ := H
      go_enter Try.func22, Try.ntmps22
      try go_wp2_with (first | ((with_reducible refine gate_dst (N := 2) rfl ?_); (try (refine gate_guard (by rfl) ?_; dsimp only)); refine box_event ?hg (N := 2) ?hd (cs := #[.int .i64 0, .int .i64 0, .int .i64 0]) (t := 43) ?hr ?_; (case hd => rfl); (case hg => rfl); (case hr => first | (go_simp; done) | (go_simp; rfl)); intro gb109 hg w13 hbox hb; have n0_ := Aside0.mk (below_step zA2_5 hb); have n1_ := Aside0.mk (hbox); have n2_ := Aside0.mk ((zA2_13 : w.heap.size ≤ gb109)); have n3_ := Aside0.mk ((zA2_13 : w.heap.size ≤ gb109)); clear HB; have HB := n0_; have BK109 := n1_; have GW109 := n2_; have GE109 := n3_; clear n0_ n1_ n2_ n3_; clear hb hbox hg; have p110 : 0 ≤ (0 : Int) := (by omega); have q110 : 0 < (l0.length : Int) := of_decide_eq_true zA2_14; obtain ⟨ad110, e110, hx110_0⟩ := Kd.at_int HR0.out 0 p110 q110; cases e110; have qi110 : (0 < l0.length) = True := eq_true (by omega); (try rw [show ((0 : Int)).toNat = 0 from rfl] at hx110_0); (try rw [Addr.add_zero'] at hx110_0); replace hx110_0 := (HB.out.cell (World.block_lt_of_cell? w _ hx110_0)).trans hx110_0; replace p110 := eq_true p110; replace q110 := eq_true q110) | ((with_reducible refine gate_callee (f := 25) rfl ?_); refine goesL_ (some 13) rfl rfl Try.func25 zA2_9 rfl #[.int .u64 (rd l0 0)] rfl zA2_6 ?_; (with_reducible refine (spec_CellVal.calls (rd l0 0) t111 _ A6.out).mono ?_); rintro e w' ⟨rfl, ⟨nd, rfl⟩⟩; refine ⟨_, rfl, ?_⟩; (try (rw [drewN_self w13]; generalize hq_ : World.drewN w13 _ = w13; have n0_ : Aside0 (w13.heap[gb109]? = some (.cells #[.int .i64 0, .int .i64 0, .int .i64 0] 43 (0, 0))) := ⟨by rw [← hq_]; exact zA2_1⟩; have n1_ : Aside0 (Below w.heap.size w w13) := ⟨by rw [← hq_]; exact zA2_2⟩; clear BK109 HB hq_; have BK109 := n0_; have HB := n1_; clear n0_ n1_))) | ((with_reducible refine gate_dst (N := 5) rfl ?_); (try (refine gate_guard (by rfl) ?_; dsimp only)); refine box_event ?hg (N := 5) ?hd (cs := #[.int .i64 0, .int .i64 0, .int .i64 0]) (t := 43) ?hr ?_; (case hd => rfl); (case hg => rfl); (case hr => first | (go_simp; done) | (go_simp; rfl)); intro gb112 hg w14 hbox hb; have n0_ := Aside0.mk (blk_below zA2_1 hb); have n1_ := Aside0.mk (below_step zA2_2 hb); have n2_ := Aside0.mk (hbox); have n3_ := Aside0.mk ((zA2_15 : w.heap.size ≤ gb112)); have n4_ := Aside0.mk ((zA2_15 : w.heap.size ≤ gb112)); have n5_ := Aside0.mk ((zA2_11 : gb109 ≠ gb112)); have n6_ := Aside0.mk ((zA2_12 : gb112 ≠ gb109)); clear BK109; clear HB; have BK109 := n0_; have HB := n1_; have BK112 := n2_; have GW112 := n3_; have GE112 := n4_; have NB109_112 := n5_; have NB112_109 := n6_; clear n0_ n1_ n2_ n3_ n4_ n5_ n6_; clear hb hbox hg; have hnb15 := NB112_109.out; have hnc15 := NB109_112.out; have zz := zf2_3 BK112.out; (iterate 5 obtain ⟨_, zz⟩ := zz)))
      have n0_ : Aside0 ((((w14.setCell ⟨gb112, 0, none⟩ (.int .i64 (Int.tmod t111 8))).setCell ⟨gb112, 1, none⟩ (.int .i64 (Int.tmod (wrap64 (Int.tdiv t111 8)) 8))).setCell ⟨gb112, 2, none⟩ (.int .i64 (wrap64 (Int.tdiv t111 64)))).heap[gb109]? = some (.cells #[.int .i64 0, .int .i64 0, .int .i64 0] 43 (0, 0))) := ⟨zA2_7⟩
      have n1_ : Aside0 ((((w14.setCell ⟨gb112, 0, none⟩ (.int .i64 (Int.tmod t111 8))).setCell ⟨gb112, 1, none⟩ (.int .i64 (Int.tmod (wrap64 (Int.tdiv t111 8)) 8))).setCell ⟨gb112, 2, none⟩ (.int .i64 (wrap64 (Int.tdiv t111 64)))).heap[gb112]? = some (.cells #[.int .i64 (Int.tmod t111 8), .int .i64 (Int.tmod (wrap64 (Int.tdiv t111 8)) 8), .int .i64 (wrap64 (Int.tdiv t111 64))] 43 (0, 0))) := ⟨zA2_3⟩
      have n2_ : Aside0 (Below w.heap.size w (((w14.setCell ⟨gb112, 0, none⟩ (.int .i64 (Int.tmod t111 8))).setCell ⟨gb112, 1, none⟩ (.int .i64 (Int.tmod (wrap64 (Int.tdiv t111 8)) 8))).setCell ⟨gb112, 2, none⟩ (.int .i64 (wrap64 (Int.tdiv t111 64))))) := ⟨zA2_0⟩
      (try clear BK109)
      (try clear BK112)
      (try clear HB)
      generalize (((w14.setCell ⟨gb112, 0, none⟩ (.int .i64 (Int.tmod t111 8))).setCell ⟨gb112, 1, none⟩ (.int .i64 (Int.tmod (wrap64 (Int.tdiv t111 8)) 8))).setCell ⟨gb112, 2, none⟩ (.int .i64 (wrap64 (Int.tdiv t111 64)))) = w17 at n0_ n1_ n2_ ⊢
      have BK109 := n0_
      have BK112 := n1_
      have HB := n2_
      clear n0_ n1_ n2_
      have n0_ := Aside0.mk (blk_drew BK109.out)
      have n1_ := Aside0.mk (blk_drew BK112.out)
      have n2_ := Aside0.mk (below_drew1 HB.out)
      clear BK109
      clear BK112
      clear HB
      have BK109 := n0_
      have BK112 := n1_
      have HB := n2_
      clear n0_ n1_ n2_
      have p114 : 0 ≤ (0 : Int) := (by omega)
      have q114 : 0 < (l0.length : Int) := of_decide_eq_true zA2_14
      obtain ⟨ad114, e114, hx114_0⟩ := Kd.at_int HR0.out 0 p114 q114
      have hw114_0 := hx114_0
      (try rw [show ((0 : Int)).toNat = 0 from rfl] at hw114_0)
      (try rw [show 0 * 1 = 0 from rfl] at hw114_0)
      (try rw [Addr.add_zero'] at hw114_0)
      obtain rfl : ad110 = ad114 := (by injection e114)
      have qi114 : (0 < l0.length) = True := eq_true (by omega)
      (try rw [show ((0 : Int)).toNat = 0 from rfl] at hx114_0)
      (try rw [Addr.add_zero'] at hx114_0)
      replace hx114_0 := (HB.out.cell (World.block_lt_of_cell? w _ hx114_0)).trans hx114_0
      replace p114 := eq_true p114
      replace q114 := eq_true q114
      refine start_ (n := 18) (S := fun w' => w'.cell? ⟨gb112, 0, none⟩ = some (.int .i64 (Int.tmod t111 8)) ∧ w'.cell? ⟨gb112, 1, none⟩ = some (.int .i64 (Int.tmod (wrap64 (Int.tdiv t111 8)) 8)) ∧ w'.cell? ⟨gb112, 2, none⟩ = some (.int .i64 (wrap64 (Int.tdiv t111 64))) ∧ w'.cell? ad110 = some (.int .u64 (rd l0 0))) (ds := []) zl2_0 zA2_9 rfl rfl ⟨(blk_cell BK112.out 0).trans rfl, (blk_cell BK112.out 1).trans rfl, (blk_cell BK112.out 2).trans rfl, ((HB.out.cell (World.block_lt_of_cell? w _ hw114_0)).trans hw114_0)⟩ (fun hHeld => ?_); refine with_tabW spec_PlatCheck.tab5 spec_PlatCheck.bits5 (fun HT_ HW_ => ?_)
      generalize w17.drew = w18 at BK109 BK112 HB hx114_0 hHeld ⊢
      refine zt2_3_ 0 22 zl2_1 (take_ofW HT_.out HW_.out zA2_9) hHeld ?_
      refine one_ (i := 1) (N := some 23) zl2_2 rfl rfl (one_of HT_.out zA2_9) (by decide) (fun K hK => ?_)
      refine goes_ Try.func46 zA2_9 rfl #[.agg #[.int .i64 (Int.tmod t111 8), .int .i64 (Int.tmod (wrap64 (Int.tdiv t111 8)) 8), .int .i64 (wrap64 (Int.tdiv t111 64))]] (by rfl) rfl rfl zA2_6 ?_
      with_reducible refine (spec_PlatOk.calls (Int.tmod t111 8) (Int.tmod (wrap64 (Int.tdiv t111 8)) 8) (wrap64 (Int.tdiv t111 64)) true _ A7.out).mono ?_
      rintro e w19 ⟨rfl, hb⟩
      refine ⟨_, rfl, ?_⟩
      have n0_ := Aside0.mk (blk_below zA2_1 hb)
      have n1_ := Aside0.mk (blk_below zA2_8 hb)
      have n2_ := Aside0.mk (below_step zA2_0 hb)
      clear BK109
      clear BK112
      clear HB
      have BK109 := n0_
      have BK112 := n1_
      have HB := n2_
      clear n0_ n1_ n2_
      (try clear hb)
      (try clear hb2)
      (try clear hk)
      (try clear hi)
      refine hK.out _ _ ⟨(blk_cell BK112.out 0).trans rfl, (blk_cell BK112.out 1).trans rfl, (blk_cell BK112.out 2).trans rfl, ((HB.out.cell (World.block_lt_of_cell? w _ hw114_0)).trans hw114_0)⟩ (fun hHeld => ?_)
      clear hK K
      refine norm_ (a' := ?_) ?_ ?_
      rotate_left
      ·show Act.put _ (some 23) _ = _
       simp only [Act.put, List.setIfInBounds_toArray, List.set_cons_zero, List.set_cons_succ, i64_w, i32_w]
       rfl
      refine zp2_ 2 24 zl2_3 (any_of HT_.out zA2_9) ?_
      refine zp2_ 3 25 zl2_4 (any_of HT_.out zA2_9) ?_
      refine zp2_ 4 26 zl2_5 (any_of HT_.out zA2_9) ?_
      refine zp2_ 5 27 zl2_6 (any_of HT_.out zA2_9) ?_
      refine zt2_3_ 6 28 zl2_7 (take_ofW HT_.out HW_.out zA2_9) hHeld ?_
      refine zt2_3_ 7 29 zl2_8 (take_ofW HT_.out HW_.out zA2_9) hHeld ?_
      refine one_ (i := 8) (N := some 30) zl2_9 rfl rfl (one_of HT_.out zA2_9) (by decide) (fun K hK => ?_)
      refine goes_ Try.func47 zA2_9 rfl #[.agg #[.int .i64 (Int.tmod t111 8), .int .i64 (Int.tmod (wrap64 (Int.tdiv t111 8)) 8), .int .i64 (wrap64 (Int.tdiv t111 64))]] (by rfl) rfl rfl zA2_6 ?_
      with_reducible refine (spec_l2Magic.calls (Int.tmod t111 8) (Int.tmod (wrap64 (Int.tdiv t111 8)) 8) (wrap64 (Int.tdiv t111 64)) t115 _ A9.out).mono ?_
      rintro e w20 ⟨rfl, hb⟩
      refine ⟨_, rfl, ?_⟩
      have n0_ := Aside0.mk (blk_below zA2_1 hb)
      have n1_ := Aside0.mk (blk_below zA2_8 hb)
      have n2_ := Aside0.mk (below_step zA2_0 hb)
      clear BK109
      clear BK112
      clear HB
      have BK109 := n0_
      have BK112 := n1_
      have HB := n2_
      clear n0_ n1_ n2_
      (try clear hb)
      (try clear hb2)
      (try clear hk)
      (try clear hi)
      refine hK.out _ _ ⟨(blk_cell BK112.out 0).trans rfl, (blk_cell BK112.out 1).trans rfl, (blk_cell BK112.out 2).trans rfl, ((HB.out.cell (World.block_lt_of_cell? w _ hw114_0)).trans hw114_0)⟩ (fun hHeld => ?_)
      clear hK K
      refine norm_ (a' := ?_) ?_ ?_
      rotate_left
      ·show Act.put _ (some 30) _ = _
       simp only [Act.put, List.setIfInBounds_toArray, List.set_cons_zero, List.set_cons_succ, i64_w, i32_w]
       rfl
      refine zp2_ 9 31 zl2_10 (any_of HT_.out zA2_9) ?_
      refine zp2_ 10 32 zl2_11 (any_of HT_.out zA2_9) ?_
      refine zp2_ 11 33 zl2_12 (any_of HT_.out zA2_9) ?_
      refine zp2_ 12 34 zl2_13 (any_of HT_.out zA2_9) ?_
      refine zp2_ 13 35 zl2_14 (any_of HT_.out zA2_9) ?_
      refine zt2_3_ 14 36 zl2_15 (take_ofW HT_.out HW_.out zA2_9) hHeld ?_
      refine one_ (i := 15) (N := some 37) zl2_16 rfl rfl (one_of HT_.out zA2_9) (by decide) (fun K hK => ?_)
      refine goes_ Try.func48 zA2_9 rfl #[.agg #[.int .i64 (Int.tmod t111 8), .int .i64 (Int.tmod (wrap64 (Int.tdiv t111 8)) 8), .int .i64 (wrap64 (Int.tdiv t111 64))]] (by rfl) rfl rfl zA2_6 ?_
      with_reducible refine (spec_l2Size.calls (Int.tmod t111 8) (Int.tmod (wrap64 (Int.tdiv t111 8)) 8) (wrap64 (Int.tdiv t111 64)) t116 _ A11.out).mono ?_
      rintro e w21 ⟨rfl, hb⟩
      refine ⟨_, rfl, ?_⟩
      have n0_ := Aside0.mk (blk_below zA2_1 hb)
      have n1_ := Aside0.mk (blk_below zA2_8 hb)
      have n2_ := Aside0.mk (below_step zA2_0 hb)
      clear BK109
      clear BK112
      clear HB
      have BK109 := n0_
      have BK112 := n1_
      have HB := n2_
      clear n0_ n1_ n2_
      (try clear hb)
      (try clear hb2)
      (try clear hk)
      (try clear hi)
      refine hK.out _ _ ⟨(blk_cell BK112.out 0).trans rfl, (blk_cell BK112.out 1).trans rfl, (blk_cell BK112.out 2).trans rfl, ((HB.out.cell (World.block_lt_of_cell? w _ hw114_0)).trans hw114_0)⟩ (fun hHeld => ?_)
      clear hK K
      refine norm_ (a' := ?_) ?_ ?_
      rotate_left
      ·show Act.put _ (some 37) _ = _
       simp only [Act.put, List.setIfInBounds_toArray, List.set_cons_zero, List.set_cons_succ, i64_w, i32_w]
       rfl
      refine zp2_ 16 38 zl2_17 (any_of HT_.out zA2_9) ?_
      refine zp2_ 17 39 zl2_18 (any_of HT_.out zA2_9) ?_
      refine done_ (done_of HT_.out zA2_9) ?_
      have zz := zf2_3 BK112.out
      iterate 5 obtain ⟨_, zz⟩ := zz
      have zz := zf2_3 BK109.out
      iterate 5 obtain ⟨_, zz⟩ := zz
      try go_wp2
      refine bodyPost_ret (results_ct rfl _ _ gb109 43 #[.int .i64 (Int.tmod t111 8), .int .i64 (Int.tmod (wrap64 (Int.tdiv t111 8)) 8), .int .i64 (wrap64 (Int.tdiv t111 64))] (0, 0) _ rfl (by (with_reducible repeat (first | refine blk_drewN ?_ _ | refine blk_drew ?_ | refine blk_alloc ?_ _)); refine blk_put (cs := #[.int .i64 (Int.tmod t111 8), .int .i64 (Int.tmod (wrap64 (Int.tdiv t111 8)) 8), .int .i64 0]) ?_ 2 _ rfl; (with_reducible repeat (first | refine blk_drewN ?_ _ | refine blk_drew ?_ | refine blk_alloc ?_ _)); refine blk_put (cs := #[.int .i64 (Int.tmod t111 8), .int .i64 0, .int .i64 0]) ?_ 1 _ rfl; (with_reducible repeat (first | refine blk_drewN ?_ _ | refine blk_drew ?_ | refine blk_alloc ?_ _)); refine blk_put (cs := #[.int .i64 0, .int .i64 0, .int .i64 0]) ?_ 0 _ rfl; (with_reducible repeat (first | refine blk_drewN ?_ _ | refine blk_drew ?_ | refine blk_alloc ?_ _)); exact BK109.out) Try.underlying43 rfl zA2_9) rfl ?_
      exact ⟨zA2_10, zA2_0⟩
     ·rw [if_neg c12] at H
      have c12b0 : ((l0.length : Int) == t116) = false := beq_eq_false_iff_ne.mpr c12
      have c12b1 : ((l0.length : Int) != t116) = true := bne_iff_ne.mpr c12
      simp only [Option.some.injEq, Prod.mk.injEq] at H
      obtain ⟨rfl, rfl, rfl, rfl⟩ := H
      go_enter Try.func22, Try.ntmps22
      try go_wp2_with (first | ((with_reducible refine gate_dst (N := 2) rfl ?_); (try (refine gate_guard (by rfl) ?_; dsimp only)); refine box_event ?hg (N := 2) ?hd (cs := #[.int .i64 0, .int .i64 0, .int .i64 0]) (t := 43) ?hr ?_; (case hd => rfl); (case hg => rfl); (case hr => first | (go_simp; done) | (go_simp; rfl)); intro gb109 hg w24 hbox hb; have n0_ := Aside0.mk (below_step zA2_5 hb); have n1_ := Aside0.mk (hbox); have n2_ := Aside0.mk ((zA2_13 : w.heap.size ≤ gb109)); have n3_ := Aside0.mk ((zA2_13 : w.heap.size ≤ gb109)); clear HB; have HB := n0_; have BK109 := n1_; have GW109 := n2_; have GE109 := n3_; clear n0_ n1_ n2_ n3_; clear hb hbox hg; have p110 : 0 ≤ (0 : Int) := (by omega); have q110 : 0 < (l0.length : Int) := of_decide_eq_true zA2_14; obtain ⟨ad110, e110, hx110_0⟩ := Kd.at_int HR0.out 0 p110 q110; cases e110; have qi110 : (0 < l0.length) = True := eq_true (by omega); (try rw [show ((0 : Int)).toNat = 0 from rfl] at hx110_0); (try rw [Addr.add_zero'] at hx110_0); replace hx110_0 := (HB.out.cell (World.block_lt_of_cell? w _ hx110_0)).trans hx110_0; replace p110 := eq_true p110; replace q110 := eq_true q110) | ((with_reducible refine gate_callee (f := 25) rfl ?_); refine goesL_ (some 13) rfl rfl Try.func25 zA2_9 rfl #[.int .u64 (rd l0 0)] rfl zA2_6 ?_; (with_reducible refine (spec_CellVal.calls (rd l0 0) t111 _ A6.out).mono ?_); rintro e w' ⟨rfl, ⟨nd, rfl⟩⟩; refine ⟨_, rfl, ?_⟩; (try (rw [drewN_self w24]; generalize hq_ : World.drewN w24 _ = w24; have n0_ : Aside0 (w24.heap[gb109]? = some (.cells #[.int .i64 0, .int .i64 0, .int .i64 0] 43 (0, 0))) := ⟨by rw [← hq_]; exact zA2_1⟩; have n1_ : Aside0 (Below w.heap.size w w24) := ⟨by rw [← hq_]; exact zA2_2⟩; clear BK109 HB hq_; have BK109 := n0_; have HB := n1_; clear n0_ n1_))) | ((with_reducible refine gate_dst (N := 5) rfl ?_); (try (refine gate_guard (by rfl) ?_; dsimp only)); refine box_event ?hg (N := 5) ?hd (cs := #[.int .i64 0, .int .i64 0, .int .i64 0]) (t := 43) ?hr ?_; (case hd => rfl); (case hg => rfl); (case hr => first | (go_simp; done) | (go_simp; rfl)); intro gb112 hg w25 hbox hb; have n0_ := Aside0.mk (blk_below zA2_1 hb); have n1_ := Aside0.mk (below_step zA2_2 hb); have n2_ := Aside0.mk (hbox); have n3_ := Aside0.mk ((zA2_15 : w.heap.size ≤ gb112)); have n4_ := Aside0.mk ((zA2_15 : w.heap.size ≤ gb112)); have n5_ := Aside0.mk ((zA2_11 : gb109 ≠ gb112)); have n6_ := Aside0.mk ((zA2_12 : gb112 ≠ gb109)); clear BK109; clear HB; have BK109 := n0_; have HB := n1_; have BK112 := n2_; have GW112 := n3_; have GE112 := n4_; have NB109_112 := n5_; have NB112_109 := n6_; clear n0_ n1_ n2_ n3_ n4_ n5_ n6_; clear hb hbox hg; have hnb26 := NB112_109.out; have hnc26 := NB109_112.out; have zz := zf2_3 BK112.out; (iterate 5 obtain ⟨_, zz⟩ := zz)))
      have n0_ : Aside0 ((((w25.setCell ⟨gb112, 0, none⟩ (.int .i64 (Int.tmod t111 8))).setCell ⟨gb112, 1, none⟩ (.int .i64 (Int.tmod (wrap64 (Int.tdiv t111 8)) 8))).setCell ⟨gb112, 2, none⟩ (.int .i64 (wrap64 (Int.tdiv t111 64)))).heap[gb109]? = some (.cells #[.int .i64 0, .int .i64 0, .int .i64 0] 43 (0, 0))) := ⟨zA2_7⟩
      have n1_ : Aside0 ((((w25.setCell ⟨gb112, 0, none⟩ (.int .i64 (Int.tmod t111 8))).setCell ⟨gb112, 1, none⟩ (.int .i64 (Int.tmod (wrap64 (Int.tdiv t111 8)) 8))).setCell ⟨gb112, 2, none⟩ (.int .i64 (wrap64 (Int.tdiv t111 64)))).heap[gb112]? = some (.cells #[.int .i64 (Int.tmod t111 8), .int .i64 (Int.tmod (wrap64 (Int.tdiv t111 8)) 8), .int .i64 (wrap64 (Int.tdiv t111 64))] 43 (0, 0))) := ⟨zA2_3⟩
      have n2_ : Aside0 (Below w.heap.size w (((w25.setCell ⟨gb112, 0, none⟩ (.int .i64 (Int.tmod t111 8))).setCell ⟨gb112, 1, none⟩ (.int .i64 (Int.tmod (wrap64 (Int.tdiv t111 8)) 8))).setCell ⟨gb112, 2, none⟩ (.int .i64 (wrap64 (Int.tdiv t111 64))))) := ⟨zA2_0⟩
      (try clear BK109)
      (try clear BK112)
      (try clear HB)
      generalize (((w25.setCell ⟨gb112, 0, none⟩ (.int .i64 (Int.tmod t111 8))).setCell ⟨gb112, 1, none⟩ (.int .i64 (Int.tmod (wrap64 (Int.tdiv t111 8)) 8))).setCell ⟨gb112, 2, none⟩ (.int .i64 (wrap64 (Int.tdiv t111 64)))) = w28 at n0_ n1_ n2_ ⊢
      have BK109 := n0_
      have BK112 := n1_
      have HB := n2_
      clear n0_ n1_ n2_
      have n0_ := Aside0.mk (blk_drew BK109.out)
      have n1_ := Aside0.mk (blk_drew BK112.out)
      have n2_ := Aside0.mk (below_drew1 HB.out)
      clear BK109
      clear BK112
      clear HB
      have BK109 := n0_
      have BK112 := n1_
      have HB := n2_
      clear n0_ n1_ n2_
      have p114 : 0 ≤ (0 : Int) := (by omega)
      have q114 : 0 < (l0.length : Int) := of_decide_eq_true zA2_14
      obtain ⟨ad114, e114, hx114_0⟩ := Kd.at_int HR0.out 0 p114 q114
      have hw114_0 := hx114_0
      (try rw [show ((0 : Int)).toNat = 0 from rfl] at hw114_0)
      (try rw [show 0 * 1 = 0 from rfl] at hw114_0)
      (try rw [Addr.add_zero'] at hw114_0)
      obtain rfl : ad110 = ad114 := (by injection e114)
      have qi114 : (0 < l0.length) = True := eq_true (by omega)
      (try rw [show ((0 : Int)).toNat = 0 from rfl] at hx114_0)
      (try rw [Addr.add_zero'] at hx114_0)
      replace hx114_0 := (HB.out.cell (World.block_lt_of_cell? w _ hx114_0)).trans hx114_0
      replace p114 := eq_true p114
      replace q114 := eq_true q114
      refine start_ (n := 18) (S := fun w' => w'.cell? ⟨gb112, 0, none⟩ = some (.int .i64 (Int.tmod t111 8)) ∧ w'.cell? ⟨gb112, 1, none⟩ = some (.int .i64 (Int.tmod (wrap64 (Int.tdiv t111 8)) 8)) ∧ w'.cell? ⟨gb112, 2, none⟩ = some (.int .i64 (wrap64 (Int.tdiv t111 64))) ∧ w'.cell? ad110 = some (.int .u64 (rd l0 0))) (ds := []) zl2_0 zA2_9 rfl rfl ⟨(blk_cell BK112.out 0).trans rfl, (blk_cell BK112.out 1).trans rfl, (blk_cell BK112.out 2).trans rfl, ((HB.out.cell (World.block_lt_of_cell? w _ hw114_0)).trans hw114_0)⟩ (fun hHeld => ?_); refine with_tabW spec_PlatCheck.tab5 spec_PlatCheck.bits5 (fun HT_ HW_ => ?_)
      generalize w28.drew = w29 at BK109 BK112 HB hx114_0 hHeld ⊢
      refine zt2_3_ 0 22 zl2_1 (take_ofW HT_.out HW_.out zA2_9) hHeld ?_
      refine one_ (i := 1) (N := some 23) zl2_2 rfl rfl (one_of HT_.out zA2_9) (by decide) (fun K hK => ?_)
      refine goes_ Try.func46 zA2_9 rfl #[.agg #[.int .i64 (Int.tmod t111 8), .int .i64 (Int.tmod (wrap64 (Int.tdiv t111 8)) 8), .int .i64 (wrap64 (Int.tdiv t111 64))]] (by rfl) rfl rfl zA2_6 ?_
      with_reducible refine (spec_PlatOk.calls (Int.tmod t111 8) (Int.tmod (wrap64 (Int.tdiv t111 8)) 8) (wrap64 (Int.tdiv t111 64)) true _ A7.out).mono ?_
      rintro e w30 ⟨rfl, hb⟩
      refine ⟨_, rfl, ?_⟩
      have n0_ := Aside0.mk (blk_below zA2_1 hb)
      have n1_ := Aside0.mk (blk_below zA2_8 hb)
      have n2_ := Aside0.mk (below_step zA2_0 hb)
      clear BK109
      clear BK112
      clear HB
      have BK109 := n0_
      have BK112 := n1_
      have HB := n2_
      clear n0_ n1_ n2_
      (try clear hb)
      (try clear hb2)
      (try clear hk)
      (try clear hi)
      refine hK.out _ _ ⟨(blk_cell BK112.out 0).trans rfl, (blk_cell BK112.out 1).trans rfl, (blk_cell BK112.out 2).trans rfl, ((HB.out.cell (World.block_lt_of_cell? w _ hw114_0)).trans hw114_0)⟩ (fun hHeld => ?_)
      clear hK K
      refine norm_ (a' := ?_) ?_ ?_
      rotate_left
      ·show Act.put _ (some 23) _ = _
       simp only [Act.put, List.setIfInBounds_toArray, List.set_cons_zero, List.set_cons_succ, i64_w, i32_w]
       rfl
      refine zp2_ 2 24 zl2_3 (any_of HT_.out zA2_9) ?_
      refine zp2_ 3 25 zl2_4 (any_of HT_.out zA2_9) ?_
      refine zp2_ 4 26 zl2_5 (any_of HT_.out zA2_9) ?_
      refine zp2_ 5 27 zl2_6 (any_of HT_.out zA2_9) ?_
      refine zt2_3_ 6 28 zl2_7 (take_ofW HT_.out HW_.out zA2_9) hHeld ?_
      refine zt2_3_ 7 29 zl2_8 (take_ofW HT_.out HW_.out zA2_9) hHeld ?_
      refine one_ (i := 8) (N := some 30) zl2_9 rfl rfl (one_of HT_.out zA2_9) (by decide) (fun K hK => ?_)
      refine goes_ Try.func47 zA2_9 rfl #[.agg #[.int .i64 (Int.tmod t111 8), .int .i64 (Int.tmod (wrap64 (Int.tdiv t111 8)) 8), .int .i64 (wrap64 (Int.tdiv t111 64))]] (by rfl) rfl rfl zA2_6 ?_
      with_reducible refine (spec_l2Magic.calls (Int.tmod t111 8) (Int.tmod (wrap64 (Int.tdiv t111 8)) 8) (wrap64 (Int.tdiv t111 64)) t115 _ A9.out).mono ?_
      rintro e w31 ⟨rfl, hb⟩
      refine ⟨_, rfl, ?_⟩
      have n0_ := Aside0.mk (blk_below zA2_1 hb)
      have n1_ := Aside0.mk (blk_below zA2_8 hb)
      have n2_ := Aside0.mk (below_step zA2_0 hb)
      clear BK109
      clear BK112
      clear HB
      have BK109 := n0_
      have BK112 := n1_
      have HB := n2_
      clear n0_ n1_ n2_
      (try clear hb)
      (try clear hb2)
      (try clear hk)
      (try clear hi)
      refine hK.out _ _ ⟨(blk_cell BK112.out 0).trans rfl, (blk_cell BK112.out 1).trans rfl, (blk_cell BK112.out 2).trans rfl, ((HB.out.cell (World.block_lt_of_cell? w _ hw114_0)).trans hw114_0)⟩ (fun hHeld => ?_)
      clear hK K
      refine norm_ (a' := ?_) ?_ ?_
      rotate_left
      ·show Act.put _ (some 30) _ = _
       simp only [Act.put, List.setIfInBounds_toArray, List.set_cons_zero, List.set_cons_succ, i64_w, i32_w]
       rfl
      refine zp2_ 9 31 zl2_10 (any_of HT_.out zA2_9) ?_
      refine zp2_ 10 32 zl2_11 (any_of HT_.out zA2_9) ?_
      refine zp2_ 11 33 zl2_12 (any_of HT_.out zA2_9) ?_
      refine zp2_ 12 34 zl2_13 (any_of HT_.out zA2_9) ?_
      refine zp2_ 13 35 zl2_14 (any_of HT_.out zA2_9) ?_
      refine zt2_3_ 14 36 zl2_15 (take_ofW HT_.out HW_.out zA2_9) hHeld ?_
      refine one_ (i := 15) (N := some 37) zl2_16 rfl rfl (one_of HT_.out zA2_9) (by decide) (fun K hK => ?_)
      refine goes_ Try.func48 zA2_9 rfl #[.agg #[.int .i64 (Int.tmod t111 8), .int .i64 (Int.tmod (wrap64 (Int.tdiv t111 8)) 8), .int .i64 (wrap64 (Int.tdiv t111 64))]] (by rfl) rfl rfl zA2_6 ?_
      with_reducible refine (spec_l2Size.calls (Int.tmod t111 8) (Int.tmod (wrap64 (Int.tdiv t111 8)) 8) (wrap64 (Int.tdiv t111 64)) t116 _ A11.out).mono ?_
      rintro e w32 ⟨rfl, hb⟩
      refine ⟨_, rfl, ?_⟩
      have n0_ := Aside0.mk (blk_below zA2_1 hb)
      have n1_ := Aside0.mk (blk_below zA2_8 hb)
      have n2_ := Aside0.mk (below_step zA2_0 hb)
      clear BK109
      clear BK112
      clear HB
      have BK109 := n0_
      have BK112 := n1_
      have HB := n2_
      clear n0_ n1_ n2_
      (try clear hb)
      (try clear hb2)
      (try clear hk)
      (try clear hi)
      refine hK.out _ _ ⟨(blk_cell BK112.out 0).trans rfl, (blk_cell BK112.out 1).trans rfl, (blk_cell BK112.out 2).trans rfl, ((HB.out.cell (World.block_lt_of_cell? w _ hw114_0)).trans hw114_0)⟩ (fun hHeld => ?_)
      clear hK K
      refine norm_ (a' := ?_) ?_ ?_
      rotate_left
      ·show Act.put _ (some 37) _ = _
       simp only [Act.put, List.setIfInBounds_toArray, List.set_cons_zero, List.set_cons_succ, i64_w, i32_w]
       rfl
      refine zp2_ 16 38 zl2_17 (any_of HT_.out zA2_9) ?_
      refine zp2_ 17 39 zl2_18 (any_of HT_.out zA2_9) ?_
      refine done_ (done_of HT_.out zA2_9) ?_
      have zz := zf2_3 BK109.out
      iterate 5 obtain ⟨_, zz⟩ := zz
      try go_wp2
      refine bodyPost_ret (results_ct rfl _ _ gb109 43 #[.int .i64 0, .int .i64 0, .int .i64 0] (0, 0) _ rfl zA2_4 Try.underlying43 rfl zA2_9) rfl ?_
      exact ⟨zA2_10, zA2_0⟩
    ·rw [if_neg c10] at H
     have c10b0 : ((rd l0 0) == t115) = false := beq_eq_false_iff_ne.mpr c10
     have c10b1 : ((rd l0 0) != t115) = true := bne_iff_ne.mpr c10
     simp only [Option.some.injEq, Prod.mk.injEq] at H
     obtain ⟨rfl, rfl, rfl, rfl⟩ := H
     go_enter Try.func22, Try.ntmps22
     try go_wp2_with (first | ((with_reducible refine gate_dst (N := 2) rfl ?_); (try (refine gate_guard (by rfl) ?_; dsimp only)); refine box_event ?hg (N := 2) ?hd (cs := #[.int .i64 0, .int .i64 0, .int .i64 0]) (t := 43) ?hr ?_; (case hd => rfl); (case hg => rfl); (case hr => first | (go_simp; done) | (go_simp; rfl)); intro gb109 hg w34 hbox hb; have n0_ := Aside0.mk (below_step zA2_5 hb); have n1_ := Aside0.mk (hbox); have n2_ := Aside0.mk ((zA2_13 : w.heap.size ≤ gb109)); have n3_ := Aside0.mk ((zA2_13 : w.heap.size ≤ gb109)); clear HB; have HB := n0_; have BK109 := n1_; have GW109 := n2_; have GE109 := n3_; clear n0_ n1_ n2_ n3_; clear hb hbox hg; have p110 : 0 ≤ (0 : Int) := (by omega); have q110 : 0 < (l0.length : Int) := of_decide_eq_true zA2_14; obtain ⟨ad110, e110, hx110_0⟩ := Kd.at_int HR0.out 0 p110 q110; cases e110; have qi110 : (0 < l0.length) = True := eq_true (by omega); (try rw [show ((0 : Int)).toNat = 0 from rfl] at hx110_0); (try rw [Addr.add_zero'] at hx110_0); replace hx110_0 := (HB.out.cell (World.block_lt_of_cell? w _ hx110_0)).trans hx110_0; replace p110 := eq_true p110; replace q110 := eq_true q110) | ((with_reducible refine gate_callee (f := 25) rfl ?_); refine goesL_ (some 13) rfl rfl Try.func25 zA2_9 rfl #[.int .u64 (rd l0 0)] rfl zA2_6 ?_; (with_reducible refine (spec_CellVal.calls (rd l0 0) t111 _ A6.out).mono ?_); rintro e w' ⟨rfl, ⟨nd, rfl⟩⟩; refine ⟨_, rfl, ?_⟩; (try (rw [drewN_self w34]; generalize hq_ : World.drewN w34 _ = w34; have n0_ : Aside0 (w34.heap[gb109]? = some (.cells #[.int .i64 0, .int .i64 0, .int .i64 0] 43 (0, 0))) := ⟨by rw [← hq_]; exact zA2_1⟩; have n1_ : Aside0 (Below w.heap.size w w34) := ⟨by rw [← hq_]; exact zA2_2⟩; clear BK109 HB hq_; have BK109 := n0_; have HB := n1_; clear n0_ n1_))) | ((with_reducible refine gate_dst (N := 5) rfl ?_); (try (refine gate_guard (by rfl) ?_; dsimp only)); refine box_event ?hg (N := 5) ?hd (cs := #[.int .i64 0, .int .i64 0, .int .i64 0]) (t := 43) ?hr ?_; (case hd => rfl); (case hg => rfl); (case hr => first | (go_simp; done) | (go_simp; rfl)); intro gb112 hg w35 hbox hb; have n0_ := Aside0.mk (blk_below zA2_1 hb); have n1_ := Aside0.mk (below_step zA2_2 hb); have n2_ := Aside0.mk (hbox); have n3_ := Aside0.mk ((zA2_15 : w.heap.size ≤ gb112)); have n4_ := Aside0.mk ((zA2_15 : w.heap.size ≤ gb112)); have n5_ := Aside0.mk ((zA2_11 : gb109 ≠ gb112)); have n6_ := Aside0.mk ((zA2_12 : gb112 ≠ gb109)); clear BK109; clear HB; have BK109 := n0_; have HB := n1_; have BK112 := n2_; have GW112 := n3_; have GE112 := n4_; have NB109_112 := n5_; have NB112_109 := n6_; clear n0_ n1_ n2_ n3_ n4_ n5_ n6_; clear hb hbox hg; have hnb36 := NB112_109.out; have hnc36 := NB109_112.out; have zz := zf2_3 BK112.out; (iterate 5 obtain ⟨_, zz⟩ := zz)))
     have n0_ : Aside0 ((((w35.setCell ⟨gb112, 0, none⟩ (.int .i64 (Int.tmod t111 8))).setCell ⟨gb112, 1, none⟩ (.int .i64 (Int.tmod (wrap64 (Int.tdiv t111 8)) 8))).setCell ⟨gb112, 2, none⟩ (.int .i64 (wrap64 (Int.tdiv t111 64)))).heap[gb109]? = some (.cells #[.int .i64 0, .int .i64 0, .int .i64 0] 43 (0, 0))) := ⟨zA2_7⟩
     have n1_ : Aside0 ((((w35.setCell ⟨gb112, 0, none⟩ (.int .i64 (Int.tmod t111 8))).setCell ⟨gb112, 1, none⟩ (.int .i64 (Int.tmod (wrap64 (Int.tdiv t111 8)) 8))).setCell ⟨gb112, 2, none⟩ (.int .i64 (wrap64 (Int.tdiv t111 64)))).heap[gb112]? = some (.cells #[.int .i64 (Int.tmod t111 8), .int .i64 (Int.tmod (wrap64 (Int.tdiv t111 8)) 8), .int .i64 (wrap64 (Int.tdiv t111 64))] 43 (0, 0))) := ⟨zA2_3⟩
     have n2_ : Aside0 (Below w.heap.size w (((w35.setCell ⟨gb112, 0, none⟩ (.int .i64 (Int.tmod t111 8))).setCell ⟨gb112, 1, none⟩ (.int .i64 (Int.tmod (wrap64 (Int.tdiv t111 8)) 8))).setCell ⟨gb112, 2, none⟩ (.int .i64 (wrap64 (Int.tdiv t111 64))))) := ⟨zA2_0⟩
     (try clear BK109)
     (try clear BK112)
     (try clear HB)
     generalize (((w35.setCell ⟨gb112, 0, none⟩ (.int .i64 (Int.tmod t111 8))).setCell ⟨gb112, 1, none⟩ (.int .i64 (Int.tmod (wrap64 (Int.tdiv t111 8)) 8))).setCell ⟨gb112, 2, none⟩ (.int .i64 (wrap64 (Int.tdiv t111 64)))) = w38 at n0_ n1_ n2_ ⊢
     have BK109 := n0_
     have BK112 := n1_
     have HB := n2_
     clear n0_ n1_ n2_
     have n0_ := Aside0.mk (blk_drew BK109.out)
     have n1_ := Aside0.mk (blk_drew BK112.out)
     have n2_ := Aside0.mk (below_drew1 HB.out)
     clear BK109
     clear BK112
     clear HB
     have BK109 := n0_
     have BK112 := n1_
     have HB := n2_
     clear n0_ n1_ n2_
     have p114 : 0 ≤ (0 : Int) := (by omega)
     have q114 : 0 < (l0.length : Int) := of_decide_eq_true zA2_14
     obtain ⟨ad114, e114, hx114_0⟩ := Kd.at_int HR0.out 0 p114 q114
     have hw114_0 := hx114_0
     (try rw [show ((0 : Int)).toNat = 0 from rfl] at hw114_0)
     (try rw [show 0 * 1 = 0 from rfl] at hw114_0)
     (try rw [Addr.add_zero'] at hw114_0)
     obtain rfl : ad110 = ad114 := (by injection e114)
     have qi114 : (0 < l0.length) = True := eq_true (by omega)
     (try rw [show ((0 : Int)).toNat = 0 from rfl] at hx114_0)
     (try rw [Addr.add_zero'] at hx114_0)
     replace hx114_0 := (HB.out.cell (World.block_lt_of_cell? w _ hx114_0)).trans hx114_0
     replace p114 := eq_true p114
     replace q114 := eq_true q114
     refine start_ (n := 18) (S := fun w' => w'.cell? ⟨gb112, 0, none⟩ = some (.int .i64 (Int.tmod t111 8)) ∧ w'.cell? ⟨gb112, 1, none⟩ = some (.int .i64 (Int.tmod (wrap64 (Int.tdiv t111 8)) 8)) ∧ w'.cell? ⟨gb112, 2, none⟩ = some (.int .i64 (wrap64 (Int.tdiv t111 64))) ∧ w'.cell? ad110 = some (.int .u64 (rd l0 0))) (ds := []) zl2_0 zA2_9 rfl rfl ⟨(blk_cell BK112.out 0).trans rfl, (blk_cell BK112.out 1).trans rfl, (blk_cell BK112.out 2).trans rfl, ((HB.out.cell (World.block_lt_of_cell? w _ hw114_0)).trans hw114_0)⟩ (fun hHeld => ?_); refine with_tabW spec_PlatCheck.tab5 spec_PlatCheck.bits5 (fun HT_ HW_ => ?_)
     generalize w38.drew = w39 at BK109 BK112 HB hx114_0 hHeld ⊢
     refine zt2_3_ 0 22 zl2_1 (take_ofW HT_.out HW_.out zA2_9) hHeld ?_
     refine one_ (i := 1) (N := some 23) zl2_2 rfl rfl (one_of HT_.out zA2_9) (by decide) (fun K hK => ?_)
     refine goes_ Try.func46 zA2_9 rfl #[.agg #[.int .i64 (Int.tmod t111 8), .int .i64 (Int.tmod (wrap64 (Int.tdiv t111 8)) 8), .int .i64 (wrap64 (Int.tdiv t111 64))]] (by rfl) rfl rfl zA2_6 ?_
     with_reducible refine (spec_PlatOk.calls (Int.tmod t111 8) (Int.tmod (wrap64 (Int.tdiv t111 8)) 8) (wrap64 (Int.tdiv t111 64)) true _ A7.out).mono ?_
     rintro e w40 ⟨rfl, hb⟩
     refine ⟨_, rfl, ?_⟩
     have n0_ := Aside0.mk (blk_below zA2_1 hb)
     have n1_ := Aside0.mk (blk_below zA2_8 hb)
     have n2_ := Aside0.mk (below_step zA2_0 hb)
     clear BK109
     clear BK112
     clear HB
     have BK109 := n0_
     have BK112 := n1_
     have HB := n2_
     clear n0_ n1_ n2_
     (try clear hb)
     (try clear hb2)
     (try clear hk)
     (try clear hi)
     refine hK.out _ _ ⟨(blk_cell BK112.out 0).trans rfl, (blk_cell BK112.out 1).trans rfl, (blk_cell BK112.out 2).trans rfl, ((HB.out.cell (World.block_lt_of_cell? w _ hw114_0)).trans hw114_0)⟩ (fun hHeld => ?_)
     clear hK K
     refine norm_ (a' := ?_) ?_ ?_
     rotate_left
     ·show Act.put _ (some 23) _ = _
      simp only [Act.put, List.setIfInBounds_toArray, List.set_cons_zero, List.set_cons_succ, i64_w, i32_w]
      rfl
     refine zp2_ 2 24 zl2_3 (any_of HT_.out zA2_9) ?_
     refine zp2_ 3 25 zl2_4 (any_of HT_.out zA2_9) ?_
     refine zp2_ 4 26 zl2_5 (any_of HT_.out zA2_9) ?_
     refine zp2_ 5 27 zl2_6 (any_of HT_.out zA2_9) ?_
     refine zt2_3_ 6 28 zl2_7 (take_ofW HT_.out HW_.out zA2_9) hHeld ?_
     refine zt2_3_ 7 29 zl2_8 (take_ofW HT_.out HW_.out zA2_9) hHeld ?_
     refine one_ (i := 8) (N := some 30) zl2_9 rfl rfl (one_of HT_.out zA2_9) (by decide) (fun K hK => ?_)
     refine goes_ Try.func47 zA2_9 rfl #[.agg #[.int .i64 (Int.tmod t111 8), .int .i64 (Int.tmod (wrap64 (Int.tdiv t111 8)) 8), .int .i64 (wrap64 (Int.tdiv t111 64))]] (by rfl) rfl rfl zA2_6 ?_
     with_reducible refine (spec_l2Magic.calls (Int.tmod t111 8) (Int.tmod (wrap64 (Int.tdiv t111 8)) 8) (wrap64 (Int.tdiv t111 64)) t115 _ A9.out).mono ?_
     rintro e w41 ⟨rfl, hb⟩
     refine ⟨_, rfl, ?_⟩
     have n0_ := Aside0.mk (blk_below zA2_1 hb)
     have n1_ := Aside0.mk (blk_below zA2_8 hb)
     have n2_ := Aside0.mk (below_step zA2_0 hb)
     clear BK109
     clear BK112
     clear HB
     have BK109 := n0_
     have BK112 := n1_
     have HB := n2_
     clear n0_ n1_ n2_
     (try clear hb)
     (try clear hb2)
     (try clear hk)
     (try clear hi)
     refine hK.out _ _ ⟨(blk_cell BK112.out 0).trans rfl, (blk_cell BK112.out 1).trans rfl, (blk_cell BK112.out 2).trans rfl, ((HB.out.cell (World.block_lt_of_cell? w _ hw114_0)).trans hw114_0)⟩ (fun hHeld => ?_)
     clear hK K
     refine norm_ (a' := ?_) ?_ ?_
     rotate_left
     ·show Act.put _ (some 30) _ = _
      simp only [Act.put, List.setIfInBounds_toArray, List.set_cons_zero, List.set_cons_succ, i64_w, i32_w]
      rfl
     refine zp2_ 9 31 zl2_10 (any_of HT_.out zA2_9) ?_
     refine zp2_ 10 32 zl2_11 (any_of HT_.out zA2_9) ?_
     refine zp2_ 11 33 zl2_12 (any_of HT_.out zA2_9) ?_
     refine zu2_ 12 34 zl2_13 (any_of HT_.out zA2_9) ?_
     refine zu2_ 13 35 zl2_14 (any_of HT_.out zA2_9) ?_
     refine zu2_ 14 36 zl2_15 (any_of HT_.out zA2_9) ?_
     refine zu2_ 15 37 zl2_16 (any_of HT_.out zA2_9) ?_
     refine zu2_ 16 38 zl2_17 (any_of HT_.out zA2_9) ?_
     refine zp2_ 17 39 zl2_18 (any_of HT_.out zA2_9) ?_
     refine done_ (done_of HT_.out zA2_9) ?_
     have zz := zf2_3 BK109.out
     iterate 5 obtain ⟨_, zz⟩ := zz
     try go_wp2
     refine bodyPost_ret (results_ct rfl _ _ gb109 43 #[.int .i64 0, .int .i64 0, .int .i64 0] (0, 0) _ rfl zA2_4 Try.underlying43 rfl zA2_9) rfl ?_
     exact ⟨zA2_10, zA2_0⟩
   ·replace c8 := Bool.eq_false_iff.mpr c8
    subst c8
    have H1 : (some (0, 0, 0, false)) = some (r1, r2, r3, r4) := by rw [if_neg (show ¬ (false = true) by decide)] at H; exact H
    clear H
    have H := H1
    clear H1
    simp only [Option.some.injEq, Prod.mk.injEq] at H
    obtain ⟨rfl, rfl, rfl, rfl⟩ := H
    go_enter Try.func22, Try.ntmps22
    try go_wp2_with (first | ((with_reducible refine gate_dst (N := 2) rfl ?_); (try (refine gate_guard (by rfl) ?_; dsimp only)); refine box_event ?hg (N := 2) ?hd (cs := #[.int .i64 0, .int .i64 0, .int .i64 0]) (t := 43) ?hr ?_; (case hd => rfl); (case hg => rfl); (case hr => first | (go_simp; done) | (go_simp; rfl)); intro gb109 hg w43 hbox hb; have n0_ := Aside0.mk (below_step zA2_5 hb); have n1_ := Aside0.mk (hbox); have n2_ := Aside0.mk ((zA2_13 : w.heap.size ≤ gb109)); have n3_ := Aside0.mk ((zA2_13 : w.heap.size ≤ gb109)); clear HB; have HB := n0_; have BK109 := n1_; have GW109 := n2_; have GE109 := n3_; clear n0_ n1_ n2_ n3_; clear hb hbox hg; have p110 : 0 ≤ (0 : Int) := (by omega); have q110 : 0 < (l0.length : Int) := of_decide_eq_true zA2_14; obtain ⟨ad110, e110, hx110_0⟩ := Kd.at_int HR0.out 0 p110 q110; cases e110; have qi110 : (0 < l0.length) = True := eq_true (by omega); (try rw [show ((0 : Int)).toNat = 0 from rfl] at hx110_0); (try rw [Addr.add_zero'] at hx110_0); replace hx110_0 := (HB.out.cell (World.block_lt_of_cell? w _ hx110_0)).trans hx110_0; replace p110 := eq_true p110; replace q110 := eq_true q110) | ((with_reducible refine gate_callee (f := 25) rfl ?_); refine goesL_ (some 13) rfl rfl Try.func25 zA2_9 rfl #[.int .u64 (rd l0 0)] rfl zA2_6 ?_; (with_reducible refine (spec_CellVal.calls (rd l0 0) t111 _ A6.out).mono ?_); rintro e w' ⟨rfl, ⟨nd, rfl⟩⟩; refine ⟨_, rfl, ?_⟩; (try (rw [drewN_self w43]; generalize hq_ : World.drewN w43 _ = w43; have n0_ : Aside0 (w43.heap[gb109]? = some (.cells #[.int .i64 0, .int .i64 0, .int .i64 0] 43 (0, 0))) := ⟨by rw [← hq_]; exact zA2_1⟩; have n1_ : Aside0 (Below w.heap.size w w43) := ⟨by rw [← hq_]; exact zA2_2⟩; clear BK109 HB hq_; have BK109 := n0_; have HB := n1_; clear n0_ n1_))) | ((with_reducible refine gate_dst (N := 5) rfl ?_); (try (refine gate_guard (by rfl) ?_; dsimp only)); refine box_event ?hg (N := 5) ?hd (cs := #[.int .i64 0, .int .i64 0, .int .i64 0]) (t := 43) ?hr ?_; (case hd => rfl); (case hg => rfl); (case hr => first | (go_simp; done) | (go_simp; rfl)); intro gb112 hg w44 hbox hb; have n0_ := Aside0.mk (blk_below zA2_1 hb); have n1_ := Aside0.mk (below_step zA2_2 hb); have n2_ := Aside0.mk (hbox); have n3_ := Aside0.mk ((zA2_15 : w.heap.size ≤ gb112)); have n4_ := Aside0.mk ((zA2_15 : w.heap.size ≤ gb112)); have n5_ := Aside0.mk ((zA2_11 : gb109 ≠ gb112)); have n6_ := Aside0.mk ((zA2_12 : gb112 ≠ gb109)); clear BK109; clear HB; have BK109 := n0_; have HB := n1_; have BK112 := n2_; have GW112 := n3_; have GE112 := n4_; have NB109_112 := n5_; have NB112_109 := n6_; clear n0_ n1_ n2_ n3_ n4_ n5_ n6_; clear hb hbox hg; have hnb45 := NB112_109.out; have hnc45 := NB109_112.out; have zz := zf2_3 BK112.out; (iterate 5 obtain ⟨_, zz⟩ := zz)))
    have n0_ : Aside0 ((((w44.setCell ⟨gb112, 0, none⟩ (.int .i64 (Int.tmod t111 8))).setCell ⟨gb112, 1, none⟩ (.int .i64 (Int.tmod (wrap64 (Int.tdiv t111 8)) 8))).setCell ⟨gb112, 2, none⟩ (.int .i64 (wrap64 (Int.tdiv t111 64)))).heap[gb109]? = some (.cells #[.int .i64 0, .int .i64 0, .int .i64 0] 43 (0, 0))) := ⟨zA2_7⟩
    have n1_ : Aside0 ((((w44.setCell ⟨gb112, 0, none⟩ (.int .i64 (Int.tmod t111 8))).setCell ⟨gb112, 1, none⟩ (.int .i64 (Int.tmod (wrap64 (Int.tdiv t111 8)) 8))).setCell ⟨gb112, 2, none⟩ (.int .i64 (wrap64 (Int.tdiv t111 64)))).heap[gb112]? = some (.cells #[.int .i64 (Int.tmod t111 8), .int .i64 (Int.tmod (wrap64 (Int.tdiv t111 8)) 8), .int .i64 (wrap64 (Int.tdiv t111 64))] 43 (0, 0))) := ⟨zA2_3⟩
    have n2_ : Aside0 (Below w.heap.size w (((w44.setCell ⟨gb112, 0, none⟩ (.int .i64 (Int.tmod t111 8))).setCell ⟨gb112, 1, none⟩ (.int .i64 (Int.tmod (wrap64 (Int.tdiv t111 8)) 8))).setCell ⟨gb112, 2, none⟩ (.int .i64 (wrap64 (Int.tdiv t111 64))))) := ⟨zA2_0⟩
    (try clear BK109)
    (try clear BK112)
    (try clear HB)
    generalize (((w44.setCell ⟨gb112, 0, none⟩ (.int .i64 (Int.tmod t111 8))).setCell ⟨gb112, 1, none⟩ (.int .i64 (Int.tmod (wrap64 (Int.tdiv t111 8)) 8))).setCell ⟨gb112, 2, none⟩ (.int .i64 (wrap64 (Int.tdiv t111 64)))) = w47 at n0_ n1_ n2_ ⊢
    have BK109 := n0_
    have BK112 := n1_
    have HB := n2_
    clear n0_ n1_ n2_
    have n0_ := Aside0.mk (blk_drew BK109.out)
    have n1_ := Aside0.mk (blk_drew BK112.out)
    have n2_ := Aside0.mk (below_drew1 HB.out)
    clear BK109
    clear BK112
    clear HB
    have BK109 := n0_
    have BK112 := n1_
    have HB := n2_
    clear n0_ n1_ n2_
    refine start_ (n := 18) (S := fun w' => w'.cell? ⟨gb112, 0, none⟩ = some (.int .i64 (Int.tmod t111 8)) ∧ w'.cell? ⟨gb112, 1, none⟩ = some (.int .i64 (Int.tmod (wrap64 (Int.tdiv t111 8)) 8)) ∧ w'.cell? ⟨gb112, 2, none⟩ = some (.int .i64 (wrap64 (Int.tdiv t111 64)))) (ds := []) zl2_0 zA2_9 rfl rfl ⟨(blk_cell BK112.out 0).trans rfl, (blk_cell BK112.out 1).trans rfl, (blk_cell BK112.out 2).trans rfl⟩ (fun hHeld => ?_); refine with_tabW spec_PlatCheck.tab5 spec_PlatCheck.bits5 (fun HT_ HW_ => ?_)
    generalize w47.drew = w48 at BK109 BK112 HB hHeld ⊢
    refine zt2_2_ 0 22 zl2_1 (take_ofW HT_.out HW_.out zA2_9) hHeld ?_
    refine one_ (i := 1) (N := some 23) zl2_2 rfl rfl (one_of HT_.out zA2_9) (by decide) (fun K hK => ?_)
    refine goes_ Try.func46 zA2_9 rfl #[.agg #[.int .i64 (Int.tmod t111 8), .int .i64 (Int.tmod (wrap64 (Int.tdiv t111 8)) 8), .int .i64 (wrap64 (Int.tdiv t111 64))]] (by rfl) rfl rfl zA2_6 ?_
    with_reducible refine (spec_PlatOk.calls (Int.tmod t111 8) (Int.tmod (wrap64 (Int.tdiv t111 8)) 8) (wrap64 (Int.tdiv t111 64)) false _ A7.out).mono ?_
    rintro e w49 ⟨rfl, hb⟩
    refine ⟨_, rfl, ?_⟩
    have n0_ := Aside0.mk (blk_below zA2_1 hb)
    have n1_ := Aside0.mk (blk_below zA2_8 hb)
    have n2_ := Aside0.mk (below_step zA2_0 hb)
    clear BK109
    clear BK112
    clear HB
    have BK109 := n0_
    have BK112 := n1_
    have HB := n2_
    clear n0_ n1_ n2_
    (try clear hb)
    (try clear hb2)
    (try clear hk)
    (try clear hi)
    refine hK.out _ _ ⟨(blk_cell BK112.out 0).trans rfl, (blk_cell BK112.out 1).trans rfl, (blk_cell BK112.out 2).trans rfl⟩ (fun hHeld => ?_)
    clear hK K
    refine norm_ (a' := ?_) ?_ ?_
    rotate_left
    ·show Act.put _ (some 23) _ = _
     simp only [Act.put, List.setIfInBounds_toArray, List.set_cons_zero, List.set_cons_succ, i64_w, i32_w]
     rfl
    refine zp2_ 2 24 zl2_3 (any_of HT_.out zA2_9) ?_
    refine zp2_ 3 25 zl2_4 (any_of HT_.out zA2_9) ?_
    refine zu2_ 4 26 zl2_5 (any_of HT_.out zA2_9) ?_
    refine zu2_ 5 27 zl2_6 (any_of HT_.out zA2_9) ?_
    refine zu2_ 6 28 zl2_7 (any_of HT_.out zA2_9) ?_
    refine zu2_ 7 29 zl2_8 (any_of HT_.out zA2_9) ?_
    refine zu2_ 8 30 zl2_9 (any_of HT_.out zA2_9) ?_
    refine zu2_ 9 31 zl2_10 (any_of HT_.out zA2_9) ?_
    refine zp2_ 10 32 zl2_11 (any_of HT_.out zA2_9) ?_
    refine zp2_ 11 33 zl2_12 (any_of HT_.out zA2_9) ?_
    refine zu2_ 12 34 zl2_13 (any_of HT_.out zA2_9) ?_
    refine zu2_ 13 35 zl2_14 (any_of HT_.out zA2_9) ?_
    refine zu2_ 14 36 zl2_15 (any_of HT_.out zA2_9) ?_
    refine zu2_ 15 37 zl2_16 (any_of HT_.out zA2_9) ?_
    refine zu2_ 16 38 zl2_17 (any_of HT_.out zA2_9) ?_
    refine zp2_ 17 39 zl2_18 (any_of HT_.out zA2_9) ?_
    refine done_ (done_of HT_.out zA2_9) ?_
    have zz := zf2_3 BK109.out
    iterate 5 obtain ⟨_, zz⟩ := zz
    try go_wp2
    refine bodyPost_ret (results_ct rfl _ _ gb109 43 #[.int .i64 0, .int .i64 0, .int .i64 0] (0, 0) _ rfl zA2_4 Try.underlying43 rfl zA2_9) rfl ?_
    exact ⟨zA2_10, zA2_0⟩
  ·rw [if_neg c5] at H
   exact absurd H (by simp)

end Go.Proofs.Ytfpdccaomhjpjaa.PSPlatCheck

-- own text, written by wip/tools/pp.py
import Derived.Test.YtfpdccaomhjpjaaPSGuestOkx0
import Derived.Test.YtfpdccaomhjpjaaPSGuestOkx1
namespace Go.Proofs.Ytfpdccaomhjpjaa.PSGuestOk
open Go.RowKit Go.Proofs.YtfpdccaomhjpjaaW.PrintWords Go.Proofs.YtfpdccaomhjpjaaW.PrintLast Go.Proofs.YtfpdccaomhjpjaaW.PrintMore
attribute [local go_sem] max2_int min2_int max_two min_two max_three min_three max_four min_four   -- for this text's walks alone
set_option linter.unusedVariables false
set_option linter.unusedSimpArgs false
theorem zA2_0 {p : Prop} (h : p := by repeat (first | (with_reducible first | exact HB.out | apply below_alloc | apply pw_below_drewN | apply below_drew1 | refine below_set ?_ GE103.out | refine below_set ?_ GE104.out) | exact HB.out)) : p := h
theorem zA2_1 {p : Prop} (h : p := by (with_reducible repeat (first | refine blk_drewN ?_ _ | refine blk_drew ?_ | refine blk_alloc ?_ _)); exact BK103.out) : p := h
theorem zA2_2 {p : Prop} (h : p := by kernel_rfl) : p := h
theorem zA2_3 {p : Prop} (h : p := by (with_reducible repeat (first | refine blk_drewN ?_ _ | refine blk_drew ?_ | refine blk_alloc ?_ _)); exact BK104.out) : p := h
theorem zA2_4 {p : Prop} (h : p := by (try simp only [List.map_toArray, List.map_cons, List.map_nil]); first | done | rfl | (simp only [List.length_drop, List.length_take]; rfl)) : p := h
theorem zA2_5 {p : Prop} (h : p := by first | rfl | (simp [errW_none, errW_some] <;> rfl) | (simp [*, errW_none, errW_some] <;> rfl)) : p := h
theorem zA2_6 {p : Prop} (h : p := by first | rfl | (simp; done) | (simp [*]; done)) : p := h
theorem zA2_7 {p : Prop} (h : p := by first | omega | exact Nat.le_refl _) : p := h
theorem zA2_8 {p : Prop} (h : p := by repeat (first | (with_reducible first | exact HB.out | apply below_alloc | apply pw_below_drewN | apply below_drew1 | refine below_set ?_ GE103.out) | exact HB.out)) : p := h
theorem zA2_9 {p : Prop} (h : p := by repeat (first | (with_reducible first | exact HB.out | apply below_alloc | apply pw_below_drewN | apply below_drew1) | exact HB.out)) : p := h
theorem zp2_ {P : Program} {md : Region.Mode} {ops : Array Oper} {Q : Exit → Act → World → Prop} {S : World → Prop} {ds : List Nat} (i : Nat) (N : Tmp) {oi : Oper} {v : Value} {fuel : Nat} {l : Array Bool} {a : Act} {w : World} (l' : Array Bool) (hc : anyB md ops l l' i = true) {a' : Act} (h : wpAnyLast P md ops Q S ds fuel l' a' w) (hi : ops[i]? = some oi := by rfl) (hN : oi.dst = some N := by rfl) (hq : ∀ c a w, Q (.panic c) (a.put oi.dst v) w → Q (.panic c) a w := by exact fun _ _ _ h => h) (hy : Yields P ops oi v a := by exact Or.inl ⟨by rfl, by intro w'; go_simp; with_reducible rfl⟩) (ha : a.put (some N) v = a' := by simp only [Act.put, List.setIfInBounds_toArray, List.set_cons_zero, List.set_cons_succ, i64_w, i32_w]; rfl) : wpAnyLast P md ops Q S ds (fuel + 1) l a w := pure_ l' hi hN hc hq hy ha h
theorem zu2_ {P : Program} {md : Region.Mode} {ops : Array Oper} {Q : Exit → Act → World → Prop} {S : World → Prop} {ds : List Nat} (i : Nat) (N : Tmp) {oi : Oper} {fuel : Nat} {l : Array Bool} {a : Act} {w : World} (l' : Array Bool) (hc : anyB md ops l l' i = true) {a' : Act} (h : wpAnyLast P md ops Q S ds fuel l' a' w) (hi : ops[i]? = some oi := by rfl) (hN : oi.dst = some N := by rfl) (hq : ∀ c a w, Q (.panic c) (a.put oi.dst undef) w → Q (.panic c) a w := by exact fun _ _ _ h => h) (hy : Yields P ops oi undef a := by exact Or.inr ⟨by rfl, rfl⟩) (ha : a.put (some N) undef = a' := by simp only [Act.put, List.setIfInBounds_toArray, List.set_cons_zero, List.set_cons_succ, i64_w, i32_w]; rfl) : wpAnyLast P md ops Q S ds (fuel + 1) l a w := pure_ l' hi hN hc hq hy ha h
theorem zt2_25_ {P : Program} {md : Region.Mode} {ops : Array Oper} {Q : Exit → Act → World → Prop} {S : World → Prop} {ds : List Nat} (i : Nat) (N : Tmp) {oi : Oper} {v : Value} {fuel : Nat} {l : Array Bool} {a : Act} {w : World} (l' : Array Bool) (hc : takeB md ops ds l l' i = true) (hS : S w) {a' : Act} (h : wpAnyLast P md ops Q S ds fuel l' a' w) (hi : ops[i]? = some oi := by rfl) (hN : oi.dst = some N := by rfl) (hq : ∀ c a w, Q (.panic c) (a.put oi.dst v) w → Q (.panic c) a w := by exact fun _ _ _ h => h) (hy : YieldsIf P ops S oi v a := by exact Or.inl ⟨by rfl, by intro w' zz; obtain ⟨_, _, _, _, _, _, _, _, _, _, _, _, _, _, _, _, _, _, _, _, _, _, _, _, _, _⟩ := zz; go_simp; with_reducible rfl⟩) (ha : a.put (some N) v = a' := by simp only [Act.put, List.setIfInBounds_toArray, List.set_cons_zero, List.set_cons_succ, i64_w, i32_w]; rfl) : wpAnyLast P md ops Q S ds (fuel + 1) l a w := take_ l' hi hN hc hq hy hS ha h
theorem zt2_28_ {P : Program} {md : Region.Mode} {ops : Array Oper} {Q : Exit → Act → World → Prop} {S : World → Prop} {ds : List Nat} (i : Nat) (N : Tmp) {oi : Oper} {v : Value} {fuel : Nat} {l : Array Bool} {a : Act} {w : World} (l' : Array Bool) (hc : takeB md ops ds l l' i = true) (hS : S w) {a' : Act} (h : wpAnyLast P md ops Q S ds fuel l' a' w) (hi : ops[i]? = some oi := by rfl) (hN : oi.dst = some N := by rfl) (hq : ∀ c a w, Q (.panic c) (a.put oi.dst v) w → Q (.panic c) a w := by exact fun _ _ _ h => h) (hy : YieldsIf P ops S oi v a := by exact Or.inl ⟨by rfl, by intro w' zz; obtain ⟨_, _, _, _, _, _, _, _, _, _, _, _, _, _, _, _, _, _, _, _, _, _, _, _, _, _, _, _, _⟩ := zz; go_simp; with_reducible rfl⟩) (ha : a.put (some N) v = a' := by simp only [Act.put, List.setIfInBounds_toArray, List.set_cons_zero, List.set_cons_succ, i64_w, i32_w]; rfl) : wpAnyLast P md ops Q S ds (fuel + 1) l a w := take_ l' hi hN hc hq hy hS ha h
abbrev zS2_0 (gb104 : Nat) (a1_0 : Bool) (a1_1 : Int) (a1_2 : Int) (a1_3 : Bool) (a1_4 : Int) (a1_5 : Int) (a1_6 : Int) (a1_7 : Int) (a1_8 : Int) (a1_9 : Int) (a1_10 : Int) (a1_11 : Int) (a1_12 : Int) (a1_13 : Int) (a1_14 : Int) (a1_15 : Bool) (a1_16 : Int) (a1_17 : Int) (a1_18 : Int) (a1_19 : Int) (a1_20 : Int) (A1_21 : Option Addr) (l1_21 : List Int) (c1_21 : Nat) (A1_22 : Option Addr) (l1_22 : List Int) (c1_22 : Nat) (a1_23 : Int) (a1_24 : Int) (a1_25 : Int) (gb103 : Nat) (a0_0 : Int) (a0_1 : Int) (a0_2 : Int) (w' : World) : Prop := w'.cell? ⟨gb104, 0, none⟩ = some (.bool a1_0) ∧ w'.cell? ⟨gb104, 1, none⟩ = some (.int .i64 a1_1) ∧ w'.cell? ⟨gb104, 2, none⟩ = some (.int .i64 a1_2) ∧ w'.cell? ⟨gb104, 3, none⟩ = some (.bool a1_3) ∧ w'.cell? ⟨gb104, 4, none⟩ = some (.int .i64 a1_4) ∧ w'.cell? ⟨gb104, 5, none⟩ = some (.int .i64 a1_5) ∧ w'.cell? ⟨gb104, 6, none⟩ = some (.int .i64 a1_6) ∧ w'.cell? ⟨gb104, 7, none⟩ = some (.int .i64 a1_7) ∧ w'.cell? ⟨gb104, 8, none⟩ = some (.int .i64 a1_8) ∧ w'.cell? ⟨gb104, 9, none⟩ = some (.int .i64 a1_9) ∧ w'.cell? ⟨gb104, 10, none⟩ = some (.int .i64 a1_10) ∧ w'.cell? ⟨gb104, 11, none⟩ = some (.int .i64 a1_11) ∧ w'.cell? ⟨gb104, 12, none⟩ = some (.int .i64 a1_12) ∧ w'.cell? ⟨gb104, 13, none⟩ = some (.int .i64 a1_13) ∧ w'.cell? ⟨gb104, 14, none⟩ = some (.int .i64 a1_14) ∧ w'.cell? ⟨gb104, 15, none⟩ = some (.bool a1_15) ∧ w'.cell? ⟨gb104, 16, none⟩ = some (.int .i64 a1_16) ∧ w'.cell? ⟨gb104, 17, none⟩ = some (.int .u64 a1_17) ∧ w'.cell? ⟨gb104, 18, none⟩ = some (.int .u64 a1_18) ∧ w'.cell? ⟨gb104, 19, none⟩ = some (.int .u64 a1_19) ∧ w'.cell? ⟨gb104, 20, none⟩ = some (.int .u64 a1_20) ∧ w'.cell? ⟨gb104, 21, none⟩ = some (.slice A1_21 l1_21.length c1_21) ∧ w'.cell? ⟨gb104, 22, none⟩ = some (.slice A1_22 l1_22.length c1_22) ∧ w'.cell? ⟨gb104, 23, none⟩ = some (.int .i64 a1_23) ∧ w'.cell? ⟨gb104, 24, none⟩ = some (.int .i64 a1_24) ∧ w'.cell? ⟨gb104, 25, none⟩ = some (.int .i64 a1_25) ∧ w'.cell? ⟨gb103, 0, none⟩ = some (.int .i64 a0_0) ∧ w'.cell? ⟨gb103, 1, none⟩ = some (.int .i64 a0_1) ∧ w'.cell? ⟨gb103, 2, none⟩ = some (.int .i64 a0_2)
abbrev zS2_1 (gb104 : Nat) (a1_0 : Bool) (a1_1 : Int) (a1_2 : Int) (a1_3 : Bool) (a1_4 : Int) (a1_5 : Int) (a1_6 : Int) (a1_7 : Int) (a1_8 : Int) (a1_9 : Int) (a1_10 : Int) (a1_11 : Int) (a1_12 : Int) (a1_13 : Int) (a1_14 : Int) (a1_15 : Bool) (a1_16 : Int) (a1_17 : Int) (a1_18 : Int) (a1_19 : Int) (a1_20 : Int) (A1_21 : Option Addr) (l1_21 : List Int) (c1_21 : Nat) (A1_22 : Option Addr) (l1_22 : List Int) (c1_22 : Nat) (a1_23 : Int) (a1_24 : Int) (a1_25 : Int) (w' : World) : Prop := w'.cell? ⟨gb104, 0, none⟩ = some (.bool a1_0) ∧ w'.cell? ⟨gb104, 1, none⟩ = some (.int .i64 a1_1) ∧ w'.cell? ⟨gb104, 2, none⟩ = some (.int .i64 a1_2) ∧ w'.cell? ⟨gb104, 3, none⟩ = some (.bool a1_3) ∧ w'.cell? ⟨gb104, 4, none⟩ = some (.int .i64 a1_4) ∧ w'.cell? ⟨gb104, 5, none⟩ = some (.int .i64 a1_5) ∧ w'.cell? ⟨gb104, 6, none⟩ = some (.int .i64 a1_6) ∧ w'.cell? ⟨gb104, 7, none⟩ = some (.int .i64 a1_7) ∧ w'.cell? ⟨gb104, 8, none⟩ = some (.int .i64 a1_8) ∧ w'.cell? ⟨gb104, 9, none⟩ = some (.int .i64 a1_9) ∧ w'.cell? ⟨gb104, 10, none⟩ = some (.int .i64 a1_10) ∧ w'.cell? ⟨gb104, 11, none⟩ = some (.int .i64 a1_11) ∧ w'.cell? ⟨gb104, 12, none⟩ = some (.int .i64 a1_12) ∧ w'.cell? ⟨gb104, 13, none⟩ = some (.int .i64 a1_13) ∧ w'.cell? ⟨gb104, 14, none⟩ = some (.int .i64 a1_14) ∧ w'.cell? ⟨gb104, 15, none⟩ = some (.bool a1_15) ∧ w'.cell? ⟨gb104, 16, none⟩ = some (.int .i64 a1_16) ∧ w'.cell? ⟨gb104, 17, none⟩ = some (.int .u64 a1_17) ∧ w'.cell? ⟨gb104, 18, none⟩ = some (.int .u64 a1_18) ∧ w'.cell? ⟨gb104, 19, none⟩ = some (.int .u64 a1_19) ∧ w'.cell? ⟨gb104, 20, none⟩ = some (.int .u64 a1_20) ∧ w'.cell? ⟨gb104, 21, none⟩ = some (.slice A1_21 l1_21.length c1_21) ∧ w'.cell? ⟨gb104, 22, none⟩ = some (.slice A1_22 l1_22.length c1_22) ∧ w'.cell? ⟨gb104, 23, none⟩ = some (.int .i64 a1_23) ∧ w'.cell? ⟨gb104, 24, none⟩ = some (.int .i64 a1_24) ∧ w'.cell? ⟨gb104, 25, none⟩ = some (.int .i64 a1_25)
theorem zf2_3 {w : World} {g : Nat} {t : TypeId} {v0 v1 v2 : Value} (h : w.heap[g]? = some (.cells #[v0, v1, v2] t (0, 0))) : w.cell? ⟨g, 0, none⟩ = some v0 ∧ w.cell? ⟨g, 1, none⟩ = some v1 ∧ w.cell? ⟨g, 2, none⟩ = some v2 ∧ w.frozen? ⟨g, 0, none⟩ = false ∧ w.frozen? ⟨g, 1, none⟩ = false ∧ w.frozen? ⟨g, 2, none⟩ = false := ⟨(blk_cell h 0).trans rfl, (blk_cell h 1).trans rfl, (blk_cell h 2).trans rfl, blk_frozen h 0, blk_frozen h 1, blk_frozen h 2⟩
theorem zf2_26 {w : World} {g : Nat} {t : TypeId} {v0 v1 v2 v3 v4 v5 v6 v7 v8 v9 v10 v11 v12 v13 v14 v15 v16 v17 v18 v19 v20 v21 v22 v23 v24 v25 : Value} (h : w.heap[g]? = some (.cells #[v0, v1, v2, v3, v4, v5, v6, v7, v8, v9, v10, v11, v12, v13, v14, v15, v16, v17, v18, v19, v20, v21, v22, v23, v24, v25] t (0, 0))) : w.cell? ⟨g, 0, none⟩ = some v0 ∧ w.cell? ⟨g, 1, none⟩ = some v1 ∧ w.cell? ⟨g, 2, none⟩ = some v2 ∧ w.cell? ⟨g, 3, none⟩ = some v3 ∧ w.cell? ⟨g, 4, none⟩ = some v4 ∧ w.cell? ⟨g, 5, none⟩ = some v5 ∧ w.cell? ⟨g, 6, none⟩ = some v6 ∧ w.cell? ⟨g, 7, none⟩ = some v7 ∧ w.cell? ⟨g, 8, none⟩ = some v8 ∧ w.cell? ⟨g, 9, none⟩ = some v9 ∧ w.cell? ⟨g, 10, none⟩ = some v10 ∧ w.cell? ⟨g, 11, none⟩ = some v11 ∧ w.cell? ⟨g, 12, none⟩ = some v12 ∧ w.cell? ⟨g, 13, none⟩ = some v13 ∧ w.cell? ⟨g, 14, none⟩ = some v14 ∧ w.cell? ⟨g, 15, none⟩ = some v15 ∧ w.cell? ⟨g, 16, none⟩ = some v16 ∧ w.cell? ⟨g, 17, none⟩ = some v17 ∧ w.cell? ⟨g, 18, none⟩ = some v18 ∧ w.cell? ⟨g, 19, none⟩ = some v19 ∧ w.cell? ⟨g, 20, none⟩ = some v20 ∧ w.cell? ⟨g, 21, none⟩ = some v21 ∧ w.cell? ⟨g, 22, none⟩ = some v22 ∧ w.cell? ⟨g, 23, none⟩ = some v23 ∧ w.cell? ⟨g, 24, none⟩ = some v24 ∧ w.cell? ⟨g, 25, none⟩ = some v25 ∧ w.frozen? ⟨g, 0, none⟩ = false ∧ w.frozen? ⟨g, 1, none⟩ = false ∧ w.frozen? ⟨g, 2, none⟩ = false ∧ w.frozen? ⟨g, 3, none⟩ = false ∧ w.frozen? ⟨g, 4, none⟩ = false ∧ w.frozen? ⟨g, 5, none⟩ = false ∧ w.frozen? ⟨g, 6, none⟩ = false ∧ w.frozen? ⟨g, 7, none⟩ = false ∧ w.frozen? ⟨g, 8, none⟩ = false ∧ w.frozen? ⟨g, 9, none⟩ = false ∧ w.frozen? ⟨g, 10, none⟩ = false ∧ w.frozen? ⟨g, 11, none⟩ = false ∧ w.frozen? ⟨g, 12, none⟩ = false ∧ w.frozen? ⟨g, 13, none⟩ = false ∧ w.frozen? ⟨g, 14, none⟩ = false ∧ w.frozen? ⟨g, 15, none⟩ = false ∧ w.frozen? ⟨g, 16, none⟩ = false ∧ w.frozen? ⟨g, 17, none⟩ = false ∧ w.frozen? ⟨g, 18, none⟩ = false ∧ w.frozen? ⟨g, 19, none⟩ = false ∧ w.frozen? ⟨g, 20, none⟩ = false ∧ w.frozen? ⟨g, 21, none⟩ = false ∧ w.frozen? ⟨g, 22, none⟩ = false ∧ w.frozen? ⟨g, 23, none⟩ = false ∧ w.frozen? ⟨g, 24, none⟩ = false ∧ w.frozen? ⟨g, 25, none⟩ = false := ⟨(blk_cell h 0).trans rfl, (blk_cell h 1).trans rfl, (blk_cell h 2).trans rfl, (blk_cell h 3).trans rfl, (blk_cell h 4).trans rfl, (blk_cell h 5).trans rfl, (blk_cell h 6).trans rfl, (blk_cell h 7).trans rfl, (blk_cell h 8).trans rfl, (blk_cell h 9).trans rfl, (blk_cell h 10).trans rfl, (blk_cell h 11).trans rfl, (blk_cell h 12).trans rfl, (blk_cell h 13).trans rfl, (blk_cell h 14).trans rfl, (blk_cell h 15).trans rfl, (blk_cell h 16).trans rfl, (blk_cell h 17).trans rfl, (blk_cell h 18).trans rfl, (blk_cell h 19).trans rfl, (blk_cell h 20).trans rfl, (blk_cell h 21).trans rfl, (blk_cell h 22).trans rfl, (blk_cell h 23).trans rfl, (blk_cell h 24).trans rfl, (blk_cell h 25).trans rfl, blk_frozen h 0, blk_frozen h 1, blk_frozen h 2, blk_frozen h 3, blk_frozen h 4, blk_frozen h 5, blk_frozen h 6, blk_frozen h 7, blk_frozen h 8, blk_frozen h 9, blk_frozen h 10, blk_frozen h 11, blk_frozen h 12, blk_frozen h 13, blk_frozen h 14, blk_frozen h 15, blk_frozen h 16, blk_frozen h 17, blk_frozen h 18, blk_frozen h 19, blk_frozen h 20, blk_frozen h 21, blk_frozen h 22, blk_frozen h 23, blk_frozen h 24, blk_frozen h 25⟩
abbrev zl2_0 : Array Bool := #[false, false, false, false, false, false, false, false, false, false, false, false, false, false, false, false, false, false, false, false, false, false, false, false, false, false, false, false, false, false, false, false, false, false, false, false, false, false, false, false, false, false, false, false, false]
abbrev zl2_1 : Array Bool := #[true, false, false, false, false, false, false, false, false, false, false, false, false, false, false, false, false, false, false, false, false, false, false, false, false, false, false, false, false, false, false, false, false, false, false, false, false, false, false, false, false, false, false, false, false]
abbrev zl2_2 : Array Bool := #[true, true, false, false, false, false, false, false, false, false, false, false, false, false, false, false, false, false, false, false, false, false, false, false, false, false, false, false, false, false, false, false, false, false, false, false, false, false, false, false, false, false, false, false, false]
abbrev zl2_3 : Array Bool := #[true, true, true, false, false, false, false, false, false, false, false, false, false, false, false, false, false, false, false, false, false, false, false, false, false, false, false, false, false, false, false, false, false, false, false, false, false, false, false, false, false, false, false, false, false]
abbrev zl2_4 : Array Bool := #[true, true, true, true, false, false, false, false, false, false, false, false, false, false, false, false, false, false, false, false, false, false, false, false, false, false, false, false, false, false, false, false, false, false, false, false, false, false, false, false, false, false, false, false, false]
abbrev zl2_5 : Array Bool := #[true, true, true, true, true, false, false, false, false, false, false, false, false, false, false, false, false, false, false, false, false, false, false, false, false, false, false, false, false, false, false, false, false, false, false, false, false, false, false, false, false, false, false, false, false]
abbrev zl2_6 : Array Bool := #[true, true, true, true, true, true, false, false, false, false, false, false, false, false, false, false, false, false, false, false, false, false, false, false, false, false, false, false, false, false, false, false, false, false, false, false, false, false, false, false, false, false, false, false, false]
abbrev zl2_7 : Array Bool := #[true, true, true, true, true, true, true, false, false, false, false, false, false, false, false, false, false, false, false, false, false, false, false, false, false, false, false, false, false, false, false, false, false, false, false, false, false, false, false, false, false, false, false, false, false]
abbrev zl2_8 : Array Bool := #[true, true, true, true, true, true, true, true, false, false, false, false, false, false, false, false, false, false, false, false, false, false, false, false, false, false, false, false, false, false, false, false, false, false, false, false, false, false, false, false, false, false, false, false, false]
abbrev zl2_9 : Array Bool := #[true, true, true, true, true, true, true, true, true, false, false, false, false, false, false, false, false, false, false, false, false, false, false, false, false, false, false, false, false, false, false, false, false, false, false, false, false, false, false, false, false, false, false, false, false]
abbrev zl2_10 : Array Bool := #[true, true, true, true, true, true, true, true, true, true, false, false, false, false, false, false, false, false, false, false, false, false, false, false, false, false, false, false, false, false, false, false, false, false, false, false, false, false, false, false, false, false, false, false, false]
abbrev zl2_11 : Array Bool := #[true, true, true, true, true, true, true, true, true, true, true, false, false, false, false, false, false, false, false, false, false, false, false, false, false, false, false, false, false, false, false, false, false, false, false, false, false, false, false, false, false, false, false, false, false]
abbrev zl2_12 : Array Bool := #[true, true, true, true, true, true, true, true, true, true, true, true, false, false, false, false, false, false, false, false, false, false, false, false, false, false, false, false, false, false, false, false, false, false, false, false, false, false, false, false, false, false, false, false, false]
abbrev zl2_13 : Array Bool := #[true, true, true, true, true, true, true, true, true, true, true, true, true, false, false, false, false, false, false, false, false, false, false, false, false, false, false, false, false, false, false, false, false, false, false, false, false, false, false, false, false, false, false, false, false]
abbrev zl2_14 : Array Bool := #[true, true, true, true, true, true, true, true, true, true, true, true, true, true, false, false, false, false, false, false, false, false, false, false, false, false, false, false, false, false, false, false, false, false, false, false, false, false, false, false, false, false, false, false, false]
abbrev zl2_15 : Array Bool := #[true, true, true, true, true, true, true, true, true, true, true, true, true, true, true, false, false, false, false, false, false, false, false, false, false, false, false, false, false, false, false, false, false, false, false, false, false, false, false, false, false, false, false, false, false]
abbrev zl2_16 : Array Bool := #[true, true, true, true, true, true, true, true, true, true, true, true, true, true, true, true, false, false, false, false, false, false, false, false, false, false, false, false, false, false, false, false, false, false, false, false, false, false, false, false, false, false, false, false, false]
abbrev zl2_17 : Array Bool := #[true, true, true, true, true, true, true, true, true, true, true, true, true, true, true, true, true, false, false, false, false, false, false, false, false, false, false, false, false, false, false, false, false, false, false, false, false, false, false, false, false, false, false, false, false]
abbrev zl2_18 : Array Bool := #[true, true, true, true, true, true, true, true, true, true, true, true, true, true, true, true, true, true, false, false, false, false, false, false, false, false, false, false, false, false, false, false, false, false, false, false, false, false, false, false, false, false, false, false, false]
abbrev zl2_19 : Array Bool := #[true, true, true, true, true, true, true, true, true, true, true, true, true, true, true, true, true, true, true, false, false, false, false, false, false, false, false, false, false, false, false, false, false, false, false, false, false, false, false, false, false, false, false, false, false]
abbrev zl2_20 : Array Bool := #[true, true, true, true, true, true, true, true, true, true, true, true, true, true, true, true, true, true, true, true, false, false, false, false, false, false, false, false, false, false, false, false, false, false, false, false, false, false, false, false, false, false, false, false, false]
abbrev zl2_21 : Array Bool := #[true, true, true, true, true, true, true, true, true, true, true, true, true, true, true, true, true, true, true, true, true, false, false, false, false, false, false, false, false, false, false, false, false, false, false, false, false, false, false, false, false, false, false, false, false]
abbrev zl2_22 : Array Bool := #[true, true, true, true, true, true, true, true, true, true, true, true, true, true, true, true, true, true, true, true, true, true, false, false, false, false, false, false, false, false, false, false, false, false, false, false, false, false, false, false, false, false, false, false, false]
abbrev zl2_23 : Array Bool := #[true, true, true, true, true, true, true, true, true, true, true, true, true, true, true, true, true, true, true, true, true, true, true, false, false, false, false, false, false, false, false, false, false, false, false, false, false, false, false, false, false, false, false, false, false]
abbrev zl2_24 : Array Bool := #[true, true, true, true, true, true, true, true, true, true, true, true, true, true, true, true, true, true, true, true, true, true, true, true, false, false, false, false, false, false, false, false, false, false, false, false, false, false, false, false, false, false, false, false, false]
abbrev zl2_25 : Array Bool := #[true, true, true, true, true, true, true, true, true, true, true, true, true, true, true, true, true, true, true, true, true, true, true, true, true, false, false, false, false, false, false, false, false, false, false, false, false, false, false, false, false, false, false, false, false]
abbrev zl2_26 : Array Bool := #[true, true, true, true, true, true, true, true, true, true, true, true, true, true, true, true, true, true, true, true, true, true, true, true, true, true, false, false, false, false, false, false, false, false, false, false, false, false, false, false, false, false, false, false, false]
abbrev zl2_27 : Array Bool := #[true, true, true, true, true, true, true, true, true, true, true, true, true, true, true, true, true, true, true, true, true, true, true, true, true, true, true, false, false, false, false, false, false, false, false, false, false, false, false, false, false, false, false, false, false]
abbrev zl2_28 : Array Bool := #[true, true, true, true, true, true, true, true, true, true, true, true, true, true, true, true, true, true, true, true, true, true, true, true, true, true, true, true, false, false, false, false, false, false, false, false, false, false, false, false, false, false, false, false, false]
abbrev zl2_29 : Array Bool := #[true, true, true, true, true, true, true, true, true, true, true, true, true, true, true, true, true, true, true, true, true, true, true, true, true, true, true, true, true, false, false, false, false, false, false, false, false, false, false, false, false, false, false, false, false]
abbrev zl2_30 : Array Bool := #[true, true, true, true, true, true, true, true, true, true, true, true, true, true, true, true, true, true, true, true, true, true, true, true, true, true, true, true, true, true, false, false, false, false, false, false, false, false, false, false, false, false, false, false, false]
abbrev zl2_31 : Array Bool := #[true, true, true, true, true, true, true, true, true, true, true, true, true, true, true, true, true, true, true, true, true, true, true, true, true, true, true, true, true, true, true, false, false, false, false, false, false, false, false, false, false, false, false, false, false]
abbrev zl2_32 : Array Bool := #[true, true, true, true, true, true, true, true, true, true, true, true, true, true, true, true, true, true, true, true, true, true, true, true, true, true, true, true, true, true, true, true, false, false, false, false, false, false, false, false, false, false, false, false, false]
abbrev zl2_33 : Array Bool := #[true, true, true, true, true, true, true, true, true, true, true, true, true, true, true, true, true, true, true, true, true, true, true, true, true, true, true, true, true, true, true, true, true, false, false, false, false, false, false, false, false, false, false, false, false]
abbrev zl2_34 : Array Bool := #[true, true, true, true, true, true, true, true, true, true, true, true, true, true, true, true, true, true, true, true, true, true, true, true, true, true, true, true, true, true, true, true, true, true, false, false, false, false, false, false, false, false, false, false, false]
abbrev zl2_35 : Array Bool := #[true, true, true, true, true, true, true, true, true, true, true, true, true, true, true, true, true, true, true, true, true, true, true, true, true, true, true, true, true, true, true, true, true, true, true, false, false, false, false, false, false, false, false, false, false]
abbrev zl2_36 : Array Bool := #[true, true, true, true, true, true, true, true, true, true, true, true, true, true, true, true, true, true, true, true, true, true, true, true, true, true, true, true, true, true, true, true, true, true, true, true, false, false, false, false, false, false, false, false, false]
abbrev zl2_37 : Array Bool := #[true, true, true, true, true, true, true, true, true, true, true, true, true, true, true, true, true, true, true, true, true, true, true, true, true, true, true, true, true, true, true, true, true, true, true, true, true, false, false, false, false, false, false, false, false]
abbrev zl2_38 : Array Bool := #[true, true, true, true, true, true, true, true, true, true, true, true, true, true, true, true, true, true, true, true, true, true, true, true, true, true, true, true, true, true, true, true, true, true, true, true, true, true, false, false, false, false, false, false, false]
abbrev zl2_39 : Array Bool := #[true, true, true, true, true, true, true, true, true, true, true, true, true, true, true, true, true, true, true, true, true, true, true, true, true, true, true, true, true, true, true, true, true, true, true, true, true, true, true, false, false, false, false, false, false]
abbrev zl2_40 : Array Bool := #[true, true, true, true, true, true, true, true, true, true, true, true, true, true, true, true, true, true, true, true, true, true, true, true, true, true, true, true, true, true, true, true, true, true, true, true, true, true, true, true, false, false, false, false, false]
abbrev zl2_41 : Array Bool := #[true, true, true, true, true, true, true, true, true, true, true, true, true, true, true, true, true, true, true, true, true, true, true, true, true, true, true, true, true, true, true, true, true, true, true, true, true, true, true, true, true, false, false, false, false]
abbrev zl2_42 : Array Bool := #[true, true, true, true, true, true, true, true, true, true, true, true, true, true, true, true, true, true, true, true, true, true, true, true, true, true, true, true, true, true, true, true, true, true, true, true, true, true, true, true, true, true, false, false, false]
abbrev zl2_43 : Array Bool := #[true, true, true, true, true, true, true, true, true, true, true, true, true, true, true, true, true, true, true, true, true, true, true, true, true, true, true, true, true, true, true, true, true, true, true, true, true, true, true, true, true, true, true, false, false]
abbrev zl2_44 : Array Bool := #[true, true, true, true, true, true, true, true, true, true, true, true, true, true, true, true, true, true, true, true, true, true, true, true, true, true, true, true, true, true, true, true, true, true, true, true, true, true, true, true, true, true, true, true, false]
abbrev zl2_45 : Array Bool := #[true, true, true, true, true, true, true, true, true, true, true, true, true, true, true, true, true, true, true, true, true, true, true, true, true, true, true, true, true, true, true, true, true, true, true, true, true, true, true, true, true, true, true, true, true]

/-! ### spec_l6Fields: function 61 -/
def spec_l6Fields.j0 : Nat → Bool → Int → Int → Int → Bool → Int → Int → Bool → Int → Int → Int → Int → Int → Int → Int → Int → Int → Int → Int → Bool → Int → Int → Int → Int → Int → List Int → List Int → Int → Int → Int → Option (Bool)
 | 0, _, _, _, _, _, _, _, _, _, _, _, _, _, _, _, _, _, _, _, _, _, _, _, _, _, _, _, _, _, _ => none
 | k + 1, x74, x104000, x104001, x104002, x105000, x105001, x105002, x105003, x105004, x105005, x105006, x105007, x105008, x105009, x105010, x105011, x105012, x105013, x105014, x105015, x105016, x105017, x105018, x105019, x105020, x105021, x105022, x105023, x105024, x105025 => if x74 = true then (some false) else (if x105010 ≥ 0 then (if x105010 ≤ 20 then (if x105009 ≥ 0 then ((spec_l2House.f x104000 x104001 x104002).bind fun t105 => (if x105009 ≤ t105 then ((spec_l2House.f x104000 x104001 x104002).bind fun t106 => (if (x105021.length : Int) ≤ t106 then (if (x105022.length : Int) ≤ 20 then (if x105016 ≥ 0 then (some (decide (x105016 ≤ 1048575))) else (some false)) else (some false)) else (some false))) else (some false))) else (some false)) else (some false)) else (some false))
def spec_l6Fields.f (k : Nat) (a0_0 : Int) (a0_1 : Int) (a0_2 : Int) (a1_0 : Bool) (a1_1 : Int) (a1_2 : Int) (a1_3 : Bool) (a1_4 : Int) (a1_5 : Int) (a1_6 : Int) (a1_7 : Int) (a1_8 : Int) (a1_9 : Int) (a1_10 : Int) (a1_11 : Int) (a1_12 : Int) (a1_13 : Int) (a1_14 : Int) (a1_15 : Bool) (a1_16 : Int) (a1_17 : Int) (a1_18 : Int) (a1_19 : Int) (a1_20 : Int) (l1_21 : List Int) (l1_22 : List Int) (a1_23 : Int) (a1_24 : Int) (a1_25 : Int) : Option (Bool) := if a1_1 < 0 then (spec_l6Fields.j0 k true a0_0 a0_1 a0_2 a1_0 a1_1 a1_2 a1_3 a1_4 a1_5 a1_6 a1_7 a1_8 a1_9 a1_10 a1_11 a1_12 a1_13 a1_14 a1_15 a1_16 a1_17 a1_18 a1_19 a1_20 l1_21 l1_22 a1_23 a1_24 a1_25) else (if a1_1 ≥ a0_0 then (spec_l6Fields.j0 k true a0_0 a0_1 a0_2 a1_0 a1_1 a1_2 a1_3 a1_4 a1_5 a1_6 a1_7 a1_8 a1_9 a1_10 a1_11 a1_12 a1_13 a1_14 a1_15 a1_16 a1_17 a1_18 a1_19 a1_20 l1_21 l1_22 a1_23 a1_24 a1_25) else (if a1_2 < 0 then (spec_l6Fields.j0 k true a0_0 a0_1 a0_2 a1_0 a1_1 a1_2 a1_3 a1_4 a1_5 a1_6 a1_7 a1_8 a1_9 a1_10 a1_11 a1_12 a1_13 a1_14 a1_15 a1_16 a1_17 a1_18 a1_19 a1_20 l1_21 l1_22 a1_23 a1_24 a1_25) else (if a1_2 > 4095 then (spec_l6Fields.j0 k true a0_0 a0_1 a0_2 a1_0 a1_1 a1_2 a1_3 a1_4 a1_5 a1_6 a1_7 a1_8 a1_9 a1_10 a1_11 a1_12 a1_13 a1_14 a1_15 a1_16 a1_17 a1_18 a1_19 a1_20 l1_21 l1_22 a1_23 a1_24 a1_25) else (if a1_12 < 0 then (spec_l6Fields.j0 k true a0_0 a0_1 a0_2 a1_0 a1_1 a1_2 a1_3 a1_4 a1_5 a1_6 a1_7 a1_8 a1_9 a1_10 a1_11 a1_12 a1_13 a1_14 a1_15 a1_16 a1_17 a1_18 a1_19 a1_20 l1_21 l1_22 a1_23 a1_24 a1_25) else (if a1_12 > 4095 then (spec_l6Fields.j0 k true a0_0 a0_1 a0_2 a1_0 a1_1 a1_2 a1_3 a1_4 a1_5 a1_6 a1_7 a1_8 a1_9 a1_10 a1_11 a1_12 a1_13 a1_14 a1_15 a1_16 a1_17 a1_18 a1_19 a1_20 l1_21 l1_22 a1_23 a1_24 a1_25) else (if a1_8 < 0 then (spec_l6Fields.j0 k true a0_0 a0_1 a0_2 a1_0 a1_1 a1_2 a1_3 a1_4 a1_5 a1_6 a1_7 a1_8 a1_9 a1_10 a1_11 a1_12 a1_13 a1_14 a1_15 a1_16 a1_17 a1_18 a1_19 a1_20 l1_21 l1_22 a1_23 a1_24 a1_25) else (if a1_8 > 26 then (spec_l6Fields.j0 k true a0_0 a0_1 a0_2 a1_0 a1_1 a1_2 a1_3 a1_4 a1_5 a1_6 a1_7 a1_8 a1_9 a1_10 a1_11 a1_12 a1_13 a1_14 a1_15 a1_16 a1_17 a1_18 a1_19 a1_20 l1_21 l1_22 a1_23 a1_24 a1_25) else (if a1_11 < 0 then (spec_l6Fields.j0 k true a0_0 a0_1 a0_2 a1_0 a1_1 a1_2 a1_3 a1_4 a1_5 a1_6 a1_7 a1_8 a1_9 a1_10 a1_11 a1_12 a1_13 a1_14 a1_15 a1_16 a1_17 a1_18 a1_19 a1_20 l1_21 l1_22 a1_23 a1_24 a1_25) else (if a1_11 > 1000001 then (spec_l6Fields.j0 k true a0_0 a0_1 a0_2 a1_0 a1_1 a1_2 a1_3 a1_4 a1_5 a1_6 a1_7 a1_8 a1_9 a1_10 a1_11 a1_12 a1_13 a1_14 a1_15 a1_16 a1_17 a1_18 a1_19 a1_20 l1_21 l1_22 a1_23 a1_24 a1_25) else (if a1_13 < 0 then (spec_l6Fields.j0 k true a0_0 a0_1 a0_2 a1_0 a1_1 a1_2 a1_3 a1_4 a1_5 a1_6 a1_7 a1_8 a1_9 a1_10 a1_11 a1_12 a1_13 a1_14 a1_15 a1_16 a1_17 a1_18 a1_19 a1_20 l1_21 l1_22 a1_23 a1_24 a1_25) else (if a1_13 > 7 then (spec_l6Fields.j0 k true a0_0 a0_1 a0_2 a1_0 a1_1 a1_2 a1_3 a1_4 a1_5 a1_6 a1_7 a1_8 a1_9 a1_10 a1_11 a1_12 a1_13 a1_14 a1_15 a1_16 a1_17 a1_18 a1_19 a1_20 l1_21 l1_22 a1_23 a1_24 a1_25) else (if a1_14 < 0 then (spec_l6Fields.j0 k true a0_0 a0_1 a0_2 a1_0 a1_1 a1_2 a1_3 a1_4 a1_5 a1_6 a1_7 a1_8 a1_9 a1_10 a1_11 a1_12 a1_13 a1_14 a1_15 a1_16 a1_17 a1_18 a1_19 a1_20 l1_21 l1_22 a1_23 a1_24 a1_25) else (spec_l6Fields.j0 k (decide (a1_14 > 4095)) a0_0 a0_1 a0_2 a1_0 a1_1 a1_2 a1_3 a1_4 a1_5 a1_6 a1_7 a1_8 a1_9 a1_10 a1_11 a1_12 a1_13 a1_14 a1_15 a1_16 a1_17 a1_18 a1_19 a1_20 l1_21 l1_22 a1_23 a1_24 a1_25)))))))))))))
theorem spec_l6Fields.mono_l : ∀ k, (∀ y0 y1 y2 y3 y4 y5 y6 y7 y8 y9 y10 y11 y12 y13 y14 y15 y16 y17 y18 y19 y20 y21 y22 y23 y24 y25 y26 y27 y28 y29, LeO (spec_l6Fields.j0 k y0 y1 y2 y3 y4 y5 y6 y7 y8 y9 y10 y11 y12 y13 y14 y15 y16 y17 y18 y19 y20 y21 y22 y23 y24 y25 y26 y27 y28 y29) (spec_l6Fields.j0 (k + 1) y0 y1 y2 y3 y4 y5 y6 y7 y8 y9 y10 y11 y12 y13 y14 y15 y16 y17 y18 y19 y20 y21 y22 y23 y24 y25 y26 y27 y28 y29))
 | 0 => fun _ _ _ _ _ _ _ _ _ _ _ _ _ _ _ _ _ _ _ _ _ _ _ _ _ _ _ _ _ _ r h => by simp [spec_l6Fields.j0] at h
 | k + 1 => by
  have ih0 := spec_l6Fields.mono_l k
  ·intro y0 y1 y2 y3 y4 y5 y6 y7 y8 y9 y10 y11 y12 y13 y14 y15 y16 y17 y18 y19 y20 y21 y22 y23 y24 y25 y26 y27 y28 y29
   unfold spec_l6Fields.j0
   repeat' first
   | (with_reducible exact ih0 _ _ _ _ _ _ _ _ _ _ _ _ _ _ _ _ _ _ _ _ _ _ _ _ _ _ _ _ _ _)
   | (with_reducible exact LeO.refl _)
   | (with_reducible exact LeO.none _)
   | (with_reducible refine LeO.ite ?_ ?_)
   | (with_reducible refine LeO.bind ?_ (fun _ => ?_))
   | exact ih0 _ _ _ _ _ _ _ _ _ _ _ _ _ _ _ _ _ _ _ _ _ _ _ _ _ _ _ _ _ _
   | exact LeO.none _
   | refine LeO.ite ?_ ?_
   | refine LeO.bind ?_ (fun _ => ?_)
theorem spec_l6Fields.mono : ∀ a0 a1 a2 a3 a4 a5 a6 a7 a8 a9 a10 a11 a12 a13 a14 a15 a16 a17 a18 a19 a20 a21 a22 a23 a24 a25 a26 a27 a28 k, LeO (spec_l6Fields.f k a0 a1 a2 a3 a4 a5 a6 a7 a8 a9 a10 a11 a12 a13 a14 a15 a16 a17 a18 a19 a20 a21 a22 a23 a24 a25 a26 a27 a28) (spec_l6Fields.f (k + 1) a0 a1 a2 a3 a4 a5 a6 a7 a8 a9 a10 a11 a12 a13 a14 a15 a16 a17 a18 a19 a20 a21 a22 a23 a24 a25 a26 a27 a28) := by
 intro a0 a1 a2 a3 a4 a5 a6 a7 a8 a9 a10 a11 a12 a13 a14 a15 a16 a17 a18 a19 a20 a21 a22 a23 a24 a25 a26 a27 a28 k
 have ih0 := spec_l6Fields.mono_l k
 unfold spec_l6Fields.f
 repeat' first
   | (with_reducible exact ih0 _ _ _ _ _ _ _ _ _ _ _ _ _ _ _ _ _ _ _ _ _ _ _ _ _ _ _ _ _ _)
   | (with_reducible exact LeO.refl _)
   | (with_reducible exact LeO.none _)
   | (with_reducible refine LeO.ite ?_ ?_)
   | (with_reducible refine LeO.bind ?_ (fun _ => ?_))
   | exact ih0 _ _ _ _ _ _ _ _ _ _ _ _ _ _ _ _ _ _ _ _ _ _ _ _ _ _ _ _ _ _
   | exact LeO.none _
   | refine LeO.ite ?_ ?_
   | refine LeO.bind ?_ (fun _ => ?_)
def spec_l6Fields.T3 : Bool × List (List Nat × List Nat) := (true, [([], []), ([0], [0]), ([1], [1]), ([2], [2]), ([3], [3]), ([4, 3], [3, 4]), ([5, 3], [3, 5]), ([3, 6], [3, 6]), ([7, 3], [7]), ([8], [8]), ([9, 8], [8, 9]), ([10, 8], [8, 10]), ([8, 11], [8, 11]), ([12, 8], [12]), ([13], [13]), ([14, 13], [13, 14]), ([13], [13]), ([16, 13, 13], [13, 16]), ([15, 17, 13], [13, 15, 17]), ([13, 18], [13, 18]), ([19, 17], [19]), ([20], [20]), ([21, 20], [20, 21]), ([22, 20], [20, 22]), ([20], [20]), ([24, 20, 20], [20, 24]), ([23, 25, 20], [20, 23, 25]), ([20, 26], [20, 26]), ([27, 25], [27]), ([28], [28]), ([29, 28], [28, 29]), ([30, 28], [28, 30]), ([31, 28], [28, 31]), ([28, 32], [28, 32]), ([33, 28], [33]), ([34], [34]), ([35, 34], [34, 35]), ([36, 34], [34, 36]), ([34, 37], [34, 37]), ([38, 34], [38]), ([39], [39]), ([40, 39], [39, 40]), ([41, 39], [39, 41]), ([39, 42], [39, 42]), ([43, 39, 0, 1, 2, 3, 4, 5, 6, 7, 8, 9, 10, 11, 12, 13, 14, 15, 16, 17, 18, 19, 20, 21, 22, 23, 24, 25, 26, 27, 28, 29, 30, 31, 32, 33, 34, 35, 36, 37, 38, 39, 40, 41, 42, 43], [43])])
def spec_l6Fields.B3 : List Nat := [0, 1, 3, 7, 15, 31, 63, 127, 255, 511, 1023, 2047, 4095, 8191, 16383, 32767, 16383, 81919, 262143, 524287, 1048575, 2097151, 4194303, 8388607, 2097151, 18874367, 67108863, 134217727, 268435455, 536870911, 1073741823, 2147483647, 4294967295, 8589934591, 17179869183, 34359738367, 68719476735, 137438953471, 274877906943, 549755813887, 1099511627775, 2199023255551, 4398046511103, 8796093022207, 17592186044415]
theorem spec_l6Fields.tab3 : rtab .any (opsOf Try.f61 3) = spec_l6Fields.T3 := by kernel_rfl
theorem spec_l6Fields.bits3 : waitsOk spec_l6Fields.T3.2 spec_l6Fields.B3 = true := by kernel_rfl
set_option maxHeartbeats 8000000 in
set_option maxRecDepth 100000 in
theorem spec_l6Fields.calls (k : Nat) (a0_0 : Int) (a0_1 : Int) (a0_2 : Int) (a1_0 : Bool) (a1_1 : Int) (a1_2 : Int) (a1_3 : Bool) (a1_4 : Int) (a1_5 : Int) (a1_6 : Int) (a1_7 : Int) (a1_8 : Int) (a1_9 : Int) (a1_10 : Int) (a1_11 : Int) (a1_12 : Int) (a1_13 : Int) (a1_14 : Int) (a1_15 : Bool) (a1_16 : Int) (a1_17 : Int) (a1_18 : Int) (a1_19 : Int) (a1_20 : Int) (A1_21 : Option Addr) (c1_21 : Nat) (l1_21 : List Int) (A1_22 : Option Addr) (c1_22 : Nat) (l1_22 : List Int) (a1_23 : Int) (a1_24 : Int) (a1_25 : Int) (r : Bool) (w : World) (hr1_21 : Kd.C (Kd.int .u64) w A1_21 l1_21.length l1_21) (hc1_21 : l1_21.length ≤ c1_21) (hr1_22 : Kd.C (Kd.int .u64) w A1_22 l1_22.length l1_22) (hc1_22 : l1_22.length ≤ c1_22) (h : spec_l6Fields.f k a0_0 a0_1 a0_2 a1_0 a1_1 a1_2 a1_3 a1_4 a1_5 a1_6 a1_7 a1_8 a1_9 a1_10 a1_11 a1_12 a1_13 a1_14 a1_15 a1_16 a1_17 a1_18 a1_19 a1_20 l1_21 l1_22 a1_23 a1_24 a1_25 = some r) :
  Calls Try.prog 61 #[.agg #[.int .i64 a0_0, .int .i64 a0_1, .int .i64 a0_2], .agg #[.bool a1_0, .int .i64 a1_1, .int .i64 a1_2, .bool a1_3, .int .i64 a1_4, .int .i64 a1_5, .int .i64 a1_6, .int .i64 a1_7, .int .i64 a1_8, .int .i64 a1_9, .int .i64 a1_10, .int .i64 a1_11, .int .i64 a1_12, .int .i64 a1_13, .int .i64 a1_14, .bool a1_15, .int .i64 a1_16, .int .u64 a1_17, .int .u64 a1_18, .int .u64 a1_19, .int .u64 a1_20, .slice A1_21 l1_21.length c1_21, .slice A1_22 l1_22.length c1_22, .int .i64 a1_23, .int .i64 a1_24, .int .i64 a1_25]] w fun e w' => e = .returned (.bool r) ∧ Below w.heap.size w w' := by
 have hu43 := Try.underlying43
 have hu59 := Try.underlying59
 have HR1_21 := Aside0.mk hr1_21
 have HC1_21 := Aside0.mk hc1_21
 clear hr1_21 hc1_21
 have HR1_22 := Aside0.mk hr1_22
 have HC1_22 := Aside0.mk hc1_22
 clear hr1_22 hc1_22
 have HB := Aside0.mk (Below.refl w.heap.size w)
 have H : (if a1_1 < 0 then (spec_l6Fields.j0 k true a0_0 a0_1 a0_2 a1_0 a1_1 a1_2 a1_3 a1_4 a1_5 a1_6 a1_7 a1_8 a1_9 a1_10 a1_11 a1_12 a1_13 a1_14 a1_15 a1_16 a1_17 a1_18 a1_19 a1_20 l1_21 l1_22 a1_23 a1_24 a1_25) else (if a1_1 ≥ a0_0 then (spec_l6Fields.j0 k true a0_0 a0_1 a0_2 a1_0 a1_1 a1_2 a1_3 a1_4 a1_5 a1_6 a1_7 a1_8 a1_9 a1_10 a1_11 a1_12 a1_13 a1_14 a1_15 a1_16 a1_17 a1_18 a1_19 a1_20 l1_21 l1_22 a1_23 a1_24 a1_25) else (if a1_2 < 0 then (spec_l6Fields.j0 k true a0_0 a0_1 a0_2 a1_0 a1_1 a1_2 a1_3 a1_4 a1_5 a1_6 a1_7 a1_8 a1_9 a1_10 a1_11 a1_12 a1_13 a1_14 a1_15 a1_16 a1_17 a1_18 a1_19 a1_20 l1_21 l1_22 a1_23 a1_24 a1_25) else (if a1_2 > 4095 then (spec_l6Fields.j0 k true a0_0 a0_1 a0_2 a1_0 a1_1 a1_2 a1_3 a1_4 a1_5 a1_6 a1_7 a1_8 a1_9 a1_10 a1_11 a1_12 a1_13 a1_14 a1_15 a1_16 a1_17 a1_18 a1_19 a1_20 l1_21 l1_22 a1_23 a1_24 a1_25) else (if a1_12 < 0 then (spec_l6Fields.j0 k true a0_0 a0_1 a0_2 a1_0 a1_1 a1_2 a1_3 a1_4 a1_5 a1_6 a1_7 a1_8 a1_9 a1_10 a1_11 a1_12 a1_13 a1_14 a1_15 a1_16 a1_17 a1_18 a1_19 a1_20 l1_21 l1_22 a1_23 a1_24 a1_25) else (if a1_12 > 4095 then (spec_l6Fields.j0 k true a0_0 a0_1 a0_2 a1_0 a1_1 a1_2 a1_3 a1_4 a1_5 a1_6 a1_7 a1_8 a1_9 a1_10 a1_11 a1_12 a1_13 a1_14 a1_15 a1_16 a1_17 a1_18 a1_19 a1_20 l1_21 l1_22 a1_23 a1_24 a1_25) else (if a1_8 < 0 then (spec_l6Fields.j0 k true a0_0 a0_1 a0_2 a1_0 a1_1 a1_2 a1_3 a1_4 a1_5 a1_6 a1_7 a1_8 a1_9 a1_10 a1_11 a1_12 a1_13 a1_14 a1_15 a1_16 a1_17 a1_18 a1_19 a1_20 l1_21 l1_22 a1_23 a1_24 a1_25) else (if a1_8 > 26 then (spec_l6Fields.j0 k true a0_0 a0_1 a0_2 a1_0 a1_1 a1_2 a1_3 a1_4 a1_5 a1_6 a1_7 a1_8 a1_9 a1_10 a1_11 a1_12 a1_13 a1_14 a1_15 a1_16 a1_17 a1_18 a1_19 a1_20 l1_21 l1_22 a1_23 a1_24 a1_25) else (if a1_11 < 0 then (spec_l6Fields.j0 k true a0_0 a0_1 a0_2 a1_0 a1_1 a1_2 a1_3 a1_4 a1_5 a1_6 a1_7 a1_8 a1_9 a1_10 a1_11 a1_12 a1_13 a1_14 a1_15 a1_16 a1_17 a1_18 a1_19 a1_20 l1_21 l1_22 a1_23 a1_24 a1_25) else (if a1_11 > 1000001 then (spec_l6Fields.j0 k true a0_0 a0_1 a0_2 a1_0 a1_1 a1_2 a1_3 a1_4 a1_5 a1_6 a1_7 a1_8 a1_9 a1_10 a1_11 a1_12 a1_13 a1_14 a1_15 a1_16 a1_17 a1_18 a1_19 a1_20 l1_21 l1_22 a1_23 a1_24 a1_25) else (if a1_13 < 0 then (spec_l6Fields.j0 k true a0_0 a0_1 a0_2 a1_0 a1_1 a1_2 a1_3 a1_4 a1_5 a1_6 a1_7 a1_8 a1_9 a1_10 a1_11 a1_12 a1_13 a1_14 a1_15 a1_16 a1_17 a1_18 a1_19 a1_20 l1_21 l1_22 a1_23 a1_24 a1_25) else (if a1_13 > 7 then (spec_l6Fields.j0 k true a0_0 a0_1 a0_2 a1_0 a1_1 a1_2 a1_3 a1_4 a1_5 a1_6 a1_7 a1_8 a1_9 a1_10 a1_11 a1_12 a1_13 a1_14 a1_15 a1_16 a1_17 a1_18 a1_19 a1_20 l1_21 l1_22 a1_23 a1_24 a1_25) else (if a1_14 < 0 then (spec_l6Fields.j0 k true a0_0 a0_1 a0_2 a1_0 a1_1 a1_2 a1_3 a1_4 a1_5 a1_6 a1_7 a1_8 a1_9 a1_10 a1_11 a1_12 a1_13 a1_14 a1_15 a1_16 a1_17 a1_18 a1_19 a1_20 l1_21 l1_22 a1_23 a1_24 a1_25) else (spec_l6Fields.j0 k (decide (a1_14 > 4095)) a0_0 a0_1 a0_2 a1_0 a1_1 a1_2 a1_3 a1_4 a1_5 a1_6 a1_7 a1_8 a1_9 a1_10 a1_11 a1_12 a1_13 a1_14 a1_15 a1_16 a1_17 a1_18 a1_19 a1_20 l1_21 l1_22 a1_23 a1_24 a1_25)))))))))))))) = some r := h
 clear h
 have HC3 := Aside0.mk H
 clear H
 go_enter Try.func61, Try.ntmps61
 go_upto_region 1 with (first | ((with_reducible refine gate_dst (N := 2) rfl ?_); (try (refine gate_guard (by rfl) ?_; dsimp only)); refine box_event ?hg (N := 2) ?hd (cs := #[.int .i64 a0_0, .int .i64 a0_1, .int .i64 a0_2]) (t := 43) ?hr ?_; (case hd => rfl); (case hg => rfl); (case hr => first | (go_simp; done) | (go_simp; rfl)); intro gb103 hg w4 hbox hb; have n0_ := Aside0.mk (below_step zA2_9 hb); have n1_ := Aside0.mk (hbox); have n2_ := Aside0.mk ((by rw [hg]; exact (below_size zA2_9) : w.heap.size ≤ gb103)); have n3_ := Aside0.mk ((by rw [hg]; exact (below_size zA2_9) : w.heap.size ≤ gb103)); clear HB; have HB := n0_; have BK103 := n1_; have GW103 := n2_; have GE103 := n3_; clear n0_ n1_ n2_ n3_; clear hb hbox hg) | ((with_reducible refine gate_dst (N := 3) rfl ?_); (try (refine gate_guard (by rfl) ?_; dsimp only)); refine box_event ?hg (N := 3) ?hd (cs := #[.bool a1_0, .int .i64 a1_1, .int .i64 a1_2, .bool a1_3, .int .i64 a1_4, .int .i64 a1_5, .int .i64 a1_6, .int .i64 a1_7, .int .i64 a1_8, .int .i64 a1_9, .int .i64 a1_10, .int .i64 a1_11, .int .i64 a1_12, .int .i64 a1_13, .int .i64 a1_14, .bool a1_15, .int .i64 a1_16, .int .u64 a1_17, .int .u64 a1_18, .int .u64 a1_19, .int .u64 a1_20, .slice A1_21 l1_21.length c1_21, .slice A1_22 l1_22.length c1_22, .int .i64 a1_23, .int .i64 a1_24, .int .i64 a1_25]) (t := 59) ?hr ?_; (case hd => rfl); (case hg => rfl); (case hr => first | (go_simp; done) | (go_simp; rfl)); intro gb104 hg w5 hbox hb; have n0_ := Aside0.mk (blk_below zA2_1 hb); have n1_ := Aside0.mk (below_step zA2_8 hb); have n2_ := Aside0.mk (hbox); have n3_ := Aside0.mk ((by rw [hg]; exact (below_size zA2_8) : w.heap.size ≤ gb104)); have n4_ := Aside0.mk ((by rw [hg]; exact (below_size zA2_8) : w.heap.size ≤ gb104)); have n5_ := Aside0.mk ((by rw [hg]; exact Nat.ne_of_lt (blk_lt (g := gb103) (o := .cells #[.int .i64 a0_0, .int .i64 a0_1, .int .i64 a0_2] 43 (0, 0)) zA2_1) : gb103 ≠ gb104)); have n6_ := Aside0.mk ((by rw [hg]; exact Nat.ne_of_gt (blk_lt (g := gb103) (o := .cells #[.int .i64 a0_0, .int .i64 a0_1, .int .i64 a0_2] 43 (0, 0)) zA2_1) : gb104 ≠ gb103)); clear BK103; clear HB; have BK103 := n0_; have HB := n1_; have BK104 := n2_; have GW104 := n3_; have GE104 := n4_; have NB103_104 := n5_; have NB104_103 := n6_; clear n0_ n1_ n2_ n3_ n4_ n5_ n6_; clear hb hbox hg))
 (try simp only [Act.put, List.setIfInBounds_toArray, List.set_cons_zero, List.set_cons_succ])
 go_cut [74] (fun v74 wc => ∃ (kq : Nat) (x74_2 : Bool), v74 = .bool x74_2 ∧ Aside0 (spec_l6Fields.j0 kq x74_2 a0_0 a0_1 a0_2 a1_0 a1_1 a1_2 a1_3 a1_4 a1_5 a1_6 a1_7 a1_8 a1_9 a1_10 a1_11 a1_12 a1_13 a1_14 a1_15 a1_16 a1_17 a1_18 a1_19 a1_20 l1_21 l1_22 a1_23 a1_24 a1_25 = some r) ∧ Aside0 (kq ≤ k) ∧ Aside0 (wc.heap[gb103]? = some (.cells #[.int .i64 a0_0, .int .i64 a0_1, .int .i64 a0_2] 43 (0, 0))) ∧ Aside0 (wc.heap[gb104]? = some (.cells #[.bool a1_0, .int .i64 a1_1, .int .i64 a1_2, .bool a1_3, .int .i64 a1_4, .int .i64 a1_5, .int .i64 a1_6, .int .i64 a1_7, .int .i64 a1_8, .int .i64 a1_9, .int .i64 a1_10, .int .i64 a1_11, .int .i64 a1_12, .int .i64 a1_13, .int .i64 a1_14, .bool a1_15, .int .i64 a1_16, .int .u64 a1_17, .int .u64 a1_18, .int .u64 a1_19, .int .u64 a1_20, (.slice A1_21 l1_21.length c1_21), (.slice A1_22 l1_22.length c1_22), .int .i64 a1_23, .int .i64 a1_24, .int .i64 a1_25] 59 (0, 0))) ∧ Aside0 (Below w.heap.size w wc))
 case first =>
  as_aux_lemma =>
  have H := HC3.out
  clear HC3
  by_cases c6 : a1_1 < 0
  ·rw [if_pos c6] at H
   have c6b0 : decide (a1_1 < 0) = true := decide_eq_true c6
   clear c6
   (first | rw [c6b0] | (simp only [i64_w, i32_w]; rw [c6b0]) | skip)
   have H' := Aside0.mk H
   clear H
   have hnb7 := NB104_103.out
   have hnc7 := NB103_104.out
   obtain ⟨_, _, _, _, _, _, _, _, _, _, _, _, _, _, _, _, _, _, _, _, _, _, _, _, _, _, _, _, _, _, _, _, _, _, _, _, _, _, _, _, _, _, _, _, _, _, _, _, _, _, _, _⟩ := zf2_26 BK104.out
   go_wp2
   go_meet
   case rel => exact ⟨_, (true), zA2_6, H', ⟨zA2_7⟩, ⟨zA2_1⟩, ⟨zA2_3⟩, ⟨zA2_0⟩⟩
  ·rw [if_neg c6] at H
   have c6b0 : decide (a1_1 < 0) = false := decide_eq_false c6
   clear c6
   (first | rw [c6b0] | (simp only [i64_w, i32_w]; rw [c6b0]) | skip)
   by_cases c9 : a1_1 ≥ a0_0
   ·rw [if_pos c9] at H
    have c9b0 : decide (a0_0 ≤ a1_1) = true := decide_eq_true c9
    clear c9
    have H' := Aside0.mk H
    clear H
    have hnb10 := NB104_103.out
    have hnc10 := NB103_104.out
    obtain ⟨_, _, _, _, _, _, _, _, _, _, _, _, _, _, _, _, _, _, _, _, _, _, _, _, _, _, _, _, _, _, _, _, _, _, _, _, _, _, _, _, _, _, _, _, _, _, _, _, _, _, _, _⟩ := zf2_26 BK104.out
    obtain ⟨_, _, _, _, _, _⟩ := zf2_3 BK103.out
    go_wp2
    go_meet
    case rel => exact ⟨_, (true), zA2_6, H', ⟨zA2_7⟩, ⟨zA2_1⟩, ⟨zA2_3⟩, ⟨zA2_0⟩⟩
   ·rw [if_neg c9] at H
    have c9b0 : decide (a0_0 ≤ a1_1) = false := decide_eq_false c9
    clear c9
    by_cases c13 : a1_2 < 0
    ·rw [if_pos c13] at H
     have c13b0 : decide (a1_2 < 0) = true := decide_eq_true c13
     clear c13
     have H' := Aside0.mk H
     clear H
     have hnb14 := NB104_103.out
     have hnc14 := NB103_104.out
     obtain ⟨_, _, _, _, _, _, _, _, _, _, _, _, _, _, _, _, _, _, _, _, _, _, _, _, _, _, _, _, _, _, _, _, _, _, _, _, _, _, _, _, _, _, _, _, _, _, _, _, _, _, _, _⟩ := zf2_26 BK104.out
     obtain ⟨_, _, _, _, _, _⟩ := zf2_3 BK103.out
     go_wp2
     go_meet
     case rel => exact ⟨_, (true), zA2_6, H', ⟨zA2_7⟩, ⟨zA2_1⟩, ⟨zA2_3⟩, ⟨zA2_0⟩⟩
    ·rw [if_neg c13] at H
     have c13b0 : decide (a1_2 < 0) = false := decide_eq_false c13
     clear c13
     by_cases c17 : a1_2 > 4095
     ·rw [if_pos c17] at H
      have c17b0 : decide (4095 < a1_2) = true := decide_eq_true c17
      clear c17
      have H' := Aside0.mk H
      clear H
      have hnb18 := NB104_103.out
      have hnc18 := NB103_104.out
      obtain ⟨_, _, _, _, _, _, _, _, _, _, _, _, _, _, _, _, _, _, _, _, _, _, _, _, _, _, _, _, _, _, _, _, _, _, _, _, _, _, _, _, _, _, _, _, _, _, _, _, _, _, _, _⟩ := zf2_26 BK104.out
      obtain ⟨_, _, _, _, _, _⟩ := zf2_3 BK103.out
      go_wp2
      go_meet
      case rel => exact ⟨_, (true), zA2_6, H', ⟨zA2_7⟩, ⟨zA2_1⟩, ⟨zA2_3⟩, ⟨zA2_0⟩⟩
     ·rw [if_neg c17] at H
      have c17b0 : decide (4095 < a1_2) = false := decide_eq_false c17
      clear c17
      by_cases c21 : a1_12 < 0
      ·rw [if_pos c21] at H
       have c21b0 : decide (a1_12 < 0) = true := decide_eq_true c21
       clear c21
       have H' := Aside0.mk H
       clear H
       have hnb22 := NB104_103.out
       have hnc22 := NB103_104.out
       obtain ⟨_, _, _, _, _, _, _, _, _, _, _, _, _, _, _, _, _, _, _, _, _, _, _, _, _, _, _, _, _, _, _, _, _, _, _, _, _, _, _, _, _, _, _, _, _, _, _, _, _, _, _, _⟩ := zf2_26 BK104.out
       obtain ⟨_, _, _, _, _, _⟩ := zf2_3 BK103.out
       go_wp2
       go_meet
       case rel => exact ⟨_, (true), zA2_6, H', ⟨zA2_7⟩, ⟨zA2_1⟩, ⟨zA2_3⟩, ⟨zA2_0⟩⟩
      ·rw [if_neg c21] at H
       have c21b0 : decide (a1_12 < 0) = false := decide_eq_false c21
       clear c21
       by_cases c25 : a1_12 > 4095
       ·rw [if_pos c25] at H
        have c25b0 : decide (4095 < a1_12) = true := decide_eq_true c25
        clear c25
        have H' := Aside0.mk H
        clear H
        have hnb26 := NB104_103.out
        have hnc26 := NB103_104.out
        obtain ⟨_, _, _, _, _, _, _, _, _, _, _, _, _, _, _, _, _, _, _, _, _, _, _, _, _, _, _, _, _, _, _, _, _, _, _, _, _, _, _, _, _, _, _, _, _, _, _, _, _, _, _, _⟩ := zf2_26 BK104.out
        obtain ⟨_, _, _, _, _, _⟩ := zf2_3 BK103.out
        go_wp2
        go_meet
        case rel => exact ⟨_, (true), zA2_6, H', ⟨zA2_7⟩, ⟨zA2_1⟩, ⟨zA2_3⟩, ⟨zA2_0⟩⟩
       ·rw [if_neg c25] at H
        have c25b0 : decide (4095 < a1_12) = false := decide_eq_false c25
        clear c25
        by_cases c29 : a1_8 < 0
        ·rw [if_pos c29] at H
         have c29b0 : decide (a1_8 < 0) = true := decide_eq_true c29
         clear c29
         have H' := Aside0.mk H
         clear H
         have hnb30 := NB104_103.out
         have hnc30 := NB103_104.out
         obtain ⟨_, _, _, _, _, _, _, _, _, _, _, _, _, _, _, _, _, _, _, _, _, _, _, _, _, _, _, _, _, _, _, _, _, _, _, _, _, _, _, _, _, _, _, _, _, _, _, _, _, _, _, _⟩ := zf2_26 BK104.out
         obtain ⟨_, _, _, _, _, _⟩ := zf2_3 BK103.out
         go_wp2
         go_meet
         case rel => exact ⟨_, (true), zA2_6, H', ⟨zA2_7⟩, ⟨zA2_1⟩, ⟨zA2_3⟩, ⟨zA2_0⟩⟩
        ·rw [if_neg c29] at H
         have c29b0 : decide (a1_8 < 0) = false := decide_eq_false c29
         clear c29
         by_cases c33 : a1_8 > 26
         ·rw [if_pos c33] at H
          have c33b0 : decide (26 < a1_8) = true := decide_eq_true c33
          clear c33
          have H' := Aside0.mk H
          clear H
          have hnb34 := NB104_103.out
          have hnc34 := NB103_104.out
          obtain ⟨_, _, _, _, _, _, _, _, _, _, _, _, _, _, _, _, _, _, _, _, _, _, _, _, _, _, _, _, _, _, _, _, _, _, _, _, _, _, _, _, _, _, _, _, _, _, _, _, _, _, _, _⟩ := zf2_26 BK104.out
          obtain ⟨_, _, _, _, _, _⟩ := zf2_3 BK103.out
          go_wp2
          go_meet
          case rel => exact ⟨_, (true), zA2_6, H', ⟨zA2_7⟩, ⟨zA2_1⟩, ⟨zA2_3⟩, ⟨zA2_0⟩⟩
         ·rw [if_neg c33] at H
          have c33b0 : decide (26 < a1_8) = false := decide_eq_false c33
          clear c33
          by_cases c37 : a1_11 < 0
          ·rw [if_pos c37] at H
           have c37b0 : decide (a1_11 < 0) = true := decide_eq_true c37
           clear c37
           have H' := Aside0.mk H
           clear H
           have hnb38 := NB104_103.out
           have hnc38 := NB103_104.out
           obtain ⟨_, _, _, _, _, _, _, _, _, _, _, _, _, _, _, _, _, _, _, _, _, _, _, _, _, _, _, _, _, _, _, _, _, _, _, _, _, _, _, _, _, _, _, _, _, _, _, _, _, _, _, _⟩ := zf2_26 BK104.out
           obtain ⟨_, _, _, _, _, _⟩ := zf2_3 BK103.out
           go_wp2
           go_meet
           case rel => exact ⟨_, (true), zA2_6, H', ⟨zA2_7⟩, ⟨zA2_1⟩, ⟨zA2_3⟩, ⟨zA2_0⟩⟩
          ·rw [if_neg c37] at H
           have c37b0 : decide (a1_11 < 0) = false := decide_eq_false c37
           clear c37
           by_cases c41 : a1_11 > 1000001
           ·rw [if_pos c41] at H
            have c41b0 : decide (1000001 < a1_11) = true := decide_eq_true c41
            clear c41
            have H' := Aside0.mk H
            clear H
            have hnb42 := NB104_103.out
            have hnc42 := NB103_104.out
            obtain ⟨_, _, _, _, _, _, _, _, _, _, _, _, _, _, _, _, _, _, _, _, _, _, _, _, _, _, _, _, _, _, _, _, _, _, _, _, _, _, _, _, _, _, _, _, _, _, _, _, _, _, _, _⟩ := zf2_26 BK104.out
            obtain ⟨_, _, _, _, _, _⟩ := zf2_3 BK103.out
            go_wp2
            go_meet
            case rel => exact ⟨_, (true), zA2_6, H', ⟨zA2_7⟩, ⟨zA2_1⟩, ⟨zA2_3⟩, ⟨zA2_0⟩⟩
           ·rw [if_neg c41] at H
            have c41b0 : decide (1000001 < a1_11) = false := decide_eq_false c41
            clear c41
            by_cases c45 : a1_13 < 0
            ·rw [if_pos c45] at H
             have c45b0 : decide (a1_13 < 0) = true := decide_eq_true c45
             clear c45
             have H' := Aside0.mk H
             clear H
             have hnb46 := NB104_103.out
             have hnc46 := NB103_104.out
             obtain ⟨_, _, _, _, _, _, _, _, _, _, _, _, _, _, _, _, _, _, _, _, _, _, _, _, _, _, _, _, _, _, _, _, _, _, _, _, _, _, _, _, _, _, _, _, _, _, _, _, _, _, _, _⟩ := zf2_26 BK104.out
             obtain ⟨_, _, _, _, _, _⟩ := zf2_3 BK103.out
             go_wp2
             go_meet
             case rel => exact ⟨_, (true), zA2_6, H', ⟨zA2_7⟩, ⟨zA2_1⟩, ⟨zA2_3⟩, ⟨zA2_0⟩⟩
            ·rw [if_neg c45] at H
             have c45b0 : decide (a1_13 < 0) = false := decide_eq_false c45
             clear c45
             by_cases c49 : a1_13 > 7
             ·rw [if_pos c49] at H
              have c49b0 : decide (7 < a1_13) = true := decide_eq_true c49
              clear c49
              have H' := Aside0.mk H
              clear H
              have hnb50 := NB104_103.out
              have hnc50 := NB103_104.out
              obtain ⟨_, _, _, _, _, _, _, _, _, _, _, _, _, _, _, _, _, _, _, _, _, _, _, _, _, _, _, _, _, _, _, _, _, _, _, _, _, _, _, _, _, _, _, _, _, _, _, _, _, _, _, _⟩ := zf2_26 BK104.out
              obtain ⟨_, _, _, _, _, _⟩ := zf2_3 BK103.out
              go_wp2
              go_meet
              case rel => exact ⟨_, (true), zA2_6, H', ⟨zA2_7⟩, ⟨zA2_1⟩, ⟨zA2_3⟩, ⟨zA2_0⟩⟩
             ·rw [if_neg c49] at H
              have c49b0 : decide (7 < a1_13) = false := decide_eq_false c49
              clear c49
              by_cases c53 : a1_14 < 0
              ·rw [if_pos c53] at H
               have c53b0 : decide (a1_14 < 0) = true := decide_eq_true c53
               clear c53
               have H' := Aside0.mk H
               clear H
               have hnb54 := NB104_103.out
               have hnc54 := NB103_104.out
               obtain ⟨_, _, _, _, _, _, _, _, _, _, _, _, _, _, _, _, _, _, _, _, _, _, _, _, _, _, _, _, _, _, _, _, _, _, _, _, _, _, _, _, _, _, _, _, _, _, _, _, _, _, _, _⟩ := zf2_26 BK104.out
               obtain ⟨_, _, _, _, _, _⟩ := zf2_3 BK103.out
               go_wp2
               go_meet
               case rel => exact ⟨_, (true), zA2_6, H', ⟨zA2_7⟩, ⟨zA2_1⟩, ⟨zA2_3⟩, ⟨zA2_0⟩⟩
              ·rw [if_neg c53] at H
               have c53b0 : decide (a1_14 < 0) = false := decide_eq_false c53
               clear c53
               have H' := Aside0.mk H
               clear H
               have hnb57 := NB104_103.out
               have hnc57 := NB103_104.out
               obtain ⟨_, _, _, _, _, _, _, _, _, _, _, _, _, _, _, _, _, _, _, _, _, _, _, _, _, _, _, _, _, _, _, _, _, _, _, _, _, _, _, _, _, _, _, _, _, _, _, _, _, _, _, _⟩ := zf2_26 BK104.out
               obtain ⟨_, _, _, _, _, _⟩ := zf2_3 BK103.out
               go_wp2
               go_meet
               case rel => exact ⟨_, (decide (a1_14 > 4095)), zA2_6, H', ⟨zA2_7⟩, ⟨zA2_1⟩, ⟨zA2_3⟩, ⟨zA2_0⟩⟩
 case rest =>
  as_aux_lemma =>
  clear HC3
  try clear c1
  try clear c2
  try clear p2
  try clear c3
  try clear c4
  try clear c5
  try clear c25
  try clear c25b0
  try clear c29
  try clear c29b0
  try clear c30
  try clear c33
  try clear c33b0
  try clear c34
  try clear c37
  try clear c37b0
  try clear c38
  try clear c41
  try clear c41b0
  try clear c42
  try clear c45
  try clear c45b0
  try clear c46
  try clear c49
  try clear c49b0
  try clear c50
  try clear c53
  try clear c53b0
  try clear c54
  try clear c57
  obtain ⟨kq, x74_2, rfl, HA, HJ2, BK103, BK104, HB⟩ := hcut
  cases kq with
  | zero => exact absurd HA.out (by simp [spec_l6Fields.j0])
  | succ kj2 =>
   have H := HA.out
   clear HA
   simp only [spec_l6Fields.j0] at H
   by_cases c60 : x74_2 = true
   ·subst c60
    have H1 : (some false) = some r := by rw [if_pos rfl] at H; exact H
    clear H
    have H := H1
    clear H1
    obtain rfl := Option.some.inj H
    go_wp2
    go_ret
    exact ⟨zA2_5, zA2_0⟩
   ·replace c60 := Bool.eq_false_iff.mpr c60
    subst c60
    have H1 : (if a1_10 ≥ 0 then (if a1_10 ≤ 20 then (if a1_9 ≥ 0 then ((spec_l2House.f a0_0 a0_1 a0_2).bind fun t105 => (if a1_9 ≤ t105 then ((spec_l2House.f a0_0 a0_1 a0_2).bind fun t106 => (if (l1_21.length : Int) ≤ t106 then (if (l1_22.length : Int) ≤ 20 then (if a1_16 ≥ 0 then (some (decide (a1_16 ≤ 1048575))) else (some false)) else (some false)) else (some false))) else (some false))) else (some false)) else (some false)) else (some false)) = some r := by rw [if_neg (show ¬ (false = true) by decide)] at H; exact H
    clear H
    have H := H1
    clear H1
    by_cases c61 : a1_10 ≥ 0
    ·rw [if_pos c61] at H
     have c61b0 : decide (0 ≤ a1_10) = true := decide_eq_true c61
     clear c61
     by_cases c62 : a1_10 ≤ 20
     ·rw [if_pos c62] at H
      have c62b0 : decide (a1_10 ≤ 20) = true := decide_eq_true c62
      clear c62
      by_cases c63 : a1_9 ≥ 0
      ·rw [if_pos c63] at H
       have c63b0 : decide (0 ≤ a1_9) = true := decide_eq_true c63
       clear c63
       replace H := Option.bind_eq_some_iff.mp H
       obtain ⟨t105, A640, H⟩ := H
       replace H : (if a1_9 ≤ t105 then ((spec_l2House.f a0_0 a0_1 a0_2).bind fun t106 => (if (l1_21.length : Int) ≤ t106 then (if (l1_22.length : Int) ≤ 20 then (if a1_16 ≥ 0 then (some (decide (a1_16 ≤ 1048575))) else (some false)) else (some false)) else (some false))) else (some false)) = some r := H
       have A64 := Aside0.mk A640
       clear A640
       by_cases c65 : a1_9 ≤ t105
       ·rw [if_pos c65] at H
        have c65b0 : decide (a1_9 ≤ t105) = true := decide_eq_true c65
        clear c65
        replace H := Option.bind_eq_some_iff.mp H
        obtain ⟨t106, A660, H⟩ := H
        replace H : (if (l1_21.length : Int) ≤ t106 then (if (l1_22.length : Int) ≤ 20 then (if a1_16 ≥ 0 then (some (decide (a1_16 ≤ 1048575))) else (some false)) else (some false)) else (some false)) = some r := H
        have A66 := Aside0.mk A660
        clear A660
        by_cases c67 : (l1_21.length : Int) ≤ t106
        ·rw [if_pos c67] at H
         have c67b0 : decide ((l1_21.length : Int) ≤ t106) = true := decide_eq_true c67
         clear c67
         by_cases c68 : (l1_22.length : Int) ≤ 20
         ·rw [if_pos c68] at H
          have c68b0 : decide ((l1_22.length : Int) ≤ 20) = true := decide_eq_true c68
          have c68b1 : decide (l1_22.length ≤ 20) = true := decide_eq_true (by omega)
          clear c68
          by_cases c69 : a1_16 ≥ 0
          ·rw [if_pos c69] at H
           have c69b0 : decide (0 ≤ a1_16) = true := decide_eq_true c69
           clear c69
           obtain rfl := Option.some.inj H
           try go_wp2
           have n0_ := Aside0.mk (blk_drew BK103.out)
           have n1_ := Aside0.mk (blk_drew BK104.out)
           have n2_ := Aside0.mk (below_drew1 HB.out)
           clear BK103
           clear BK104
           clear HB
           have BK103 := n0_
           have BK104 := n1_
           have HB := n2_
           clear n0_ n1_ n2_
           refine start_ (n := 45) (S := zS2_0 gb104 a1_0 a1_1 a1_2 a1_3 a1_4 a1_5 a1_6 a1_7 a1_8 a1_9 a1_10 a1_11 a1_12 a1_13 a1_14 a1_15 a1_16 a1_17 a1_18 a1_19 a1_20 A1_21 l1_21 c1_21 A1_22 l1_22 c1_22 a1_23 a1_24 a1_25 gb103 a0_0 a0_1 a0_2) (ds := []) zl2_0 zA2_2 rfl rfl ⟨(blk_cell BK104.out 0).trans rfl, (blk_cell BK104.out 1).trans rfl, (blk_cell BK104.out 2).trans rfl, (blk_cell BK104.out 3).trans rfl, (blk_cell BK104.out 4).trans rfl, (blk_cell BK104.out 5).trans rfl, (blk_cell BK104.out 6).trans rfl, (blk_cell BK104.out 7).trans rfl, (blk_cell BK104.out 8).trans rfl, (blk_cell BK104.out 9).trans rfl, (blk_cell BK104.out 10).trans rfl, (blk_cell BK104.out 11).trans rfl, (blk_cell BK104.out 12).trans rfl, (blk_cell BK104.out 13).trans rfl, (blk_cell BK104.out 14).trans rfl, (blk_cell BK104.out 15).trans rfl, (blk_cell BK104.out 16).trans rfl, (blk_cell BK104.out 17).trans rfl, (blk_cell BK104.out 18).trans rfl, (blk_cell BK104.out 19).trans rfl, (blk_cell BK104.out 20).trans rfl, (blk_cell BK104.out 21).trans rfl, (blk_cell BK104.out 22).trans rfl, (blk_cell BK104.out 23).trans rfl, (blk_cell BK104.out 24).trans rfl, (blk_cell BK104.out 25).trans rfl, (blk_cell BK103.out 0).trans rfl, (blk_cell BK103.out 1).trans rfl, (blk_cell BK103.out 2).trans rfl⟩ (fun hHeld => ?_); refine with_tabW spec_l6Fields.tab3 spec_l6Fields.bits3 (fun HT_ HW_ => ?_)
           generalize wc.drew = w70 at BK103 BK104 HB hHeld ⊢
           refine zp2_ 0 75 zl2_1 (any_of HT_.out zA2_2) ?_
           refine zt2_28_ 1 76 zl2_2 (take_ofW HT_.out HW_.out zA2_2) hHeld ?_
           refine zp2_ 2 77 zl2_3 (any_of HT_.out zA2_2) ?_
           refine zp2_ 3 78 zl2_4 (any_of HT_.out zA2_2) ?_
           refine zp2_ 4 79 zl2_5 (any_of HT_.out zA2_2) ?_
           refine zt2_28_ 5 80 zl2_6 (take_ofW HT_.out HW_.out zA2_2) hHeld ?_
           refine zp2_ 6 81 zl2_7 (any_of HT_.out zA2_2) ?_
           refine zp2_ 7 82 zl2_8 (any_of HT_.out zA2_2) ?_
           refine zp2_ 8 83 zl2_9 (any_of HT_.out zA2_2) ?_
           refine zp2_ 9 84 zl2_10 (any_of HT_.out zA2_2) ?_
           refine zt2_28_ 10 85 zl2_11 (take_ofW HT_.out HW_.out zA2_2) hHeld ?_
           refine zp2_ 11 86 zl2_12 (any_of HT_.out zA2_2) ?_
           refine zp2_ 12 87 zl2_13 (any_of HT_.out zA2_2) ?_
           refine zp2_ 13 88 zl2_14 (any_of HT_.out zA2_2) ?_
           refine zp2_ 14 89 zl2_15 (any_of HT_.out zA2_2) ?_
           refine zt2_28_ 15 90 zl2_16 (take_ofW HT_.out HW_.out zA2_2) hHeld ?_
           refine zt2_28_ 16 91 zl2_17 (take_ofW HT_.out HW_.out zA2_2) hHeld ?_
           refine one_ (i := 17) (N := some 92) zl2_18 rfl rfl (one_of HT_.out zA2_2) (by decide) (fun K hK => ?_)
           refine goes_ Try.func50 zA2_2 rfl #[.agg #[.int .i64 a0_0, .int .i64 a0_1, .int .i64 a0_2]] (by rfl) rfl rfl zA2_4 ?_
           with_reducible refine (spec_l2House.calls a0_0 a0_1 a0_2 t105 _ A64.out).mono ?_
           rintro e w71 ⟨rfl, hb⟩
           refine ⟨_, rfl, ?_⟩
           have n0_ := Aside0.mk (blk_below zA2_1 hb)
           have n1_ := Aside0.mk (blk_below zA2_3 hb)
           have n2_ := Aside0.mk (below_step zA2_0 hb)
           clear BK103
           clear BK104
           clear HB
           have BK103 := n0_
           have BK104 := n1_
           have HB := n2_
           clear n0_ n1_ n2_
           (try clear hb)
           (try clear hb2)
           (try clear hk)
           (try clear hi)
           refine hK.out _ _ ⟨(blk_cell BK104.out 0).trans rfl, (blk_cell BK104.out 1).trans rfl, (blk_cell BK104.out 2).trans rfl, (blk_cell BK104.out 3).trans rfl, (blk_cell BK104.out 4).trans rfl, (blk_cell BK104.out 5).trans rfl, (blk_cell BK104.out 6).trans rfl, (blk_cell BK104.out 7).trans rfl, (blk_cell BK104.out 8).trans rfl, (blk_cell BK104.out 9).trans rfl, (blk_cell BK104.out 10).trans rfl, (blk_cell BK104.out 11).trans rfl, (blk_cell BK104.out 12).trans rfl, (blk_cell BK104.out 13).trans rfl, (blk_cell BK104.out 14).trans rfl, (blk_cell BK104.out 15).trans rfl, (blk_cell BK104.out 16).trans rfl, (blk_cell BK104.out 17).trans rfl, (blk_cell BK104.out 18).trans rfl, (blk_cell BK104.out 19).trans rfl, (blk_cell BK104.out 20).trans rfl, (blk_cell BK104.out 21).trans rfl, (blk_cell BK104.out 22).trans rfl, (blk_cell BK104.out 23).trans rfl, (blk_cell BK104.out 24).trans rfl, (blk_cell BK104.out 25).trans rfl, (blk_cell BK103.out 0).trans rfl, (blk_cell BK103.out 1).trans rfl, (blk_cell BK103.out 2).trans rfl⟩ (fun hHeld => ?_)
           clear hK K
           refine norm_ (a' := ?_) ?_ ?_
           rotate_left
           ·show Act.put _ (some 92) _ = _
            simp only [Act.put, List.setIfInBounds_toArray, List.set_cons_zero, List.set_cons_succ, i64_w, i32_w]
            rfl
           refine zp2_ 18 93 zl2_19 (any_of HT_.out zA2_2) ?_
           refine zp2_ 19 94 zl2_20 (any_of HT_.out zA2_2) ?_
           refine zp2_ 20 95 zl2_21 (any_of HT_.out zA2_2) ?_
           refine zp2_ 21 96 zl2_22 (any_of HT_.out zA2_2) ?_
           refine zt2_28_ 22 97 zl2_23 (take_ofW HT_.out HW_.out zA2_2) hHeld ?_
           refine zp2_ 23 98 zl2_24 (any_of HT_.out zA2_2) ?_
           refine zt2_28_ 24 99 zl2_25 (take_ofW HT_.out HW_.out zA2_2) hHeld ?_
           refine one_ (i := 25) (N := some 100) zl2_26 rfl rfl (one_of HT_.out zA2_2) (by decide) (fun K hK => ?_)
           refine goes_ Try.func50 zA2_2 rfl #[.agg #[.int .i64 a0_0, .int .i64 a0_1, .int .i64 a0_2]] (by rfl) rfl rfl zA2_4 ?_
           with_reducible refine (spec_l2House.calls a0_0 a0_1 a0_2 t106 _ A66.out).mono ?_
           rintro e w72 ⟨rfl, hb⟩
           refine ⟨_, rfl, ?_⟩
           have n0_ := Aside0.mk (blk_below zA2_1 hb)
           have n1_ := Aside0.mk (blk_below zA2_3 hb)
           have n2_ := Aside0.mk (below_step zA2_0 hb)
           clear BK103
           clear BK104
           clear HB
           have BK103 := n0_
           have BK104 := n1_
           have HB := n2_
           clear n0_ n1_ n2_
           (try clear hb)
           (try clear hb2)
           (try clear hk)
           (try clear hi)
           refine hK.out _ _ ⟨(blk_cell BK104.out 0).trans rfl, (blk_cell BK104.out 1).trans rfl, (blk_cell BK104.out 2).trans rfl, (blk_cell BK104.out 3).trans rfl, (blk_cell BK104.out 4).trans rfl, (blk_cell BK104.out 5).trans rfl, (blk_cell BK104.out 6).trans rfl, (blk_cell BK104.out 7).trans rfl, (blk_cell BK104.out 8).trans rfl, (blk_cell BK104.out 9).trans rfl, (blk_cell BK104.out 10).trans rfl, (blk_cell BK104.out 11).trans rfl, (blk_cell BK104.out 12).trans rfl, (blk_cell BK104.out 13).trans rfl, (blk_cell BK104.out 14).trans rfl, (blk_cell BK104.out 15).trans rfl, (blk_cell BK104.out 16).trans rfl, (blk_cell BK104.out 17).trans rfl, (blk_cell BK104.out 18).trans rfl, (blk_cell BK104.out 19).trans rfl, (blk_cell BK104.out 20).trans rfl, (blk_cell BK104.out 21).trans rfl, (blk_cell BK104.out 22).trans rfl, (blk_cell BK104.out 23).trans rfl, (blk_cell BK104.out 24).trans rfl, (blk_cell BK104.out 25).trans rfl, (blk_cell BK103.out 0).trans rfl, (blk_cell BK103.out 1).trans rfl, (blk_cell BK103.out 2).trans rfl⟩ (fun hHeld => ?_)
           clear hK K
           refine norm_ (a' := ?_) ?_ ?_
           rotate_left
           ·show Act.put _ (some 100) _ = _
            simp only [Act.put, List.setIfInBounds_toArray, List.set_cons_zero, List.set_cons_succ, i64_w, i32_w]
            rfl
           refine zp2_ 26 101 zl2_27 (any_of HT_.out zA2_2) ?_
           refine zp2_ 27 102 zl2_28 (any_of HT_.out zA2_2) ?_
           refine zp2_ 28 103 zl2_29 (any_of HT_.out zA2_2) ?_
           refine zp2_ 29 104 zl2_30 (any_of HT_.out zA2_2) ?_
           refine zt2_28_ 30 105 zl2_31 (take_ofW HT_.out HW_.out zA2_2) hHeld ?_
           refine zp2_ 31 106 zl2_32 (any_of HT_.out zA2_2) ?_
           refine zp2_ 32 107 zl2_33 (any_of HT_.out zA2_2) ?_
           refine zp2_ 33 108 zl2_34 (any_of HT_.out zA2_2) ?_
           refine zp2_ 34 109 zl2_35 (any_of HT_.out zA2_2) ?_
           refine zp2_ 35 110 zl2_36 (any_of HT_.out zA2_2) ?_
           refine zt2_28_ 36 111 zl2_37 (take_ofW HT_.out HW_.out zA2_2) hHeld ?_
           refine zp2_ 37 112 zl2_38 (any_of HT_.out zA2_2) ?_
           refine zp2_ 38 113 zl2_39 (any_of HT_.out zA2_2) ?_
           refine zp2_ 39 114 zl2_40 (any_of HT_.out zA2_2) ?_
           refine zp2_ 40 115 zl2_41 (any_of HT_.out zA2_2) ?_
           refine zt2_28_ 41 116 zl2_42 (take_ofW HT_.out HW_.out zA2_2) hHeld ?_
           refine zp2_ 42 117 zl2_43 (any_of HT_.out zA2_2) ?_
           refine zp2_ 43 118 zl2_44 (any_of HT_.out zA2_2) ?_
           refine zp2_ 44 4 zl2_45 (any_of HT_.out zA2_2) ?_
           refine done_ (done_of HT_.out zA2_2) ?_
           try go_wp2
           go_ret
           exact ⟨zA2_5, zA2_0⟩
          ·rw [if_neg c69] at H
           have c69b0 : decide (0 ≤ a1_16) = false := decide_eq_false c69
           clear c69
           obtain rfl := Option.some.inj H
           try go_wp2
           have n0_ := Aside0.mk (blk_drew BK103.out)
           have n1_ := Aside0.mk (blk_drew BK104.out)
           have n2_ := Aside0.mk (below_drew1 HB.out)
           clear BK103
           clear BK104
           clear HB
           have BK103 := n0_
           have BK104 := n1_
           have HB := n2_
           clear n0_ n1_ n2_
           refine start_ (n := 45) (S := zS2_0 gb104 a1_0 a1_1 a1_2 a1_3 a1_4 a1_5 a1_6 a1_7 a1_8 a1_9 a1_10 a1_11 a1_12 a1_13 a1_14 a1_15 a1_16 a1_17 a1_18 a1_19 a1_20 A1_21 l1_21 c1_21 A1_22 l1_22 c1_22 a1_23 a1_24 a1_25 gb103 a0_0 a0_1 a0_2) (ds := []) zl2_0 zA2_2 rfl rfl ⟨(blk_cell BK104.out 0).trans rfl, (blk_cell BK104.out 1).trans rfl, (blk_cell BK104.out 2).trans rfl, (blk_cell BK104.out 3).trans rfl, (blk_cell BK104.out 4).trans rfl, (blk_cell BK104.out 5).trans rfl, (blk_cell BK104.out 6).trans rfl, (blk_cell BK104.out 7).trans rfl, (blk_cell BK104.out 8).trans rfl, (blk_cell BK104.out 9).trans rfl, (blk_cell BK104.out 10).trans rfl, (blk_cell BK104.out 11).trans rfl, (blk_cell BK104.out 12).trans rfl, (blk_cell BK104.out 13).trans rfl, (blk_cell BK104.out 14).trans rfl, (blk_cell BK104.out 15).trans rfl, (blk_cell BK104.out 16).trans rfl, (blk_cell BK104.out 17).trans rfl, (blk_cell BK104.out 18).trans rfl, (blk_cell BK104.out 19).trans rfl, (blk_cell BK104.out 20).trans rfl, (blk_cell BK104.out 21).trans rfl, (blk_cell BK104.out 22).trans rfl, (blk_cell BK104.out 23).trans rfl, (blk_cell BK104.out 24).trans rfl, (blk_cell BK104.out 25).trans rfl, (blk_cell BK103.out 0).trans rfl, (blk_cell BK103.out 1).trans rfl, (blk_cell BK103.out 2).trans rfl⟩ (fun hHeld => ?_); refine with_tabW spec_l6Fields.tab3 spec_l6Fields.bits3 (fun HT_ HW_ => ?_)
           generalize wc.drew = w73 at BK103 BK104 HB hHeld ⊢
           refine zp2_ 0 75 zl2_1 (any_of HT_.out zA2_2) ?_
           refine zt2_28_ 1 76 zl2_2 (take_ofW HT_.out HW_.out zA2_2) hHeld ?_
           refine zp2_ 2 77 zl2_3 (any_of HT_.out zA2_2) ?_
           refine zp2_ 3 78 zl2_4 (any_of HT_.out zA2_2) ?_
           refine zp2_ 4 79 zl2_5 (any_of HT_.out zA2_2) ?_
           refine zt2_28_ 5 80 zl2_6 (take_ofW HT_.out HW_.out zA2_2) hHeld ?_
           refine zp2_ 6 81 zl2_7 (any_of HT_.out zA2_2) ?_
           refine zp2_ 7 82 zl2_8 (any_of HT_.out zA2_2) ?_
           refine zp2_ 8 83 zl2_9 (any_of HT_.out zA2_2) ?_
           refine zp2_ 9 84 zl2_10 (any_of HT_.out zA2_2) ?_
           refine zt2_28_ 10 85 zl2_11 (take_ofW HT_.out HW_.out zA2_2) hHeld ?_
           refine zp2_ 11 86 zl2_12 (any_of HT_.out zA2_2) ?_
           refine zp2_ 12 87 zl2_13 (any_of HT_.out zA2_2) ?_
           refine zp2_ 13 88 zl2_14 (any_of HT_.out zA2_2) ?_
           refine zp2_ 14 89 zl2_15 (any_of HT_.out zA2_2) ?_
           refine zt2_28_ 15 90 zl2_16 (take_ofW HT_.out HW_.out zA2_2) hHeld ?_
           refine zt2_28_ 16 91 zl2_17 (take_ofW HT_.out HW_.out zA2_2) hHeld ?_
           refine one_ (i := 17) (N := some 92) zl2_18 rfl rfl (one_of HT_.out zA2_2) (by decide) (fun K hK => ?_)
           refine goes_ Try.func50 zA2_2 rfl #[.agg #[.int .i64 a0_0, .int .i64 a0_1, .int .i64 a0_2]] (by rfl) rfl rfl zA2_4 ?_
           with_reducible refine (spec_l2House.calls a0_0 a0_1 a0_2 t105 _ A64.out).mono ?_
           rintro e w74 ⟨rfl, hb⟩
           refine ⟨_, rfl, ?_⟩
           have n0_ := Aside0.mk (blk_below zA2_1 hb)
           have n1_ := Aside0.mk (blk_below zA2_3 hb)
           have n2_ := Aside0.mk (below_step zA2_0 hb)
           clear BK103
           clear BK104
           clear HB
           have BK103 := n0_
           have BK104 := n1_
           have HB := n2_
           clear n0_ n1_ n2_
           (try clear hb)
           (try clear hb2)
           (try clear hk)
           (try clear hi)
           refine hK.out _ _ ⟨(blk_cell BK104.out 0).trans rfl, (blk_cell BK104.out 1).trans rfl, (blk_cell BK104.out 2).trans rfl, (blk_cell BK104.out 3).trans rfl, (blk_cell BK104.out 4).trans rfl, (blk_cell BK104.out 5).trans rfl, (blk_cell BK104.out 6).trans rfl, (blk_cell BK104.out 7).trans rfl, (blk_cell BK104.out 8).trans rfl, (blk_cell BK104.out 9).trans rfl, (blk_cell BK104.out 10).trans rfl, (blk_cell BK104.out 11).trans rfl, (blk_cell BK104.out 12).trans rfl, (blk_cell BK104.out 13).trans rfl, (blk_cell BK104.out 14).trans rfl, (blk_cell BK104.out 15).trans rfl, (blk_cell BK104.out 16).trans rfl, (blk_cell BK104.out 17).trans rfl, (blk_cell BK104.out 18).trans rfl, (blk_cell BK104.out 19).trans rfl, (blk_cell BK104.out 20).trans rfl, (blk_cell BK104.out 21).trans rfl, (blk_cell BK104.out 22).trans rfl, (blk_cell BK104.out 23).trans rfl, (blk_cell BK104.out 24).trans rfl, (blk_cell BK104.out 25).trans rfl, (blk_cell BK103.out 0).trans rfl, (blk_cell BK103.out 1).trans rfl, (blk_cell BK103.out 2).trans rfl⟩ (fun hHeld => ?_)
           clear hK K
           refine norm_ (a' := ?_) ?_ ?_
           rotate_left
           ·show Act.put _ (some 92) _ = _
            simp only [Act.put, List.setIfInBounds_toArray, List.set_cons_zero, List.set_cons_succ, i64_w, i32_w]
            rfl
           refine zp2_ 18 93 zl2_19 (any_of HT_.out zA2_2) ?_
           refine zp2_ 19 94 zl2_20 (any_of HT_.out zA2_2) ?_
           refine zp2_ 20 95 zl2_21 (any_of HT_.out zA2_2) ?_
           refine zp2_ 21 96 zl2_22 (any_of HT_.out zA2_2) ?_
           refine zt2_28_ 22 97 zl2_23 (take_ofW HT_.out HW_.out zA2_2) hHeld ?_
           refine zp2_ 23 98 zl2_24 (any_of HT_.out zA2_2) ?_
           refine zt2_28_ 24 99 zl2_25 (take_ofW HT_.out HW_.out zA2_2) hHeld ?_
           refine one_ (i := 25) (N := some 100) zl2_26 rfl rfl (one_of HT_.out zA2_2) (by decide) (fun K hK => ?_)
           refine goes_ Try.func50 zA2_2 rfl #[.agg #[.int .i64 a0_0, .int .i64 a0_1, .int .i64 a0_2]] (by rfl) rfl rfl zA2_4 ?_
           with_reducible refine (spec_l2House.calls a0_0 a0_1 a0_2 t106 _ A66.out).mono ?_
           rintro e w75 ⟨rfl, hb⟩
           refine ⟨_, rfl, ?_⟩
           have n0_ := Aside0.mk (blk_below zA2_1 hb)
           have n1_ := Aside0.mk (blk_below zA2_3 hb)
           have n2_ := Aside0.mk (below_step zA2_0 hb)
           clear BK103
           clear BK104
           clear HB
           have BK103 := n0_
           have BK104 := n1_
           have HB := n2_
           clear n0_ n1_ n2_
           (try clear hb)
           (try clear hb2)
           (try clear hk)
           (try clear hi)
           refine hK.out _ _ ⟨(blk_cell BK104.out 0).trans rfl, (blk_cell BK104.out 1).trans rfl, (blk_cell BK104.out 2).trans rfl, (blk_cell BK104.out 3).trans rfl, (blk_cell BK104.out 4).trans rfl, (blk_cell BK104.out 5).trans rfl, (blk_cell BK104.out 6).trans rfl, (blk_cell BK104.out 7).trans rfl, (blk_cell BK104.out 8).trans rfl, (blk_cell BK104.out 9).trans rfl, (blk_cell BK104.out 10).trans rfl, (blk_cell BK104.out 11).trans rfl, (blk_cell BK104.out 12).trans rfl, (blk_cell BK104.out 13).trans rfl, (blk_cell BK104.out 14).trans rfl, (blk_cell BK104.out 15).trans rfl, (blk_cell BK104.out 16).trans rfl, (blk_cell BK104.out 17).trans rfl, (blk_cell BK104.out 18).trans rfl, (blk_cell BK104.out 19).trans rfl, (blk_cell BK104.out 20).trans rfl, (blk_cell BK104.out 21).trans rfl, (blk_cell BK104.out 22).trans rfl, (blk_cell BK104.out 23).trans rfl, (blk_cell BK104.out 24).trans rfl, (blk_cell BK104.out 25).trans rfl, (blk_cell BK103.out 0).trans rfl, (blk_cell BK103.out 1).trans rfl, (blk_cell BK103.out 2).trans rfl⟩ (fun hHeld => ?_)
           clear hK K
           refine norm_ (a' := ?_) ?_ ?_
           rotate_left
           ·show Act.put _ (some 100) _ = _
            simp only [Act.put, List.setIfInBounds_toArray, List.set_cons_zero, List.set_cons_succ, i64_w, i32_w]
            rfl
           refine zp2_ 26 101 zl2_27 (any_of HT_.out zA2_2) ?_
           refine zp2_ 27 102 zl2_28 (any_of HT_.out zA2_2) ?_
           refine zp2_ 28 103 zl2_29 (any_of HT_.out zA2_2) ?_
           refine zp2_ 29 104 zl2_30 (any_of HT_.out zA2_2) ?_
           refine zt2_28_ 30 105 zl2_31 (take_ofW HT_.out HW_.out zA2_2) hHeld ?_
           refine zp2_ 31 106 zl2_32 (any_of HT_.out zA2_2) ?_
           refine zp2_ 32 107 zl2_33 (any_of HT_.out zA2_2) ?_
           refine zp2_ 33 108 zl2_34 (any_of HT_.out zA2_2) ?_
           refine zp2_ 34 109 zl2_35 (any_of HT_.out zA2_2) ?_
           refine zp2_ 35 110 zl2_36 (any_of HT_.out zA2_2) ?_
           refine zt2_28_ 36 111 zl2_37 (take_ofW HT_.out HW_.out zA2_2) hHeld ?_
           refine zp2_ 37 112 zl2_38 (any_of HT_.out zA2_2) ?_
           refine zp2_ 38 113 zl2_39 (any_of HT_.out zA2_2) ?_
           refine zp2_ 39 114 zl2_40 (any_of HT_.out zA2_2) ?_
           refine zu2_ 40 115 zl2_41 (any_of HT_.out zA2_2) ?_
           refine zu2_ 41 116 zl2_42 (any_of HT_.out zA2_2) ?_
           refine zu2_ 42 117 zl2_43 (any_of HT_.out zA2_2) ?_
           refine zp2_ 43 118 zl2_44 (any_of HT_.out zA2_2) ?_
           refine zp2_ 44 4 zl2_45 (any_of HT_.out zA2_2) ?_
           refine done_ (done_of HT_.out zA2_2) ?_
           try go_wp2
           go_ret
           exact ⟨zA2_5, zA2_0⟩
         ·rw [if_neg c68] at H
          have c68b0 : decide ((l1_22.length : Int) ≤ 20) = false := decide_eq_false c68
          have c68b1 : decide (l1_22.length ≤ 20) = false := decide_eq_false (by omega)
          clear c68
          obtain rfl := Option.some.inj H
          try go_wp2
          have n0_ := Aside0.mk (blk_drew BK103.out)
          have n1_ := Aside0.mk (blk_drew BK104.out)
          have n2_ := Aside0.mk (below_drew1 HB.out)
          clear BK103
          clear BK104
          clear HB
          have BK103 := n0_
          have BK104 := n1_
          have HB := n2_
          clear n0_ n1_ n2_
          refine start_ (n := 45) (S := zS2_0 gb104 a1_0 a1_1 a1_2 a1_3 a1_4 a1_5 a1_6 a1_7 a1_8 a1_9 a1_10 a1_11 a1_12 a1_13 a1_14 a1_15 a1_16 a1_17 a1_18 a1_19 a1_20 A1_21 l1_21 c1_21 A1_22 l1_22 c1_22 a1_23 a1_24 a1_25 gb103 a0_0 a0_1 a0_2) (ds := []) zl2_0 zA2_2 rfl rfl ⟨(blk_cell BK104.out 0).trans rfl, (blk_cell BK104.out 1).trans rfl, (blk_cell BK104.out 2).trans rfl, (blk_cell BK104.out 3).trans rfl, (blk_cell BK104.out 4).trans rfl, (blk_cell BK104.out 5).trans rfl, (blk_cell BK104.out 6).trans rfl, (blk_cell BK104.out 7).trans rfl, (blk_cell BK104.out 8).trans rfl, (blk_cell BK104.out 9).trans rfl, (blk_cell BK104.out 10).trans rfl, (blk_cell BK104.out 11).trans rfl, (blk_cell BK104.out 12).trans rfl, (blk_cell BK104.out 13).trans rfl, (blk_cell BK104.out 14).trans rfl, (blk_cell BK104.out 15).trans rfl, (blk_cell BK104.out 16).trans rfl, (blk_cell BK104.out 17).trans rfl, (blk_cell BK104.out 18).trans rfl, (blk_cell BK104.out 19).trans rfl, (blk_cell BK104.out 20).trans rfl, (blk_cell BK104.out 21).trans rfl, (blk_cell BK104.out 22).trans rfl, (blk_cell BK104.out 23).trans rfl, (blk_cell BK104.out 24).trans rfl, (blk_cell BK104.out 25).trans rfl, (blk_cell BK103.out 0).trans rfl, (blk_cell BK103.out 1).trans rfl, (blk_cell BK103.out 2).trans rfl⟩ (fun hHeld => ?_); refine with_tabW spec_l6Fields.tab3 spec_l6Fields.bits3 (fun HT_ HW_ => ?_)
          generalize wc.drew = w76 at BK103 BK104 HB hHeld ⊢
          refine zp2_ 0 75 zl2_1 (any_of HT_.out zA2_2) ?_
          refine zt2_28_ 1 76 zl2_2 (take_ofW HT_.out HW_.out zA2_2) hHeld ?_
          refine zp2_ 2 77 zl2_3 (any_of HT_.out zA2_2) ?_
          refine zp2_ 3 78 zl2_4 (any_of HT_.out zA2_2) ?_
          refine zp2_ 4 79 zl2_5 (any_of HT_.out zA2_2) ?_
          refine zt2_28_ 5 80 zl2_6 (take_ofW HT_.out HW_.out zA2_2) hHeld ?_
          refine zp2_ 6 81 zl2_7 (any_of HT_.out zA2_2) ?_
          refine zp2_ 7 82 zl2_8 (any_of HT_.out zA2_2) ?_
          refine zp2_ 8 83 zl2_9 (any_of HT_.out zA2_2) ?_
          refine zp2_ 9 84 zl2_10 (any_of HT_.out zA2_2) ?_
          refine zt2_28_ 10 85 zl2_11 (take_ofW HT_.out HW_.out zA2_2) hHeld ?_
          refine zp2_ 11 86 zl2_12 (any_of HT_.out zA2_2) ?_
          refine zp2_ 12 87 zl2_13 (any_of HT_.out zA2_2) ?_
          refine zp2_ 13 88 zl2_14 (any_of HT_.out zA2_2) ?_
          refine zp2_ 14 89 zl2_15 (any_of HT_.out zA2_2) ?_
          refine zt2_28_ 15 90 zl2_16 (take_ofW HT_.out HW_.out zA2_2) hHeld ?_
          refine zt2_28_ 16 91 zl2_17 (take_ofW HT_.out HW_.out zA2_2) hHeld ?_
          refine one_ (i := 17) (N := some 92) zl2_18 rfl rfl (one_of HT_.out zA2_2) (by decide) (fun K hK => ?_)
          refine goes_ Try.func50 zA2_2 rfl #[.agg #[.int .i64 a0_0, .int .i64 a0_1, .int .i64 a0_2]] (by rfl) rfl rfl zA2_4 ?_
          with_reducible refine (spec_l2House.calls a0_0 a0_1 a0_2 t105 _ A64.out).mono ?_
          rintro e w77 ⟨rfl, hb⟩
          refine ⟨_, rfl, ?_⟩
          have n0_ := Aside0.mk (blk_below zA2_1 hb)
          have n1_ := Aside0.mk (blk_below zA2_3 hb)
          have n2_ := Aside0.mk (below_step zA2_0 hb)
          clear BK103
          clear BK104
          clear HB
          have BK103 := n0_
          have BK104 := n1_
          have HB := n2_
          clear n0_ n1_ n2_
          (try clear hb)
          (try clear hb2)
          (try clear hk)
          (try clear hi)
          refine hK.out _ _ ⟨(blk_cell BK104.out 0).trans rfl, (blk_cell BK104.out 1).trans rfl, (blk_cell BK104.out 2).trans rfl, (blk_cell BK104.out 3).trans rfl, (blk_cell BK104.out 4).trans rfl, (blk_cell BK104.out 5).trans rfl, (blk_cell BK104.out 6).trans rfl, (blk_cell BK104.out 7).trans rfl, (blk_cell BK104.out 8).trans rfl, (blk_cell BK104.out 9).trans rfl, (blk_cell BK104.out 10).trans rfl, (blk_cell BK104.out 11).trans rfl, (blk_cell BK104.out 12).trans rfl, (blk_cell BK104.out 13).trans rfl, (blk_cell BK104.out 14).trans rfl, (blk_cell BK104.out 15).trans rfl, (blk_cell BK104.out 16).trans rfl, (blk_cell BK104.out 17).trans rfl, (blk_cell BK104.out 18).trans rfl, (blk_cell BK104.out 19).trans rfl, (blk_cell BK104.out 20).trans rfl, (blk_cell BK104.out 21).trans rfl, (blk_cell BK104.out 22).trans rfl, (blk_cell BK104.out 23).trans rfl, (blk_cell BK104.out 24).trans rfl, (blk_cell BK104.out 25).trans rfl, (blk_cell BK103.out 0).trans rfl, (blk_cell BK103.out 1).trans rfl, (blk_cell BK103.out 2).trans rfl⟩ (fun hHeld => ?_)
          clear hK K
          refine norm_ (a' := ?_) ?_ ?_
          rotate_left
          ·show Act.put _ (some 92) _ = _
           simp only [Act.put, List.setIfInBounds_toArray, List.set_cons_zero, List.set_cons_succ, i64_w, i32_w]
           rfl
          refine zp2_ 18 93 zl2_19 (any_of HT_.out zA2_2) ?_
          refine zp2_ 19 94 zl2_20 (any_of HT_.out zA2_2) ?_
          refine zp2_ 20 95 zl2_21 (any_of HT_.out zA2_2) ?_
          refine zp2_ 21 96 zl2_22 (any_of HT_.out zA2_2) ?_
          refine zt2_28_ 22 97 zl2_23 (take_ofW HT_.out HW_.out zA2_2) hHeld ?_
          refine zp2_ 23 98 zl2_24 (any_of HT_.out zA2_2) ?_
          refine zt2_28_ 24 99 zl2_25 (take_ofW HT_.out HW_.out zA2_2) hHeld ?_
          refine one_ (i := 25) (N := some 100) zl2_26 rfl rfl (one_of HT_.out zA2_2) (by decide) (fun K hK => ?_)
          refine goes_ Try.func50 zA2_2 rfl #[.agg #[.int .i64 a0_0, .int .i64 a0_1, .int .i64 a0_2]] (by rfl) rfl rfl zA2_4 ?_
          with_reducible refine (spec_l2House.calls a0_0 a0_1 a0_2 t106 _ A66.out).mono ?_
          rintro e w78 ⟨rfl, hb⟩
          refine ⟨_, rfl, ?_⟩
          have n0_ := Aside0.mk (blk_below zA2_1 hb)
          have n1_ := Aside0.mk (blk_below zA2_3 hb)
          have n2_ := Aside0.mk (below_step zA2_0 hb)
          clear BK103
          clear BK104
          clear HB
          have BK103 := n0_
          have BK104 := n1_
          have HB := n2_
          clear n0_ n1_ n2_
          (try clear hb)
          (try clear hb2)
          (try clear hk)
          (try clear hi)
          refine hK.out _ _ ⟨(blk_cell BK104.out 0).trans rfl, (blk_cell BK104.out 1).trans rfl, (blk_cell BK104.out 2).trans rfl, (blk_cell BK104.out 3).trans rfl, (blk_cell BK104.out 4).trans rfl, (blk_cell BK104.out 5).trans rfl, (blk_cell BK104.out 6).trans rfl, (blk_cell BK104.out 7).trans rfl, (blk_cell BK104.out 8).trans rfl, (blk_cell BK104.out 9).trans rfl, (blk_cell BK104.out 10).trans rfl, (blk_cell BK104.out 11).trans rfl, (blk_cell BK104.out 12).trans rfl, (blk_cell BK104.out 13).trans rfl, (blk_cell BK104.out 14).trans rfl, (blk_cell BK104.out 15).trans rfl, (blk_cell BK104.out 16).trans rfl, (blk_cell BK104.out 17).trans rfl, (blk_cell BK104.out 18).trans rfl, (blk_cell BK104.out 19).trans rfl, (blk_cell BK104.out 20).trans rfl, (blk_cell BK104.out 21).trans rfl, (blk_cell BK104.out 22).trans rfl, (blk_cell BK104.out 23).trans rfl, (blk_cell BK104.out 24).trans rfl, (blk_cell BK104.out 25).trans rfl, (blk_cell BK103.out 0).trans rfl, (blk_cell BK103.out 1).trans rfl, (blk_cell BK103.out 2).trans rfl⟩ (fun hHeld => ?_)
          clear hK K
          refine norm_ (a' := ?_) ?_ ?_
          rotate_left
          ·show Act.put _ (some 100) _ = _
           simp only [Act.put, List.setIfInBounds_toArray, List.set_cons_zero, List.set_cons_succ, i64_w, i32_w]
           rfl
          refine zp2_ 26 101 zl2_27 (any_of HT_.out zA2_2) ?_
          refine zp2_ 27 102 zl2_28 (any_of HT_.out zA2_2) ?_
          refine zp2_ 28 103 zl2_29 (any_of HT_.out zA2_2) ?_
          refine zp2_ 29 104 zl2_30 (any_of HT_.out zA2_2) ?_
          refine zt2_28_ 30 105 zl2_31 (take_ofW HT_.out HW_.out zA2_2) hHeld ?_
          refine zp2_ 31 106 zl2_32 (any_of HT_.out zA2_2) ?_
          refine zp2_ 32 107 zl2_33 (any_of HT_.out zA2_2) ?_
          refine zp2_ 33 108 zl2_34 (any_of HT_.out zA2_2) ?_
          refine zp2_ 34 109 zl2_35 (any_of HT_.out zA2_2) ?_
          refine zu2_ 35 110 zl2_36 (any_of HT_.out zA2_2) ?_
          refine zu2_ 36 111 zl2_37 (any_of HT_.out zA2_2) ?_
          refine zu2_ 37 112 zl2_38 (any_of HT_.out zA2_2) ?_
          refine zp2_ 38 113 zl2_39 (any_of HT_.out zA2_2) ?_
          refine zp2_ 39 114 zl2_40 (any_of HT_.out zA2_2) ?_
          refine zu2_ 40 115 zl2_41 (any_of HT_.out zA2_2) ?_
          refine zu2_ 41 116 zl2_42 (any_of HT_.out zA2_2) ?_
          refine zu2_ 42 117 zl2_43 (any_of HT_.out zA2_2) ?_
          refine zp2_ 43 118 zl2_44 (any_of HT_.out zA2_2) ?_
          refine zp2_ 44 4 zl2_45 (any_of HT_.out zA2_2) ?_
          refine done_ (done_of HT_.out zA2_2) ?_
          try go_wp2
          go_ret
          exact ⟨zA2_5, zA2_0⟩
        ·rw [if_neg c67] at H
         have c67b0 : decide ((l1_21.length : Int) ≤ t106) = false := decide_eq_false c67
         clear c67
         obtain rfl := Option.some.inj H
         try go_wp2
         have n0_ := Aside0.mk (blk_drew BK103.out)
         have n1_ := Aside0.mk (blk_drew BK104.out)
         have n2_ := Aside0.mk (below_drew1 HB.out)
         clear BK103
         clear BK104
         clear HB
         have BK103 := n0_
         have BK104 := n1_
         have HB := n2_
         clear n0_ n1_ n2_
         refine start_ (n := 45) (S := zS2_0 gb104 a1_0 a1_1 a1_2 a1_3 a1_4 a1_5 a1_6 a1_7 a1_8 a1_9 a1_10 a1_11 a1_12 a1_13 a1_14 a1_15 a1_16 a1_17 a1_18 a1_19 a1_20 A1_21 l1_21 c1_21 A1_22 l1_22 c1_22 a1_23 a1_24 a1_25 gb103 a0_0 a0_1 a0_2) (ds := []) zl2_0 zA2_2 rfl rfl ⟨(blk_cell BK104.out 0).trans rfl, (blk_cell BK104.out 1).trans rfl, (blk_cell BK104.out 2).trans rfl, (blk_cell BK104.out 3).trans rfl, (blk_cell BK104.out 4).trans rfl, (blk_cell BK104.out 5).trans rfl, (blk_cell BK104.out 6).trans rfl, (blk_cell BK104.out 7).trans rfl, (blk_cell BK104.out 8).trans rfl, (blk_cell BK104.out 9).trans rfl, (blk_cell BK104.out 10).trans rfl, (blk_cell BK104.out 11).trans rfl, (blk_cell BK104.out 12).trans rfl, (blk_cell BK104.out 13).trans rfl, (blk_cell BK104.out 14).trans rfl, (blk_cell BK104.out 15).trans rfl, (blk_cell BK104.out 16).trans rfl, (blk_cell BK104.out 17).trans rfl, (blk_cell BK104.out 18).trans rfl, (blk_cell BK104.out 19).trans rfl, (blk_cell BK104.out 20).trans rfl, (blk_cell BK104.out 21).trans rfl, (blk_cell BK104.out 22).trans rfl, (blk_cell BK104.out 23).trans rfl, (blk_cell BK104.out 24).trans rfl, (blk_cell BK104.out 25).trans rfl, (blk_cell BK103.out 0).trans rfl, (blk_cell BK103.out 1).trans rfl, (blk_cell BK103.out 2).trans rfl⟩ (fun hHeld => ?_); refine with_tabW spec_l6Fields.tab3 spec_l6Fields.bits3 (fun HT_ HW_ => ?_)
         generalize wc.drew = w79 at BK103 BK104 HB hHeld ⊢
         refine zp2_ 0 75 zl2_1 (any_of HT_.out zA2_2) ?_
         refine zt2_28_ 1 76 zl2_2 (take_ofW HT_.out HW_.out zA2_2) hHeld ?_
         refine zp2_ 2 77 zl2_3 (any_of HT_.out zA2_2) ?_
         refine zp2_ 3 78 zl2_4 (any_of HT_.out zA2_2) ?_
         refine zp2_ 4 79 zl2_5 (any_of HT_.out zA2_2) ?_
         refine zt2_28_ 5 80 zl2_6 (take_ofW HT_.out HW_.out zA2_2) hHeld ?_
         refine zp2_ 6 81 zl2_7 (any_of HT_.out zA2_2) ?_
         refine zp2_ 7 82 zl2_8 (any_of HT_.out zA2_2) ?_
         refine zp2_ 8 83 zl2_9 (any_of HT_.out zA2_2) ?_
         refine zp2_ 9 84 zl2_10 (any_of HT_.out zA2_2) ?_
         refine zt2_28_ 10 85 zl2_11 (take_ofW HT_.out HW_.out zA2_2) hHeld ?_
         refine zp2_ 11 86 zl2_12 (any_of HT_.out zA2_2) ?_
         refine zp2_ 12 87 zl2_13 (any_of HT_.out zA2_2) ?_
         refine zp2_ 13 88 zl2_14 (any_of HT_.out zA2_2) ?_
         refine zp2_ 14 89 zl2_15 (any_of HT_.out zA2_2) ?_
         refine zt2_28_ 15 90 zl2_16 (take_ofW HT_.out HW_.out zA2_2) hHeld ?_
         refine zt2_28_ 16 91 zl2_17 (take_ofW HT_.out HW_.out zA2_2) hHeld ?_
         refine one_ (i := 17) (N := some 92) zl2_18 rfl rfl (one_of HT_.out zA2_2) (by decide) (fun K hK => ?_)
         refine goes_ Try.func50 zA2_2 rfl #[.agg #[.int .i64 a0_0, .int .i64 a0_1, .int .i64 a0_2]] (by rfl) rfl rfl zA2_4 ?_
         with_reducible refine (spec_l2House.calls a0_0 a0_1 a0_2 t105 _ A64.out).mono ?_
         rintro e w80 ⟨rfl, hb⟩
         refine ⟨_, rfl, ?_⟩
         have n0_ := Aside0.mk (blk_below zA2_1 hb)
         have n1_ := Aside0.mk (blk_below zA2_3 hb)
         have n2_ := Aside0.mk (below_step zA2_0 hb)
         clear BK103
         clear BK104
         clear HB
         have BK103 := n0_
         have BK104 := n1_
         have HB := n2_
         clear n0_ n1_ n2_
         (try clear hb)
         (try clear hb2)
         (try clear hk)
         (try clear hi)
         refine hK.out _ _ ⟨(blk_cell BK104.out 0).trans rfl, (blk_cell BK104.out 1).trans rfl, (blk_cell BK104.out 2).trans rfl, (blk_cell BK104.out 3).trans rfl, (blk_cell BK104.out 4).trans rfl, (blk_cell BK104.out 5).trans rfl, (blk_cell BK104.out 6).trans rfl, (blk_cell BK104.out 7).trans rfl, (blk_cell BK104.out 8).trans rfl, (blk_cell BK104.out 9).trans rfl, (blk_cell BK104.out 10).trans rfl, (blk_cell BK104.out 11).trans rfl, (blk_cell BK104.out 12).trans rfl, (blk_cell BK104.out 13).trans rfl, (blk_cell BK104.out 14).trans rfl, (blk_cell BK104.out 15).trans rfl, (blk_cell BK104.out 16).trans rfl, (blk_cell BK104.out 17).trans rfl, (blk_cell BK104.out 18).trans rfl, (blk_cell BK104.out 19).trans rfl, (blk_cell BK104.out 20).trans rfl, (blk_cell BK104.out 21).trans rfl, (blk_cell BK104.out 22).trans rfl, (blk_cell BK104.out 23).trans rfl, (blk_cell BK104.out 24).trans rfl, (blk_cell BK104.out 25).trans rfl, (blk_cell BK103.out 0).trans rfl, (blk_cell BK103.out 1).trans rfl, (blk_cell BK103.out 2).trans rfl⟩ (fun hHeld => ?_)
         clear hK K
         refine norm_ (a' := ?_) ?_ ?_
         rotate_left
         ·show Act.put _ (some 92) _ = _
          simp only [Act.put, List.setIfInBounds_toArray, List.set_cons_zero, List.set_cons_succ, i64_w, i32_w]
          rfl
         refine zp2_ 18 93 zl2_19 (any_of HT_.out zA2_2) ?_
         refine zp2_ 19 94 zl2_20 (any_of HT_.out zA2_2) ?_
         refine zp2_ 20 95 zl2_21 (any_of HT_.out zA2_2) ?_
         refine zp2_ 21 96 zl2_22 (any_of HT_.out zA2_2) ?_
         refine zt2_28_ 22 97 zl2_23 (take_ofW HT_.out HW_.out zA2_2) hHeld ?_
         refine zp2_ 23 98 zl2_24 (any_of HT_.out zA2_2) ?_
         refine zt2_28_ 24 99 zl2_25 (take_ofW HT_.out HW_.out zA2_2) hHeld ?_
         refine one_ (i := 25) (N := some 100) zl2_26 rfl rfl (one_of HT_.out zA2_2) (by decide) (fun K hK => ?_)
         refine goes_ Try.func50 zA2_2 rfl #[.agg #[.int .i64 a0_0, .int .i64 a0_1, .int .i64 a0_2]] (by rfl) rfl rfl zA2_4 ?_
         with_reducible refine (spec_l2House.calls a0_0 a0_1 a0_2 t106 _ A66.out).mono ?_
         rintro e w81 ⟨rfl, hb⟩
         refine ⟨_, rfl, ?_⟩
         have n0_ := Aside0.mk (blk_below zA2_1 hb)
         have n1_ := Aside0.mk (blk_below zA2_3 hb)
         have n2_ := Aside0.mk (below_step zA2_0 hb)
         clear BK103
         clear BK104
         clear HB
         have BK103 := n0_
         have BK104 := n1_
         have HB := n2_
         clear n0_ n1_ n2_
         (try clear hb)
         (try clear hb2)
         (try clear hk)
         (try clear hi)
         refine hK.out _ _ ⟨(blk_cell BK104.out 0).trans rfl, (blk_cell BK104.out 1).trans rfl, (blk_cell BK104.out 2).trans rfl, (blk_cell BK104.out 3).trans rfl, (blk_cell BK104.out 4).trans rfl, (blk_cell BK104.out 5).trans rfl, (blk_cell BK104.out 6).trans rfl, (blk_cell BK104.out 7).trans rfl, (blk_cell BK104.out 8).trans rfl, (blk_cell BK104.out 9).trans rfl, (blk_cell BK104.out 10).trans rfl, (blk_cell BK104.out 11).trans rfl, (blk_cell BK104.out 12).trans rfl, (blk_cell BK104.out 13).trans rfl, (blk_cell BK104.out 14).trans rfl, (blk_cell BK104.out 15).trans rfl, (blk_cell BK104.out 16).trans rfl, (blk_cell BK104.out 17).trans rfl, (blk_cell BK104.out 18).trans rfl, (blk_cell BK104.out 19).trans rfl, (blk_cell BK104.out 20).trans rfl, (blk_cell BK104.out 21).trans rfl, (blk_cell BK104.out 22).trans rfl, (blk_cell BK104.out 23).trans rfl, (blk_cell BK104.out 24).trans rfl, (blk_cell BK104.out 25).trans rfl, (blk_cell BK103.out 0).trans rfl, (blk_cell BK103.out 1).trans rfl, (blk_cell BK103.out 2).trans rfl⟩ (fun hHeld => ?_)
         clear hK K
         refine norm_ (a' := ?_) ?_ ?_
         rotate_left
         ·show Act.put _ (some 100) _ = _
          simp only [Act.put, List.setIfInBounds_toArray, List.set_cons_zero, List.set_cons_succ, i64_w, i32_w]
          rfl
         refine zp2_ 26 101 zl2_27 (any_of HT_.out zA2_2) ?_
         refine zp2_ 27 102 zl2_28 (any_of HT_.out zA2_2) ?_
         refine zp2_ 28 103 zl2_29 (any_of HT_.out zA2_2) ?_
         refine zu2_ 29 104 zl2_30 (any_of HT_.out zA2_2) ?_
         refine zu2_ 30 105 zl2_31 (any_of HT_.out zA2_2) ?_
         refine zu2_ 31 106 zl2_32 (any_of HT_.out zA2_2) ?_
         refine zu2_ 32 107 zl2_33 (any_of HT_.out zA2_2) ?_
         refine zp2_ 33 108 zl2_34 (any_of HT_.out zA2_2) ?_
         refine zp2_ 34 109 zl2_35 (any_of HT_.out zA2_2) ?_
         refine zu2_ 35 110 zl2_36 (any_of HT_.out zA2_2) ?_
         refine zu2_ 36 111 zl2_37 (any_of HT_.out zA2_2) ?_
         refine zu2_ 37 112 zl2_38 (any_of HT_.out zA2_2) ?_
         refine zp2_ 38 113 zl2_39 (any_of HT_.out zA2_2) ?_
         refine zp2_ 39 114 zl2_40 (any_of HT_.out zA2_2) ?_
         refine zu2_ 40 115 zl2_41 (any_of HT_.out zA2_2) ?_
         refine zu2_ 41 116 zl2_42 (any_of HT_.out zA2_2) ?_
         refine zu2_ 42 117 zl2_43 (any_of HT_.out zA2_2) ?_
         refine zp2_ 43 118 zl2_44 (any_of HT_.out zA2_2) ?_
         refine zp2_ 44 4 zl2_45 (any_of HT_.out zA2_2) ?_
         refine done_ (done_of HT_.out zA2_2) ?_
         try go_wp2
         go_ret
         exact ⟨zA2_5, zA2_0⟩
       ·rw [if_neg c65] at H
        have c65b0 : decide (a1_9 ≤ t105) = false := decide_eq_false c65
        clear c65
        obtain rfl := Option.some.inj H
        try go_wp2
        have n0_ := Aside0.mk (blk_drew BK103.out)
        have n1_ := Aside0.mk (blk_drew BK104.out)
        have n2_ := Aside0.mk (below_drew1 HB.out)
        clear BK103
        clear BK104
        clear HB
        have BK103 := n0_
        have BK104 := n1_
        have HB := n2_
        clear n0_ n1_ n2_
        refine start_ (n := 45) (S := zS2_0 gb104 a1_0 a1_1 a1_2 a1_3 a1_4 a1_5 a1_6 a1_7 a1_8 a1_9 a1_10 a1_11 a1_12 a1_13 a1_14 a1_15 a1_16 a1_17 a1_18 a1_19 a1_20 A1_21 l1_21 c1_21 A1_22 l1_22 c1_22 a1_23 a1_24 a1_25 gb103 a0_0 a0_1 a0_2) (ds := []) zl2_0 zA2_2 rfl rfl ⟨(blk_cell BK104.out 0).trans rfl, (blk_cell BK104.out 1).trans rfl, (blk_cell BK104.out 2).trans rfl, (blk_cell BK104.out 3).trans rfl, (blk_cell BK104.out 4).trans rfl, (blk_cell BK104.out 5).trans rfl, (blk_cell BK104.out 6).trans rfl, (blk_cell BK104.out 7).trans rfl, (blk_cell BK104.out 8).trans rfl, (blk_cell BK104.out 9).trans rfl, (blk_cell BK104.out 10).trans rfl, (blk_cell BK104.out 11).trans rfl, (blk_cell BK104.out 12).trans rfl, (blk_cell BK104.out 13).trans rfl, (blk_cell BK104.out 14).trans rfl, (blk_cell BK104.out 15).trans rfl, (blk_cell BK104.out 16).trans rfl, (blk_cell BK104.out 17).trans rfl, (blk_cell BK104.out 18).trans rfl, (blk_cell BK104.out 19).trans rfl, (blk_cell BK104.out 20).trans rfl, (blk_cell BK104.out 21).trans rfl, (blk_cell BK104.out 22).trans rfl, (blk_cell BK104.out 23).trans rfl, (blk_cell BK104.out 24).trans rfl, (blk_cell BK104.out 25).trans rfl, (blk_cell BK103.out 0).trans rfl, (blk_cell BK103.out 1).trans rfl, (blk_cell BK103.out 2).trans rfl⟩ (fun hHeld => ?_); refine with_tabW spec_l6Fields.tab3 spec_l6Fields.bits3 (fun HT_ HW_ => ?_)
        generalize wc.drew = w82 at BK103 BK104 HB hHeld ⊢
        refine zp2_ 0 75 zl2_1 (any_of HT_.out zA2_2) ?_
        refine zt2_28_ 1 76 zl2_2 (take_ofW HT_.out HW_.out zA2_2) hHeld ?_
        refine zp2_ 2 77 zl2_3 (any_of HT_.out zA2_2) ?_
        refine zp2_ 3 78 zl2_4 (any_of HT_.out zA2_2) ?_
        refine zp2_ 4 79 zl2_5 (any_of HT_.out zA2_2) ?_
        refine zt2_28_ 5 80 zl2_6 (take_ofW HT_.out HW_.out zA2_2) hHeld ?_
        refine zp2_ 6 81 zl2_7 (any_of HT_.out zA2_2) ?_
        refine zp2_ 7 82 zl2_8 (any_of HT_.out zA2_2) ?_
        refine zp2_ 8 83 zl2_9 (any_of HT_.out zA2_2) ?_
        refine zp2_ 9 84 zl2_10 (any_of HT_.out zA2_2) ?_
        refine zt2_28_ 10 85 zl2_11 (take_ofW HT_.out HW_.out zA2_2) hHeld ?_
        refine zp2_ 11 86 zl2_12 (any_of HT_.out zA2_2) ?_
        refine zp2_ 12 87 zl2_13 (any_of HT_.out zA2_2) ?_
        refine zp2_ 13 88 zl2_14 (any_of HT_.out zA2_2) ?_
        refine zp2_ 14 89 zl2_15 (any_of HT_.out zA2_2) ?_
        refine zt2_28_ 15 90 zl2_16 (take_ofW HT_.out HW_.out zA2_2) hHeld ?_
        refine zt2_28_ 16 91 zl2_17 (take_ofW HT_.out HW_.out zA2_2) hHeld ?_
        refine one_ (i := 17) (N := some 92) zl2_18 rfl rfl (one_of HT_.out zA2_2) (by decide) (fun K hK => ?_)
        refine goes_ Try.func50 zA2_2 rfl #[.agg #[.int .i64 a0_0, .int .i64 a0_1, .int .i64 a0_2]] (by rfl) rfl rfl zA2_4 ?_
        with_reducible refine (spec_l2House.calls a0_0 a0_1 a0_2 t105 _ A64.out).mono ?_
        rintro e w83 ⟨rfl, hb⟩
        refine ⟨_, rfl, ?_⟩
        have n0_ := Aside0.mk (blk_below zA2_1 hb)
        have n1_ := Aside0.mk (blk_below zA2_3 hb)
        have n2_ := Aside0.mk (below_step zA2_0 hb)
        clear BK103
        clear BK104
        clear HB
        have BK103 := n0_
        have BK104 := n1_
        have HB := n2_
        clear n0_ n1_ n2_
        (try clear hb)
        (try clear hb2)
        (try clear hk)
        (try clear hi)
        refine hK.out _ _ ⟨(blk_cell BK104.out 0).trans rfl, (blk_cell BK104.out 1).trans rfl, (blk_cell BK104.out 2).trans rfl, (blk_cell BK104.out 3).trans rfl, (blk_cell BK104.out 4).trans rfl, (blk_cell BK104.out 5).trans rfl, (blk_cell BK104.out 6).trans rfl, (blk_cell BK104.out 7).trans rfl, (blk_cell BK104.out 8).trans rfl, (blk_cell BK104.out 9).trans rfl, (blk_cell BK104.out 10).trans rfl, (blk_cell BK104.out 11).trans rfl, (blk_cell BK104.out 12).trans rfl, (blk_cell BK104.out 13).trans rfl, (blk_cell BK104.out 14).trans rfl, (blk_cell BK104.out 15).trans rfl, (blk_cell BK104.out 16).trans rfl, (blk_cell BK104.out 17).trans rfl, (blk_cell BK104.out 18).trans rfl, (blk_cell BK104.out 19).trans rfl, (blk_cell BK104.out 20).trans rfl, (blk_cell BK104.out 21).trans rfl, (blk_cell BK104.out 22).trans rfl, (blk_cell BK104.out 23).trans rfl, (blk_cell BK104.out 24).trans rfl, (blk_cell BK104.out 25).trans rfl, (blk_cell BK103.out 0).trans rfl, (blk_cell BK103.out 1).trans rfl, (blk_cell BK103.out 2).trans rfl⟩ (fun hHeld => ?_)
        clear hK K
        refine norm_ (a' := ?_) ?_ ?_
        rotate_left
        ·show Act.put _ (some 92) _ = _
         simp only [Act.put, List.setIfInBounds_toArray, List.set_cons_zero, List.set_cons_succ, i64_w, i32_w]
         rfl
        refine zp2_ 18 93 zl2_19 (any_of HT_.out zA2_2) ?_
        refine zp2_ 19 94 zl2_20 (any_of HT_.out zA2_2) ?_
        refine zp2_ 20 95 zl2_21 (any_of HT_.out zA2_2) ?_
        refine zu2_ 21 96 zl2_22 (any_of HT_.out zA2_2) ?_
        refine zu2_ 22 97 zl2_23 (any_of HT_.out zA2_2) ?_
        refine zu2_ 23 98 zl2_24 (any_of HT_.out zA2_2) ?_
        refine zu2_ 24 99 zl2_25 (any_of HT_.out zA2_2) ?_
        refine zu2_ 25 100 zl2_26 (any_of HT_.out zA2_2) ?_
        refine zu2_ 26 101 zl2_27 (any_of HT_.out zA2_2) ?_
        refine zp2_ 27 102 zl2_28 (any_of HT_.out zA2_2) ?_
        refine zp2_ 28 103 zl2_29 (any_of HT_.out zA2_2) ?_
        refine zu2_ 29 104 zl2_30 (any_of HT_.out zA2_2) ?_
        refine zu2_ 30 105 zl2_31 (any_of HT_.out zA2_2) ?_
        refine zu2_ 31 106 zl2_32 (any_of HT_.out zA2_2) ?_
        refine zu2_ 32 107 zl2_33 (any_of HT_.out zA2_2) ?_
        refine zp2_ 33 108 zl2_34 (any_of HT_.out zA2_2) ?_
        refine zp2_ 34 109 zl2_35 (any_of HT_.out zA2_2) ?_
        refine zu2_ 35 110 zl2_36 (any_of HT_.out zA2_2) ?_
        refine zu2_ 36 111 zl2_37 (any_of HT_.out zA2_2) ?_
        refine zu2_ 37 112 zl2_38 (any_of HT_.out zA2_2) ?_
        refine zp2_ 38 113 zl2_39 (any_of HT_.out zA2_2) ?_
        refine zp2_ 39 114 zl2_40 (any_of HT_.out zA2_2) ?_
        refine zu2_ 40 115 zl2_41 (any_of HT_.out zA2_2) ?_
        refine zu2_ 41 116 zl2_42 (any_of HT_.out zA2_2) ?_
        refine zu2_ 42 117 zl2_43 (any_of HT_.out zA2_2) ?_
        refine zp2_ 43 118 zl2_44 (any_of HT_.out zA2_2) ?_
        refine zp2_ 44 4 zl2_45 (any_of HT_.out zA2_2) ?_
        refine done_ (done_of HT_.out zA2_2) ?_
        try go_wp2
        go_ret
        exact ⟨zA2_5, zA2_0⟩
      ·rw [if_neg c63] at H
       have c63b0 : decide (0 ≤ a1_9) = false := decide_eq_false c63
       clear c63
       obtain rfl := Option.some.inj H
       try go_wp2
       have n0_ := Aside0.mk (blk_drew BK103.out)
       have n1_ := Aside0.mk (blk_drew BK104.out)
       have n2_ := Aside0.mk (below_drew1 HB.out)
       clear BK103
       clear BK104
       clear HB
       have BK103 := n0_
       have BK104 := n1_
       have HB := n2_
       clear n0_ n1_ n2_
       refine start_ (n := 45) (S := zS2_1 gb104 a1_0 a1_1 a1_2 a1_3 a1_4 a1_5 a1_6 a1_7 a1_8 a1_9 a1_10 a1_11 a1_12 a1_13 a1_14 a1_15 a1_16 a1_17 a1_18 a1_19 a1_20 A1_21 l1_21 c1_21 A1_22 l1_22 c1_22 a1_23 a1_24 a1_25) (ds := []) zl2_0 zA2_2 rfl rfl ⟨(blk_cell BK104.out 0).trans rfl, (blk_cell BK104.out 1).trans rfl, (blk_cell BK104.out 2).trans rfl, (blk_cell BK104.out 3).trans rfl, (blk_cell BK104.out 4).trans rfl, (blk_cell BK104.out 5).trans rfl, (blk_cell BK104.out 6).trans rfl, (blk_cell BK104.out 7).trans rfl, (blk_cell BK104.out 8).trans rfl, (blk_cell BK104.out 9).trans rfl, (blk_cell BK104.out 10).trans rfl, (blk_cell BK104.out 11).trans rfl, (blk_cell BK104.out 12).trans rfl, (blk_cell BK104.out 13).trans rfl, (blk_cell BK104.out 14).trans rfl, (blk_cell BK104.out 15).trans rfl, (blk_cell BK104.out 16).trans rfl, (blk_cell BK104.out 17).trans rfl, (blk_cell BK104.out 18).trans rfl, (blk_cell BK104.out 19).trans rfl, (blk_cell BK104.out 20).trans rfl, (blk_cell BK104.out 21).trans rfl, (blk_cell BK104.out 22).trans rfl, (blk_cell BK104.out 23).trans rfl, (blk_cell BK104.out 24).trans rfl, (blk_cell BK104.out 25).trans rfl⟩ (fun hHeld => ?_); refine with_tabW spec_l6Fields.tab3 spec_l6Fields.bits3 (fun HT_ HW_ => ?_)
       generalize wc.drew = w84 at BK103 BK104 HB hHeld ⊢
       refine zp2_ 0 75 zl2_1 (any_of HT_.out zA2_2) ?_
       refine zt2_25_ 1 76 zl2_2 (take_ofW HT_.out HW_.out zA2_2) hHeld ?_
       refine zp2_ 2 77 zl2_3 (any_of HT_.out zA2_2) ?_
       refine zp2_ 3 78 zl2_4 (any_of HT_.out zA2_2) ?_
       refine zp2_ 4 79 zl2_5 (any_of HT_.out zA2_2) ?_
       refine zt2_25_ 5 80 zl2_6 (take_ofW HT_.out HW_.out zA2_2) hHeld ?_
       refine zp2_ 6 81 zl2_7 (any_of HT_.out zA2_2) ?_
       refine zp2_ 7 82 zl2_8 (any_of HT_.out zA2_2) ?_
       refine zp2_ 8 83 zl2_9 (any_of HT_.out zA2_2) ?_
       refine zp2_ 9 84 zl2_10 (any_of HT_.out zA2_2) ?_
       refine zt2_25_ 10 85 zl2_11 (take_ofW HT_.out HW_.out zA2_2) hHeld ?_
       refine zp2_ 11 86 zl2_12 (any_of HT_.out zA2_2) ?_
       refine zp2_ 12 87 zl2_13 (any_of HT_.out zA2_2) ?_
       refine zp2_ 13 88 zl2_14 (any_of HT_.out zA2_2) ?_
       refine zu2_ 14 89 zl2_15 (any_of HT_.out zA2_2) ?_
       refine zu2_ 15 90 zl2_16 (any_of HT_.out zA2_2) ?_
       refine zu2_ 16 91 zl2_17 (any_of HT_.out zA2_2) ?_
       refine zu2_ 17 92 zl2_18 (any_of HT_.out zA2_2) ?_
       refine zu2_ 18 93 zl2_19 (any_of HT_.out zA2_2) ?_
       refine zp2_ 19 94 zl2_20 (any_of HT_.out zA2_2) ?_
       refine zp2_ 20 95 zl2_21 (any_of HT_.out zA2_2) ?_
       refine zu2_ 21 96 zl2_22 (any_of HT_.out zA2_2) ?_
       refine zu2_ 22 97 zl2_23 (any_of HT_.out zA2_2) ?_
       refine zu2_ 23 98 zl2_24 (any_of HT_.out zA2_2) ?_
       refine zu2_ 24 99 zl2_25 (any_of HT_.out zA2_2) ?_
       refine zu2_ 25 100 zl2_26 (any_of HT_.out zA2_2) ?_
       refine zu2_ 26 101 zl2_27 (any_of HT_.out zA2_2) ?_
       refine zp2_ 27 102 zl2_28 (any_of HT_.out zA2_2) ?_
       refine zp2_ 28 103 zl2_29 (any_of HT_.out zA2_2) ?_
       refine zu2_ 29 104 zl2_30 (any_of HT_.out zA2_2) ?_
       refine zu2_ 30 105 zl2_31 (any_of HT_.out zA2_2) ?_
       refine zu2_ 31 106 zl2_32 (any_of HT_.out zA2_2) ?_
       refine zu2_ 32 107 zl2_33 (any_of HT_.out zA2_2) ?_
       refine zp2_ 33 108 zl2_34 (any_of HT_.out zA2_2) ?_
       refine zp2_ 34 109 zl2_35 (any_of HT_.out zA2_2) ?_
       refine zu2_ 35 110 zl2_36 (any_of HT_.out zA2_2) ?_
       refine zu2_ 36 111 zl2_37 (any_of HT_.out zA2_2) ?_
       refine zu2_ 37 112 zl2_38 (any_of HT_.out zA2_2) ?_
       refine zp2_ 38 113 zl2_39 (any_of HT_.out zA2_2) ?_
       refine zp2_ 39 114 zl2_40 (any_of HT_.out zA2_2) ?_
       refine zu2_ 40 115 zl2_41 (any_of HT_.out zA2_2) ?_
       refine zu2_ 41 116 zl2_42 (any_of HT_.out zA2_2) ?_
       refine zu2_ 42 117 zl2_43 (any_of HT_.out zA2_2) ?_
       refine zp2_ 43 118 zl2_44 (any_of HT_.out zA2_2) ?_
       refine zp2_ 44 4 zl2_45 (any_of HT_.out zA2_2) ?_
       refine done_ (done_of HT_.out zA2_2) ?_
       try go_wp2
       go_ret
       exact ⟨zA2_5, zA2_0⟩
     ·rw [if_neg c62] at H
      have c62b0 : decide (a1_10 ≤ 20) = false := decide_eq_false c62
      clear c62
      obtain rfl := Option.some.inj H
      try go_wp2
      have n0_ := Aside0.mk (blk_drew BK103.out)
      have n1_ := Aside0.mk (blk_drew BK104.out)
      have n2_ := Aside0.mk (below_drew1 HB.out)
      clear BK103
      clear BK104
      clear HB
      have BK103 := n0_
      have BK104 := n1_
      have HB := n2_
      clear n0_ n1_ n2_
      refine start_ (n := 45) (S := zS2_1 gb104 a1_0 a1_1 a1_2 a1_3 a1_4 a1_5 a1_6 a1_7 a1_8 a1_9 a1_10 a1_11 a1_12 a1_13 a1_14 a1_15 a1_16 a1_17 a1_18 a1_19 a1_20 A1_21 l1_21 c1_21 A1_22 l1_22 c1_22 a1_23 a1_24 a1_25) (ds := []) zl2_0 zA2_2 rfl rfl ⟨(blk_cell BK104.out 0).trans rfl, (blk_cell BK104.out 1).trans rfl, (blk_cell BK104.out 2).trans rfl, (blk_cell BK104.out 3).trans rfl, (blk_cell BK104.out 4).trans rfl, (blk_cell BK104.out 5).trans rfl, (blk_cell BK104.out 6).trans rfl, (blk_cell BK104.out 7).trans rfl, (blk_cell BK104.out 8).trans rfl, (blk_cell BK104.out 9).trans rfl, (blk_cell BK104.out 10).trans rfl, (blk_cell BK104.out 11).trans rfl, (blk_cell BK104.out 12).trans rfl, (blk_cell BK104.out 13).trans rfl, (blk_cell BK104.out 14).trans rfl, (blk_cell BK104.out 15).trans rfl, (blk_cell BK104.out 16).trans rfl, (blk_cell BK104.out 17).trans rfl, (blk_cell BK104.out 18).trans rfl, (blk_cell BK104.out 19).trans rfl, (blk_cell BK104.out 20).trans rfl, (blk_cell BK104.out 21).trans rfl, (blk_cell BK104.out 22).trans rfl, (blk_cell BK104.out 23).trans rfl, (blk_cell BK104.out 24).trans rfl, (blk_cell BK104.out 25).trans rfl⟩ (fun hHeld => ?_); refine with_tabW spec_l6Fields.tab3 spec_l6Fields.bits3 (fun HT_ HW_ => ?_)
      generalize wc.drew = w85 at BK103 BK104 HB hHeld ⊢
      refine zp2_ 0 75 zl2_1 (any_of HT_.out zA2_2) ?_
      refine zt2_25_ 1 76 zl2_2 (take_ofW HT_.out HW_.out zA2_2) hHeld ?_
      refine zp2_ 2 77 zl2_3 (any_of HT_.out zA2_2) ?_
      refine zp2_ 3 78 zl2_4 (any_of HT_.out zA2_2) ?_
      refine zp2_ 4 79 zl2_5 (any_of HT_.out zA2_2) ?_
      refine zt2_25_ 5 80 zl2_6 (take_ofW HT_.out HW_.out zA2_2) hHeld ?_
      refine zp2_ 6 81 zl2_7 (any_of HT_.out zA2_2) ?_
      refine zp2_ 7 82 zl2_8 (any_of HT_.out zA2_2) ?_
      refine zp2_ 8 83 zl2_9 (any_of HT_.out zA2_2) ?_
      refine zu2_ 9 84 zl2_10 (any_of HT_.out zA2_2) ?_
      refine zu2_ 10 85 zl2_11 (any_of HT_.out zA2_2) ?_
      refine zu2_ 11 86 zl2_12 (any_of HT_.out zA2_2) ?_
      refine zp2_ 12 87 zl2_13 (any_of HT_.out zA2_2) ?_
      refine zp2_ 13 88 zl2_14 (any_of HT_.out zA2_2) ?_
      refine zu2_ 14 89 zl2_15 (any_of HT_.out zA2_2) ?_
      refine zu2_ 15 90 zl2_16 (any_of HT_.out zA2_2) ?_
      refine zu2_ 16 91 zl2_17 (any_of HT_.out zA2_2) ?_
      refine zu2_ 17 92 zl2_18 (any_of HT_.out zA2_2) ?_
      refine zu2_ 18 93 zl2_19 (any_of HT_.out zA2_2) ?_
      refine zp2_ 19 94 zl2_20 (any_of HT_.out zA2_2) ?_
      refine zp2_ 20 95 zl2_21 (any_of HT_.out zA2_2) ?_
      refine zu2_ 21 96 zl2_22 (any_of HT_.out zA2_2) ?_
      refine zu2_ 22 97 zl2_23 (any_of HT_.out zA2_2) ?_
      refine zu2_ 23 98 zl2_24 (any_of HT_.out zA2_2) ?_
      refine zu2_ 24 99 zl2_25 (any_of HT_.out zA2_2) ?_
      refine zu2_ 25 100 zl2_26 (any_of HT_.out zA2_2) ?_
      refine zu2_ 26 101 zl2_27 (any_of HT_.out zA2_2) ?_
      refine zp2_ 27 102 zl2_28 (any_of HT_.out zA2_2) ?_
      refine zp2_ 28 103 zl2_29 (any_of HT_.out zA2_2) ?_
      refine zu2_ 29 104 zl2_30 (any_of HT_.out zA2_2) ?_
      refine zu2_ 30 105 zl2_31 (any_of HT_.out zA2_2) ?_
      refine zu2_ 31 106 zl2_32 (any_of HT_.out zA2_2) ?_
      refine zu2_ 32 107 zl2_33 (any_of HT_.out zA2_2) ?_
      refine zp2_ 33 108 zl2_34 (any_of HT_.out zA2_2) ?_
      refine zp2_ 34 109 zl2_35 (any_of HT_.out zA2_2) ?_
      refine zu2_ 35 110 zl2_36 (any_of HT_.out zA2_2) ?_
      refine zu2_ 36 111 zl2_37 (any_of HT_.out zA2_2) ?_
      refine zu2_ 37 112 zl2_38 (any_of HT_.out zA2_2) ?_
      refine zp2_ 38 113 zl2_39 (any_of HT_.out zA2_2) ?_
      refine zp2_ 39 114 zl2_40 (any_of HT_.out zA2_2) ?_
      refine zu2_ 40 115 zl2_41 (any_of HT_.out zA2_2) ?_
      refine zu2_ 41 116 zl2_42 (any_of HT_.out zA2_2) ?_
      refine zu2_ 42 117 zl2_43 (any_of HT_.out zA2_2) ?_
      refine zp2_ 43 118 zl2_44 (any_of HT_.out zA2_2) ?_
      refine zp2_ 44 4 zl2_45 (any_of HT_.out zA2_2) ?_
      refine done_ (done_of HT_.out zA2_2) ?_
      try go_wp2
      go_ret
      exact ⟨zA2_5, zA2_0⟩
    ·rw [if_neg c61] at H
     have c61b0 : decide (0 ≤ a1_10) = false := decide_eq_false c61
     clear c61
     obtain rfl := Option.some.inj H
     try go_wp2
     have n0_ := Aside0.mk (blk_drew BK103.out)
     have n1_ := Aside0.mk (blk_drew BK104.out)
     have n2_ := Aside0.mk (below_drew1 HB.out)
     clear BK103
     clear BK104
     clear HB
     have BK103 := n0_
     have BK104 := n1_
     have HB := n2_
     clear n0_ n1_ n2_
     refine start_ (n := 45) (S := zS2_1 gb104 a1_0 a1_1 a1_2 a1_3 a1_4 a1_5 a1_6 a1_7 a1_8 a1_9 a1_10 a1_11 a1_12 a1_13 a1_14 a1_15 a1_16 a1_17 a1_18 a1_19 a1_20 A1_21 l1_21 c1_21 A1_22 l1_22 c1_22 a1_23 a1_24 a1_25) (ds := []) zl2_0 zA2_2 rfl rfl ⟨(blk_cell BK104.out 0).trans rfl, (blk_cell BK104.out 1).trans rfl, (blk_cell BK104.out 2).trans rfl, (blk_cell BK104.out 3).trans rfl, (blk_cell BK104.out 4).trans rfl, (blk_cell BK104.out 5).trans rfl, (blk_cell BK104.out 6).trans rfl, (blk_cell BK104.out 7).trans rfl, (blk_cell BK104.out 8).trans rfl, (blk_cell BK104.out 9).trans rfl, (blk_cell BK104.out 10).trans rfl, (blk_cell BK104.out 11).trans rfl, (blk_cell BK104.out 12).trans rfl, (blk_cell BK104.out 13).trans rfl, (blk_cell BK104.out 14).trans rfl, (blk_cell BK104.out 15).trans rfl, (blk_cell BK104.out 16).trans rfl, (blk_cell BK104.out 17).trans rfl, (blk_cell BK104.out 18).trans rfl, (blk_cell BK104.out 19).trans rfl, (blk_cell BK104.out 20).trans rfl, (blk_cell BK104.out 21).trans rfl, (blk_cell BK104.out 22).trans rfl, (blk_cell BK104.out 23).trans rfl, (blk_cell BK104.out 24).trans rfl, (blk_cell BK104.out 25).trans rfl⟩ (fun hHeld => ?_); refine with_tabW spec_l6Fields.tab3 spec_l6Fields.bits3 (fun HT_ HW_ => ?_)
     generalize wc.drew = w86 at BK103 BK104 HB hHeld ⊢
     refine zp2_ 0 75 zl2_1 (any_of HT_.out zA2_2) ?_
     refine zt2_25_ 1 76 zl2_2 (take_ofW HT_.out HW_.out zA2_2) hHeld ?_
     refine zp2_ 2 77 zl2_3 (any_of HT_.out zA2_2) ?_
     refine zp2_ 3 78 zl2_4 (any_of HT_.out zA2_2) ?_
     refine zu2_ 4 79 zl2_5 (any_of HT_.out zA2_2) ?_
     refine zu2_ 5 80 zl2_6 (any_of HT_.out zA2_2) ?_
     refine zu2_ 6 81 zl2_7 (any_of HT_.out zA2_2) ?_
     refine zp2_ 7 82 zl2_8 (any_of HT_.out zA2_2) ?_
     refine zp2_ 8 83 zl2_9 (any_of HT_.out zA2_2) ?_
     refine zu2_ 9 84 zl2_10 (any_of HT_.out zA2_2) ?_
     refine zu2_ 10 85 zl2_11 (any_of HT_.out zA2_2) ?_
     refine zu2_ 11 86 zl2_12 (any_of HT_.out zA2_2) ?_
     refine zp2_ 12 87 zl2_13 (any_of HT_.out zA2_2) ?_
     refine zp2_ 13 88 zl2_14 (any_of HT_.out zA2_2) ?_
     refine zu2_ 14 89 zl2_15 (any_of HT_.out zA2_2) ?_
     refine zu2_ 15 90 zl2_16 (any_of HT_.out zA2_2) ?_
     refine zu2_ 16 91 zl2_17 (any_of HT_.out zA2_2) ?_
     refine zu2_ 17 92 zl2_18 (any_of HT_.out zA2_2) ?_
     refine zu2_ 18 93 zl2_19 (any_of HT_.out zA2_2) ?_
     refine zp2_ 19 94 zl2_20 (any_of HT_.out zA2_2) ?_
     refine zp2_ 20 95 zl2_21 (any_of HT_.out zA2_2) ?_
     refine zu2_ 21 96 zl2_22 (any_of HT_.out zA2_2) ?_
     refine zu2_ 22 97 zl2_23 (any_of HT_.out zA2_2) ?_
     refine zu2_ 23 98 zl2_24 (any_of HT_.out zA2_2) ?_
     refine zu2_ 24 99 zl2_25 (any_of HT_.out zA2_2) ?_
     refine zu2_ 25 100 zl2_26 (any_of HT_.out zA2_2) ?_
     refine zu2_ 26 101 zl2_27 (any_of HT_.out zA2_2) ?_
     refine zp2_ 27 102 zl2_28 (any_of HT_.out zA2_2) ?_
     refine zp2_ 28 103 zl2_29 (any_of HT_.out zA2_2) ?_
     refine zu2_ 29 104 zl2_30 (any_of HT_.out zA2_2) ?_
     refine zu2_ 30 105 zl2_31 (any_of HT_.out zA2_2) ?_
     refine zu2_ 31 106 zl2_32 (any_of HT_.out zA2_2) ?_
     refine zu2_ 32 107 zl2_33 (any_of HT_.out zA2_2) ?_
     refine zp2_ 33 108 zl2_34 (any_of HT_.out zA2_2) ?_
     refine zp2_ 34 109 zl2_35 (any_of HT_.out zA2_2) ?_
     refine zu2_ 35 110 zl2_36 (any_of HT_.out zA2_2) ?_
     refine zu2_ 36 111 zl2_37 (any_of HT_.out zA2_2) ?_
     refine zu2_ 37 112 zl2_38 (any_of HT_.out zA2_2) ?_
     refine zp2_ 38 113 zl2_39 (any_of HT_.out zA2_2) ?_
     refine zp2_ 39 114 zl2_40 (any_of HT_.out zA2_2) ?_
     refine zu2_ 40 115 zl2_41 (any_of HT_.out zA2_2) ?_
     refine zu2_ 41 116 zl2_42 (any_of HT_.out zA2_2) ?_
     refine zu2_ 42 117 zl2_43 (any_of HT_.out zA2_2) ?_
     refine zp2_ 43 118 zl2_44 (any_of HT_.out zA2_2) ?_
     refine zp2_ 44 4 zl2_45 (any_of HT_.out zA2_2) ?_
     refine done_ (done_of HT_.out zA2_2) ?_
     try go_wp2
     go_ret
     exact ⟨zA2_5, zA2_0⟩

end Go.Proofs.Ytfpdccaomhjpjaa.PSGuestOk

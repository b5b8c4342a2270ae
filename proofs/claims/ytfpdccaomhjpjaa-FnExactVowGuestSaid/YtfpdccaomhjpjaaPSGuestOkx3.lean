-- own text, written by wip/tools/pp.py
import Derived.Test.YtfpdccaomhjpjaaPSGuestOkx0
import Derived.Test.YtfpdccaomhjpjaaPSGuestOkx1
namespace Go.Proofs.Ytfpdccaomhjpjaa.PSGuestOk
open Go.RowKit Go.Proofs.YtfpdccaomhjpjaaW.PrintWords Go.Proofs.YtfpdccaomhjpjaaW.PrintLast Go.Proofs.YtfpdccaomhjpjaaW.PrintMore
attribute [local go_sem] max2_int min2_int max_two min_two max_three min_three max_four min_four   -- for this text's walks alone
set_option linter.unusedVariables false
set_option linter.unusedSimpArgs false
theorem zA3_0 {p : Prop} (h : p := by repeat (first | (with_reducible first | exact HB.out | apply below_alloc | apply pw_below_drewN | apply below_drew1 | refine below_set ?_ GE107.out | refine below_set ?_ GE108.out) | exact HB.out)) : p := h
theorem zA3_1 {p : Prop} (h : p := by (with_reducible repeat (first | refine blk_drewN ?_ _ | refine blk_drew ?_ | refine blk_alloc ?_ _)); exact BK107.out) : p := h
theorem zA3_2 {p : Prop} (h : p := by first | rfl | (simp [errW_none, errW_some] <;> rfl) | (simp [*, errW_none, errW_some] <;> rfl)) : p := h
theorem zA3_3 {p : Prop} (h : p := by (with_reducible repeat (first | refine blk_drewN ?_ _ | refine blk_drew ?_ | refine blk_alloc ?_ _)); exact BK108.out) : p := h
theorem zA3_4 {p : Prop} (h : p := by kernel_rfl) : p := h
theorem zA3_5 {p : Prop} (h : p := by (try simp only [List.map_toArray, List.map_cons, List.map_nil]); first | done | rfl | (simp only [List.length_drop, List.length_take]; rfl)) : p := h
theorem zA3_6 {p : Prop} (h : p := by repeat (first | (with_reducible first | exact HB.out | apply below_alloc | apply pw_below_drewN | apply below_drew1 | refine below_set ?_ GE107.out) | exact HB.out)) : p := h
theorem zA3_7 {p : Prop} (h : p := by repeat (first | (with_reducible first | exact HB.out | apply below_alloc | apply pw_below_drewN | apply below_drew1) | exact HB.out)) : p := h
theorem zA3_8 {p : Prop} (h : p := by first | rfl | (simp; done) | (simp [*]; done)) : p := h
theorem zp3_ {P : Program} {md : Region.Mode} {ops : Array Oper} {Q : Exit → Act → World → Prop} {S : World → Prop} {ds : List Nat} (i : Nat) (N : Tmp) {oi : Oper} {v : Value} {fuel : Nat} {l : Array Bool} {a : Act} {w : World} (l' : Array Bool) (hc : anyB md ops l l' i = true) {a' : Act} (h : wpAnyLast P md ops Q S ds fuel l' a' w) (hi : ops[i]? = some oi := by rfl) (hN : oi.dst = some N := by rfl) (hq : ∀ c a w, Q (.panic c) (a.put oi.dst v) w → Q (.panic c) a w := by exact fun _ _ _ h => h) (hy : Yields P ops oi v a := by exact Or.inl ⟨by rfl, by intro w'; go_simp; with_reducible rfl⟩) (ha : a.put (some N) v = a' := by simp only [Act.put, List.setIfInBounds_toArray, List.set_cons_zero, List.set_cons_succ, i64_w, i32_w]; rfl) : wpAnyLast P md ops Q S ds (fuel + 1) l a w := pure_ l' hi hN hc hq hy ha h
theorem zu3_ {P : Program} {md : Region.Mode} {ops : Array Oper} {Q : Exit → Act → World → Prop} {S : World → Prop} {ds : List Nat} (i : Nat) (N : Tmp) {oi : Oper} {fuel : Nat} {l : Array Bool} {a : Act} {w : World} (l' : Array Bool) (hc : anyB md ops l l' i = true) {a' : Act} (h : wpAnyLast P md ops Q S ds fuel l' a' w) (hi : ops[i]? = some oi := by rfl) (hN : oi.dst = some N := by rfl) (hq : ∀ c a w, Q (.panic c) (a.put oi.dst undef) w → Q (.panic c) a w := by exact fun _ _ _ h => h) (hy : Yields P ops oi undef a := by exact Or.inr ⟨by rfl, rfl⟩) (ha : a.put (some N) undef = a' := by simp only [Act.put, List.setIfInBounds_toArray, List.set_cons_zero, List.set_cons_succ, i64_w, i32_w]; rfl) : wpAnyLast P md ops Q S ds (fuel + 1) l a w := pure_ l' hi hN hc hq hy ha h
theorem zt3_25_ {P : Program} {md : Region.Mode} {ops : Array Oper} {Q : Exit → Act → World → Prop} {S : World → Prop} {ds : List Nat} (i : Nat) (N : Tmp) {oi : Oper} {v : Value} {fuel : Nat} {l : Array Bool} {a : Act} {w : World} (l' : Array Bool) (hc : takeB md ops ds l l' i = true) (hS : S w) {a' : Act} (h : wpAnyLast P md ops Q S ds fuel l' a' w) (hi : ops[i]? = some oi := by rfl) (hN : oi.dst = some N := by rfl) (hq : ∀ c a w, Q (.panic c) (a.put oi.dst v) w → Q (.panic c) a w := by exact fun _ _ _ h => h) (hy : YieldsIf P ops S oi v a := by exact Or.inl ⟨by rfl, by intro w' zz; obtain ⟨_, _, _, _, _, _, _, _, _, _, _, _, _, _, _, _, _, _, _, _, _, _, _, _, _, _⟩ := zz; go_simp; with_reducible rfl⟩) (ha : a.put (some N) v = a' := by simp only [Act.put, List.setIfInBounds_toArray, List.set_cons_zero, List.set_cons_succ, i64_w, i32_w]; rfl) : wpAnyLast P md ops Q S ds (fuel + 1) l a w := take_ l' hi hN hc hq hy hS ha h
theorem zt3_28_ {P : Program} {md : Region.Mode} {ops : Array Oper} {Q : Exit → Act → World → Prop} {S : World → Prop} {ds : List Nat} (i : Nat) (N : Tmp) {oi : Oper} {v : Value} {fuel : Nat} {l : Array Bool} {a : Act} {w : World} (l' : Array Bool) (hc : takeB md ops ds l l' i = true) (hS : S w) {a' : Act} (h : wpAnyLast P md ops Q S ds fuel l' a' w) (hi : ops[i]? = some oi := by rfl) (hN : oi.dst = some N := by rfl) (hq : ∀ c a w, Q (.panic c) (a.put oi.dst v) w → Q (.panic c) a w := by exact fun _ _ _ h => h) (hy : YieldsIf P ops S oi v a := by exact Or.inl ⟨by rfl, by intro w' zz; obtain ⟨_, _, _, _, _, _, _, _, _, _, _, _, _, _, _, _, _, _, _, _, _, _, _, _, _, _, _, _, _⟩ := zz; go_simp; with_reducible rfl⟩) (ha : a.put (some N) v = a' := by simp only [Act.put, List.setIfInBounds_toArray, List.set_cons_zero, List.set_cons_succ, i64_w, i32_w]; rfl) : wpAnyLast P md ops Q S ds (fuel + 1) l a w := take_ l' hi hN hc hq hy hS ha h
abbrev zS3_0 (gb108 : Nat) (a1_0 : Bool) (a1_1 : Int) (a1_2 : Int) (a1_3 : Bool) (a1_4 : Int) (a1_5 : Int) (a1_6 : Int) (a1_7 : Int) (a1_8 : Int) (a1_9 : Int) (a1_10 : Int) (a1_11 : Int) (a1_12 : Int) (a1_13 : Int) (a1_14 : Int) (a1_15 : Bool) (a1_16 : Int) (a1_17 : Int) (a1_18 : Int) (a1_19 : Int) (a1_20 : Int) (A1_21 : Option Addr) (l1_21 : List Int) (c1_21 : Nat) (A1_22 : Option Addr) (l1_22 : List Int) (c1_22 : Nat) (a1_23 : Int) (a1_24 : Int) (a1_25 : Int) (gb107 : Nat) (a0_0 : Int) (a0_1 : Int) (a0_2 : Int) (w' : World) : Prop := w'.cell? ⟨gb108, 0, none⟩ = some (.bool a1_0) ∧ w'.cell? ⟨gb108, 1, none⟩ = some (.int .i64 a1_1) ∧ w'.cell? ⟨gb108, 2, none⟩ = some (.int .i64 a1_2) ∧ w'.cell? ⟨gb108, 3, none⟩ = some (.bool a1_3) ∧ w'.cell? ⟨gb108, 4, none⟩ = some (.int .i64 a1_4) ∧ w'.cell? ⟨gb108, 5, none⟩ = some (.int .i64 a1_5) ∧ w'.cell? ⟨gb108, 6, none⟩ = some (.int .i64 a1_6) ∧ w'.cell? ⟨gb108, 7, none⟩ = some (.int .i64 a1_7) ∧ w'.cell? ⟨gb108, 8, none⟩ = some (.int .i64 a1_8) ∧ w'.cell? ⟨gb108, 9, none⟩ = some (.int .i64 a1_9) ∧ w'.cell? ⟨gb108, 10, none⟩ = some (.int .i64 a1_10) ∧ w'.cell? ⟨gb108, 11, none⟩ = some (.int .i64 a1_11) ∧ w'.cell? ⟨gb108, 12, none⟩ = some (.int .i64 a1_12) ∧ w'.cell? ⟨gb108, 13, none⟩ = some (.int .i64 a1_13) ∧ w'.cell? ⟨gb108, 14, none⟩ = some (.int .i64 a1_14) ∧ w'.cell? ⟨gb108, 15, none⟩ = some (.bool a1_15) ∧ w'.cell? ⟨gb108, 16, none⟩ = some (.int .i64 a1_16) ∧ w'.cell? ⟨gb108, 17, none⟩ = some (.int .u64 a1_17) ∧ w'.cell? ⟨gb108, 18, none⟩ = some (.int .u64 a1_18) ∧ w'.cell? ⟨gb108, 19, none⟩ = some (.int .u64 a1_19) ∧ w'.cell? ⟨gb108, 20, none⟩ = some (.int .u64 a1_20) ∧ w'.cell? ⟨gb108, 21, none⟩ = some (.slice A1_21 l1_21.length c1_21) ∧ w'.cell? ⟨gb108, 22, none⟩ = some (.slice A1_22 l1_22.length c1_22) ∧ w'.cell? ⟨gb108, 23, none⟩ = some (.int .i64 a1_23) ∧ w'.cell? ⟨gb108, 24, none⟩ = some (.int .i64 a1_24) ∧ w'.cell? ⟨gb108, 25, none⟩ = some (.int .i64 a1_25) ∧ w'.cell? ⟨gb107, 0, none⟩ = some (.int .i64 a0_0) ∧ w'.cell? ⟨gb107, 1, none⟩ = some (.int .i64 a0_1) ∧ w'.cell? ⟨gb107, 2, none⟩ = some (.int .i64 a0_2)
theorem zf3_3 {w : World} {g : Nat} {t : TypeId} {v0 v1 v2 : Value} (h : w.heap[g]? = some (.cells #[v0, v1, v2] t (0, 0))) : w.cell? ⟨g, 0, none⟩ = some v0 ∧ w.cell? ⟨g, 1, none⟩ = some v1 ∧ w.cell? ⟨g, 2, none⟩ = some v2 ∧ w.frozen? ⟨g, 0, none⟩ = false ∧ w.frozen? ⟨g, 1, none⟩ = false ∧ w.frozen? ⟨g, 2, none⟩ = false := ⟨(blk_cell h 0).trans rfl, (blk_cell h 1).trans rfl, (blk_cell h 2).trans rfl, blk_frozen h 0, blk_frozen h 1, blk_frozen h 2⟩
theorem zf3_26 {w : World} {g : Nat} {t : TypeId} {v0 v1 v2 v3 v4 v5 v6 v7 v8 v9 v10 v11 v12 v13 v14 v15 v16 v17 v18 v19 v20 v21 v22 v23 v24 v25 : Value} (h : w.heap[g]? = some (.cells #[v0, v1, v2, v3, v4, v5, v6, v7, v8, v9, v10, v11, v12, v13, v14, v15, v16, v17, v18, v19, v20, v21, v22, v23, v24, v25] t (0, 0))) : w.cell? ⟨g, 0, none⟩ = some v0 ∧ w.cell? ⟨g, 1, none⟩ = some v1 ∧ w.cell? ⟨g, 2, none⟩ = some v2 ∧ w.cell? ⟨g, 3, none⟩ = some v3 ∧ w.cell? ⟨g, 4, none⟩ = some v4 ∧ w.cell? ⟨g, 5, none⟩ = some v5 ∧ w.cell? ⟨g, 6, none⟩ = some v6 ∧ w.cell? ⟨g, 7, none⟩ = some v7 ∧ w.cell? ⟨g, 8, none⟩ = some v8 ∧ w.cell? ⟨g, 9, none⟩ = some v9 ∧ w.cell? ⟨g, 10, none⟩ = some v10 ∧ w.cell? ⟨g, 11, none⟩ = some v11 ∧ w.cell? ⟨g, 12, none⟩ = some v12 ∧ w.cell? ⟨g, 13, none⟩ = some v13 ∧ w.cell? ⟨g, 14, none⟩ = some v14 ∧ w.cell? ⟨g, 15, none⟩ = some v15 ∧ w.cell? ⟨g, 16, none⟩ = some v16 ∧ w.cell? ⟨g, 17, none⟩ = some v17 ∧ w.cell? ⟨g, 18, none⟩ = some v18 ∧ w.cell? ⟨g, 19, none⟩ = some v19 ∧ w.cell? ⟨g, 20, none⟩ = some v20 ∧ w.cell? ⟨g, 21, none⟩ = some v21 ∧ w.cell? ⟨g, 22, none⟩ = some v22 ∧ w.cell? ⟨g, 23, none⟩ = some v23 ∧ w.cell? ⟨g, 24, none⟩ = some v24 ∧ w.cell? ⟨g, 25, none⟩ = some v25 ∧ w.frozen? ⟨g, 0, none⟩ = false ∧ w.frozen? ⟨g, 1, none⟩ = false ∧ w.frozen? ⟨g, 2, none⟩ = false ∧ w.frozen? ⟨g, 3, none⟩ = false ∧ w.frozen? ⟨g, 4, none⟩ = false ∧ w.frozen? ⟨g, 5, none⟩ = false ∧ w.frozen? ⟨g, 6, none⟩ = false ∧ w.frozen? ⟨g, 7, none⟩ = false ∧ w.frozen? ⟨g, 8, none⟩ = false ∧ w.frozen? ⟨g, 9, none⟩ = false ∧ w.frozen? ⟨g, 10, none⟩ = false ∧ w.frozen? ⟨g, 11, none⟩ = false ∧ w.frozen? ⟨g, 12, none⟩ = false ∧ w.frozen? ⟨g, 13, none⟩ = false ∧ w.frozen? ⟨g, 14, none⟩ = false ∧ w.frozen? ⟨g, 15, none⟩ = false ∧ w.frozen? ⟨g, 16, none⟩ = false ∧ w.frozen? ⟨g, 17, none⟩ = false ∧ w.frozen? ⟨g, 18, none⟩ = false ∧ w.frozen? ⟨g, 19, none⟩ = false ∧ w.frozen? ⟨g, 20, none⟩ = false ∧ w.frozen? ⟨g, 21, none⟩ = false ∧ w.frozen? ⟨g, 22, none⟩ = false ∧ w.frozen? ⟨g, 23, none⟩ = false ∧ w.frozen? ⟨g, 24, none⟩ = false ∧ w.frozen? ⟨g, 25, none⟩ = false := ⟨(blk_cell h 0).trans rfl, (blk_cell h 1).trans rfl, (blk_cell h 2).trans rfl, (blk_cell h 3).trans rfl, (blk_cell h 4).trans rfl, (blk_cell h 5).trans rfl, (blk_cell h 6).trans rfl, (blk_cell h 7).trans rfl, (blk_cell h 8).trans rfl, (blk_cell h 9).trans rfl, (blk_cell h 10).trans rfl, (blk_cell h 11).trans rfl, (blk_cell h 12).trans rfl, (blk_cell h 13).trans rfl, (blk_cell h 14).trans rfl, (blk_cell h 15).trans rfl, (blk_cell h 16).trans rfl, (blk_cell h 17).trans rfl, (blk_cell h 18).trans rfl, (blk_cell h 19).trans rfl, (blk_cell h 20).trans rfl, (blk_cell h 21).trans rfl, (blk_cell h 22).trans rfl, (blk_cell h 23).trans rfl, (blk_cell h 24).trans rfl, (blk_cell h 25).trans rfl, blk_frozen h 0, blk_frozen h 1, blk_frozen h 2, blk_frozen h 3, blk_frozen h 4, blk_frozen h 5, blk_frozen h 6, blk_frozen h 7, blk_frozen h 8, blk_frozen h 9, blk_frozen h 10, blk_frozen h 11, blk_frozen h 12, blk_frozen h 13, blk_frozen h 14, blk_frozen h 15, blk_frozen h 16, blk_frozen h 17, blk_frozen h 18, blk_frozen h 19, blk_frozen h 20, blk_frozen h 21, blk_frozen h 22, blk_frozen h 23, blk_frozen h 24, blk_frozen h 25⟩
abbrev zl3_0 : Array Bool := #[false, false, false, false, false, false, false, false, false, false, false, false, false, false, false, false, false, false, false, false, false]
abbrev zl3_1 : Array Bool := #[true, false, false, false, false, false, false, false, false, false, false, false, false, false, false, false, false, false, false, false, false]
abbrev zl3_2 : Array Bool := #[true, true, false, false, false, false, false, false, false, false, false, false, false, false, false, false, false, false, false, false, false]
abbrev zl3_3 : Array Bool := #[true, true, true, false, false, false, false, false, false, false, false, false, false, false, false, false, false, false, false, false, false]
abbrev zl3_4 : Array Bool := #[true, true, true, true, false, false, false, false, false, false, false, false, false, false, false, false, false, false, false, false, false]
abbrev zl3_5 : Array Bool := #[true, true, true, true, true, false, false, false, false, false, false, false, false, false, false, false, false, false, false, false, false]
abbrev zl3_6 : Array Bool := #[true, true, true, true, true, true, false, false, false, false, false, false, false, false, false, false, false, false, false, false, false]
abbrev zl3_7 : Array Bool := #[true, true, true, true, true, true, true, false, false, false, false, false, false, false, false, false, false, false, false, false, false]
abbrev zl3_8 : Array Bool := #[true, true, true, true, true, true, true, true, false, false, false, false, false, false, false, false, false, false, false, false, false]
abbrev zl3_9 : Array Bool := #[true, true, true, true, true, true, true, true, true, false, false, false, false, false, false, false, false, false, false, false, false]
abbrev zl3_10 : Array Bool := #[true, true, true, true, true, true, true, true, true, true, false, false, false, false, false, false, false, false, false, false, false]
abbrev zl3_11 : Array Bool := #[true, true, true, true, true, true, true, true, true, true, true, false, false, false, false, false, false, false, false, false, false]
abbrev zl3_12 : Array Bool := #[true, true, true, true, true, true, true, true, true, true, true, true, false, false, false, false, false, false, false, false, false]
abbrev zl3_13 : Array Bool := #[true, true, true, true, true, true, true, true, true, true, true, true, true, false, false, false, false, false, false, false, false]
abbrev zl3_14 : Array Bool := #[true, true, true, true, true, true, true, true, true, true, true, true, true, true, false, false, false, false, false, false, false]
abbrev zl3_15 : Array Bool := #[true, true, true, true, true, true, true, true, true, true, true, true, true, true, true, false, false, false, false, false, false]
abbrev zl3_16 : Array Bool := #[true, true, true, true, true, true, true, true, true, true, true, true, true, true, true, true, true, false, false, false, false]
abbrev zl3_17 : Array Bool := #[true, true, true, true, true, true, true, true, true, true, true, true, true, true, true, true, true, true, false, false, false]
abbrev zl3_18 : Array Bool := #[true, true, true, true, true, true, true, true, true, true, true, true, true, true, true, true, true, true, true, false, false]
abbrev zl3_19 : Array Bool := #[true, true, true, true, true, true, true, true, true, true, true, true, true, true, true, true, true, true, true, true, false]
abbrev zl3_20 : Array Bool := #[true, true, true, true, true, true, true, true, true, true, true, true, true, true, true, true, true, true, true, true, true]
abbrev zl3_21 : Array Bool := #[false, false, false, false, false, false, false, false, false, false, false, false, false, false]
abbrev zl3_22 : Array Bool := #[true, false, false, false, false, false, false, false, false, false, false, false, false, false]
abbrev zl3_23 : Array Bool := #[true, false, false, true, false, false, false, false, false, false, false, false, false, false]
abbrev zl3_24 : Array Bool := #[true, true, false, true, false, false, false, false, false, false, false, false, false, false]
abbrev zl3_25 : Array Bool := #[true, true, true, true, false, false, false, false, false, false, false, false, false, false]
abbrev zl3_26 : Array Bool := #[true, true, true, true, true, false, false, false, false, false, false, false, false, false]
abbrev zl3_27 : Array Bool := #[true, true, true, true, true, true, false, false, false, false, false, false, false, false]
abbrev zl3_28 : Array Bool := #[true, true, true, true, true, true, true, false, false, false, false, false, false, false]
abbrev zl3_29 : Array Bool := #[true, true, true, true, true, true, true, true, false, false, false, false, false, false]
abbrev zl3_30 : Array Bool := #[true, true, true, true, true, true, true, true, true, false, false, false, false, false]
abbrev zl3_31 : Array Bool := #[true, true, true, true, true, true, true, true, true, true, false, false, false, false]
abbrev zl3_32 : Array Bool := #[true, true, true, true, true, true, true, true, true, true, true, false, false, false]
abbrev zl3_33 : Array Bool := #[true, true, true, true, true, true, true, true, true, true, true, true, false, false]
abbrev zl3_34 : Array Bool := #[true, true, true, true, true, true, true, true, true, true, true, true, true, false]
abbrev zl3_35 : Array Bool := #[true, true, true, true, true, true, true, true, true, true, true, true, true, true]
abbrev zl3_36 : Array Bool := #[true, true, true, true, true, true, true, true, true, true, true, true, true, true, true, true, false, false, false, false, false]
abbrev zl3_37 : Array Bool := #[true, true, true, true, true, true, true, true, true, true, true, true, true, true, true, false, true, false, false, false, false]

/-! ### spec_l6Place: function 62 -/
mutual
def spec_l6Place.j0 : Nat → Bool → Int → Int → Int → Bool → Int → Int → Bool → Int → Int → Int → Int → Int → Int → Int → Int → Int → Int → Int → Bool → Int → Int → Int → Int → Int → List Int → List Int → Int → Int → Int → Option (Bool)
 | 0, _, _, _, _, _, _, _, _, _, _, _, _, _, _, _, _, _, _, _, _, _, _, _, _, _, _, _, _, _, _ => none
 | k + 1, x5, x108000, x108001, x108002, x109000, x109001, x109002, x109003, x109004, x109005, x109006, x109007, x109008, x109009, x109010, x109011, x109012, x109013, x109014, x109015, x109016, x109017, x109018, x109019, x109020, x109021, x109022, x109023, x109024, x109025 => if x5 = true then (some false) else (if x109008 = 11 then (if (x109021.length : Int) = x109009 then ((spec_l2House.f x108000 x108001 x108002).bind fun t109 => (some (decide (x109009 < t109)))) else (some false)) else (if x109008 = 12 then ((spec_l2House.f x108000 x108001 x108002).bind fun t110 => (if (x109021.length : Int) = t110 then (if x109006 ≥ 0 then (some (decide (x109006 < x108000))) else (some false)) else (some false))) else (if x109008 ≥ 16 then (spec_l6Place.j1 k (decide (x109008 ≤ 21)) x108000 x108001 x108002 x109000 x109001 x109002 x109003 x109004 x109005 x109006 x109007 x109008 x109009 x109010 x109011 x109012 x109013 x109014 x109015 x109016 x109017 x109018 x109019 x109020 x109021 x109022 x109023 x109024 x109025) else (spec_l6Place.j1 k false x108000 x108001 x108002 x109000 x109001 x109002 x109003 x109004 x109005 x109006 x109007 x109008 x109009 x109010 x109011 x109012 x109013 x109014 x109015 x109016 x109017 x109018 x109019 x109020 x109021 x109022 x109023 x109024 x109025))))
def spec_l6Place.j1 : Nat → Bool → Int → Int → Int → Bool → Int → Int → Bool → Int → Int → Int → Int → Int → Int → Int → Int → Int → Int → Int → Bool → Int → Int → Int → Int → Int → List Int → List Int → Int → Int → Int → Option (Bool)
 | 0, _, _, _, _, _, _, _, _, _, _, _, _, _, _, _, _, _, _, _, _, _, _, _, _, _, _, _, _, _, _ => none
 | k + 1, x59, x108000, x108001, x108002, x109000, x109001, x109002, x109003, x109004, x109005, x109006, x109007, x109008, x109009, x109010, x109011, x109012, x109013, x109014, x109015, x109016, x109017, x109018, x109019, x109020, x109021, x109022, x109023, x109024, x109025 => if x59 = true then (some (decide (x109013 < x108000))) else (if x109008 = 13 then (spec_l6Place.j2 k true x108000 x108001 x108002 x109000 x109001 x109002 x109003 x109004 x109005 x109006 x109007 x109008 x109009 x109010 x109011 x109012 x109013 x109014 x109015 x109016 x109017 x109018 x109019 x109020 x109021 x109022 x109023 x109024 x109025) else (spec_l6Place.j2 k (x109008 == 14) x108000 x108001 x108002 x109000 x109001 x109002 x109003 x109004 x109005 x109006 x109007 x109008 x109009 x109010 x109011 x109012 x109013 x109014 x109015 x109016 x109017 x109018 x109019 x109020 x109021 x109022 x109023 x109024 x109025))
def spec_l6Place.j2 : Nat → Bool → Int → Int → Int → Bool → Int → Int → Bool → Int → Int → Int → Int → Int → Int → Int → Int → Int → Int → Int → Bool → Int → Int → Int → Int → Int → List Int → List Int → Int → Int → Int → Option (Bool)
 | 0, _, _, _, _, _, _, _, _, _, _, _, _, _, _, _, _, _, _, _, _, _, _, _, _, _, _, _, _, _, _ => none
 | k + 1, x73, x108000, x108001, x108002, x109000, x109001, x109002, x109003, x109004, x109005, x109006, x109007, x109008, x109009, x109010, x109011, x109012, x109013, x109014, x109015, x109016, x109017, x109018, x109019, x109020, x109021, x109022, x109023, x109024, x109025 => if x73 = true then (some (decide (x109009 ≤ (x109022.length : Int)))) else (if x109008 ≥ 22 then (if x109008 ≤ 24 then (if x109009 ≥ 1 then (if x109009 ≤ x109010 then (if x109013 < x108000 then (if x109015 = true then (some (x109010 == (x109022.length : Int))) else (some true)) else (some false)) else (some false)) else (some false)) else (some true)) else (some true))
end
def spec_l6Place.f (k : Nat) (a0_0 : Int) (a0_1 : Int) (a0_2 : Int) (a1_0 : Bool) (a1_1 : Int) (a1_2 : Int) (a1_3 : Bool) (a1_4 : Int) (a1_5 : Int) (a1_6 : Int) (a1_7 : Int) (a1_8 : Int) (a1_9 : Int) (a1_10 : Int) (a1_11 : Int) (a1_12 : Int) (a1_13 : Int) (a1_14 : Int) (a1_15 : Bool) (a1_16 : Int) (a1_17 : Int) (a1_18 : Int) (a1_19 : Int) (a1_20 : Int) (l1_21 : List Int) (l1_22 : List Int) (a1_23 : Int) (a1_24 : Int) (a1_25 : Int) : Option (Bool) := if a1_15 = true then (if a1_8 < 23 then (spec_l6Place.j0 k true a0_0 a0_1 a0_2 a1_0 a1_1 a1_2 a1_3 a1_4 a1_5 a1_6 a1_7 a1_8 a1_9 a1_10 a1_11 a1_12 a1_13 a1_14 a1_15 a1_16 a1_17 a1_18 a1_19 a1_20 l1_21 l1_22 a1_23 a1_24 a1_25) else (spec_l6Place.j0 k (decide (a1_8 > 25)) a0_0 a0_1 a0_2 a1_0 a1_1 a1_2 a1_3 a1_4 a1_5 a1_6 a1_7 a1_8 a1_9 a1_10 a1_11 a1_12 a1_13 a1_14 a1_15 a1_16 a1_17 a1_18 a1_19 a1_20 l1_21 l1_22 a1_23 a1_24 a1_25)) else (spec_l6Place.j0 k false a0_0 a0_1 a0_2 a1_0 a1_1 a1_2 a1_3 a1_4 a1_5 a1_6 a1_7 a1_8 a1_9 a1_10 a1_11 a1_12 a1_13 a1_14 a1_15 a1_16 a1_17 a1_18 a1_19 a1_20 l1_21 l1_22 a1_23 a1_24 a1_25)
theorem spec_l6Place.mono_l : ∀ k, (∀ y0 y1 y2 y3 y4 y5 y6 y7 y8 y9 y10 y11 y12 y13 y14 y15 y16 y17 y18 y19 y20 y21 y22 y23 y24 y25 y26 y27 y28 y29, LeO (spec_l6Place.j0 k y0 y1 y2 y3 y4 y5 y6 y7 y8 y9 y10 y11 y12 y13 y14 y15 y16 y17 y18 y19 y20 y21 y22 y23 y24 y25 y26 y27 y28 y29) (spec_l6Place.j0 (k + 1) y0 y1 y2 y3 y4 y5 y6 y7 y8 y9 y10 y11 y12 y13 y14 y15 y16 y17 y18 y19 y20 y21 y22 y23 y24 y25 y26 y27 y28 y29)) ∧ (∀ y0 y1 y2 y3 y4 y5 y6 y7 y8 y9 y10 y11 y12 y13 y14 y15 y16 y17 y18 y19 y20 y21 y22 y23 y24 y25 y26 y27 y28 y29, LeO (spec_l6Place.j1 k y0 y1 y2 y3 y4 y5 y6 y7 y8 y9 y10 y11 y12 y13 y14 y15 y16 y17 y18 y19 y20 y21 y22 y23 y24 y25 y26 y27 y28 y29) (spec_l6Place.j1 (k + 1) y0 y1 y2 y3 y4 y5 y6 y7 y8 y9 y10 y11 y12 y13 y14 y15 y16 y17 y18 y19 y20 y21 y22 y23 y24 y25 y26 y27 y28 y29)) ∧ (∀ y0 y1 y2 y3 y4 y5 y6 y7 y8 y9 y10 y11 y12 y13 y14 y15 y16 y17 y18 y19 y20 y21 y22 y23 y24 y25 y26 y27 y28 y29, LeO (spec_l6Place.j2 k y0 y1 y2 y3 y4 y5 y6 y7 y8 y9 y10 y11 y12 y13 y14 y15 y16 y17 y18 y19 y20 y21 y22 y23 y24 y25 y26 y27 y28 y29) (spec_l6Place.j2 (k + 1) y0 y1 y2 y3 y4 y5 y6 y7 y8 y9 y10 y11 y12 y13 y14 y15 y16 y17 y18 y19 y20 y21 y22 y23 y24 y25 y26 y27 y28 y29))
 | 0 => ⟨fun _ _ _ _ _ _ _ _ _ _ _ _ _ _ _ _ _ _ _ _ _ _ _ _ _ _ _ _ _ _ r h => by simp [spec_l6Place.j0] at h, fun _ _ _ _ _ _ _ _ _ _ _ _ _ _ _ _ _ _ _ _ _ _ _ _ _ _ _ _ _ _ r h => by simp [spec_l6Place.j1] at h, fun _ _ _ _ _ _ _ _ _ _ _ _ _ _ _ _ _ _ _ _ _ _ _ _ _ _ _ _ _ _ r h => by simp [spec_l6Place.j2] at h⟩
 | k + 1 => by
  obtain ⟨ih0, ih1, ih2⟩ := spec_l6Place.mono_l k
  refine ⟨?_, ?_, ?_⟩
  ·intro y0 y1 y2 y3 y4 y5 y6 y7 y8 y9 y10 y11 y12 y13 y14 y15 y16 y17 y18 y19 y20 y21 y22 y23 y24 y25 y26 y27 y28 y29
   unfold spec_l6Place.j0
   repeat' first
   | (with_reducible exact ih0 _ _ _ _ _ _ _ _ _ _ _ _ _ _ _ _ _ _ _ _ _ _ _ _ _ _ _ _ _ _)
   | (with_reducible exact ih1 _ _ _ _ _ _ _ _ _ _ _ _ _ _ _ _ _ _ _ _ _ _ _ _ _ _ _ _ _ _)
   | (with_reducible exact ih2 _ _ _ _ _ _ _ _ _ _ _ _ _ _ _ _ _ _ _ _ _ _ _ _ _ _ _ _ _ _)
   | (with_reducible exact LeO.refl _)
   | (with_reducible exact LeO.none _)
   | (with_reducible refine LeO.ite ?_ ?_)
   | (with_reducible refine LeO.bind ?_ (fun _ => ?_))
   | exact ih0 _ _ _ _ _ _ _ _ _ _ _ _ _ _ _ _ _ _ _ _ _ _ _ _ _ _ _ _ _ _
   | exact ih1 _ _ _ _ _ _ _ _ _ _ _ _ _ _ _ _ _ _ _ _ _ _ _ _ _ _ _ _ _ _
   | exact ih2 _ _ _ _ _ _ _ _ _ _ _ _ _ _ _ _ _ _ _ _ _ _ _ _ _ _ _ _ _ _
   | exact LeO.none _
   | refine LeO.ite ?_ ?_
   | refine LeO.bind ?_ (fun _ => ?_)
  ·intro y0 y1 y2 y3 y4 y5 y6 y7 y8 y9 y10 y11 y12 y13 y14 y15 y16 y17 y18 y19 y20 y21 y22 y23 y24 y25 y26 y27 y28 y29
   unfold spec_l6Place.j1
   repeat' first
   | (with_reducible exact ih0 _ _ _ _ _ _ _ _ _ _ _ _ _ _ _ _ _ _ _ _ _ _ _ _ _ _ _ _ _ _)
   | (with_reducible exact ih1 _ _ _ _ _ _ _ _ _ _ _ _ _ _ _ _ _ _ _ _ _ _ _ _ _ _ _ _ _ _)
   | (with_reducible exact ih2 _ _ _ _ _ _ _ _ _ _ _ _ _ _ _ _ _ _ _ _ _ _ _ _ _ _ _ _ _ _)
   | (with_reducible exact LeO.refl _)
   | (with_reducible exact LeO.none _)
   | (with_reducible refine LeO.ite ?_ ?_)
   | (with_reducible refine LeO.bind ?_ (fun _ => ?_))
   | exact ih0 _ _ _ _ _ _ _ _ _ _ _ _ _ _ _ _ _ _ _ _ _ _ _ _ _ _ _ _ _ _
   | exact ih1 _ _ _ _ _ _ _ _ _ _ _ _ _ _ _ _ _ _ _ _ _ _ _ _ _ _ _ _ _ _
   | exact ih2 _ _ _ _ _ _ _ _ _ _ _ _ _ _ _ _ _ _ _ _ _ _ _ _ _ _ _ _ _ _
   | exact LeO.none _
   | refine LeO.ite ?_ ?_
   | refine LeO.bind ?_ (fun _ => ?_)
  ·intro y0 y1 y2 y3 y4 y5 y6 y7 y8 y9 y10 y11 y12 y13 y14 y15 y16 y17 y18 y19 y20 y21 y22 y23 y24 y25 y26 y27 y28 y29
   unfold spec_l6Place.j2
   repeat' first
   | (with_reducible exact ih0 _ _ _ _ _ _ _ _ _ _ _ _ _ _ _ _ _ _ _ _ _ _ _ _ _ _ _ _ _ _)
   | (with_reducible exact ih1 _ _ _ _ _ _ _ _ _ _ _ _ _ _ _ _ _ _ _ _ _ _ _ _ _ _ _ _ _ _)
   | (with_reducible exact ih2 _ _ _ _ _ _ _ _ _ _ _ _ _ _ _ _ _ _ _ _ _ _ _ _ _ _ _ _ _ _)
   | (with_reducible exact LeO.refl _)
   | (with_reducible exact LeO.none _)
   | (with_reducible refine LeO.ite ?_ ?_)
   | (with_reducible refine LeO.bind ?_ (fun _ => ?_))
   | exact ih0 _ _ _ _ _ _ _ _ _ _ _ _ _ _ _ _ _ _ _ _ _ _ _ _ _ _ _ _ _ _
   | exact ih1 _ _ _ _ _ _ _ _ _ _ _ _ _ _ _ _ _ _ _ _ _ _ _ _ _ _ _ _ _ _
   | exact ih2 _ _ _ _ _ _ _ _ _ _ _ _ _ _ _ _ _ _ _ _ _ _ _ _ _ _ _ _ _ _
   | exact LeO.none _
   | refine LeO.ite ?_ ?_
   | refine LeO.bind ?_ (fun _ => ?_)
theorem spec_l6Place.mono : ∀ a0 a1 a2 a3 a4 a5 a6 a7 a8 a9 a10 a11 a12 a13 a14 a15 a16 a17 a18 a19 a20 a21 a22 a23 a24 a25 a26 a27 a28 k, LeO (spec_l6Place.f k a0 a1 a2 a3 a4 a5 a6 a7 a8 a9 a10 a11 a12 a13 a14 a15 a16 a17 a18 a19 a20 a21 a22 a23 a24 a25 a26 a27 a28) (spec_l6Place.f (k + 1) a0 a1 a2 a3 a4 a5 a6 a7 a8 a9 a10 a11 a12 a13 a14 a15 a16 a17 a18 a19 a20 a21 a22 a23 a24 a25 a26 a27 a28) := by
 intro a0 a1 a2 a3 a4 a5 a6 a7 a8 a9 a10 a11 a12 a13 a14 a15 a16 a17 a18 a19 a20 a21 a22 a23 a24 a25 a26 a27 a28 k
 obtain ⟨ih0, ih1, ih2⟩ := spec_l6Place.mono_l k
 unfold spec_l6Place.f
 repeat' first
   | (with_reducible exact ih0 _ _ _ _ _ _ _ _ _ _ _ _ _ _ _ _ _ _ _ _ _ _ _ _ _ _ _ _ _ _)
   | (with_reducible exact ih1 _ _ _ _ _ _ _ _ _ _ _ _ _ _ _ _ _ _ _ _ _ _ _ _ _ _ _ _ _ _)
   | (with_reducible exact ih2 _ _ _ _ _ _ _ _ _ _ _ _ _ _ _ _ _ _ _ _ _ _ _ _ _ _ _ _ _ _)
   | (with_reducible exact LeO.refl _)
   | (with_reducible exact LeO.none _)
   | (with_reducible refine LeO.ite ?_ ?_)
   | (with_reducible refine LeO.bind ?_ (fun _ => ?_))
   | exact ih0 _ _ _ _ _ _ _ _ _ _ _ _ _ _ _ _ _ _ _ _ _ _ _ _ _ _ _ _ _ _
   | exact ih1 _ _ _ _ _ _ _ _ _ _ _ _ _ _ _ _ _ _ _ _ _ _ _ _ _ _ _ _ _ _
   | exact ih2 _ _ _ _ _ _ _ _ _ _ _ _ _ _ _ _ _ _ _ _ _ _ _ _ _ _ _ _ _ _
   | exact LeO.none _
   | refine LeO.ite ?_ ?_
   | refine LeO.bind ?_ (fun _ => ?_)
def spec_l6Place.T4 : Bool × List (List Nat × List Nat) := (true, [([], []), ([0], [0]), ([1], [1]), ([], []), ([3], [3]), ([2, 4], [2, 4]), ([5], [5]), ([6], [6]), ([7, 6], [6, 7]), ([6], [6]), ([9, 6, 6], [6, 9]), ([8, 10, 6], [6, 8, 10]), ([6, 11], [6, 11]), ([12, 10, 0, 1, 2, 3, 4, 5, 6, 7, 8, 9, 10, 11, 12], [12])])
def spec_l6Place.B4 : List Nat := [0, 1, 3, 0, 8, 31, 63, 127, 255, 127, 639, 2047, 4095, 8191]
theorem spec_l6Place.tab4 : rtab .any (opsOf Try.f62 4) = spec_l6Place.T4 := by kernel_rfl
theorem spec_l6Place.bits4 : waitsOk spec_l6Place.T4.2 spec_l6Place.B4 = true := by kernel_rfl
def spec_l6Place.T6 : Bool × List (List Nat × List Nat) := (true, [([], []), ([0], [0]), ([1], [1]), ([], []), ([3], [3]), ([2, 4], [2, 4]), ([5, 4], [5]), ([6], [6]), ([7, 6], [6, 7]), ([8, 6], [6, 8]), ([9, 6], [6, 9]), ([6, 10], [6, 10]), ([11, 6], [11]), ([12], [12]), ([13, 12], [12, 13]), ([14, 12], [12, 14]), ([12], [12]), ([16, 12], [12, 16]), ([15, 17, 12], [12, 15, 17]), ([12, 18], [12, 18]), ([19, 12, 0, 1, 2, 3, 4, 5, 6, 7, 8, 9, 10, 11, 12, 13, 14, 15, 16, 17, 18, 19], [19])])
def spec_l6Place.B6 : List Nat := [0, 1, 3, 0, 8, 31, 63, 127, 255, 511, 1023, 2047, 4095, 8191, 16383, 32767, 8191, 73727, 262143, 524287, 1048575]
theorem spec_l6Place.tab6 : rtab .any (opsOf Try.f62 6) = spec_l6Place.T6 := by kernel_rfl
theorem spec_l6Place.bits6 : waitsOk spec_l6Place.T6.2 spec_l6Place.B6 = true := by kernel_rfl
set_option maxHeartbeats 8000000 in
set_option maxRecDepth 100000 in
theorem spec_l6Place.calls (k : Nat) (a0_0 : Int) (a0_1 : Int) (a0_2 : Int) (a1_0 : Bool) (a1_1 : Int) (a1_2 : Int) (a1_3 : Bool) (a1_4 : Int) (a1_5 : Int) (a1_6 : Int) (a1_7 : Int) (a1_8 : Int) (a1_9 : Int) (a1_10 : Int) (a1_11 : Int) (a1_12 : Int) (a1_13 : Int) (a1_14 : Int) (a1_15 : Bool) (a1_16 : Int) (a1_17 : Int) (a1_18 : Int) (a1_19 : Int) (a1_20 : Int) (A1_21 : Option Addr) (c1_21 : Nat) (l1_21 : List Int) (A1_22 : Option Addr) (c1_22 : Nat) (l1_22 : List Int) (a1_23 : Int) (a1_24 : Int) (a1_25 : Int) (r : Bool) (w : World) (hr1_21 : Kd.C (Kd.int .u64) w A1_21 l1_21.length l1_21) (hc1_21 : l1_21.length ≤ c1_21) (hr1_22 : Kd.C (Kd.int .u64) w A1_22 l1_22.length l1_22) (hc1_22 : l1_22.length ≤ c1_22) (h : spec_l6Place.f k a0_0 a0_1 a0_2 a1_0 a1_1 a1_2 a1_3 a1_4 a1_5 a1_6 a1_7 a1_8 a1_9 a1_10 a1_11 a1_12 a1_13 a1_14 a1_15 a1_16 a1_17 a1_18 a1_19 a1_20 l1_21 l1_22 a1_23 a1_24 a1_25 = some r) :
  Calls Try.prog 62 #[.agg #[.int .i64 a0_0, .int .i64 a0_1, .int .i64 a0_2], .agg #[.bool a1_0, .int .i64 a1_1, .int .i64 a1_2, .bool a1_3, .int .i64 a1_4, .int .i64 a1_5, .int .i64 a1_6, .int .i64 a1_7, .int .i64 a1_8, .int .i64 a1_9, .int .i64 a1_10, .int .i64 a1_11, .int .i64 a1_12, .int .i64 a1_13, .int .i64 a1_14, .bool a1_15, .int .i64 a1_16, .int .u64 a1_17, .int .u64 a1_18, .int .u64 a1_19, .int .u64 a1_20, .slice A1_21 l1_21.length c1_21, .slice A1_22 l1_22.length c1_22, .int .i64 a1_23, .int .i64 a1_24, .int .i64 a1_25]] w fun e w' => e = .returned (.bool r) ∧ Below w.heap.size w w' := by
 have hu43 := Try.underlying43
 have hu59 := Try.underlying59
 have HR1_21 := Aside0.mk hr1_21
 have HC1_21 := Aside0.mk hc1_21
 clear hr1_21 hc1_21
 have HR1_22 := Aside0.mk hr1_22
 have HC1_22 := Aside0.mk hc1_22
 clear hr1_22 hc1_22
 have HB := Aside0.mk (Below.refl w.heap.size w)
 have H : (if a1_15 = true then (if a1_8 < 23 then (spec_l6Place.j0 k true a0_0 a0_1 a0_2 a1_0 a1_1 a1_2 a1_3 a1_4 a1_5 a1_6 a1_7 a1_8 a1_9 a1_10 a1_11 a1_12 a1_13 a1_14 a1_15 a1_16 a1_17 a1_18 a1_19 a1_20 l1_21 l1_22 a1_23 a1_24 a1_25) else (spec_l6Place.j0 k (decide (a1_8 > 25)) a0_0 a0_1 a0_2 a1_0 a1_1 a1_2 a1_3 a1_4 a1_5 a1_6 a1_7 a1_8 a1_9 a1_10 a1_11 a1_12 a1_13 a1_14 a1_15 a1_16 a1_17 a1_18 a1_19 a1_20 l1_21 l1_22 a1_23 a1_24 a1_25)) else (spec_l6Place.j0 k false a0_0 a0_1 a0_2 a1_0 a1_1 a1_2 a1_3 a1_4 a1_5 a1_6 a1_7 a1_8 a1_9 a1_10 a1_11 a1_12 a1_13 a1_14 a1_15 a1_16 a1_17 a1_18 a1_19 a1_20 l1_21 l1_22 a1_23 a1_24 a1_25)) = some r := h
 clear h
 have HC3 := Aside0.mk H
 clear H
 go_enter Try.func62, Try.ntmps62
 go_upto_region 1 with (first | ((with_reducible refine gate_dst (N := 2) rfl ?_); (try (refine gate_guard (by rfl) ?_; dsimp only)); refine box_event ?hg (N := 2) ?hd (cs := #[.int .i64 a0_0, .int .i64 a0_1, .int .i64 a0_2]) (t := 43) ?hr ?_; (case hd => rfl); (case hg => rfl); (case hr => first | (go_simp; done) | (go_simp; rfl)); intro gb107 hg w4 hbox hb; have n0_ := Aside0.mk (below_step zA3_7 hb); have n1_ := Aside0.mk (hbox); have n2_ := Aside0.mk ((by rw [hg]; exact (below_size zA3_7) : w.heap.size ≤ gb107)); have n3_ := Aside0.mk ((by rw [hg]; exact (below_size zA3_7) : w.heap.size ≤ gb107)); clear HB; have HB := n0_; have BK107 := n1_; have GW107 := n2_; have GE107 := n3_; clear n0_ n1_ n2_ n3_; clear hb hbox hg) | ((with_reducible refine gate_dst (N := 3) rfl ?_); (try (refine gate_guard (by rfl) ?_; dsimp only)); refine box_event ?hg (N := 3) ?hd (cs := #[.bool a1_0, .int .i64 a1_1, .int .i64 a1_2, .bool a1_3, .int .i64 a1_4, .int .i64 a1_5, .int .i64 a1_6, .int .i64 a1_7, .int .i64 a1_8, .int .i64 a1_9, .int .i64 a1_10, .int .i64 a1_11, .int .i64 a1_12, .int .i64 a1_13, .int .i64 a1_14, .bool a1_15, .int .i64 a1_16, .int .u64 a1_17, .int .u64 a1_18, .int .u64 a1_19, .int .u64 a1_20, .slice A1_21 l1_21.length c1_21, .slice A1_22 l1_22.length c1_22, .int .i64 a1_23, .int .i64 a1_24, .int .i64 a1_25]) (t := 59) ?hr ?_; (case hd => rfl); (case hg => rfl); (case hr => first | (go_simp; done) | (go_simp; rfl)); intro gb108 hg w5 hbox hb; have n0_ := Aside0.mk (blk_below zA3_1 hb); have n1_ := Aside0.mk (below_step zA3_6 hb); have n2_ := Aside0.mk (hbox); have n3_ := Aside0.mk ((by rw [hg]; exact (below_size zA3_6) : w.heap.size ≤ gb108)); have n4_ := Aside0.mk ((by rw [hg]; exact (below_size zA3_6) : w.heap.size ≤ gb108)); have n5_ := Aside0.mk ((by rw [hg]; exact Nat.ne_of_lt (blk_lt (g := gb107) (o := .cells #[.int .i64 a0_0, .int .i64 a0_1, .int .i64 a0_2] 43 (0, 0)) zA3_1) : gb107 ≠ gb108)); have n6_ := Aside0.mk ((by rw [hg]; exact Nat.ne_of_gt (blk_lt (g := gb107) (o := .cells #[.int .i64 a0_0, .int .i64 a0_1, .int .i64 a0_2] 43 (0, 0)) zA3_1) : gb108 ≠ gb107)); clear BK107; clear HB; have BK107 := n0_; have HB := n1_; have BK108 := n2_; have GW108 := n3_; have GE108 := n4_; have NB107_108 := n5_; have NB108_107 := n6_; clear n0_ n1_ n2_ n3_ n4_ n5_ n6_; clear hb hbox hg))
 (try simp only [Act.put, List.setIfInBounds_toArray, List.set_cons_zero, List.set_cons_succ])
 go_cut [5] (fun v5 wc => ∃ (kq : Nat) (x5_2 : Bool), v5 = .bool x5_2 ∧ Aside0 (spec_l6Place.j0 kq x5_2 a0_0 a0_1 a0_2 a1_0 a1_1 a1_2 a1_3 a1_4 a1_5 a1_6 a1_7 a1_8 a1_9 a1_10 a1_11 a1_12 a1_13 a1_14 a1_15 a1_16 a1_17 a1_18 a1_19 a1_20 l1_21 l1_22 a1_23 a1_24 a1_25 = some r) ∧ Aside0 (kq ≤ k) ∧ Aside0 (wc.heap[gb107]? = some (.cells #[.int .i64 a0_0, .int .i64 a0_1, .int .i64 a0_2] 43 (0, 0))) ∧ Aside0 (wc.heap[gb108]? = some (.cells #[.bool a1_0, .int .i64 a1_1, .int .i64 a1_2, .bool a1_3, .int .i64 a1_4, .int .i64 a1_5, .int .i64 a1_6, .int .i64 a1_7, .int .i64 a1_8, .int .i64 a1_9, .int .i64 a1_10, .int .i64 a1_11, .int .i64 a1_12, .int .i64 a1_13, .int .i64 a1_14, .bool a1_15, .int .i64 a1_16, .int .u64 a1_17, .int .u64 a1_18, .int .u64 a1_19, .int .u64 a1_20, (.slice A1_21 l1_21.length c1_21), (.slice A1_22 l1_22.length c1_22), .int .i64 a1_23, .int .i64 a1_24, .int .i64 a1_25] 59 (0, 0))) ∧ Aside0 (Below w.heap.size w wc))
 case first =>
  as_aux_lemma =>
  have H := HC3.out
  clear HC3
  by_cases c6 : a1_15 = true
  ·subst c6
   have H1 : (if a1_8 < 23 then (spec_l6Place.j0 k true a0_0 a0_1 a0_2 a1_0 a1_1 a1_2 a1_3 a1_4 a1_5 a1_6 a1_7 a1_8 a1_9 a1_10 a1_11 a1_12 a1_13 a1_14 true a1_16 a1_17 a1_18 a1_19 a1_20 l1_21 l1_22 a1_23 a1_24 a1_25) else (spec_l6Place.j0 k (decide (a1_8 > 25)) a0_0 a0_1 a0_2 a1_0 a1_1 a1_2 a1_3 a1_4 a1_5 a1_6 a1_7 a1_8 a1_9 a1_10 a1_11 a1_12 a1_13 a1_14 true a1_16 a1_17 a1_18 a1_19 a1_20 l1_21 l1_22 a1_23 a1_24 a1_25)) = some r := by rw [if_pos rfl] at H; exact H
   clear H
   have H := H1
   clear H1
   by_cases c7 : a1_8 < 23
   ·rw [if_pos c7] at H
    have c7b0 : decide (a1_8 < 23) = true := decide_eq_true c7
    clear c7
    (first | rw [c7b0] | (simp only [i64_w, i32_w]; rw [c7b0]) | skip)
    have H' := Aside0.mk H
    clear H
    have hnb8 := NB108_107.out
    have hnc8 := NB107_108.out
    obtain ⟨_, _, _, _, _, _, _, _, _, _, _, _, _, _, _, _, _, _, _, _, _, _, _, _, _, _, _, _, _, _, _, _, _, _, _, _, _, _, _, _, _, _, _, _, _, _, _, _, _, _, _, _⟩ := zf3_26 BK108.out
    go_wp2
    go_meet
    case rel => exact ⟨_, (true), zA3_8, H', ⟨by first | omega | exact Nat.le_refl _⟩, ⟨zA3_1⟩, ⟨zA3_3⟩, ⟨zA3_0⟩⟩
   ·rw [if_neg c7] at H
    have c7b0 : decide (a1_8 < 23) = false := decide_eq_false c7
    clear c7
    (first | rw [c7b0] | (simp only [i64_w, i32_w]; rw [c7b0]) | skip)
    have H' := Aside0.mk H
    clear H
    have hnb10 := NB108_107.out
    have hnc10 := NB107_108.out
    obtain ⟨_, _, _, _, _, _, _, _, _, _, _, _, _, _, _, _, _, _, _, _, _, _, _, _, _, _, _, _, _, _, _, _, _, _, _, _, _, _, _, _, _, _, _, _, _, _, _, _, _, _, _, _⟩ := zf3_26 BK108.out
    go_wp2
    go_meet
    case rel => exact ⟨_, (decide (a1_8 > 25)), zA3_8, H', ⟨by first | omega | exact Nat.le_refl _⟩, ⟨zA3_1⟩, ⟨zA3_3⟩, ⟨zA3_0⟩⟩
  ·replace c6 := Bool.eq_false_iff.mpr c6
   subst c6
   have H1 : (spec_l6Place.j0 k false a0_0 a0_1 a0_2 a1_0 a1_1 a1_2 a1_3 a1_4 a1_5 a1_6 a1_7 a1_8 a1_9 a1_10 a1_11 a1_12 a1_13 a1_14 false a1_16 a1_17 a1_18 a1_19 a1_20 l1_21 l1_22 a1_23 a1_24 a1_25) = some r := by rw [if_neg (show ¬ (false = true) by decide)] at H; exact H
   clear H
   have H := H1
   clear H1
   have H' := Aside0.mk H
   clear H
   have hnb12 := NB108_107.out
   have hnc12 := NB107_108.out
   obtain ⟨_, _, _, _, _, _, _, _, _, _, _, _, _, _, _, _, _, _, _, _, _, _, _, _, _, _, _, _, _, _, _, _, _, _, _, _, _, _, _, _, _, _, _, _, _, _, _, _, _, _, _, _⟩ := zf3_26 BK108.out
   go_wp2
   go_meet
   case rel => exact ⟨_, (false), zA3_8, H', ⟨by first | omega | exact Nat.le_refl _⟩, ⟨zA3_1⟩, ⟨zA3_3⟩, ⟨zA3_0⟩⟩
 case rest =>
  as_aux_lemma =>
  clear HC3
  try clear c1
  try clear p2
  try clear c6
  try clear c7
  try clear c7b0
  try clear c8
  try clear c10
  try clear c12
  obtain ⟨kq, x5_2, rfl, HA, HJ2, BK107, BK108, HB⟩ := hcut
  cases kq with
  | zero => exact absurd HA.out (by simp [spec_l6Place.j0])
  | succ kj2 =>
   have H := HA.out
   clear HA
   simp only [spec_l6Place.j0] at H
   by_cases c14 : x5_2 = true
   ·subst c14
    have H1 : (some false) = some r := by rw [if_pos rfl] at H; exact H
    clear H
    have H := H1
    clear H1
    obtain rfl := Option.some.inj H
    go_wp2
    go_ret
    exact ⟨zA3_2, zA3_0⟩
   ·replace c14 := Bool.eq_false_iff.mpr c14
    subst c14
    have H1 : (if a1_8 = 11 then (if (l1_21.length : Int) = a1_9 then ((spec_l2House.f a0_0 a0_1 a0_2).bind fun t109 => (some (decide (a1_9 < t109)))) else (some false)) else (if a1_8 = 12 then ((spec_l2House.f a0_0 a0_1 a0_2).bind fun t110 => (if (l1_21.length : Int) = t110 then (if a1_6 ≥ 0 then (some (decide (a1_6 < a0_0))) else (some false)) else (some false))) else (if a1_8 ≥ 16 then (spec_l6Place.j1 kj2 (decide (a1_8 ≤ 21)) a0_0 a0_1 a0_2 a1_0 a1_1 a1_2 a1_3 a1_4 a1_5 a1_6 a1_7 a1_8 a1_9 a1_10 a1_11 a1_12 a1_13 a1_14 a1_15 a1_16 a1_17 a1_18 a1_19 a1_20 l1_21 l1_22 a1_23 a1_24 a1_25) else (spec_l6Place.j1 kj2 false a0_0 a0_1 a0_2 a1_0 a1_1 a1_2 a1_3 a1_4 a1_5 a1_6 a1_7 a1_8 a1_9 a1_10 a1_11 a1_12 a1_13 a1_14 a1_15 a1_16 a1_17 a1_18 a1_19 a1_20 l1_21 l1_22 a1_23 a1_24 a1_25)))) = some r := by rw [if_neg (show ¬ (false = true) by decide)] at H; exact H
    clear H
    have H := H1
    clear H1
    by_cases c15 : a1_8 = 11
    ·rw [if_pos c15] at H
     have c15b0 : (a1_8 == 11) = true := beq_iff_eq.mpr c15
     have c15b1 : (a1_8 != 11) = false := bne_eq_false_iff_eq.mpr c15
     clear c15
     by_cases c16 : (l1_21.length : Int) = a1_9
     ·rw [if_pos c16] at H
      have c16b0 : ((l1_21.length : Int) == a1_9) = true := beq_iff_eq.mpr c16
      have c16b1 : ((l1_21.length : Int) != a1_9) = false := bne_eq_false_iff_eq.mpr c16
      clear c16
      replace H := Option.bind_eq_some_iff.mp H
      obtain ⟨t109, A170, H⟩ := H
      replace H : (some (decide (a1_9 < t109))) = some r := H
      have A17 := Aside0.mk A170
      clear A170
      obtain rfl := Option.some.inj H
      have hnb18 := NB108_107.out
      have hnc18 := NB107_108.out
      obtain ⟨_, _, _, _, _, _, _, _, _, _, _, _, _, _, _, _, _, _, _, _, _, _, _, _, _, _, _, _, _, _, _, _, _, _, _, _, _, _, _, _, _, _, _, _, _, _, _, _, _, _, _, _⟩ := zf3_26 BK108.out
      try go_wp2
      have n0_ := Aside0.mk (blk_drew BK107.out)
      have n1_ := Aside0.mk (blk_drew BK108.out)
      have n2_ := Aside0.mk (below_drew1 HB.out)
      clear BK107
      clear BK108
      clear HB
      have BK107 := n0_
      have BK108 := n1_
      have HB := n2_
      clear n0_ n1_ n2_
      refine start_ (n := 14) (S := zS3_0 gb108 a1_0 a1_1 a1_2 a1_3 a1_4 a1_5 a1_6 a1_7 a1_8 a1_9 a1_10 a1_11 a1_12 a1_13 a1_14 a1_15 a1_16 a1_17 a1_18 a1_19 a1_20 A1_21 l1_21 c1_21 A1_22 l1_22 c1_22 a1_23 a1_24 a1_25 gb107 a0_0 a0_1 a0_2) (ds := []) zl3_21 zA3_4 rfl rfl ⟨(blk_cell BK108.out 0).trans rfl, (blk_cell BK108.out 1).trans rfl, (blk_cell BK108.out 2).trans rfl, (blk_cell BK108.out 3).trans rfl, (blk_cell BK108.out 4).trans rfl, (blk_cell BK108.out 5).trans rfl, (blk_cell BK108.out 6).trans rfl, (blk_cell BK108.out 7).trans rfl, (blk_cell BK108.out 8).trans rfl, (blk_cell BK108.out 9).trans rfl, (blk_cell BK108.out 10).trans rfl, (blk_cell BK108.out 11).trans rfl, (blk_cell BK108.out 12).trans rfl, (blk_cell BK108.out 13).trans rfl, (blk_cell BK108.out 14).trans rfl, (blk_cell BK108.out 15).trans rfl, (blk_cell BK108.out 16).trans rfl, (blk_cell BK108.out 17).trans rfl, (blk_cell BK108.out 18).trans rfl, (blk_cell BK108.out 19).trans rfl, (blk_cell BK108.out 20).trans rfl, (blk_cell BK108.out 21).trans rfl, (blk_cell BK108.out 22).trans rfl, (blk_cell BK108.out 23).trans rfl, (blk_cell BK108.out 24).trans rfl, (blk_cell BK108.out 25).trans rfl, (blk_cell BK107.out 0).trans rfl, (blk_cell BK107.out 1).trans rfl, (blk_cell BK107.out 2).trans rfl⟩ (fun hHeld => ?_); refine with_tabW spec_l6Place.tab4 spec_l6Place.bits4 (fun HT_ HW_ => ?_)
      generalize wc.drew = w20 at BK107 BK108 HB hHeld ⊢
      refine zp3_ 0 22 zl3_22 (any_of HT_.out zA3_4) ?_
      refine zp3_ 3 25 zl3_23 (any_of HT_.out zA3_4) ?_
      refine zt3_28_ 1 23 zl3_24 (take_ofW HT_.out HW_.out zA3_4) hHeld ?_
      refine zp3_ 2 24 zl3_25 (any_of HT_.out zA3_4) ?_
      refine zt3_28_ 4 26 zl3_26 (take_ofW HT_.out HW_.out zA3_4) hHeld ?_
      refine zp3_ 5 27 zl3_27 (any_of HT_.out zA3_4) ?_
      refine zp3_ 6 28 zl3_28 (any_of HT_.out zA3_4) ?_
      refine zp3_ 7 29 zl3_29 (any_of HT_.out zA3_4) ?_
      refine zt3_28_ 8 30 zl3_30 (take_ofW HT_.out HW_.out zA3_4) hHeld ?_
      refine zt3_28_ 9 31 zl3_31 (take_ofW HT_.out HW_.out zA3_4) hHeld ?_
      refine one_ (i := 10) (N := some 32) zl3_32 rfl rfl (one_of HT_.out zA3_4) (by decide) (fun K hK => ?_)
      refine goes_ Try.func50 zA3_4 rfl #[.agg #[.int .i64 a0_0, .int .i64 a0_1, .int .i64 a0_2]] (by rfl) rfl rfl zA3_5 ?_
      with_reducible refine (spec_l2House.calls a0_0 a0_1 a0_2 t109 _ A17.out).mono ?_
      rintro e w21 ⟨rfl, hb⟩
      refine ⟨_, rfl, ?_⟩
      have n0_ := Aside0.mk (blk_below zA3_1 hb)
      have n1_ := Aside0.mk (blk_below zA3_3 hb)
      have n2_ := Aside0.mk (below_step zA3_0 hb)
      clear BK107
      clear BK108
      clear HB
      have BK107 := n0_
      have BK108 := n1_
      have HB := n2_
      clear n0_ n1_ n2_
      (try clear hb)
      (try clear hb2)
      (try clear hk)
      (try clear hi)
      refine hK.out _ _ ⟨(blk_cell BK108.out 0).trans rfl, (blk_cell BK108.out 1).trans rfl, (blk_cell BK108.out 2).trans rfl, (blk_cell BK108.out 3).trans rfl, (blk_cell BK108.out 4).trans rfl, (blk_cell BK108.out 5).trans rfl, (blk_cell BK108.out 6).trans rfl, (blk_cell BK108.out 7).trans rfl, (blk_cell BK108.out 8).trans rfl, (blk_cell BK108.out 9).trans rfl, (blk_cell BK108.out 10).trans rfl, (blk_cell BK108.out 11).trans rfl, (blk_cell BK108.out 12).trans rfl, (blk_cell BK108.out 13).trans rfl, (blk_cell BK108.out 14).trans rfl, (blk_cell BK108.out 15).trans rfl, (blk_cell BK108.out 16).trans rfl, (blk_cell BK108.out 17).trans rfl, (blk_cell BK108.out 18).trans rfl, (blk_cell BK108.out 19).trans rfl, (blk_cell BK108.out 20).trans rfl, (blk_cell BK108.out 21).trans rfl, (blk_cell BK108.out 22).trans rfl, (blk_cell BK108.out 23).trans rfl, (blk_cell BK108.out 24).trans rfl, (blk_cell BK108.out 25).trans rfl, (blk_cell BK107.out 0).trans rfl, (blk_cell BK107.out 1).trans rfl, (blk_cell BK107.out 2).trans rfl⟩ (fun hHeld => ?_)
      clear hK K
      refine norm_ (a' := ?_) ?_ ?_
      rotate_left
      ·show Act.put _ (some 32) _ = _
       simp only [Act.put, List.setIfInBounds_toArray, List.set_cons_zero, List.set_cons_succ, i64_w, i32_w]
       rfl
      refine zp3_ 11 33 zl3_33 (any_of HT_.out zA3_4) ?_
      refine zp3_ 12 34 zl3_34 (any_of HT_.out zA3_4) ?_
      refine zp3_ 13 4 zl3_35 (any_of HT_.out zA3_4) ?_
      refine done_ (done_of HT_.out zA3_4) ?_
      try go_wp2
      go_ret
      exact ⟨zA3_2, zA3_0⟩
     ·rw [if_neg c16] at H
      have c16b0 : ((l1_21.length : Int) == a1_9) = false := beq_eq_false_iff_ne.mpr c16
      have c16b1 : ((l1_21.length : Int) != a1_9) = true := bne_iff_ne.mpr c16
      obtain rfl := Option.some.inj H
      have hnb22 := NB108_107.out
      have hnc22 := NB107_108.out
      obtain ⟨_, _, _, _, _, _, _, _, _, _, _, _, _, _, _, _, _, _, _, _, _, _, _, _, _, _, _, _, _, _, _, _, _, _, _, _, _, _, _, _, _, _, _, _, _, _, _, _, _, _, _, _⟩ := zf3_26 BK108.out
      try go_wp2
      have n0_ := Aside0.mk (blk_drew BK107.out)
      have n1_ := Aside0.mk (blk_drew BK108.out)
      have n2_ := Aside0.mk (below_drew1 HB.out)
      clear BK107
      clear BK108
      clear HB
      have BK107 := n0_
      have BK108 := n1_
      have HB := n2_
      clear n0_ n1_ n2_
      refine start_ (n := 14) (S := fun w' => w'.cell? ⟨gb108, 0, none⟩ = some (.bool a1_0) ∧ w'.cell? ⟨gb108, 1, none⟩ = some (.int .i64 a1_1) ∧ w'.cell? ⟨gb108, 2, none⟩ = some (.int .i64 a1_2) ∧ w'.cell? ⟨gb108, 3, none⟩ = some (.bool a1_3) ∧ w'.cell? ⟨gb108, 4, none⟩ = some (.int .i64 a1_4) ∧ w'.cell? ⟨gb108, 5, none⟩ = some (.int .i64 a1_5) ∧ w'.cell? ⟨gb108, 6, none⟩ = some (.int .i64 a1_6) ∧ w'.cell? ⟨gb108, 7, none⟩ = some (.int .i64 a1_7) ∧ w'.cell? ⟨gb108, 8, none⟩ = some (.int .i64 a1_8) ∧ w'.cell? ⟨gb108, 9, none⟩ = some (.int .i64 a1_9) ∧ w'.cell? ⟨gb108, 10, none⟩ = some (.int .i64 a1_10) ∧ w'.cell? ⟨gb108, 11, none⟩ = some (.int .i64 a1_11) ∧ w'.cell? ⟨gb108, 12, none⟩ = some (.int .i64 a1_12) ∧ w'.cell? ⟨gb108, 13, none⟩ = some (.int .i64 a1_13) ∧ w'.cell? ⟨gb108, 14, none⟩ = some (.int .i64 a1_14) ∧ w'.cell? ⟨gb108, 15, none⟩ = some (.bool a1_15) ∧ w'.cell? ⟨gb108, 16, none⟩ = some (.int .i64 a1_16) ∧ w'.cell? ⟨gb108, 17, none⟩ = some (.int .u64 a1_17) ∧ w'.cell? ⟨gb108, 18, none⟩ = some (.int .u64 a1_18) ∧ w'.cell? ⟨gb108, 19, none⟩ = some (.int .u64 a1_19) ∧ w'.cell? ⟨gb108, 20, none⟩ = some (.int .u64 a1_20) ∧ w'.cell? ⟨gb108, 21, none⟩ = some (.slice A1_21 l1_21.length c1_21) ∧ w'.cell? ⟨gb108, 22, none⟩ = some (.slice A1_22 l1_22.length c1_22) ∧ w'.cell? ⟨gb108, 23, none⟩ = some (.int .i64 a1_23) ∧ w'.cell? ⟨gb108, 24, none⟩ = some (.int .i64 a1_24) ∧ w'.cell? ⟨gb108, 25, none⟩ = some (.int .i64 a1_25)) (ds := []) zl3_21 zA3_4 rfl rfl ⟨(blk_cell BK108.out 0).trans rfl, (blk_cell BK108.out 1).trans rfl, (blk_cell BK108.out 2).trans rfl, (blk_cell BK108.out 3).trans rfl, (blk_cell BK108.out 4).trans rfl, (blk_cell BK108.out 5).trans rfl, (blk_cell BK108.out 6).trans rfl, (blk_cell BK108.out 7).trans rfl, (blk_cell BK108.out 8).trans rfl, (blk_cell BK108.out 9).trans rfl, (blk_cell BK108.out 10).trans rfl, (blk_cell BK108.out 11).trans rfl, (blk_cell BK108.out 12).trans rfl, (blk_cell BK108.out 13).trans rfl, (blk_cell BK108.out 14).trans rfl, (blk_cell BK108.out 15).trans rfl, (blk_cell BK108.out 16).trans rfl, (blk_cell BK108.out 17).trans rfl, (blk_cell BK108.out 18).trans rfl, (blk_cell BK108.out 19).trans rfl, (blk_cell BK108.out 20).trans rfl, (blk_cell BK108.out 21).trans rfl, (blk_cell BK108.out 22).trans rfl, (blk_cell BK108.out 23).trans rfl, (blk_cell BK108.out 24).trans rfl, (blk_cell BK108.out 25).trans rfl⟩ (fun hHeld => ?_); refine with_tabW spec_l6Place.tab4 spec_l6Place.bits4 (fun HT_ HW_ => ?_)
      generalize wc.drew = w24 at BK107 BK108 HB hHeld ⊢
      refine zp3_ 0 22 zl3_22 (any_of HT_.out zA3_4) ?_
      refine zp3_ 3 25 zl3_23 (any_of HT_.out zA3_4) ?_
      refine zt3_25_ 1 23 zl3_24 (take_ofW HT_.out HW_.out zA3_4) hHeld ?_
      refine zp3_ 2 24 zl3_25 (any_of HT_.out zA3_4) ?_
      refine zt3_25_ 4 26 zl3_26 (take_ofW HT_.out HW_.out zA3_4) hHeld ?_
      refine zp3_ 5 27 zl3_27 (any_of HT_.out zA3_4) ?_
      refine zp3_ 6 28 zl3_28 (any_of HT_.out zA3_4) ?_
      refine zu3_ 7 29 zl3_29 (any_of HT_.out zA3_4) ?_
      refine zu3_ 8 30 zl3_30 (any_of HT_.out zA3_4) ?_
      refine zu3_ 9 31 zl3_31 (any_of HT_.out zA3_4) ?_
      refine zu3_ 10 32 zl3_32 (any_of HT_.out zA3_4) ?_
      refine zu3_ 11 33 zl3_33 (any_of HT_.out zA3_4) ?_
      refine zp3_ 12 34 zl3_34 (any_of HT_.out zA3_4) ?_
      refine zp3_ 13 4 zl3_35 (any_of HT_.out zA3_4) ?_
      refine done_ (done_of HT_.out zA3_4) ?_
      try go_wp2
      go_ret
      exact ⟨zA3_2, zA3_0⟩
    ·rw [if_neg c15] at H
     have c15b0 : (a1_8 == 11) = false := beq_eq_false_iff_ne.mpr c15
     have c15b1 : (a1_8 != 11) = true := bne_iff_ne.mpr c15
     by_cases c25 : a1_8 = 12
     ·rw [if_pos c25] at H
      have c25b0 : (a1_8 == 12) = true := beq_iff_eq.mpr c25
      have c25b1 : (a1_8 != 12) = false := bne_eq_false_iff_eq.mpr c25
      clear c25
      replace H := Option.bind_eq_some_iff.mp H
      obtain ⟨t110, A260, H⟩ := H
      replace H : (if (l1_21.length : Int) = t110 then (if a1_6 ≥ 0 then (some (decide (a1_6 < a0_0))) else (some false)) else (some false)) = some r := H
      have A26 := Aside0.mk A260
      clear A260
      by_cases c27 : (l1_21.length : Int) = t110
      ·rw [if_pos c27] at H
       have c27b0 : ((l1_21.length : Int) == t110) = true := beq_iff_eq.mpr c27
       have c27b1 : ((l1_21.length : Int) != t110) = false := bne_eq_false_iff_eq.mpr c27
       clear c27
       by_cases c28 : a1_6 ≥ 0
       ·rw [if_pos c28] at H
        have c28b0 : decide (0 ≤ a1_6) = true := decide_eq_true c28
        clear c28
        obtain rfl := Option.some.inj H
        have hnb29 := NB108_107.out
        have hnc29 := NB107_108.out
        obtain ⟨_, _, _, _, _, _, _, _, _, _, _, _, _, _, _, _, _, _, _, _, _, _, _, _, _, _, _, _, _, _, _, _, _, _, _, _, _, _, _, _, _, _, _, _, _, _, _, _, _, _, _, _⟩ := zf3_26 BK108.out
        try go_wp2
        have n0_ := Aside0.mk (blk_drew BK107.out)
        have n1_ := Aside0.mk (blk_drew BK108.out)
        have n2_ := Aside0.mk (below_drew1 HB.out)
        clear BK107
        clear BK108
        clear HB
        have BK107 := n0_
        have BK108 := n1_
        have HB := n2_
        clear n0_ n1_ n2_
        refine start_ (n := 21) (S := zS3_0 gb108 a1_0 a1_1 a1_2 a1_3 a1_4 a1_5 a1_6 a1_7 a1_8 a1_9 a1_10 a1_11 a1_12 a1_13 a1_14 a1_15 a1_16 a1_17 a1_18 a1_19 a1_20 A1_21 l1_21 c1_21 A1_22 l1_22 c1_22 a1_23 a1_24 a1_25 gb107 a0_0 a0_1 a0_2) (ds := []) zl3_0 zA3_4 rfl rfl ⟨(blk_cell BK108.out 0).trans rfl, (blk_cell BK108.out 1).trans rfl, (blk_cell BK108.out 2).trans rfl, (blk_cell BK108.out 3).trans rfl, (blk_cell BK108.out 4).trans rfl, (blk_cell BK108.out 5).trans rfl, (blk_cell BK108.out 6).trans rfl, (blk_cell BK108.out 7).trans rfl, (blk_cell BK108.out 8).trans rfl, (blk_cell BK108.out 9).trans rfl, (blk_cell BK108.out 10).trans rfl, (blk_cell BK108.out 11).trans rfl, (blk_cell BK108.out 12).trans rfl, (blk_cell BK108.out 13).trans rfl, (blk_cell BK108.out 14).trans rfl, (blk_cell BK108.out 15).trans rfl, (blk_cell BK108.out 16).trans rfl, (blk_cell BK108.out 17).trans rfl, (blk_cell BK108.out 18).trans rfl, (blk_cell BK108.out 19).trans rfl, (blk_cell BK108.out 20).trans rfl, (blk_cell BK108.out 21).trans rfl, (blk_cell BK108.out 22).trans rfl, (blk_cell BK108.out 23).trans rfl, (blk_cell BK108.out 24).trans rfl, (blk_cell BK108.out 25).trans rfl, (blk_cell BK107.out 0).trans rfl, (blk_cell BK107.out 1).trans rfl, (blk_cell BK107.out 2).trans rfl⟩ (fun hHeld => ?_); refine with_tabW spec_l6Place.tab6 spec_l6Place.bits6 (fun HT_ HW_ => ?_)
        generalize wc.drew = w31 at BK107 BK108 HB hHeld ⊢
        refine zp3_ 0 39 zl3_1 (any_of HT_.out zA3_4) ?_
        refine zt3_28_ 1 40 zl3_2 (take_ofW HT_.out HW_.out zA3_4) hHeld ?_
        refine zp3_ 2 41 zl3_3 (any_of HT_.out zA3_4) ?_
        refine zt3_28_ 3 42 zl3_4 (take_ofW HT_.out HW_.out zA3_4) hHeld ?_
        refine one_ (i := 4) (N := some 43) zl3_5 rfl rfl (one_of HT_.out zA3_4) (by decide) (fun K hK => ?_)
        refine goes_ Try.func50 zA3_4 rfl #[.agg #[.int .i64 a0_0, .int .i64 a0_1, .int .i64 a0_2]] (by rfl) rfl rfl zA3_5 ?_
        with_reducible refine (spec_l2House.calls a0_0 a0_1 a0_2 t110 _ A26.out).mono ?_
        rintro e w32 ⟨rfl, hb⟩
        refine ⟨_, rfl, ?_⟩
        have n0_ := Aside0.mk (blk_below zA3_1 hb)
        have n1_ := Aside0.mk (blk_below zA3_3 hb)
        have n2_ := Aside0.mk (below_step zA3_0 hb)
        clear BK107
        clear BK108
        clear HB
        have BK107 := n0_
        have BK108 := n1_
        have HB := n2_
        clear n0_ n1_ n2_
        (try clear hb)
        (try clear hb2)
        (try clear hk)
        (try clear hi)
        refine hK.out _ _ ⟨(blk_cell BK108.out 0).trans rfl, (blk_cell BK108.out 1).trans rfl, (blk_cell BK108.out 2).trans rfl, (blk_cell BK108.out 3).trans rfl, (blk_cell BK108.out 4).trans rfl, (blk_cell BK108.out 5).trans rfl, (blk_cell BK108.out 6).trans rfl, (blk_cell BK108.out 7).trans rfl, (blk_cell BK108.out 8).trans rfl, (blk_cell BK108.out 9).trans rfl, (blk_cell BK108.out 10).trans rfl, (blk_cell BK108.out 11).trans rfl, (blk_cell BK108.out 12).trans rfl, (blk_cell BK108.out 13).trans rfl, (blk_cell BK108.out 14).trans rfl, (blk_cell BK108.out 15).trans rfl, (blk_cell BK108.out 16).trans rfl, (blk_cell BK108.out 17).trans rfl, (blk_cell BK108.out 18).trans rfl, (blk_cell BK108.out 19).trans rfl, (blk_cell BK108.out 20).trans rfl, (blk_cell BK108.out 21).trans rfl, (blk_cell BK108.out 22).trans rfl, (blk_cell BK108.out 23).trans rfl, (blk_cell BK108.out 24).trans rfl, (blk_cell BK108.out 25).trans rfl, (blk_cell BK107.out 0).trans rfl, (blk_cell BK107.out 1).trans rfl, (blk_cell BK107.out 2).trans rfl⟩ (fun hHeld => ?_)
        clear hK K
        refine norm_ (a' := ?_) ?_ ?_
        rotate_left
        ·show Act.put _ (some 43) _ = _
         simp only [Act.put, List.setIfInBounds_toArray, List.set_cons_zero, List.set_cons_succ, i64_w, i32_w]
         rfl
        refine zp3_ 5 44 zl3_6 (any_of HT_.out zA3_4) ?_
        refine zp3_ 6 45 zl3_7 (any_of HT_.out zA3_4) ?_
        refine zp3_ 7 46 zl3_8 (any_of HT_.out zA3_4) ?_
        refine zp3_ 8 47 zl3_9 (any_of HT_.out zA3_4) ?_
        refine zt3_28_ 9 48 zl3_10 (take_ofW HT_.out HW_.out zA3_4) hHeld ?_
        refine zp3_ 10 49 zl3_11 (any_of HT_.out zA3_4) ?_
        refine zp3_ 11 50 zl3_12 (any_of HT_.out zA3_4) ?_
        refine zp3_ 12 51 zl3_13 (any_of HT_.out zA3_4) ?_
        refine zp3_ 13 52 zl3_14 (any_of HT_.out zA3_4) ?_
        refine zp3_ 14 53 zl3_15 (any_of HT_.out zA3_4) ?_
        refine zp3_ 16 55 zl3_37 (any_of HT_.out zA3_4) ?_
        refine zt3_28_ 15 54 zl3_16 (take_ofW HT_.out HW_.out zA3_4) hHeld ?_
        refine zt3_28_ 17 56 zl3_17 (take_ofW HT_.out HW_.out zA3_4) hHeld ?_
        refine zp3_ 18 57 zl3_18 (any_of HT_.out zA3_4) ?_
        refine zp3_ 19 58 zl3_19 (any_of HT_.out zA3_4) ?_
        refine zp3_ 20 4 zl3_20 (any_of HT_.out zA3_4) ?_
        refine done_ (done_of HT_.out zA3_4) ?_
        try go_wp2
        go_ret
        exact ⟨zA3_2, zA3_0⟩
       ·rw [if_neg c28] at H
        have c28b0 : decide (0 ≤ a1_6) = false := decide_eq_false c28
        clear c28
        obtain rfl := Option.some.inj H
        have hnb33 := NB108_107.out
        have hnc33 := NB107_108.out
        obtain ⟨_, _, _, _, _, _, _, _, _, _, _, _, _, _, _, _, _, _, _, _, _, _, _, _, _, _, _, _, _, _, _, _, _, _, _, _, _, _, _, _, _, _, _, _, _, _, _, _, _, _, _, _⟩ := zf3_26 BK108.out
        try go_wp2
        have n0_ := Aside0.mk (blk_drew BK107.out)
        have n1_ := Aside0.mk (blk_drew BK108.out)
        have n2_ := Aside0.mk (below_drew1 HB.out)
        clear BK107
        clear BK108
        clear HB
        have BK107 := n0_
        have BK108 := n1_
        have HB := n2_
        clear n0_ n1_ n2_
        refine start_ (n := 21) (S := zS3_0 gb108 a1_0 a1_1 a1_2 a1_3 a1_4 a1_5 a1_6 a1_7 a1_8 a1_9 a1_10 a1_11 a1_12 a1_13 a1_14 a1_15 a1_16 a1_17 a1_18 a1_19 a1_20 A1_21 l1_21 c1_21 A1_22 l1_22 c1_22 a1_23 a1_24 a1_25 gb107 a0_0 a0_1 a0_2) (ds := []) zl3_0 zA3_4 rfl rfl ⟨(blk_cell BK108.out 0).trans rfl, (blk_cell BK108.out 1).trans rfl, (blk_cell BK108.out 2).trans rfl, (blk_cell BK108.out 3).trans rfl, (blk_cell BK108.out 4).trans rfl, (blk_cell BK108.out 5).trans rfl, (blk_cell BK108.out 6).trans rfl, (blk_cell BK108.out 7).trans rfl, (blk_cell BK108.out 8).trans rfl, (blk_cell BK108.out 9).trans rfl, (blk_cell BK108.out 10).trans rfl, (blk_cell BK108.out 11).trans rfl, (blk_cell BK108.out 12).trans rfl, (blk_cell BK108.out 13).trans rfl, (blk_cell BK108.out 14).trans rfl, (blk_cell BK108.out 15).trans rfl, (blk_cell BK108.out 16).trans rfl, (blk_cell BK108.out 17).trans rfl, (blk_cell BK108.out 18).trans rfl, (blk_cell BK108.out 19).trans rfl, (blk_cell BK108.out 20).trans rfl, (blk_cell BK108.out 21).trans rfl, (blk_cell BK108.out 22).trans rfl, (blk_cell BK108.out 23).trans rfl, (blk_cell BK108.out 24).trans rfl, (blk_cell BK108.out 25).trans rfl, (blk_cell BK107.out 0).trans rfl, (blk_cell BK107.out 1).trans rfl, (blk_cell BK107.out 2).trans rfl⟩ (fun hHeld => ?_); refine with_tabW spec_l6Place.tab6 spec_l6Place.bits6 (fun HT_ HW_ => ?_)
        generalize wc.drew = w35 at BK107 BK108 HB hHeld ⊢
        refine zp3_ 0 39 zl3_1 (any_of HT_.out zA3_4) ?_
        refine zt3_28_ 1 40 zl3_2 (take_ofW HT_.out HW_.out zA3_4) hHeld ?_
        refine zp3_ 2 41 zl3_3 (any_of HT_.out zA3_4) ?_
        refine zt3_28_ 3 42 zl3_4 (take_ofW HT_.out HW_.out zA3_4) hHeld ?_
        refine one_ (i := 4) (N := some 43) zl3_5 rfl rfl (one_of HT_.out zA3_4) (by decide) (fun K hK => ?_)
        refine goes_ Try.func50 zA3_4 rfl #[.agg #[.int .i64 a0_0, .int .i64 a0_1, .int .i64 a0_2]] (by rfl) rfl rfl zA3_5 ?_
        with_reducible refine (spec_l2House.calls a0_0 a0_1 a0_2 t110 _ A26.out).mono ?_
        rintro e w36 ⟨rfl, hb⟩
        refine ⟨_, rfl, ?_⟩
        have n0_ := Aside0.mk (blk_below zA3_1 hb)
        have n1_ := Aside0.mk (blk_below zA3_3 hb)
        have n2_ := Aside0.mk (below_step zA3_0 hb)
        clear BK107
        clear BK108
        clear HB
        have BK107 := n0_
        have BK108 := n1_
        have HB := n2_
        clear n0_ n1_ n2_
        (try clear hb)
        (try clear hb2)
        (try clear hk)
        (try clear hi)
        refine hK.out _ _ ⟨(blk_cell BK108.out 0).trans rfl, (blk_cell BK108.out 1).trans rfl, (blk_cell BK108.out 2).trans rfl, (blk_cell BK108.out 3).trans rfl, (blk_cell BK108.out 4).trans rfl, (blk_cell BK108.out 5).trans rfl, (blk_cell BK108.out 6).trans rfl, (blk_cell BK108.out 7).trans rfl, (blk_cell BK108.out 8).trans rfl, (blk_cell BK108.out 9).trans rfl, (blk_cell BK108.out 10).trans rfl, (blk_cell BK108.out 11).trans rfl, (blk_cell BK108.out 12).trans rfl, (blk_cell BK108.out 13).trans rfl, (blk_cell BK108.out 14).trans rfl, (blk_cell BK108.out 15).trans rfl, (blk_cell BK108.out 16).trans rfl, (blk_cell BK108.out 17).trans rfl, (blk_cell BK108.out 18).trans rfl, (blk_cell BK108.out 19).trans rfl, (blk_cell BK108.out 20).trans rfl, (blk_cell BK108.out 21).trans rfl, (blk_cell BK108.out 22).trans rfl, (blk_cell BK108.out 23).trans rfl, (blk_cell BK108.out 24).trans rfl, (blk_cell BK108.out 25).trans rfl, (blk_cell BK107.out 0).trans rfl, (blk_cell BK107.out 1).trans rfl, (blk_cell BK107.out 2).trans rfl⟩ (fun hHeld => ?_)
        clear hK K
        refine norm_ (a' := ?_) ?_ ?_
        rotate_left
        ·show Act.put _ (some 43) _ = _
         simp only [Act.put, List.setIfInBounds_toArray, List.set_cons_zero, List.set_cons_succ, i64_w, i32_w]
         rfl
        refine zp3_ 5 44 zl3_6 (any_of HT_.out zA3_4) ?_
        refine zp3_ 6 45 zl3_7 (any_of HT_.out zA3_4) ?_
        refine zp3_ 7 46 zl3_8 (any_of HT_.out zA3_4) ?_
        refine zp3_ 8 47 zl3_9 (any_of HT_.out zA3_4) ?_
        refine zt3_28_ 9 48 zl3_10 (take_ofW HT_.out HW_.out zA3_4) hHeld ?_
        refine zp3_ 10 49 zl3_11 (any_of HT_.out zA3_4) ?_
        refine zp3_ 11 50 zl3_12 (any_of HT_.out zA3_4) ?_
        refine zp3_ 12 51 zl3_13 (any_of HT_.out zA3_4) ?_
        refine zu3_ 13 52 zl3_14 (any_of HT_.out zA3_4) ?_
        refine zu3_ 14 53 zl3_15 (any_of HT_.out zA3_4) ?_
        refine zu3_ 15 54 zl3_36 (any_of HT_.out zA3_4) ?_
        refine zu3_ 16 55 zl3_16 (any_of HT_.out zA3_4) ?_
        refine zu3_ 17 56 zl3_17 (any_of HT_.out zA3_4) ?_
        refine zu3_ 18 57 zl3_18 (any_of HT_.out zA3_4) ?_
        refine zp3_ 19 58 zl3_19 (any_of HT_.out zA3_4) ?_
        refine zp3_ 20 4 zl3_20 (any_of HT_.out zA3_4) ?_
        refine done_ (done_of HT_.out zA3_4) ?_
        try go_wp2
        go_ret
        exact ⟨zA3_2, zA3_0⟩
      ·rw [if_neg c27] at H
       have c27b0 : ((l1_21.length : Int) == t110) = false := beq_eq_false_iff_ne.mpr c27
       have c27b1 : ((l1_21.length : Int) != t110) = true := bne_iff_ne.mpr c27
       obtain rfl := Option.some.inj H
       have hnb37 := NB108_107.out
       have hnc37 := NB107_108.out
       obtain ⟨_, _, _, _, _, _, _, _, _, _, _, _, _, _, _, _, _, _, _, _, _, _, _, _, _, _, _, _, _, _, _, _, _, _, _, _, _, _, _, _, _, _, _, _, _, _, _, _, _, _, _, _⟩ := zf3_26 BK108.out
       try go_wp2
       have n0_ := Aside0.mk (blk_drew BK107.out)
       have n1_ := Aside0.mk (blk_drew BK108.out)
       have n2_ := Aside0.mk (below_drew1 HB.out)
       clear BK107
       clear BK108
       clear HB
       have BK107 := n0_
       have BK108 := n1_
       have HB := n2_
       clear n0_ n1_ n2_
       refine start_ (n := 21) (S := zS3_0 gb108 a1_0 a1_1 a1_2 a1_3 a1_4 a1_5 a1_6 a1_7 a1_8 a1_9 a1_10 a1_11 a1_12 a1_13 a1_14 a1_15 a1_16 a1_17 a1_18 a1_19 a1_20 A1_21 l1_21 c1_21 A1_22 l1_22 c1_22 a1_23 a1_24 a1_25 gb107 a0_0 a0_1 a0_2) (ds := []) zl3_0 zA3_4 rfl rfl ⟨(blk_cell BK108.out 0).trans rfl, (blk_cell BK108.out 1).trans rfl, (blk_cell BK108.out 2).trans rfl, (blk_cell BK108.out 3).trans rfl, (blk_cell BK108.out 4).trans rfl, (blk_cell BK108.out 5).trans rfl, (blk_cell BK108.out 6).trans rfl, (blk_cell BK108.out 7).trans rfl, (blk_cell BK108.out 8).trans rfl, (blk_cell BK108.out 9).trans rfl, (blk_cell BK108.out 10).trans rfl, (blk_cell BK108.out 11).trans rfl, (blk_cell BK108.out 12).trans rfl, (blk_cell BK108.out 13).trans rfl, (blk_cell BK108.out 14).trans rfl, (blk_cell BK108.out 15).trans rfl, (blk_cell BK108.out 16).trans rfl, (blk_cell BK108.out 17).trans rfl, (blk_cell BK108.out 18).trans rfl, (blk_cell BK108.out 19).trans rfl, (blk_cell BK108.out 20).trans rfl, (blk_cell BK108.out 21).trans rfl, (blk_cell BK108.out 22).trans rfl, (blk_cell BK108.out 23).trans rfl, (blk_cell BK108.out 24).trans rfl, (blk_cell BK108.out 25).trans rfl, (blk_cell BK107.out 0).trans rfl, (blk_cell BK107.out 1).trans rfl, (blk_cell BK107.out 2).trans rfl⟩ (fun hHeld => ?_); refine with_tabW spec_l6Place.tab6 spec_l6Place.bits6 (fun HT_ HW_ => ?_)
       generalize wc.drew = w39 at BK107 BK108 HB hHeld ⊢
       refine zp3_ 0 39 zl3_1 (any_of HT_.out zA3_4) ?_
       refine zt3_28_ 1 40 zl3_2 (take_ofW HT_.out HW_.out zA3_4) hHeld ?_
       refine zp3_ 2 41 zl3_3 (any_of HT_.out zA3_4) ?_
       refine zt3_28_ 3 42 zl3_4 (take_ofW HT_.out HW_.out zA3_4) hHeld ?_
       refine one_ (i := 4) (N := some 43) zl3_5 rfl rfl (one_of HT_.out zA3_4) (by decide) (fun K hK => ?_)
       refine goes_ Try.func50 zA3_4 rfl #[.agg #[.int .i64 a0_0, .int .i64 a0_1, .int .i64 a0_2]] (by rfl) rfl rfl zA3_5 ?_
       with_reducible refine (spec_l2House.calls a0_0 a0_1 a0_2 t110 _ A26.out).mono ?_
       rintro e w40 ⟨rfl, hb⟩
       refine ⟨_, rfl, ?_⟩
       have n0_ := Aside0.mk (blk_below zA3_1 hb)
       have n1_ := Aside0.mk (blk_below zA3_3 hb)
       have n2_ := Aside0.mk (below_step zA3_0 hb)
       clear BK107
       clear BK108
       clear HB
       have BK107 := n0_
       have BK108 := n1_
       have HB := n2_
       clear n0_ n1_ n2_
       (try clear hb)
       (try clear hb2)
       (try clear hk)
       (try clear hi)
       refine hK.out _ _ ⟨(blk_cell BK108.out 0).trans rfl, (blk_cell BK108.out 1).trans rfl, (blk_cell BK108.out 2).trans rfl, (blk_cell BK108.out 3).trans rfl, (blk_cell BK108.out 4).trans rfl, (blk_cell BK108.out 5).trans rfl, (blk_cell BK108.out 6).trans rfl, (blk_cell BK108.out 7).trans rfl, (blk_cell BK108.out 8).trans rfl, (blk_cell BK108.out 9).trans rfl, (blk_cell BK108.out 10).trans rfl, (blk_cell BK108.out 11).trans rfl, (blk_cell BK108.out 12).trans rfl, (blk_cell BK108.out 13).trans rfl, (blk_cell BK108.out 14).trans rfl, (blk_cell BK108.out 15).trans rfl, (blk_cell BK108.out 16).trans rfl, (blk_cell BK108.out 17).trans rfl, (blk_cell BK108.out 18).trans rfl, (blk_cell BK108.out 19).trans rfl, (blk_cell BK108.out 20).trans rfl, (blk_cell BK108.out 21).trans rfl, (blk_cell BK108.out 22).trans rfl, (blk_cell BK108.out 23).trans rfl, (blk_cell BK108.out 24).trans rfl, (blk_cell BK108.out 25).trans rfl, (blk_cell BK107.out 0).trans rfl, (blk_cell BK107.out 1).trans rfl, (blk_cell BK107.out 2).trans rfl⟩ (fun hHeld => ?_)
       clear hK K
       refine norm_ (a' := ?_) ?_ ?_
       rotate_left
       ·show Act.put _ (some 43) _ = _
        simp only [Act.put, List.setIfInBounds_toArray, List.set_cons_zero, List.set_cons_succ, i64_w, i32_w]
        rfl
       refine zp3_ 5 44 zl3_6 (any_of HT_.out zA3_4) ?_
       refine zp3_ 6 45 zl3_7 (any_of HT_.out zA3_4) ?_
       refine zu3_ 7 46 zl3_8 (any_of HT_.out zA3_4) ?_
       refine zu3_ 8 47 zl3_9 (any_of HT_.out zA3_4) ?_
       refine zu3_ 9 48 zl3_10 (any_of HT_.out zA3_4) ?_
       refine zu3_ 10 49 zl3_11 (any_of HT_.out zA3_4) ?_
       refine zp3_ 11 50 zl3_12 (any_of HT_.out zA3_4) ?_
       refine zp3_ 12 51 zl3_13 (any_of HT_.out zA3_4) ?_
       refine zu3_ 13 52 zl3_14 (any_of HT_.out zA3_4) ?_
       refine zu3_ 14 53 zl3_15 (any_of HT_.out zA3_4) ?_
       refine zu3_ 15 54 zl3_36 (any_of HT_.out zA3_4) ?_
       refine zu3_ 16 55 zl3_16 (any_of HT_.out zA3_4) ?_
       refine zu3_ 17 56 zl3_17 (any_of HT_.out zA3_4) ?_
       refine zu3_ 18 57 zl3_18 (any_of HT_.out zA3_4) ?_
       refine zp3_ 19 58 zl3_19 (any_of HT_.out zA3_4) ?_
       refine zp3_ 20 4 zl3_20 (any_of HT_.out zA3_4) ?_
       refine done_ (done_of HT_.out zA3_4) ?_
       try go_wp2
       go_ret
       exact ⟨zA3_2, zA3_0⟩
     ·rw [if_neg c25] at H
      have c25b0 : (a1_8 == 12) = false := beq_eq_false_iff_ne.mpr c25
      have c25b1 : (a1_8 != 12) = true := bne_iff_ne.mpr c25
      have HC41 := Aside0.mk H
      clear H
      have hnb42 := NB108_107.out
      have hnc42 := NB107_108.out
      obtain ⟨hcz43_0, hcz43_1, hcz43_2, hcz43_3, hcz43_4, hcz43_5, hcz43_6, hcz43_7, hcz43_8, hcz43_9, hcz43_10, hcz43_11, hcz43_12, hcz43_13, hcz43_14, hcz43_15, hcz43_16, hcz43_17, hcz43_18, hcz43_19, hcz43_20, hcz43_21, hcz43_22, hcz43_23, hcz43_24, hcz43_25, hfz43_0, hfz43_1, hfz43_2, hfz43_3, hfz43_4, hfz43_5, hfz43_6, hfz43_7, hfz43_8, hfz43_9, hfz43_10, hfz43_11, hfz43_12, hfz43_13, hfz43_14, hfz43_15, hfz43_16, hfz43_17, hfz43_18, hfz43_19, hfz43_20, hfz43_21, hfz43_22, hfz43_23, hfz43_24, hfz43_25⟩ := zf3_26 BK108.out
      go_upto_region 7 with (fail)
      go_cut [59] (fun v59 wc => ∃ (kq : Nat) (x59_40 : Bool), v59 = .bool x59_40 ∧ Aside0 (spec_l6Place.j1 kq x59_40 a0_0 a0_1 a0_2 a1_0 a1_1 a1_2 a1_3 a1_4 a1_5 a1_6 a1_7 a1_8 a1_9 a1_10 a1_11 a1_12 a1_13 a1_14 a1_15 a1_16 a1_17 a1_18 a1_19 a1_20 l1_21 l1_22 a1_23 a1_24 a1_25 = some r) ∧ Aside0 (kq ≤ kj2) ∧ Aside0 (wc.heap[gb107]? = some (.cells #[.int .i64 a0_0, .int .i64 a0_1, .int .i64 a0_2] 43 (0, 0))) ∧ Aside0 (wc.heap[gb108]? = some (.cells #[.bool a1_0, .int .i64 a1_1, .int .i64 a1_2, .bool a1_3, .int .i64 a1_4, .int .i64 a1_5, .int .i64 a1_6, .int .i64 a1_7, .int .i64 a1_8, .int .i64 a1_9, .int .i64 a1_10, .int .i64 a1_11, .int .i64 a1_12, .int .i64 a1_13, .int .i64 a1_14, .bool a1_15, .int .i64 a1_16, .int .u64 a1_17, .int .u64 a1_18, .int .u64 a1_19, .int .u64 a1_20, (.slice A1_21 l1_21.length c1_21), (.slice A1_22 l1_22.length c1_22), .int .i64 a1_23, .int .i64 a1_24, .int .i64 a1_25] 59 (0, 0))) ∧ Aside0 (Below w.heap.size w wc))
      case first =>
       as_aux_lemma =>
       have H := HC41.out
       clear HC41
       by_cases c44 : a1_8 ≥ 16
       ·rw [if_pos c44] at H
        have c44b0 : decide (16 ≤ a1_8) = true := decide_eq_true c44
        clear c44
        (first | rw [c44b0] | (simp only [i64_w, i32_w]; rw [c44b0]) | skip)
        have H' := Aside0.mk H
        clear H
        have hnb45 := NB108_107.out
        have hnc45 := NB107_108.out
        obtain ⟨_, _, _, _, _, _, _, _, _, _, _, _, _, _, _, _, _, _, _, _, _, _, _, _, _, _, _, _, _, _, _, _, _, _, _, _, _, _, _, _, _, _, _, _, _, _, _, _, _, _, _, _⟩ := zf3_26 BK108.out
        go_wp2
        go_meet
        case rel => exact ⟨_, (decide (a1_8 ≤ 21)), zA3_8, H', ⟨by have := HJ2.out; first | omega | exact Nat.le_refl _⟩, ⟨zA3_1⟩, ⟨zA3_3⟩, ⟨zA3_0⟩⟩
       ·rw [if_neg c44] at H
        have c44b0 : decide (16 ≤ a1_8) = false := decide_eq_false c44
        clear c44
        (first | rw [c44b0] | (simp only [i64_w, i32_w]; rw [c44b0]) | skip)
        have H' := Aside0.mk H
        clear H
        have hnb47 := NB108_107.out
        have hnc47 := NB107_108.out
        obtain ⟨_, _, _, _, _, _, _, _, _, _, _, _, _, _, _, _, _, _, _, _, _, _, _, _, _, _, _, _, _, _, _, _, _, _, _, _, _, _, _, _, _, _, _, _, _, _, _, _, _, _, _, _⟩ := zf3_26 BK108.out
        go_wp2
        go_meet
        case rel => exact ⟨_, (false), zA3_8, H', ⟨by have := HJ2.out; first | omega | exact Nat.le_refl _⟩, ⟨zA3_1⟩, ⟨zA3_3⟩, ⟨zA3_0⟩⟩
      case rest =>
       as_aux_lemma =>
       clear HC41
       try clear c1
       try clear c2
       try clear p2
       try clear c3
       try clear c4
       try clear c5
       try clear c25
       try clear c25b0
       try clear c25b1
       try clear c27
       try clear c27b0
       try clear c27b1
       try clear c37
       try clear c42
       try clear c44
       try clear c44b0
       try clear c45
       try clear c47
       clear hcz43_0 hcz43_1 hcz43_10 hcz43_11 hcz43_12 hcz43_13 hcz43_14 hcz43_15 hcz43_16 hcz43_17 hcz43_18 hcz43_19 hcz43_2 hcz43_20 hcz43_21 hcz43_22 hcz43_23 hcz43_24 hcz43_25 hcz43_3 hcz43_4 hcz43_5 hcz43_6 hcz43_7 hcz43_8 hcz43_9 hfz43_0 hfz43_1 hfz43_10 hfz43_11 hfz43_12 hfz43_13 hfz43_14 hfz43_15 hfz43_16 hfz43_17 hfz43_18 hfz43_19 hfz43_2 hfz43_20 hfz43_21 hfz43_22 hfz43_23 hfz43_24 hfz43_25 hfz43_3 hfz43_4 hfz43_5 hfz43_6 hfz43_7 hfz43_8 hfz43_9
       obtain ⟨kq, x59_40, rfl, HA, HJ40, BK107, BK108, HB⟩ := hcut
       cases kq with
       | zero => exact absurd HA.out (by simp [spec_l6Place.j1])
       | succ kj40 =>
        have H := HA.out
        clear HA
        simp only [spec_l6Place.j1] at H
        by_cases c49 : x59_40 = true
        ·subst c49
         have H1 : (some (decide (a1_13 < a0_0))) = some r := by rw [if_pos rfl] at H; exact H
         clear H
         have H := H1
         clear H1
         obtain rfl := Option.some.inj H
         have hnb50 := NB108_107.out
         have hnc50 := NB107_108.out
         obtain ⟨_, _, _, _, _, _, _, _, _, _, _, _, _, _, _, _, _, _, _, _, _, _, _, _, _, _, _, _, _, _, _, _, _, _, _, _, _, _, _, _, _, _, _, _, _, _, _, _, _, _, _, _⟩ := zf3_26 BK108.out
         obtain ⟨_, _, _, _, _, _⟩ := zf3_3 BK107.out
         go_wp2
         go_ret
         exact ⟨zA3_2, zA3_0⟩
        ·replace c49 := Bool.eq_false_iff.mpr c49
         subst c49
         have H1 : (if a1_8 = 13 then (spec_l6Place.j2 kj40 true a0_0 a0_1 a0_2 a1_0 a1_1 a1_2 a1_3 a1_4 a1_5 a1_6 a1_7 a1_8 a1_9 a1_10 a1_11 a1_12 a1_13 a1_14 a1_15 a1_16 a1_17 a1_18 a1_19 a1_20 l1_21 l1_22 a1_23 a1_24 a1_25) else (spec_l6Place.j2 kj40 (a1_8 == 14) a0_0 a0_1 a0_2 a1_0 a1_1 a1_2 a1_3 a1_4 a1_5 a1_6 a1_7 a1_8 a1_9 a1_10 a1_11 a1_12 a1_13 a1_14 a1_15 a1_16 a1_17 a1_18 a1_19 a1_20 l1_21 l1_22 a1_23 a1_24 a1_25)) = some r := by rw [if_neg (show ¬ (false = true) by decide)] at H; exact H
         clear H
         have H := H1
         clear H1
         have HC53 := Aside0.mk H
         clear H
         go_upto_region 9 with (fail)
         go_cut [73] (fun v73 wc => ∃ (kq : Nat) (x73_52 : Bool), v73 = .bool x73_52 ∧ Aside0 (spec_l6Place.j2 kq x73_52 a0_0 a0_1 a0_2 a1_0 a1_1 a1_2 a1_3 a1_4 a1_5 a1_6 a1_7 a1_8 a1_9 a1_10 a1_11 a1_12 a1_13 a1_14 a1_15 a1_16 a1_17 a1_18 a1_19 a1_20 l1_21 l1_22 a1_23 a1_24 a1_25 = some r) ∧ Aside0 (kq ≤ kj40) ∧ Aside0 (wc.heap[gb107]? = some (.cells #[.int .i64 a0_0, .int .i64 a0_1, .int .i64 a0_2] 43 (0, 0))) ∧ Aside0 (wc.heap[gb108]? = some (.cells #[.bool a1_0, .int .i64 a1_1, .int .i64 a1_2, .bool a1_3, .int .i64 a1_4, .int .i64 a1_5, .int .i64 a1_6, .int .i64 a1_7, .int .i64 a1_8, .int .i64 a1_9, .int .i64 a1_10, .int .i64 a1_11, .int .i64 a1_12, .int .i64 a1_13, .int .i64 a1_14, .bool a1_15, .int .i64 a1_16, .int .u64 a1_17, .int .u64 a1_18, .int .u64 a1_19, .int .u64 a1_20, (.slice A1_21 l1_21.length c1_21), (.slice A1_22 l1_22.length c1_22), .int .i64 a1_23, .int .i64 a1_24, .int .i64 a1_25] 59 (0, 0))) ∧ Aside0 (Below w.heap.size w wc))
         case first =>
          as_aux_lemma =>
          have H := HC53.out
          clear HC53
          by_cases c54 : a1_8 = 13
          ·rw [if_pos c54] at H
           have c54b0 : (a1_8 == 13) = true := beq_iff_eq.mpr c54
           have c54b1 : (a1_8 != 13) = false := bne_eq_false_iff_eq.mpr c54
           clear c54
           (first | rw [c54b0] | (simp only [i64_w, i32_w]; rw [c54b0]) | skip)
           have H' := Aside0.mk H
           clear H
           have hnb55 := NB108_107.out
           have hnc55 := NB107_108.out
           obtain ⟨_, _, _, _, _, _, _, _, _, _, _, _, _, _, _, _, _, _, _, _, _, _, _, _, _, _, _, _, _, _, _, _, _, _, _, _, _, _, _, _, _, _, _, _, _, _, _, _, _, _, _, _⟩ := zf3_26 BK108.out
           go_wp2
           go_meet
           case rel => exact ⟨_, (true), zA3_8, H', ⟨by have := HJ2.out; have := HJ40.out; first | omega | exact Nat.le_refl _⟩, ⟨zA3_1⟩, ⟨zA3_3⟩, ⟨zA3_0⟩⟩
          ·rw [if_neg c54] at H
           have c54b0 : (a1_8 == 13) = false := beq_eq_false_iff_ne.mpr c54
           have c54b1 : (a1_8 != 13) = true := bne_iff_ne.mpr c54
           (first | rw [c54b0] | (simp only [i64_w, i32_w]; rw [c54b0]) | skip)
           have H' := Aside0.mk H
           clear H
           have hnb57 := NB108_107.out
           have hnc57 := NB107_108.out
           obtain ⟨_, _, _, _, _, _, _, _, _, _, _, _, _, _, _, _, _, _, _, _, _, _, _, _, _, _, _, _, _, _, _, _, _, _, _, _, _, _, _, _, _, _, _, _, _, _, _, _, _, _, _, _⟩ := zf3_26 BK108.out
           go_wp2
           go_meet
           case rel => exact ⟨_, ((a1_8 == 14)), zA3_8, H', ⟨by have := HJ2.out; have := HJ40.out; first | omega | exact Nat.le_refl _⟩, ⟨zA3_1⟩, ⟨zA3_3⟩, ⟨zA3_0⟩⟩
         case rest =>
          as_aux_lemma =>
          clear HC53
          try clear c1
          try clear c2
          try clear p2
          try clear c3
          try clear c4
          try clear c5
          try clear c25
          try clear c25b0
          try clear c25b1
          try clear c27
          try clear c27b0
          try clear c27b1
          try clear c37
          try clear c42
          try clear c44
          try clear c44b0
          try clear c45
          try clear c47
          try clear c49
          try clear c50
          try clear c54
          try clear c54b0
          try clear c54b1
          try clear c55
          try clear c57
          try clear p2
          obtain ⟨kq, x73_52, rfl, HA, HJ52, BK107, BK108, HB⟩ := hcut
          cases kq with
          | zero => exact absurd HA.out (by simp [spec_l6Place.j2])
          | succ kj52 =>
           have H := HA.out
           clear HA
           simp only [spec_l6Place.j2] at H
           by_cases c59 : x73_52 = true
           ·subst c59
            have H1 : (some (decide (a1_9 ≤ (l1_22.length : Int)))) = some r := by rw [if_pos rfl] at H; exact H
            clear H
            have H := H1
            clear H1
            obtain rfl := Option.some.inj H
            have hnb60 := NB108_107.out
            have hnc60 := NB107_108.out
            obtain ⟨_, _, _, _, _, _, _, _, _, _, _, _, _, _, _, _, _, _, _, _, _, _, _, _, _, _, _, _, _, _, _, _, _, _, _, _, _, _, _, _, _, _, _, _, _, _, _, _, _, _, _, _⟩ := zf3_26 BK108.out
            go_wp2
            go_ret
            exact ⟨zA3_2, zA3_0⟩
           ·replace c59 := Bool.eq_false_iff.mpr c59
            subst c59
            have H1 : (if a1_8 ≥ 22 then (if a1_8 ≤ 24 then (if a1_9 ≥ 1 then (if a1_9 ≤ a1_10 then (if a1_13 < a0_0 then (if a1_15 = true then (some (a1_10 == (l1_22.length : Int))) else (some true)) else (some false)) else (some false)) else (some false)) else (some true)) else (some true)) = some r := by rw [if_neg (show ¬ (false = true) by decide)] at H; exact H
            clear H
            have H := H1
            clear H1
            by_cases c62 : a1_8 ≥ 22
            ·rw [if_pos c62] at H
             have c62b0 : decide (22 ≤ a1_8) = true := decide_eq_true c62
             clear c62
             by_cases c63 : a1_8 ≤ 24
             ·rw [if_pos c63] at H
              have c63b0 : decide (a1_8 ≤ 24) = true := decide_eq_true c63
              clear c63
              by_cases c64 : a1_9 ≥ 1
              ·rw [if_pos c64] at H
               have c64b0 : decide (1 ≤ a1_9) = true := decide_eq_true c64
               clear c64
               by_cases c65 : a1_9 ≤ a1_10
               ·rw [if_pos c65] at H
                have c65b0 : decide (a1_9 ≤ a1_10) = true := decide_eq_true c65
                clear c65
                by_cases c66 : a1_13 < a0_0
                ·rw [if_pos c66] at H
                 have c66b0 : decide (a1_13 < a0_0) = true := decide_eq_true c66
                 clear c66
                 by_cases c67 : a1_15 = true
                 ·subst c67
                  have H1 : (some (a1_10 == (l1_22.length : Int))) = some r := by rw [if_pos rfl] at H; exact H
                  clear H
                  have H := H1
                  clear H1
                  obtain rfl := Option.some.inj H
                  have hnb68 := NB108_107.out
                  have hnc68 := NB107_108.out
                  obtain ⟨_, _, _, _, _, _, _, _, _, _, _, _, _, _, _, _, _, _, _, _, _, _, _, _, _, _, _, _, _, _, _, _, _, _, _, _, _, _, _, _, _, _, _, _, _, _, _, _, _, _, _, _⟩ := zf3_26 BK108.out
                  obtain ⟨_, _, _, _, _, _⟩ := zf3_3 BK107.out
                  go_wp2
                  go_ret
                  exact ⟨zA3_2, zA3_0⟩
                 ·replace c67 := Bool.eq_false_iff.mpr c67
                  subst c67
                  have H1 : (some true) = some r := by rw [if_neg (show ¬ (false = true) by decide)] at H; exact H
                  clear H
                  have H := H1
                  clear H1
                  obtain rfl := Option.some.inj H
                  have hnb71 := NB108_107.out
                  have hnc71 := NB107_108.out
                  obtain ⟨_, _, _, _, _, _, _, _, _, _, _, _, _, _, _, _, _, _, _, _, _, _, _, _, _, _, _, _, _, _, _, _, _, _, _, _, _, _, _, _, _, _, _, _, _, _, _, _, _, _, _, _⟩ := zf3_26 BK108.out
                  obtain ⟨_, _, _, _, _, _⟩ := zf3_3 BK107.out
                  go_wp2
                  go_ret
                  exact ⟨zA3_2, zA3_0⟩
                ·rw [if_neg c66] at H
                 have c66b0 : decide (a1_13 < a0_0) = false := decide_eq_false c66
                 clear c66
                 obtain rfl := Option.some.inj H
                 have hnb74 := NB108_107.out
                 have hnc74 := NB107_108.out
                 obtain ⟨_, _, _, _, _, _, _, _, _, _, _, _, _, _, _, _, _, _, _, _, _, _, _, _, _, _, _, _, _, _, _, _, _, _, _, _, _, _, _, _, _, _, _, _, _, _, _, _, _, _, _, _⟩ := zf3_26 BK108.out
                 obtain ⟨_, _, _, _, _, _⟩ := zf3_3 BK107.out
                 go_wp2
                 go_ret
                 exact ⟨zA3_2, zA3_0⟩
               ·rw [if_neg c65] at H
                have c65b0 : decide (a1_9 ≤ a1_10) = false := decide_eq_false c65
                clear c65
                obtain rfl := Option.some.inj H
                have hnb77 := NB108_107.out
                have hnc77 := NB107_108.out
                obtain ⟨_, _, _, _, _, _, _, _, _, _, _, _, _, _, _, _, _, _, _, _, _, _, _, _, _, _, _, _, _, _, _, _, _, _, _, _, _, _, _, _, _, _, _, _, _, _, _, _, _, _, _, _⟩ := zf3_26 BK108.out
                go_wp2
                go_ret
                exact ⟨zA3_2, zA3_0⟩
              ·rw [if_neg c64] at H
               have c64b0 : decide (1 ≤ a1_9) = false := decide_eq_false c64
               clear c64
               obtain rfl := Option.some.inj H
               have hnb79 := NB108_107.out
               have hnc79 := NB107_108.out
               obtain ⟨_, _, _, _, _, _, _, _, _, _, _, _, _, _, _, _, _, _, _, _, _, _, _, _, _, _, _, _, _, _, _, _, _, _, _, _, _, _, _, _, _, _, _, _, _, _, _, _, _, _, _, _⟩ := zf3_26 BK108.out
               go_wp2
               go_ret
               exact ⟨zA3_2, zA3_0⟩
             ·rw [if_neg c63] at H
              have c63b0 : decide (a1_8 ≤ 24) = false := decide_eq_false c63
              clear c63
              obtain rfl := Option.some.inj H
              have hnb81 := NB108_107.out
              have hnc81 := NB107_108.out
              obtain ⟨_, _, _, _, _, _, _, _, _, _, _, _, _, _, _, _, _, _, _, _, _, _, _, _, _, _, _, _, _, _, _, _, _, _, _, _, _, _, _, _, _, _, _, _, _, _, _, _, _, _, _, _⟩ := zf3_26 BK108.out
              go_wp2
              go_ret
              exact ⟨zA3_2, zA3_0⟩
            ·rw [if_neg c62] at H
             have c62b0 : decide (22 ≤ a1_8) = false := decide_eq_false c62
             clear c62
             obtain rfl := Option.some.inj H
             have hnb83 := NB108_107.out
             have hnc83 := NB107_108.out
             obtain ⟨_, _, _, _, _, _, _, _, _, _, _, _, _, _, _, _, _, _, _, _, _, _, _, _, _, _, _, _, _, _, _, _, _, _, _, _, _, _, _, _, _, _, _, _, _, _, _, _, _, _, _, _⟩ := zf3_26 BK108.out
             go_wp2
             go_ret
             exact ⟨zA3_2, zA3_0⟩

end Go.Proofs.Ytfpdccaomhjpjaa.PSGuestOk

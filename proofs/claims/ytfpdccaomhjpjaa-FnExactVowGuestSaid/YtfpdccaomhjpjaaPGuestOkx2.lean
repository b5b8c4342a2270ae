-- own text, written by wip/tools/pp.py
import Derived.Test.YtfpdccaomhjpjaaPGuestOkx0
import Derived.Test.YtfpdccaomhjpjaaPGuestOkx1
namespace Go.Proofs.Ytfpdccaomhjpjaa.PGuestOk
open Go.RowKit Go.Proofs.YtfpdccaomhjpjaaW.PrintWords Go.Proofs.YtfpdccaomhjpjaaW.PrintLast Go.Proofs.YtfpdccaomhjpjaaW.PrintMore
attribute [local go_sem] max2_int min2_int max_two min_two max_three min_three max_four min_four   -- for this text's walks alone
set_option linter.unusedVariables false
set_option linter.unusedSimpArgs false
theorem zA2_0 {p : Prop} (h : p := by repeat (first | (with_reducible first | exact HB.out | apply below_alloc | apply pw_below_drewN | apply below_drew1 | refine below_set ?_ GE120.out | refine below_set ?_ GE121.out) | exact HB.out)) : p := h
theorem zA2_1 {p : Prop} (h : p := by (with_reducible repeat (first | refine blk_drewN ?_ _ | refine blk_drew ?_ | refine blk_alloc ?_ _)); exact BK120.out) : p := h
theorem zA2_2 {p : Prop} (h : p := by (with_reducible repeat (first | refine blk_drewN ?_ _ | refine blk_drew ?_ | refine blk_alloc ?_ _)); exact BK121.out) : p := h
theorem zA2_3 {p : Prop} (h : p := by (try simp only [List.map_toArray, List.map_cons, List.map_nil]); first | done | rfl | (simp only [List.length_drop, List.length_take]; rfl)) : p := h
theorem zA2_4 {p : Prop} (h : p := by first | rfl | (simp [errW_none, errW_some] <;> rfl) | (simp [*, errW_none, errW_some] <;> rfl)) : p := h
theorem zA2_5 {p : Prop} (h : p := by first | rfl | (simp; done) | (simp [*]; done)) : p := h
theorem zA2_6 {p : Prop} (h : p := by have := HJ2.out; have := HJ37.out; first | omega | exact Nat.le_refl _) : p := h
theorem zA2_7 {p : Prop} (h : p := by repeat (first | (with_reducible first | exact HB.out | apply below_alloc | apply pw_below_drewN | apply below_drew1 | refine below_set ?_ GE120.out) | exact HB.out)) : p := h
theorem zA2_8 {p : Prop} (h : p := by have := HJ2.out; have := HJ37.out; have := HJ52.out; have := HJ110.out; first | omega | exact Nat.le_refl _) : p := h
theorem zA2_9 {p : Prop} (h : p := by repeat (first | (with_reducible first | exact HB.out | apply below_alloc | apply pw_below_drewN | apply below_drew1) | exact HB.out)) : p := h
theorem zA2_10 {p : Prop} (h : p := by have := HJ2.out; have := HJ37.out; have := HJ52.out; first | omega | exact Nat.le_refl _) : p := h
theorem zA2_11 {p : Prop} (h : p := by have := HJ2.out; have := HJ37.out; have := HJ52.out; have := HJ110.out; have := HJ118.out; first | omega | exact Nat.le_refl _) : p := h
theorem zf2_3 {w : World} {g : Nat} {t : TypeId} {v0 v1 v2 : Value} (h : w.heap[g]? = some (.cells #[v0, v1, v2] t (0, 0))) : w.cell? ⟨g, 0, none⟩ = some v0 ∧ w.cell? ⟨g, 1, none⟩ = some v1 ∧ w.cell? ⟨g, 2, none⟩ = some v2 ∧ w.frozen? ⟨g, 0, none⟩ = false ∧ w.frozen? ⟨g, 1, none⟩ = false ∧ w.frozen? ⟨g, 2, none⟩ = false := ⟨(blk_cell h 0).trans rfl, (blk_cell h 1).trans rfl, (blk_cell h 2).trans rfl, blk_frozen h 0, blk_frozen h 1, blk_frozen h 2⟩
theorem zf2_26 {w : World} {g : Nat} {t : TypeId} {v0 v1 v2 v3 v4 v5 v6 v7 v8 v9 v10 v11 v12 v13 v14 v15 v16 v17 v18 v19 v20 v21 v22 v23 v24 v25 : Value} (h : w.heap[g]? = some (.cells #[v0, v1, v2, v3, v4, v5, v6, v7, v8, v9, v10, v11, v12, v13, v14, v15, v16, v17, v18, v19, v20, v21, v22, v23, v24, v25] t (0, 0))) : w.cell? ⟨g, 0, none⟩ = some v0 ∧ w.cell? ⟨g, 1, none⟩ = some v1 ∧ w.cell? ⟨g, 2, none⟩ = some v2 ∧ w.cell? ⟨g, 3, none⟩ = some v3 ∧ w.cell? ⟨g, 4, none⟩ = some v4 ∧ w.cell? ⟨g, 5, none⟩ = some v5 ∧ w.cell? ⟨g, 6, none⟩ = some v6 ∧ w.cell? ⟨g, 7, none⟩ = some v7 ∧ w.cell? ⟨g, 8, none⟩ = some v8 ∧ w.cell? ⟨g, 9, none⟩ = some v9 ∧ w.cell? ⟨g, 10, none⟩ = some v10 ∧ w.cell? ⟨g, 11, none⟩ = some v11 ∧ w.cell? ⟨g, 12, none⟩ = some v12 ∧ w.cell? ⟨g, 13, none⟩ = some v13 ∧ w.cell? ⟨g, 14, none⟩ = some v14 ∧ w.cell? ⟨g, 15, none⟩ = some v15 ∧ w.cell? ⟨g, 16, none⟩ = some v16 ∧ w.cell? ⟨g, 17, none⟩ = some v17 ∧ w.cell? ⟨g, 18, none⟩ = some v18 ∧ w.cell? ⟨g, 19, none⟩ = some v19 ∧ w.cell? ⟨g, 20, none⟩ = some v20 ∧ w.cell? ⟨g, 21, none⟩ = some v21 ∧ w.cell? ⟨g, 22, none⟩ = some v22 ∧ w.cell? ⟨g, 23, none⟩ = some v23 ∧ w.cell? ⟨g, 24, none⟩ = some v24 ∧ w.cell? ⟨g, 25, none⟩ = some v25 ∧ w.frozen? ⟨g, 0, none⟩ = false ∧ w.frozen? ⟨g, 1, none⟩ = false ∧ w.frozen? ⟨g, 2, none⟩ = false ∧ w.frozen? ⟨g, 3, none⟩ = false ∧ w.frozen? ⟨g, 4, none⟩ = false ∧ w.frozen? ⟨g, 5, none⟩ = false ∧ w.frozen? ⟨g, 6, none⟩ = false ∧ w.frozen? ⟨g, 7, none⟩ = false ∧ w.frozen? ⟨g, 8, none⟩ = false ∧ w.frozen? ⟨g, 9, none⟩ = false ∧ w.frozen? ⟨g, 10, none⟩ = false ∧ w.frozen? ⟨g, 11, none⟩ = false ∧ w.frozen? ⟨g, 12, none⟩ = false ∧ w.frozen? ⟨g, 13, none⟩ = false ∧ w.frozen? ⟨g, 14, none⟩ = false ∧ w.frozen? ⟨g, 15, none⟩ = false ∧ w.frozen? ⟨g, 16, none⟩ = false ∧ w.frozen? ⟨g, 17, none⟩ = false ∧ w.frozen? ⟨g, 18, none⟩ = false ∧ w.frozen? ⟨g, 19, none⟩ = false ∧ w.frozen? ⟨g, 20, none⟩ = false ∧ w.frozen? ⟨g, 21, none⟩ = false ∧ w.frozen? ⟨g, 22, none⟩ = false ∧ w.frozen? ⟨g, 23, none⟩ = false ∧ w.frozen? ⟨g, 24, none⟩ = false ∧ w.frozen? ⟨g, 25, none⟩ = false := ⟨(blk_cell h 0).trans rfl, (blk_cell h 1).trans rfl, (blk_cell h 2).trans rfl, (blk_cell h 3).trans rfl, (blk_cell h 4).trans rfl, (blk_cell h 5).trans rfl, (blk_cell h 6).trans rfl, (blk_cell h 7).trans rfl, (blk_cell h 8).trans rfl, (blk_cell h 9).trans rfl, (blk_cell h 10).trans rfl, (blk_cell h 11).trans rfl, (blk_cell h 12).trans rfl, (blk_cell h 13).trans rfl, (blk_cell h 14).trans rfl, (blk_cell h 15).trans rfl, (blk_cell h 16).trans rfl, (blk_cell h 17).trans rfl, (blk_cell h 18).trans rfl, (blk_cell h 19).trans rfl, (blk_cell h 20).trans rfl, (blk_cell h 21).trans rfl, (blk_cell h 22).trans rfl, (blk_cell h 23).trans rfl, (blk_cell h 24).trans rfl, (blk_cell h 25).trans rfl, blk_frozen h 0, blk_frozen h 1, blk_frozen h 2, blk_frozen h 3, blk_frozen h 4, blk_frozen h 5, blk_frozen h 6, blk_frozen h 7, blk_frozen h 8, blk_frozen h 9, blk_frozen h 10, blk_frozen h 11, blk_frozen h 12, blk_frozen h 13, blk_frozen h 14, blk_frozen h 15, blk_frozen h 16, blk_frozen h 17, blk_frozen h 18, blk_frozen h 19, blk_frozen h 20, blk_frozen h 21, blk_frozen h 22, blk_frozen h 23, blk_frozen h 24, blk_frozen h 25⟩

/-! ### impl_GuestOk: function 38 -/
mutual
def impl_GuestOk.j0 : Nat → Bool → Int → Int → Int → Bool → Int → Int → Bool → Int → Int → Int → Int → Int → Int → Int → Int → Int → Int → Int → Bool → Int → Int → Int → Int → Int → List Int → List Int → Int → Int → Int → Option (Bool)
 | 0, _, _, _, _, _, _, _, _, _, _, _, _, _, _, _, _, _, _, _, _, _, _, _, _, _, _, _, _, _, _ => none
 | k + 1, x36, x121000, x121001, x121002, x122000, x122001, x122002, x122003, x122004, x122005, x122006, x122007, x122008, x122009, x122010, x122011, x122012, x122013, x122014, x122015, x122016, x122017, x122018, x122019, x122020, x122021, x122022, x122023, x122024, x122025 => if x36 = true then (some false) else ((impl_PlatCfg_deskAt.f x121000 x121001 x121002).bind fun t125 => ((impl_within.f x122002 0 4095).bind fun t126 => (if t126 = true then ((impl_within.f x122012 0 4095).bind fun t127 => (if t127 = true then ((impl_within.f x122014 0 4095).bind fun t128 => (impl_GuestOk.j1 k t125 t128 x121000 x121001 x121002 x122000 x122001 x122002 x122003 x122004 x122005 x122006 x122007 x122008 x122009 x122010 x122011 x122012 x122013 x122014 x122015 x122016 x122017 x122018 x122019 x122020 x122021 x122022 x122023 x122024 x122025)) else (impl_GuestOk.j1 k t125 false x121000 x121001 x121002 x122000 x122001 x122002 x122003 x122004 x122005 x122006 x122007 x122008 x122009 x122010 x122011 x122012 x122013 x122014 x122015 x122016 x122017 x122018 x122019 x122020 x122021 x122022 x122023 x122024 x122025))) else (impl_GuestOk.j1 k t125 false x121000 x121001 x121002 x122000 x122001 x122002 x122003 x122004 x122005 x122006 x122007 x122008 x122009 x122010 x122011 x122012 x122013 x122014 x122015 x122016 x122017 x122018 x122019 x122020 x122021 x122022 x122023 x122024 x122025))))
def impl_GuestOk.j1 : Nat → Int → Bool → Int → Int → Int → Bool → Int → Int → Bool → Int → Int → Int → Int → Int → Int → Int → Int → Int → Int → Int → Bool → Int → Int → Int → Int → Int → List Int → List Int → Int → Int → Int → Option (Bool)
 | 0, _, _, _, _, _, _, _, _, _, _, _, _, _, _, _, _, _, _, _, _, _, _, _, _, _, _, _, _, _, _, _ => none
 | k + 1, x5, x6, x121000, x121001, x121002, x122000, x122001, x122002, x122003, x122004, x122005, x122006, x122007, x122008, x122009, x122010, x122011, x122012, x122013, x122014, x122015, x122016, x122017, x122018, x122019, x122020, x122021, x122022, x122023, x122024, x122025 => if x6 = true then ((impl_within.f x122008 0 26).bind fun t129 => (if t129 = true then ((impl_within.f x122011 0 1000001).bind fun t130 => (if t130 = true then ((impl_within.f x122013 0 7).bind fun t131 => (if t131 = true then ((impl_within.f x122010 0 20).bind fun t132 => (if t132 = true then ((impl_within.f x122009 0 x5).bind fun t133 => (if t133 = true then ((impl_within.f x122016 0 1048575).bind fun t134 => (if t134 = true then (if (x122021.length : Int) > x5 then (impl_GuestOk.j2 k x5 true x121000 x121001 x121002 x122000 x122001 x122002 x122003 x122004 x122005 x122006 x122007 x122008 x122009 x122010 x122011 x122012 x122013 x122014 x122015 x122016 x122017 x122018 x122019 x122020 x122021 x122022 x122023 x122024 x122025) else (impl_GuestOk.j2 k x5 (decide ((x122022.length : Int) > 20)) x121000 x121001 x121002 x122000 x122001 x122002 x122003 x122004 x122005 x122006 x122007 x122008 x122009 x122010 x122011 x122012 x122013 x122014 x122015 x122016 x122017 x122018 x122019 x122020 x122021 x122022 x122023 x122024 x122025)) else (impl_GuestOk.j2 k x5 true x121000 x121001 x121002 x122000 x122001 x122002 x122003 x122004 x122005 x122006 x122007 x122008 x122009 x122010 x122011 x122012 x122013 x122014 x122015 x122016 x122017 x122018 x122019 x122020 x122021 x122022 x122023 x122024 x122025))) else (impl_GuestOk.j2 k x5 true x121000 x121001 x121002 x122000 x122001 x122002 x122003 x122004 x122005 x122006 x122007 x122008 x122009 x122010 x122011 x122012 x122013 x122014 x122015 x122016 x122017 x122018 x122019 x122020 x122021 x122022 x122023 x122024 x122025))) else (impl_GuestOk.j2 k x5 true x121000 x121001 x121002 x122000 x122001 x122002 x122003 x122004 x122005 x122006 x122007 x122008 x122009 x122010 x122011 x122012 x122013 x122014 x122015 x122016 x122017 x122018 x122019 x122020 x122021 x122022 x122023 x122024 x122025))) else (impl_GuestOk.j2 k x5 true x121000 x121001 x121002 x122000 x122001 x122002 x122003 x122004 x122005 x122006 x122007 x122008 x122009 x122010 x122011 x122012 x122013 x122014 x122015 x122016 x122017 x122018 x122019 x122020 x122021 x122022 x122023 x122024 x122025))) else (impl_GuestOk.j2 k x5 true x121000 x121001 x121002 x122000 x122001 x122002 x122003 x122004 x122005 x122006 x122007 x122008 x122009 x122010 x122011 x122012 x122013 x122014 x122015 x122016 x122017 x122018 x122019 x122020 x122021 x122022 x122023 x122024 x122025))) else (impl_GuestOk.j2 k x5 true x121000 x121001 x121002 x122000 x122001 x122002 x122003 x122004 x122005 x122006 x122007 x122008 x122009 x122010 x122011 x122012 x122013 x122014 x122015 x122016 x122017 x122018 x122019 x122020 x122021 x122022 x122023 x122024 x122025))) else (impl_GuestOk.j2 k x5 true x121000 x121001 x121002 x122000 x122001 x122002 x122003 x122004 x122005 x122006 x122007 x122008 x122009 x122010 x122011 x122012 x122013 x122014 x122015 x122016 x122017 x122018 x122019 x122020 x122021 x122022 x122023 x122024 x122025)
def impl_GuestOk.j2 : Nat → Int → Bool → Int → Int → Int → Bool → Int → Int → Bool → Int → Int → Int → Int → Int → Int → Int → Int → Int → Int → Int → Bool → Int → Int → Int → Int → Int → List Int → List Int → Int → Int → Int → Option (Bool)
 | 0, _, _, _, _, _, _, _, _, _, _, _, _, _, _, _, _, _, _, _, _, _, _, _, _, _, _, _, _, _, _, _ => none
 | k + 1, x5, x103, x121000, x121001, x121002, x122000, x122001, x122002, x122003, x122004, x122005, x122006, x122007, x122008, x122009, x122010, x122011, x122012, x122013, x122014, x122015, x122016, x122017, x122018, x122019, x122020, x122021, x122022, x122023, x122024, x122025 => if x103 = true then (some false) else (if x122008 = 11 then (if (x122021.length : Int) = x122009 then (if x122009 = x5 then (some false) else (impl_GuestOk.j5 k x121000 x121001 x121002 x122000 x122001 x122002 x122003 x122004 x122005 x122006 x122007 x122008 x122009 x122010 x122011 x122012 x122013 x122014 x122015 x122016 x122017 x122018 x122019 x122020 x122021 x122022 x122023 x122024 x122025)) else (some false)) else (if x122008 = 12 then (if (x122021.length : Int) = x5 then ((impl_PlatCfg_isSlot.f x121000 x121001 x121002 x122006).bind fun t135 => (if t135 = true then (impl_GuestOk.j5 k x121000 x121001 x121002 x122000 x122001 x122002 x122003 x122004 x122005 x122006 x122007 x122008 x122009 x122010 x122011 x122012 x122013 x122014 x122015 x122016 x122017 x122018 x122019 x122020 x122021 x122022 x122023 x122024 x122025) else (some false))) else (some false)) else (if x122008 = 13 then (impl_GuestOk.j3 k x122008 (x122008 == 13) x121000 x121001 x121002 x122000 x122001 x122002 x122003 x122004 x122005 x122006 x122007 x122008 x122009 x122010 x122011 x122012 x122013 x122014 x122015 x122016 x122017 x122018 x122019 x122020 x122021 x122022 x122023 x122024 x122025) else (impl_GuestOk.j3 k x122008 (x122008 == 14) x121000 x121001 x121002 x122000 x122001 x122002 x122003 x122004 x122005 x122006 x122007 x122008 x122009 x122010 x122011 x122012 x122013 x122014 x122015 x122016 x122017 x122018 x122019 x122020 x122021 x122022 x122023 x122024 x122025))))
def impl_GuestOk.j5 : Nat → Int → Int → Int → Bool → Int → Int → Bool → Int → Int → Int → Int → Int → Int → Int → Int → Int → Int → Int → Bool → Int → Int → Int → Int → Int → List Int → List Int → Int → Int → Int → Option (Bool)
 | 0, _, _, _, _, _, _, _, _, _, _, _, _, _, _, _, _, _, _, _, _, _, _, _, _, _, _, _, _, _ => none
 | k + 1, x121000, x121001, x121002, x122000, x122001, x122002, x122003, x122004, x122005, x122006, x122007, x122008, x122009, x122010, x122011, x122012, x122013, x122014, x122015, x122016, x122017, x122018, x122019, x122020, x122021, x122022, x122023, x122024, x122025 => (impl_within.f x122008 16 21).bind fun t139 => (if t139 = true then ((impl_PlatCfg_isSlot.f x121000 x121001 x121002 x122013).bind fun t140 => (if t140 = true then (if x122015 = true then (if x122008 = 23 then (some true) else (if x122008 = 24 then (some true) else (some (x122008 == 25)))) else (some true)) else (some false))) else (if x122015 = true then (if x122008 = 23 then (some true) else (if x122008 = 24 then (some true) else (some (x122008 == 25)))) else (some true)))
def impl_GuestOk.j3 : Nat → Int → Bool → Int → Int → Int → Bool → Int → Int → Bool → Int → Int → Int → Int → Int → Int → Int → Int → Int → Int → Int → Bool → Int → Int → Int → Int → Int → List Int → List Int → Int → Int → Int → Option (Bool)
 | 0, _, _, _, _, _, _, _, _, _, _, _, _, _, _, _, _, _, _, _, _, _, _, _, _, _, _, _, _, _, _, _ => none
 | k + 1, x105, x135, x121000, x121001, x121002, x122000, x122001, x122002, x122003, x122004, x122005, x122006, x122007, x122008, x122009, x122010, x122011, x122012, x122013, x122014, x122015, x122016, x122017, x122018, x122019, x122020, x122021, x122022, x122023, x122024, x122025 => if x135 = true then (if x122009 > (x122022.length : Int) then (some false) else (impl_GuestOk.j5 k x121000 x121001 x121002 x122000 x122001 x122002 x122003 x122004 x122005 x122006 x122007 x122008 x122009 x122010 x122011 x122012 x122013 x122014 x122015 x122016 x122017 x122018 x122019 x122020 x122021 x122022 x122023 x122024 x122025)) else (if x105 = 22 then (impl_GuestOk.j4 k (x105 == 22) x121000 x121001 x121002 x122000 x122001 x122002 x122003 x122004 x122005 x122006 x122007 x122008 x122009 x122010 x122011 x122012 x122013 x122014 x122015 x122016 x122017 x122018 x122019 x122020 x122021 x122022 x122023 x122024 x122025) else (if x105 = 23 then (impl_GuestOk.j4 k (x105 == 23) x121000 x121001 x121002 x122000 x122001 x122002 x122003 x122004 x122005 x122006 x122007 x122008 x122009 x122010 x122011 x122012 x122013 x122014 x122015 x122016 x122017 x122018 x122019 x122020 x122021 x122022 x122023 x122024 x122025) else (impl_GuestOk.j4 k (x105 == 24) x121000 x121001 x121002 x122000 x122001 x122002 x122003 x122004 x122005 x122006 x122007 x122008 x122009 x122010 x122011 x122012 x122013 x122014 x122015 x122016 x122017 x122018 x122019 x122020 x122021 x122022 x122023 x122024 x122025)))
def impl_GuestOk.j4 : Nat → Bool → Int → Int → Int → Bool → Int → Int → Bool → Int → Int → Int → Int → Int → Int → Int → Int → Int → Int → Int → Bool → Int → Int → Int → Int → Int → List Int → List Int → Int → Int → Int → Option (Bool)
 | 0, _, _, _, _, _, _, _, _, _, _, _, _, _, _, _, _, _, _, _, _, _, _, _, _, _, _, _, _, _, _ => none
 | k + 1, x144, x121000, x121001, x121002, x122000, x122001, x122002, x122003, x122004, x122005, x122006, x122007, x122008, x122009, x122010, x122011, x122012, x122013, x122014, x122015, x122016, x122017, x122018, x122019, x122020, x122021, x122022, x122023, x122024, x122025 => if x144 = true then ((impl_within.f x122009 1 x122010).bind fun t136 => (if t136 = true then (if x122015 = true then (if x122010 = (x122022.length : Int) then ((impl_PlatCfg_isSlot.f x121000 x121001 x121002 x122013).bind fun t137 => (if t137 = true then (impl_GuestOk.j5 k x121000 x121001 x121002 x122000 x122001 x122002 x122003 x122004 x122005 x122006 x122007 x122008 x122009 x122010 x122011 x122012 x122013 x122014 x122015 x122016 x122017 x122018 x122019 x122020 x122021 x122022 x122023 x122024 x122025) else (some false))) else (some false)) else ((impl_PlatCfg_isSlot.f x121000 x121001 x121002 x122013).bind fun t138 => (if t138 = true then (impl_GuestOk.j5 k x121000 x121001 x121002 x122000 x122001 x122002 x122003 x122004 x122005 x122006 x122007 x122008 x122009 x122010 x122011 x122012 x122013 x122014 x122015 x122016 x122017 x122018 x122019 x122020 x122021 x122022 x122023 x122024 x122025) else (some false)))) else (some false))) else (impl_GuestOk.j5 k x121000 x121001 x121002 x122000 x122001 x122002 x122003 x122004 x122005 x122006 x122007 x122008 x122009 x122010 x122011 x122012 x122013 x122014 x122015 x122016 x122017 x122018 x122019 x122020 x122021 x122022 x122023 x122024 x122025)
end
def impl_GuestOk.f (k : Nat) (a0_0 : Int) (a0_1 : Int) (a0_2 : Int) (a1_0 : Bool) (a1_1 : Int) (a1_2 : Int) (a1_3 : Bool) (a1_4 : Int) (a1_5 : Int) (a1_6 : Int) (a1_7 : Int) (a1_8 : Int) (a1_9 : Int) (a1_10 : Int) (a1_11 : Int) (a1_12 : Int) (a1_13 : Int) (a1_14 : Int) (a1_15 : Bool) (a1_16 : Int) (a1_17 : Int) (a1_18 : Int) (a1_19 : Int) (a1_20 : Int) (l1_21 : List Int) (l1_22 : List Int) (a1_23 : Int) (a1_24 : Int) (a1_25 : Int) : Option (Bool) := (impl_PlatOk.f a0_0 a0_1 a0_2).bind fun t122 => (if t122 = true then (if (a1_3 != (a1_8 != 0)) = true then (impl_GuestOk.j0 k true a0_0 a0_1 a0_2 a1_0 a1_1 a1_2 a1_3 a1_4 a1_5 a1_6 a1_7 a1_8 a1_9 a1_10 a1_11 a1_12 a1_13 a1_14 a1_15 a1_16 a1_17 a1_18 a1_19 a1_20 l1_21 l1_22 a1_23 a1_24 a1_25) else (if a1_3 = true then (if a1_5 = a1_1 then ((impl_PlatCfg_isSlot.f a0_0 a0_1 a0_2 a1_1).bind fun t123 => (impl_GuestOk.j0 k (!t123) a0_0 a0_1 a0_2 a1_0 a1_1 a1_2 a1_3 a1_4 a1_5 a1_6 a1_7 a1_8 a1_9 a1_10 a1_11 a1_12 a1_13 a1_14 a1_15 a1_16 a1_17 a1_18 a1_19 a1_20 l1_21 l1_22 a1_23 a1_24 a1_25)) else (impl_GuestOk.j0 k true a0_0 a0_1 a0_2 a1_0 a1_1 a1_2 a1_3 a1_4 a1_5 a1_6 a1_7 a1_8 a1_9 a1_10 a1_11 a1_12 a1_13 a1_14 a1_15 a1_16 a1_17 a1_18 a1_19 a1_20 l1_21 l1_22 a1_23 a1_24 a1_25)) else ((impl_PlatCfg_isSlot.f a0_0 a0_1 a0_2 a1_1).bind fun t124 => (impl_GuestOk.j0 k (!t124) a0_0 a0_1 a0_2 a1_0 a1_1 a1_2 a1_3 a1_4 a1_5 a1_6 a1_7 a1_8 a1_9 a1_10 a1_11 a1_12 a1_13 a1_14 a1_15 a1_16 a1_17 a1_18 a1_19 a1_20 l1_21 l1_22 a1_23 a1_24 a1_25)))) else (impl_GuestOk.j0 k true a0_0 a0_1 a0_2 a1_0 a1_1 a1_2 a1_3 a1_4 a1_5 a1_6 a1_7 a1_8 a1_9 a1_10 a1_11 a1_12 a1_13 a1_14 a1_15 a1_16 a1_17 a1_18 a1_19 a1_20 l1_21 l1_22 a1_23 a1_24 a1_25))
theorem impl_GuestOk.mono_l : ∀ k, (∀ y0 y1 y2 y3 y4 y5 y6 y7 y8 y9 y10 y11 y12 y13 y14 y15 y16 y17 y18 y19 y20 y21 y22 y23 y24 y25 y26 y27 y28 y29, LeO (impl_GuestOk.j0 k y0 y1 y2 y3 y4 y5 y6 y7 y8 y9 y10 y11 y12 y13 y14 y15 y16 y17 y18 y19 y20 y21 y22 y23 y24 y25 y26 y27 y28 y29) (impl_GuestOk.j0 (k + 1) y0 y1 y2 y3 y4 y5 y6 y7 y8 y9 y10 y11 y12 y13 y14 y15 y16 y17 y18 y19 y20 y21 y22 y23 y24 y25 y26 y27 y28 y29)) ∧ (∀ y0 y1 y2 y3 y4 y5 y6 y7 y8 y9 y10 y11 y12 y13 y14 y15 y16 y17 y18 y19 y20 y21 y22 y23 y24 y25 y26 y27 y28 y29 y30, LeO (impl_GuestOk.j1 k y0 y1 y2 y3 y4 y5 y6 y7 y8 y9 y10 y11 y12 y13 y14 y15 y16 y17 y18 y19 y20 y21 y22 y23 y24 y25 y26 y27 y28 y29 y30) (impl_GuestOk.j1 (k + 1) y0 y1 y2 y3 y4 y5 y6 y7 y8 y9 y10 y11 y12 y13 y14 y15 y16 y17 y18 y19 y20 y21 y22 y23 y24 y25 y26 y27 y28 y29 y30)) ∧ (∀ y0 y1 y2 y3 y4 y5 y6 y7 y8 y9 y10 y11 y12 y13 y14 y15 y16 y17 y18 y19 y20 y21 y22 y23 y24 y25 y26 y27 y28 y29 y30, LeO (impl_GuestOk.j2 k y0 y1 y2 y3 y4 y5 y6 y7 y8 y9 y10 y11 y12 y13 y14 y15 y16 y17 y18 y19 y20 y21 y22 y23 y24 y25 y26 y27 y28 y29 y30) (impl_GuestOk.j2 (k + 1) y0 y1 y2 y3 y4 y5 y6 y7 y8 y9 y10 y11 y12 y13 y14 y15 y16 y17 y18 y19 y20 y21 y22 y23 y24 y25 y26 y27 y28 y29 y30)) ∧ (∀ y0 y1 y2 y3 y4 y5 y6 y7 y8 y9 y10 y11 y12 y13 y14 y15 y16 y17 y18 y19 y20 y21 y22 y23 y24 y25 y26 y27 y28, LeO (impl_GuestOk.j5 k y0 y1 y2 y3 y4 y5 y6 y7 y8 y9 y10 y11 y12 y13 y14 y15 y16 y17 y18 y19 y20 y21 y22 y23 y24 y25 y26 y27 y28) (impl_GuestOk.j5 (k + 1) y0 y1 y2 y3 y4 y5 y6 y7 y8 y9 y10 y11 y12 y13 y14 y15 y16 y17 y18 y19 y20 y21 y22 y23 y24 y25 y26 y27 y28)) ∧ (∀ y0 y1 y2 y3 y4 y5 y6 y7 y8 y9 y10 y11 y12 y13 y14 y15 y16 y17 y18 y19 y20 y21 y22 y23 y24 y25 y26 y27 y28 y29 y30, LeO (impl_GuestOk.j3 k y0 y1 y2 y3 y4 y5 y6 y7 y8 y9 y10 y11 y12 y13 y14 y15 y16 y17 y18 y19 y20 y21 y22 y23 y24 y25 y26 y27 y28 y29 y30) (impl_GuestOk.j3 (k + 1) y0 y1 y2 y3 y4 y5 y6 y7 y8 y9 y10 y11 y12 y13 y14 y15 y16 y17 y18 y19 y20 y21 y22 y23 y24 y25 y26 y27 y28 y29 y30)) ∧ (∀ y0 y1 y2 y3 y4 y5 y6 y7 y8 y9 y10 y11 y12 y13 y14 y15 y16 y17 y18 y19 y20 y21 y22 y23 y24 y25 y26 y27 y28 y29, LeO (impl_GuestOk.j4 k y0 y1 y2 y3 y4 y5 y6 y7 y8 y9 y10 y11 y12 y13 y14 y15 y16 y17 y18 y19 y20 y21 y22 y23 y24 y25 y26 y27 y28 y29) (impl_GuestOk.j4 (k + 1) y0 y1 y2 y3 y4 y5 y6 y7 y8 y9 y10 y11 y12 y13 y14 y15 y16 y17 y18 y19 y20 y21 y22 y23 y24 y25 y26 y27 y28 y29))
 | 0 => ⟨fun _ _ _ _ _ _ _ _ _ _ _ _ _ _ _ _ _ _ _ _ _ _ _ _ _ _ _ _ _ _ r h => by simp [impl_GuestOk.j0] at h, fun _ _ _ _ _ _ _ _ _ _ _ _ _ _ _ _ _ _ _ _ _ _ _ _ _ _ _ _ _ _ _ r h => by simp [impl_GuestOk.j1] at h, fun _ _ _ _ _ _ _ _ _ _ _ _ _ _ _ _ _ _ _ _ _ _ _ _ _ _ _ _ _ _ _ r h => by simp [impl_GuestOk.j2] at h, fun _ _ _ _ _ _ _ _ _ _ _ _ _ _ _ _ _ _ _ _ _ _ _ _ _ _ _ _ _ r h => by simp [impl_GuestOk.j5] at h, fun _ _ _ _ _ _ _ _ _ _ _ _ _ _ _ _ _ _ _ _ _ _ _ _ _ _ _ _ _ _ _ r h => by simp [impl_GuestOk.j3] at h, fun _ _ _ _ _ _ _ _ _ _ _ _ _ _ _ _ _ _ _ _ _ _ _ _ _ _ _ _ _ _ r h => by simp [impl_GuestOk.j4] at h⟩
 | k + 1 => by
  obtain ⟨ih0, ih1, ih2, ih3, ih4, ih5⟩ := impl_GuestOk.mono_l k
  refine ⟨?_, ?_, ?_, ?_, ?_, ?_⟩
  ·intro y0 y1 y2 y3 y4 y5 y6 y7 y8 y9 y10 y11 y12 y13 y14 y15 y16 y17 y18 y19 y20 y21 y22 y23 y24 y25 y26 y27 y28 y29
   unfold impl_GuestOk.j0
   repeat' first
   | (with_reducible exact ih0 _ _ _ _ _ _ _ _ _ _ _ _ _ _ _ _ _ _ _ _ _ _ _ _ _ _ _ _ _ _)
   | (with_reducible exact ih1 _ _ _ _ _ _ _ _ _ _ _ _ _ _ _ _ _ _ _ _ _ _ _ _ _ _ _ _ _ _ _)
   | (with_reducible exact ih2 _ _ _ _ _ _ _ _ _ _ _ _ _ _ _ _ _ _ _ _ _ _ _ _ _ _ _ _ _ _ _)
   | (with_reducible exact ih3 _ _ _ _ _ _ _ _ _ _ _ _ _ _ _ _ _ _ _ _ _ _ _ _ _ _ _ _ _)
   | (with_reducible exact ih4 _ _ _ _ _ _ _ _ _ _ _ _ _ _ _ _ _ _ _ _ _ _ _ _ _ _ _ _ _ _ _)
   | (with_reducible exact ih5 _ _ _ _ _ _ _ _ _ _ _ _ _ _ _ _ _ _ _ _ _ _ _ _ _ _ _ _ _ _)
   | (with_reducible exact LeO.refl _)
   | (with_reducible exact LeO.none _)
   | (with_reducible refine LeO.ite ?_ ?_)
   | (with_reducible refine LeO.bind ?_ (fun _ => ?_))
   | exact ih0 _ _ _ _ _ _ _ _ _ _ _ _ _ _ _ _ _ _ _ _ _ _ _ _ _ _ _ _ _ _
   | exact ih1 _ _ _ _ _ _ _ _ _ _ _ _ _ _ _ _ _ _ _ _ _ _ _ _ _ _ _ _ _ _ _
   | exact ih2 _ _ _ _ _ _ _ _ _ _ _ _ _ _ _ _ _ _ _ _ _ _ _ _ _ _ _ _ _ _ _
   | exact ih3 _ _ _ _ _ _ _ _ _ _ _ _ _ _ _ _ _ _ _ _ _ _ _ _ _ _ _ _ _
   | exact ih4 _ _ _ _ _ _ _ _ _ _ _ _ _ _ _ _ _ _ _ _ _ _ _ _ _ _ _ _ _ _ _
   | exact ih5 _ _ _ _ _ _ _ _ _ _ _ _ _ _ _ _ _ _ _ _ _ _ _ _ _ _ _ _ _ _
   | exact LeO.none _
   | refine LeO.ite ?_ ?_
   | refine LeO.bind ?_ (fun _ => ?_)
  ·intro y0 y1 y2 y3 y4 y5 y6 y7 y8 y9 y10 y11 y12 y13 y14 y15 y16 y17 y18 y19 y20 y21 y22 y23 y24 y25 y26 y27 y28 y29 y30
   unfold impl_GuestOk.j1
   repeat' first
   | (with_reducible exact ih0 _ _ _ _ _ _ _ _ _ _ _ _ _ _ _ _ _ _ _ _ _ _ _ _ _ _ _ _ _ _)
   | (with_reducible exact ih1 _ _ _ _ _ _ _ _ _ _ _ _ _ _ _ _ _ _ _ _ _ _ _ _ _ _ _ _ _ _ _)
   | (with_reducible exact ih2 _ _ _ _ _ _ _ _ _ _ _ _ _ _ _ _ _ _ _ _ _ _ _ _ _ _ _ _ _ _ _)
   | (with_reducible exact ih3 _ _ _ _ _ _ _ _ _ _ _ _ _ _ _ _ _ _ _ _ _ _ _ _ _ _ _ _ _)
   | (with_reducible exact ih4 _ _ _ _ _ _ _ _ _ _ _ _ _ _ _ _ _ _ _ _ _ _ _ _ _ _ _ _ _ _ _)
   | (with_reducible exact ih5 _ _ _ _ _ _ _ _ _ _ _ _ _ _ _ _ _ _ _ _ _ _ _ _ _ _ _ _ _ _)
   | (with_reducible exact LeO.refl _)
   | (with_reducible exact LeO.none _)
   | (with_reducible refine LeO.ite ?_ ?_)
   | (with_reducible refine LeO.bind ?_ (fun _ => ?_))
   | exact ih0 _ _ _ _ _ _ _ _ _ _ _ _ _ _ _ _ _ _ _ _ _ _ _ _ _ _ _ _ _ _
   | exact ih1 _ _ _ _ _ _ _ _ _ _ _ _ _ _ _ _ _ _ _ _ _ _ _ _ _ _ _ _ _ _ _
   | exact ih2 _ _ _ _ _ _ _ _ _ _ _ _ _ _ _ _ _ _ _ _ _ _ _ _ _ _ _ _ _ _ _
   | exact ih3 _ _ _ _ _ _ _ _ _ _ _ _ _ _ _ _ _ _ _ _ _ _ _ _ _ _ _ _ _
   | exact ih4 _ _ _ _ _ _ _ _ _ _ _ _ _ _ _ _ _ _ _ _ _ _ _ _ _ _ _ _ _ _ _
   | exact ih5 _ _ _ _ _ _ _ _ _ _ _ _ _ _ _ _ _ _ _ _ _ _ _ _ _ _ _ _ _ _
   | exact LeO.none _
   | refine LeO.ite ?_ ?_
   | refine LeO.bind ?_ (fun _ => ?_)
  ·intro y0 y1 y2 y3 y4 y5 y6 y7 y8 y9 y10 y11 y12 y13 y14 y15 y16 y17 y18 y19 y20 y21 y22 y23 y24 y25 y26 y27 y28 y29 y30
   unfold impl_GuestOk.j2
   repeat' first
   | (with_reducible exact ih0 _ _ _ _ _ _ _ _ _ _ _ _ _ _ _ _ _ _ _ _ _ _ _ _ _ _ _ _ _ _)
   | (with_reducible exact ih1 _ _ _ _ _ _ _ _ _ _ _ _ _ _ _ _ _ _ _ _ _ _ _ _ _ _ _ _ _ _ _)
   | (with_reducible exact ih2 _ _ _ _ _ _ _ _ _ _ _ _ _ _ _ _ _ _ _ _ _ _ _ _ _ _ _ _ _ _ _)
   | (with_reducible exact ih3 _ _ _ _ _ _ _ _ _ _ _ _ _ _ _ _ _ _ _ _ _ _ _ _ _ _ _ _ _)
   | (with_reducible exact ih4 _ _ _ _ _ _ _ _ _ _ _ _ _ _ _ _ _ _ _ _ _ _ _ _ _ _ _ _ _ _ _)
   | (with_reducible exact ih5 _ _ _ _ _ _ _ _ _ _ _ _ _ _ _ _ _ _ _ _ _ _ _ _ _ _ _ _ _ _)
   | (with_reducible exact LeO.refl _)
   | (with_reducible exact LeO.none _)
   | (with_reducible refine LeO.ite ?_ ?_)
   | (with_reducible refine LeO.bind ?_ (fun _ => ?_))
   | exact ih0 _ _ _ _ _ _ _ _ _ _ _ _ _ _ _ _ _ _ _ _ _ _ _ _ _ _ _ _ _ _
   | exact ih1 _ _ _ _ _ _ _ _ _ _ _ _ _ _ _ _ _ _ _ _ _ _ _ _ _ _ _ _ _ _ _
   | exact ih2 _ _ _ _ _ _ _ _ _ _ _ _ _ _ _ _ _ _ _ _ _ _ _ _ _ _ _ _ _ _ _
   | exact ih3 _ _ _ _ _ _ _ _ _ _ _ _ _ _ _ _ _ _ _ _ _ _ _ _ _ _ _ _ _
   | exact ih4 _ _ _ _ _ _ _ _ _ _ _ _ _ _ _ _ _ _ _ _ _ _ _ _ _ _ _ _ _ _ _
   | exact ih5 _ _ _ _ _ _ _ _ _ _ _ _ _ _ _ _ _ _ _ _ _ _ _ _ _ _ _ _ _ _
   | exact LeO.none _
   | refine LeO.ite ?_ ?_
   | refine LeO.bind ?_ (fun _ => ?_)
  ·intro y0 y1 y2 y3 y4 y5 y6 y7 y8 y9 y10 y11 y12 y13 y14 y15 y16 y17 y18 y19 y20 y21 y22 y23 y24 y25 y26 y27 y28
   unfold impl_GuestOk.j5
   repeat' first
   | (with_reducible exact ih0 _ _ _ _ _ _ _ _ _ _ _ _ _ _ _ _ _ _ _ _ _ _ _ _ _ _ _ _ _ _)
   | (with_reducible exact ih1 _ _ _ _ _ _ _ _ _ _ _ _ _ _ _ _ _ _ _ _ _ _ _ _ _ _ _ _ _ _ _)
   | (with_reducible exact ih2 _ _ _ _ _ _ _ _ _ _ _ _ _ _ _ _ _ _ _ _ _ _ _ _ _ _ _ _ _ _ _)
   | (with_reducible exact ih3 _ _ _ _ _ _ _ _ _ _ _ _ _ _ _ _ _ _ _ _ _ _ _ _ _ _ _ _ _)
   | (with_reducible exact ih4 _ _ _ _ _ _ _ _ _ _ _ _ _ _ _ _ _ _ _ _ _ _ _ _ _ _ _ _ _ _ _)
   | (with_reducible exact ih5 _ _ _ _ _ _ _ _ _ _ _ _ _ _ _ _ _ _ _ _ _ _ _ _ _ _ _ _ _ _)
   | (with_reducible exact LeO.refl _)
   | (with_reducible exact LeO.none _)
   | (with_reducible refine LeO.ite ?_ ?_)
   | (with_reducible refine LeO.bind ?_ (fun _ => ?_))
   | exact ih0 _ _ _ _ _ _ _ _ _ _ _ _ _ _ _ _ _ _ _ _ _ _ _ _ _ _ _ _ _ _
   | exact ih1 _ _ _ _ _ _ _ _ _ _ _ _ _ _ _ _ _ _ _ _ _ _ _ _ _ _ _ _ _ _ _
   | exact ih2 _ _ _ _ _ _ _ _ _ _ _ _ _ _ _ _ _ _ _ _ _ _ _ _ _ _ _ _ _ _ _
   | exact ih3 _ _ _ _ _ _ _ _ _ _ _ _ _ _ _ _ _ _ _ _ _ _ _ _ _ _ _ _ _
   | exact ih4 _ _ _ _ _ _ _ _ _ _ _ _ _ _ _ _ _ _ _ _ _ _ _ _ _ _ _ _ _ _ _
   | exact ih5 _ _ _ _ _ _ _ _ _ _ _ _ _ _ _ _ _ _ _ _ _ _ _ _ _ _ _ _ _ _
   | exact LeO.none _
   | refine LeO.ite ?_ ?_
   | refine LeO.bind ?_ (fun _ => ?_)
  ·intro y0 y1 y2 y3 y4 y5 y6 y7 y8 y9 y10 y11 y12 y13 y14 y15 y16 y17 y18 y19 y20 y21 y22 y23 y24 y25 y26 y27 y28 y29 y30
   unfold impl_GuestOk.j3
   repeat' first
   | (with_reducible exact ih0 _ _ _ _ _ _ _ _ _ _ _ _ _ _ _ _ _ _ _ _ _ _ _ _ _ _ _ _ _ _)
   | (with_reducible exact ih1 _ _ _ _ _ _ _ _ _ _ _ _ _ _ _ _ _ _ _ _ _ _ _ _ _ _ _ _ _ _ _)
   | (with_reducible exact ih2 _ _ _ _ _ _ _ _ _ _ _ _ _ _ _ _ _ _ _ _ _ _ _ _ _ _ _ _ _ _ _)
   | (with_reducible exact ih3 _ _ _ _ _ _ _ _ _ _ _ _ _ _ _ _ _ _ _ _ _ _ _ _ _ _ _ _ _)
   | (with_reducible exact ih4 _ _ _ _ _ _ _ _ _ _ _ _ _ _ _ _ _ _ _ _ _ _ _ _ _ _ _ _ _ _ _)
   | (with_reducible exact ih5 _ _ _ _ _ _ _ _ _ _ _ _ _ _ _ _ _ _ _ _ _ _ _ _ _ _ _ _ _ _)
   | (with_reducible exact LeO.refl _)
   | (with_reducible exact LeO.none _)
   | (with_reducible refine LeO.ite ?_ ?_)
   | (with_reducible refine LeO.bind ?_ (fun _ => ?_))
   | exact ih0 _ _ _ _ _ _ _ _ _ _ _ _ _ _ _ _ _ _ _ _ _ _ _ _ _ _ _ _ _ _
   | exact ih1 _ _ _ _ _ _ _ _ _ _ _ _ _ _ _ _ _ _ _ _ _ _ _ _ _ _ _ _ _ _ _
   | exact ih2 _ _ _ _ _ _ _ _ _ _ _ _ _ _ _ _ _ _ _ _ _ _ _ _ _ _ _ _ _ _ _
   | exact ih3 _ _ _ _ _ _ _ _ _ _ _ _ _ _ _ _ _ _ _ _ _ _ _ _ _ _ _ _ _
   | exact ih4 _ _ _ _ _ _ _ _ _ _ _ _ _ _ _ _ _ _ _ _ _ _ _ _ _ _ _ _ _ _ _
   | exact ih5 _ _ _ _ _ _ _ _ _ _ _ _ _ _ _ _ _ _ _ _ _ _ _ _ _ _ _ _ _ _
   | exact LeO.none _
   | refine LeO.ite ?_ ?_
   | refine LeO.bind ?_ (fun _ => ?_)
  ·intro y0 y1 y2 y3 y4 y5 y6 y7 y8 y9 y10 y11 y12 y13 y14 y15 y16 y17 y18 y19 y20 y21 y22 y23 y24 y25 y26 y27 y28 y29
   unfold impl_GuestOk.j4
   repeat' first
   | (with_reducible exact ih0 _ _ _ _ _ _ _ _ _ _ _ _ _ _ _ _ _ _ _ _ _ _ _ _ _ _ _ _ _ _)
   | (with_reducible exact ih1 _ _ _ _ _ _ _ _ _ _ _ _ _ _ _ _ _ _ _ _ _ _ _ _ _ _ _ _ _ _ _)
   | (with_reducible exact ih2 _ _ _ _ _ _ _ _ _ _ _ _ _ _ _ _ _ _ _ _ _ _ _ _ _ _ _ _ _ _ _)
   | (with_reducible exact ih3 _ _ _ _ _ _ _ _ _ _ _ _ _ _ _ _ _ _ _ _ _ _ _ _ _ _ _ _ _)
   | (with_reducible exact ih4 _ _ _ _ _ _ _ _ _ _ _ _ _ _ _ _ _ _ _ _ _ _ _ _ _ _ _ _ _ _ _)
   | (with_reducible exact ih5 _ _ _ _ _ _ _ _ _ _ _ _ _ _ _ _ _ _ _ _ _ _ _ _ _ _ _ _ _ _)
   | (with_reducible exact LeO.refl _)
   | (with_reducible exact LeO.none _)
   | (with_reducible refine LeO.ite ?_ ?_)
   | (with_reducible refine LeO.bind ?_ (fun _ => ?_))
   | exact ih0 _ _ _ _ _ _ _ _ _ _ _ _ _ _ _ _ _ _ _ _ _ _ _ _ _ _ _ _ _ _
   | exact ih1 _ _ _ _ _ _ _ _ _ _ _ _ _ _ _ _ _ _ _ _ _ _ _ _ _ _ _ _ _ _ _
   | exact ih2 _ _ _ _ _ _ _ _ _ _ _ _ _ _ _ _ _ _ _ _ _ _ _ _ _ _ _ _ _ _ _
   | exact ih3 _ _ _ _ _ _ _ _ _ _ _ _ _ _ _ _ _ _ _ _ _ _ _ _ _ _ _ _ _
   | exact ih4 _ _ _ _ _ _ _ _ _ _ _ _ _ _ _ _ _ _ _ _ _ _ _ _ _ _ _ _ _ _ _
   | exact ih5 _ _ _ _ _ _ _ _ _ _ _ _ _ _ _ _ _ _ _ _ _ _ _ _ _ _ _ _ _ _
   | exact LeO.none _
   | refine LeO.ite ?_ ?_
   | refine LeO.bind ?_ (fun _ => ?_)
theorem impl_GuestOk.mono : ∀ a0 a1 a2 a3 a4 a5 a6 a7 a8 a9 a10 a11 a12 a13 a14 a15 a16 a17 a18 a19 a20 a21 a22 a23 a24 a25 a26 a27 a28 k, LeO (impl_GuestOk.f k a0 a1 a2 a3 a4 a5 a6 a7 a8 a9 a10 a11 a12 a13 a14 a15 a16 a17 a18 a19 a20 a21 a22 a23 a24 a25 a26 a27 a28) (impl_GuestOk.f (k + 1) a0 a1 a2 a3 a4 a5 a6 a7 a8 a9 a10 a11 a12 a13 a14 a15 a16 a17 a18 a19 a20 a21 a22 a23 a24 a25 a26 a27 a28) := by
 intro a0 a1 a2 a3 a4 a5 a6 a7 a8 a9 a10 a11 a12 a13 a14 a15 a16 a17 a18 a19 a20 a21 a22 a23 a24 a25 a26 a27 a28 k
 obtain ⟨ih0, ih1, ih2, ih3, ih4, ih5⟩ := impl_GuestOk.mono_l k
 unfold impl_GuestOk.f
 repeat' first
   | (with_reducible exact ih0 _ _ _ _ _ _ _ _ _ _ _ _ _ _ _ _ _ _ _ _ _ _ _ _ _ _ _ _ _ _)
   | (with_reducible exact ih1 _ _ _ _ _ _ _ _ _ _ _ _ _ _ _ _ _ _ _ _ _ _ _ _ _ _ _ _ _ _ _)
   | (with_reducible exact ih2 _ _ _ _ _ _ _ _ _ _ _ _ _ _ _ _ _ _ _ _ _ _ _ _ _ _ _ _ _ _ _)
   | (with_reducible exact ih3 _ _ _ _ _ _ _ _ _ _ _ _ _ _ _ _ _ _ _ _ _ _ _ _ _ _ _ _ _)
   | (with_reducible exact ih4 _ _ _ _ _ _ _ _ _ _ _ _ _ _ _ _ _ _ _ _ _ _ _ _ _ _ _ _ _ _ _)
   | (with_reducible exact ih5 _ _ _ _ _ _ _ _ _ _ _ _ _ _ _ _ _ _ _ _ _ _ _ _ _ _ _ _ _ _)
   | (with_reducible exact LeO.refl _)
   | (with_reducible exact LeO.none _)
   | (with_reducible refine LeO.ite ?_ ?_)
   | (with_reducible refine LeO.bind ?_ (fun _ => ?_))
   | exact ih0 _ _ _ _ _ _ _ _ _ _ _ _ _ _ _ _ _ _ _ _ _ _ _ _ _ _ _ _ _ _
   | exact ih1 _ _ _ _ _ _ _ _ _ _ _ _ _ _ _ _ _ _ _ _ _ _ _ _ _ _ _ _ _ _ _
   | exact ih2 _ _ _ _ _ _ _ _ _ _ _ _ _ _ _ _ _ _ _ _ _ _ _ _ _ _ _ _ _ _ _
   | exact ih3 _ _ _ _ _ _ _ _ _ _ _ _ _ _ _ _ _ _ _ _ _ _ _ _ _ _ _ _ _
   | exact ih4 _ _ _ _ _ _ _ _ _ _ _ _ _ _ _ _ _ _ _ _ _ _ _ _ _ _ _ _ _ _ _
   | exact ih5 _ _ _ _ _ _ _ _ _ _ _ _ _ _ _ _ _ _ _ _ _ _ _ _ _ _ _ _ _ _
   | exact LeO.none _
   | refine LeO.ite ?_ ?_
   | refine LeO.bind ?_ (fun _ => ?_)
set_option maxHeartbeats 8000000 in
set_option maxRecDepth 100000 in
theorem impl_GuestOk.calls (k : Nat) (a0_0 : Int) (a0_1 : Int) (a0_2 : Int) (a1_0 : Bool) (a1_1 : Int) (a1_2 : Int) (a1_3 : Bool) (a1_4 : Int) (a1_5 : Int) (a1_6 : Int) (a1_7 : Int) (a1_8 : Int) (a1_9 : Int) (a1_10 : Int) (a1_11 : Int) (a1_12 : Int) (a1_13 : Int) (a1_14 : Int) (a1_15 : Bool) (a1_16 : Int) (a1_17 : Int) (a1_18 : Int) (a1_19 : Int) (a1_20 : Int) (A1_21 : Option Addr) (c1_21 : Nat) (l1_21 : List Int) (A1_22 : Option Addr) (c1_22 : Nat) (l1_22 : List Int) (a1_23 : Int) (a1_24 : Int) (a1_25 : Int) (r : Bool) (w : World) (hr1_21 : Kd.C (Kd.int .u64) w A1_21 l1_21.length l1_21) (hc1_21 : l1_21.length ≤ c1_21) (hr1_22 : Kd.C (Kd.int .u64) w A1_22 l1_22.length l1_22) (hc1_22 : l1_22.length ≤ c1_22) (h : impl_GuestOk.f k a0_0 a0_1 a0_2 a1_0 a1_1 a1_2 a1_3 a1_4 a1_5 a1_6 a1_7 a1_8 a1_9 a1_10 a1_11 a1_12 a1_13 a1_14 a1_15 a1_16 a1_17 a1_18 a1_19 a1_20 l1_21 l1_22 a1_23 a1_24 a1_25 = some r) :
  Calls Try.prog 38 #[.agg #[.int .i64 a0_0, .int .i64 a0_1, .int .i64 a0_2], .agg #[.bool a1_0, .int .i64 a1_1, .int .i64 a1_2, .bool a1_3, .int .i64 a1_4, .int .i64 a1_5, .int .i64 a1_6, .int .i64 a1_7, .int .i64 a1_8, .int .i64 a1_9, .int .i64 a1_10, .int .i64 a1_11, .int .i64 a1_12, .int .i64 a1_13, .int .i64 a1_14, .bool a1_15, .int .i64 a1_16, .int .u64 a1_17, .int .u64 a1_18, .int .u64 a1_19, .int .u64 a1_20, .slice A1_21 l1_21.length c1_21, .slice A1_22 l1_22.length c1_22, .int .i64 a1_23, .int .i64 a1_24, .int .i64 a1_25]] w fun e w' => e = .returned (.bool r) ∧ Below w.heap.size w w' := by
 have hu43 := Try.underlying43
 have hu59 := Try.underlying59
 have HR1_21 := Aside0.mk hr1_21
 have HC1_21 := Aside0.mk hc1_21
 clear hr1_21 hc1_21
 have HR1_22 := Aside0.mk hr1_22
 have HC1_22 := Aside0.mk hc1_22
 clear hr1_22 hc1_22
 have HB := Aside0.mk (Below.refl w.heap.size w)
 have H : ((impl_PlatOk.f a0_0 a0_1 a0_2).bind fun t122 => (if t122 = true then (if (a1_3 != (a1_8 != 0)) = true then (impl_GuestOk.j0 k true a0_0 a0_1 a0_2 a1_0 a1_1 a1_2 a1_3 a1_4 a1_5 a1_6 a1_7 a1_8 a1_9 a1_10 a1_11 a1_12 a1_13 a1_14 a1_15 a1_16 a1_17 a1_18 a1_19 a1_20 l1_21 l1_22 a1_23 a1_24 a1_25) else (if a1_3 = true then (if a1_5 = a1_1 then ((impl_PlatCfg_isSlot.f a0_0 a0_1 a0_2 a1_1).bind fun t123 => (impl_GuestOk.j0 k (!t123) a0_0 a0_1 a0_2 a1_0 a1_1 a1_2 a1_3 a1_4 a1_5 a1_6 a1_7 a1_8 a1_9 a1_10 a1_11 a1_12 a1_13 a1_14 a1_15 a1_16 a1_17 a1_18 a1_19 a1_20 l1_21 l1_22 a1_23 a1_24 a1_25)) else (impl_GuestOk.j0 k true a0_0 a0_1 a0_2 a1_0 a1_1 a1_2 a1_3 a1_4 a1_5 a1_6 a1_7 a1_8 a1_9 a1_10 a1_11 a1_12 a1_13 a1_14 a1_15 a1_16 a1_17 a1_18 a1_19 a1_20 l1_21 l1_22 a1_23 a1_24 a1_25)) else ((impl_PlatCfg_isSlot.f a0_0 a0_1 a0_2 a1_1).bind fun t124 => (impl_GuestOk.j0 k (!t124) a0_0 a0_1 a0_2 a1_0 a1_1 a1_2 a1_3 a1_4 a1_5 a1_6 a1_7 a1_8 a1_9 a1_10 a1_11 a1_12 a1_13 a1_14 a1_15 a1_16 a1_17 a1_18 a1_19 a1_20 l1_21 l1_22 a1_23 a1_24 a1_25)))) else (impl_GuestOk.j0 k true a0_0 a0_1 a0_2 a1_0 a1_1 a1_2 a1_3 a1_4 a1_5 a1_6 a1_7 a1_8 a1_9 a1_10 a1_11 a1_12 a1_13 a1_14 a1_15 a1_16 a1_17 a1_18 a1_19 a1_20 l1_21 l1_22 a1_23 a1_24 a1_25))) = some r := h
 clear h
 have HC3 := Aside0.mk H
 clear H
 go_enter Try.func38, Try.ntmps38
 go_upto_region 1 with (first | ((with_reducible refine gate_dst (N := 2) rfl ?_); (try (refine gate_guard (by rfl) ?_; dsimp only)); refine box_event ?hg (N := 2) ?hd (cs := #[.int .i64 a0_0, .int .i64 a0_1, .int .i64 a0_2]) (t := 43) ?hr ?_; (case hd => rfl); (case hg => rfl); (case hr => first | (go_simp; done) | (go_simp; rfl)); intro gb120 hg w4 hbox hb; have n0_ := Aside0.mk (below_step zA2_9 hb); have n1_ := Aside0.mk (hbox); have n2_ := Aside0.mk ((by rw [hg]; exact (below_size zA2_9) : w.heap.size ≤ gb120)); have n3_ := Aside0.mk ((by rw [hg]; exact (below_size zA2_9) : w.heap.size ≤ gb120)); clear HB; have HB := n0_; have BK120 := n1_; have GW120 := n2_; have GE120 := n3_; clear n0_ n1_ n2_ n3_; clear hb hbox hg) | ((with_reducible refine gate_dst (N := 3) rfl ?_); (try (refine gate_guard (by rfl) ?_; dsimp only)); refine box_event ?hg (N := 3) ?hd (cs := #[.bool a1_0, .int .i64 a1_1, .int .i64 a1_2, .bool a1_3, .int .i64 a1_4, .int .i64 a1_5, .int .i64 a1_6, .int .i64 a1_7, .int .i64 a1_8, .int .i64 a1_9, .int .i64 a1_10, .int .i64 a1_11, .int .i64 a1_12, .int .i64 a1_13, .int .i64 a1_14, .bool a1_15, .int .i64 a1_16, .int .u64 a1_17, .int .u64 a1_18, .int .u64 a1_19, .int .u64 a1_20, .slice A1_21 l1_21.length c1_21, .slice A1_22 l1_22.length c1_22, .int .i64 a1_23, .int .i64 a1_24, .int .i64 a1_25]) (t := 59) ?hr ?_; (case hd => rfl); (case hg => rfl); (case hr => first | (go_simp; done) | (go_simp; rfl)); intro gb121 hg w5 hbox hb; have n0_ := Aside0.mk (blk_below (g := gb120) (o := .cells #[.int .i64 a0_0, .int .i64 a0_1, .int .i64 a0_2] 43 (0, 0)) zA2_1 hb); have n1_ := Aside0.mk (below_step zA2_7 hb); have n2_ := Aside0.mk (hbox); have n3_ := Aside0.mk ((by rw [hg]; exact (below_size zA2_7) : w.heap.size ≤ gb121)); have n4_ := Aside0.mk ((by rw [hg]; exact (below_size zA2_7) : w.heap.size ≤ gb121)); have n5_ := Aside0.mk ((by rw [hg]; exact Nat.ne_of_lt (blk_lt (g := gb120) (o := .cells #[.int .i64 a0_0, .int .i64 a0_1, .int .i64 a0_2] 43 (0, 0)) zA2_1) : gb120 ≠ gb121)); have n6_ := Aside0.mk ((by rw [hg]; exact Nat.ne_of_gt (blk_lt (g := gb120) (o := .cells #[.int .i64 a0_0, .int .i64 a0_1, .int .i64 a0_2] 43 (0, 0)) zA2_1) : gb121 ≠ gb120)); clear BK120; clear HB; have BK120 := n0_; have HB := n1_; have BK121 := n2_; have GW121 := n3_; have GE121 := n4_; have NB120_121 := n5_; have NB121_120 := n6_; clear n0_ n1_ n2_ n3_ n4_ n5_ n6_; clear hb hbox hg))
 (try simp only [Act.put, List.setIfInBounds_toArray, List.set_cons_zero, List.set_cons_succ])
 go_cut [36] (fun v36 wc => ∃ (kq : Nat) (x36_2 : Bool), v36 = .bool x36_2 ∧ Aside0 (impl_GuestOk.j0 kq x36_2 a0_0 a0_1 a0_2 a1_0 a1_1 a1_2 a1_3 a1_4 a1_5 a1_6 a1_7 a1_8 a1_9 a1_10 a1_11 a1_12 a1_13 a1_14 a1_15 a1_16 a1_17 a1_18 a1_19 a1_20 l1_21 l1_22 a1_23 a1_24 a1_25 = some r) ∧ Aside0 (kq ≤ k) ∧ Aside0 (wc.heap[gb120]? = some (.cells #[.int .i64 a0_0, .int .i64 a0_1, .int .i64 a0_2] 43 (0, 0))) ∧ Aside0 (wc.heap[gb121]? = some (.cells #[.bool a1_0, .int .i64 a1_1, .int .i64 a1_2, .bool a1_3, .int .i64 a1_4, .int .i64 a1_5, .int .i64 a1_6, .int .i64 a1_7, .int .i64 a1_8, .int .i64 a1_9, .int .i64 a1_10, .int .i64 a1_11, .int .i64 a1_12, .int .i64 a1_13, .int .i64 a1_14, .bool a1_15, .int .i64 a1_16, .int .u64 a1_17, .int .u64 a1_18, .int .u64 a1_19, .int .u64 a1_20, (.slice A1_21 l1_21.length c1_21), (.slice A1_22 l1_22.length c1_22), .int .i64 a1_23, .int .i64 a1_24, .int .i64 a1_25] 59 (0, 0))) ∧ Aside0 (Below w.heap.size w wc))
 case first =>
  as_aux_lemma =>
  have H := HC3.out
  clear HC3
  replace H := Option.bind_eq_some_iff.mp H
  obtain ⟨t122, A60, H⟩ := H
  replace H : (if t122 = true then (if (a1_3 != (a1_8 != 0)) = true then (impl_GuestOk.j0 k true a0_0 a0_1 a0_2 a1_0 a1_1 a1_2 a1_3 a1_4 a1_5 a1_6 a1_7 a1_8 a1_9 a1_10 a1_11 a1_12 a1_13 a1_14 a1_15 a1_16 a1_17 a1_18 a1_19 a1_20 l1_21 l1_22 a1_23 a1_24 a1_25) else (if a1_3 = true then (if a1_5 = a1_1 then ((impl_PlatCfg_isSlot.f a0_0 a0_1 a0_2 a1_1).bind fun t123 => (impl_GuestOk.j0 k (!t123) a0_0 a0_1 a0_2 a1_0 a1_1 a1_2 a1_3 a1_4 a1_5 a1_6 a1_7 a1_8 a1_9 a1_10 a1_11 a1_12 a1_13 a1_14 a1_15 a1_16 a1_17 a1_18 a1_19 a1_20 l1_21 l1_22 a1_23 a1_24 a1_25)) else (impl_GuestOk.j0 k true a0_0 a0_1 a0_2 a1_0 a1_1 a1_2 a1_3 a1_4 a1_5 a1_6 a1_7 a1_8 a1_9 a1_10 a1_11 a1_12 a1_13 a1_14 a1_15 a1_16 a1_17 a1_18 a1_19 a1_20 l1_21 l1_22 a1_23 a1_24 a1_25)) else ((impl_PlatCfg_isSlot.f a0_0 a0_1 a0_2 a1_1).bind fun t124 => (impl_GuestOk.j0 k (!t124) a0_0 a0_1 a0_2 a1_0 a1_1 a1_2 a1_3 a1_4 a1_5 a1_6 a1_7 a1_8 a1_9 a1_10 a1_11 a1_12 a1_13 a1_14 a1_15 a1_16 a1_17 a1_18 a1_19 a1_20 l1_21 l1_22 a1_23 a1_24 a1_25)))) else (impl_GuestOk.j0 k true a0_0 a0_1 a0_2 a1_0 a1_1 a1_2 a1_3 a1_4 a1_5 a1_6 a1_7 a1_8 a1_9 a1_10 a1_11 a1_12 a1_13 a1_14 a1_15 a1_16 a1_17 a1_18 a1_19 a1_20 l1_21 l1_22 a1_23 a1_24 a1_25)) = some r := H
  have A6 := Aside0.mk A60
  clear A60
  by_cases c7 : t122 = true
  ·subst c7
   have H1 : (if (a1_3 != (a1_8 != 0)) = true then (impl_GuestOk.j0 k true a0_0 a0_1 a0_2 a1_0 a1_1 a1_2 a1_3 a1_4 a1_5 a1_6 a1_7 a1_8 a1_9 a1_10 a1_11 a1_12 a1_13 a1_14 a1_15 a1_16 a1_17 a1_18 a1_19 a1_20 l1_21 l1_22 a1_23 a1_24 a1_25) else (if a1_3 = true then (if a1_5 = a1_1 then ((impl_PlatCfg_isSlot.f a0_0 a0_1 a0_2 a1_1).bind fun t123 => (impl_GuestOk.j0 k (!t123) a0_0 a0_1 a0_2 a1_0 a1_1 a1_2 a1_3 a1_4 a1_5 a1_6 a1_7 a1_8 a1_9 a1_10 a1_11 a1_12 a1_13 a1_14 a1_15 a1_16 a1_17 a1_18 a1_19 a1_20 l1_21 l1_22 a1_23 a1_24 a1_25)) else (impl_GuestOk.j0 k true a0_0 a0_1 a0_2 a1_0 a1_1 a1_2 a1_3 a1_4 a1_5 a1_6 a1_7 a1_8 a1_9 a1_10 a1_11 a1_12 a1_13 a1_14 a1_15 a1_16 a1_17 a1_18 a1_19 a1_20 l1_21 l1_22 a1_23 a1_24 a1_25)) else ((impl_PlatCfg_isSlot.f a0_0 a0_1 a0_2 a1_1).bind fun t124 => (impl_GuestOk.j0 k (!t124) a0_0 a0_1 a0_2 a1_0 a1_1 a1_2 a1_3 a1_4 a1_5 a1_6 a1_7 a1_8 a1_9 a1_10 a1_11 a1_12 a1_13 a1_14 a1_15 a1_16 a1_17 a1_18 a1_19 a1_20 l1_21 l1_22 a1_23 a1_24 a1_25)))) = some r := by rw [if_pos rfl] at H; exact H
   clear H
   have H := H1
   clear H1
   by_cases c8 : (a1_3 != (a1_8 != 0)) = true
   ·rw [if_pos c8] at H
    have c8b0 : (a1_3 != (a1_8 != 0)) = true := c8
    (try (have c8b1 : decide (a1_3 = (a1_8 != 0)) = false := by simpa using c8))
    (try (have c8b2 : (a1_3 == (a1_8 != 0)) = false := by simpa using c8))
    (try (have c8b3 : ¬ (a1_3 = (a1_8 != 0)) := by simpa using c8))
    clear c8
    (first | rw [c8b0] | (simp only [i64_w, i32_w]; rw [c8b0]) | skip)
    have H' := Aside0.mk H
    clear H
    have hnb9 := NB120_121.out
    have hnc9 := NB121_120.out
    obtain ⟨hcz10_0, hcz10_1, hcz10_2, hfz10_0, hfz10_1, hfz10_2⟩ := zf2_3 BK120.out
    go_wp2_with (first | ((with_reducible refine gate_callee (f := 65) rfl ?_); refine goesL_ (some 8) rfl rfl Try.func65 (by kernel_rfl) rfl #[.agg #[.int .i64 a0_0, .int .i64 a0_1, .int .i64 a0_2]] rfl zA2_3 ?_; (with_reducible refine (impl_PlatOk.calls a0_0 a0_1 a0_2 true _ A6.out).mono ?_); rintro e w11 ⟨rfl, hb⟩; refine ⟨_, rfl, ?_⟩; have n0_ := Aside0.mk (blk_below (g := gb120) (o := .cells #[.int .i64 a0_0, .int .i64 a0_1, .int .i64 a0_2] 43 (0, 0)) zA2_1 hb); have n1_ := Aside0.mk (blk_below (g := gb121) (o := .cells #[.bool a1_0, .int .i64 a1_1, .int .i64 a1_2, .bool a1_3, .int .i64 a1_4, .int .i64 a1_5, .int .i64 a1_6, .int .i64 a1_7, .int .i64 a1_8, .int .i64 a1_9, .int .i64 a1_10, .int .i64 a1_11, .int .i64 a1_12, .int .i64 a1_13, .int .i64 a1_14, .bool a1_15, .int .i64 a1_16, .int .u64 a1_17, .int .u64 a1_18, .int .u64 a1_19, .int .u64 a1_20, .slice A1_21 l1_21.length c1_21, .slice A1_22 l1_22.length c1_22, .int .i64 a1_23, .int .i64 a1_24, .int .i64 a1_25] 59 (0, 0)) zA2_2 hb); have n2_ := Aside0.mk (below_step zA2_0 hb); clear BK120; clear BK121; clear HB; have BK120 := n0_; have BK121 := n1_; have HB := n2_; clear n0_ n1_ n2_; (try clear hb); (try clear hb2); (try clear hk); (try clear hi); have hcz12_0 : w11.cell? ⟨gb121, 0, none⟩ = some (.bool a1_0) := (blk_cell BK121.out 0).trans rfl; have hcz12_1 : w11.cell? ⟨gb121, 1, none⟩ = some (.int .i64 a1_1) := (blk_cell BK121.out 1).trans rfl; have hcz12_2 : w11.cell? ⟨gb121, 2, none⟩ = some (.int .i64 a1_2) := (blk_cell BK121.out 2).trans rfl; have hcz12_3 : w11.cell? ⟨gb121, 3, none⟩ = some (.bool a1_3) := (blk_cell BK121.out 3).trans rfl; have hcz12_4 : w11.cell? ⟨gb121, 4, none⟩ = some (.int .i64 a1_4) := (blk_cell BK121.out 4).trans rfl; have hcz12_5 : w11.cell? ⟨gb121, 5, none⟩ = some (.int .i64 a1_5) := (blk_cell BK121.out 5).trans rfl; have hcz12_6 : w11.cell? ⟨gb121, 6, none⟩ = some (.int .i64 a1_6) := (blk_cell BK121.out 6).trans rfl; have hcz12_7 : w11.cell? ⟨gb121, 7, none⟩ = some (.int .i64 a1_7) := (blk_cell BK121.out 7).trans rfl; have hcz12_8 : w11.cell? ⟨gb121, 8, none⟩ = some (.int .i64 a1_8) := (blk_cell BK121.out 8).trans rfl; have hcz12_9 : w11.cell? ⟨gb121, 9, none⟩ = some (.int .i64 a1_9) := (blk_cell BK121.out 9).trans rfl; have hcz12_10 : w11.cell? ⟨gb121, 10, none⟩ = some (.int .i64 a1_10) := (blk_cell BK121.out 10).trans rfl; have hcz12_11 : w11.cell? ⟨gb121, 11, none⟩ = some (.int .i64 a1_11) := (blk_cell BK121.out 11).trans rfl; have hcz12_12 : w11.cell? ⟨gb121, 12, none⟩ = some (.int .i64 a1_12) := (blk_cell BK121.out 12).trans rfl; have hcz12_13 : w11.cell? ⟨gb121, 13, none⟩ = some (.int .i64 a1_13) := (blk_cell BK121.out 13).trans rfl; have hcz12_14 : w11.cell? ⟨gb121, 14, none⟩ = some (.int .i64 a1_14) := (blk_cell BK121.out 14).trans rfl; have hcz12_15 : w11.cell? ⟨gb121, 15, none⟩ = some (.bool a1_15) := (blk_cell BK121.out 15).trans rfl; have hcz12_16 : w11.cell? ⟨gb121, 16, none⟩ = some (.int .i64 a1_16) := (blk_cell BK121.out 16).trans rfl; have hcz12_17 : w11.cell? ⟨gb121, 17, none⟩ = some (.int .u64 a1_17) := (blk_cell BK121.out 17).trans rfl; have hcz12_18 : w11.cell? ⟨gb121, 18, none⟩ = some (.int .u64 a1_18) := (blk_cell BK121.out 18).trans rfl; have hcz12_19 : w11.cell? ⟨gb121, 19, none⟩ = some (.int .u64 a1_19) := (blk_cell BK121.out 19).trans rfl; have hcz12_20 : w11.cell? ⟨gb121, 20, none⟩ = some (.int .u64 a1_20) := (blk_cell BK121.out 20).trans rfl; have hcz12_21 : w11.cell? ⟨gb121, 21, none⟩ = some (.slice A1_21 l1_21.length c1_21) := (blk_cell BK121.out 21).trans rfl; have hcz12_22 : w11.cell? ⟨gb121, 22, none⟩ = some (.slice A1_22 l1_22.length c1_22) := (blk_cell BK121.out 22).trans rfl; have hcz12_23 : w11.cell? ⟨gb121, 23, none⟩ = some (.int .i64 a1_23) := (blk_cell BK121.out 23).trans rfl; have hcz12_24 : w11.cell? ⟨gb121, 24, none⟩ = some (.int .i64 a1_24) := (blk_cell BK121.out 24).trans rfl; have hcz12_25 : w11.cell? ⟨gb121, 25, none⟩ = some (.int .i64 a1_25) := (blk_cell BK121.out 25).trans rfl; have hfz12_0 := blk_frozen BK121.out 0; have hfz12_1 := blk_frozen BK121.out 1; have hfz12_2 := blk_frozen BK121.out 2; have hfz12_3 := blk_frozen BK121.out 3; have hfz12_4 := blk_frozen BK121.out 4; have hfz12_5 := blk_frozen BK121.out 5; have hfz12_6 := blk_frozen BK121.out 6; have hfz12_7 := blk_frozen BK121.out 7; have hfz12_8 := blk_frozen BK121.out 8; have hfz12_9 := blk_frozen BK121.out 9; have hfz12_10 := blk_frozen BK121.out 10; have hfz12_11 := blk_frozen BK121.out 11; have hfz12_12 := blk_frozen BK121.out 12; have hfz12_13 := blk_frozen BK121.out 13; have hfz12_14 := blk_frozen BK121.out 14; have hfz12_15 := blk_frozen BK121.out 15; have hfz12_16 := blk_frozen BK121.out 16; have hfz12_17 := blk_frozen BK121.out 17; have hfz12_18 := blk_frozen BK121.out 18; have hfz12_19 := blk_frozen BK121.out 19; have hfz12_20 := blk_frozen BK121.out 20; have hfz12_21 := blk_frozen BK121.out 21; have hfz12_22 := blk_frozen BK121.out 22; have hfz12_23 := blk_frozen BK121.out 23; have hfz12_24 := blk_frozen BK121.out 24; have hfz12_25 := blk_frozen BK121.out 25))
    go_meet
    case rel => exact ⟨_, (true), zA2_5, H', ⟨by first | omega | exact Nat.le_refl _⟩, ⟨zA2_1⟩, ⟨zA2_2⟩, ⟨zA2_0⟩⟩
   ·rw [if_neg c8] at H
    have c8b0 : (a1_3 != (a1_8 != 0)) = false := by simpa using c8
    (try (have c8b1 : decide (a1_3 = (a1_8 != 0)) = true := by simpa using c8))
    (try (have c8b2 : (a1_3 == (a1_8 != 0)) = true := by simpa using c8))
    clear c8
    (first | rw [c8b0] | (simp only [i64_w, i32_w]; rw [c8b0]) | skip)
    by_cases c13 : a1_3 = true
    ·subst c13
     have H1 : (if a1_5 = a1_1 then ((impl_PlatCfg_isSlot.f a0_0 a0_1 a0_2 a1_1).bind fun t123 => (impl_GuestOk.j0 k (!t123) a0_0 a0_1 a0_2 a1_0 a1_1 a1_2 true a1_4 a1_5 a1_6 a1_7 a1_8 a1_9 a1_10 a1_11 a1_12 a1_13 a1_14 a1_15 a1_16 a1_17 a1_18 a1_19 a1_20 l1_21 l1_22 a1_23 a1_24 a1_25)) else (impl_GuestOk.j0 k true a0_0 a0_1 a0_2 a1_0 a1_1 a1_2 true a1_4 a1_5 a1_6 a1_7 a1_8 a1_9 a1_10 a1_11 a1_12 a1_13 a1_14 a1_15 a1_16 a1_17 a1_18 a1_19 a1_20 l1_21 l1_22 a1_23 a1_24 a1_25)) = some r := by rw [if_pos rfl] at H; exact H
     clear H
     have H := H1
     clear H1
     by_cases c14 : a1_5 = a1_1
     ·rw [if_pos c14] at H
      have c14b0 : (a1_5 == a1_1) = true := beq_iff_eq.mpr c14
      have c14b1 : (a1_5 != a1_1) = false := bne_eq_false_iff_eq.mpr c14
      clear c14
      replace H := Option.bind_eq_some_iff.mp H
      obtain ⟨t123, A150, H⟩ := H
      replace H : (impl_GuestOk.j0 k (!t123) a0_0 a0_1 a0_2 a1_0 a1_1 a1_2 true a1_4 a1_5 a1_6 a1_7 a1_8 a1_9 a1_10 a1_11 a1_12 a1_13 a1_14 a1_15 a1_16 a1_17 a1_18 a1_19 a1_20 l1_21 l1_22 a1_23 a1_24 a1_25) = some r := H
      have A15 := Aside0.mk A150
      clear A150
      have H' := Aside0.mk H
      clear H
      have hnb16 := NB120_121.out
      have hnc16 := NB121_120.out
      obtain ⟨hcz17_0, hcz17_1, hcz17_2, hfz17_0, hfz17_1, hfz17_2⟩ := zf2_3 BK120.out
      go_wp2_with (first | ((with_reducible refine gate_callee (f := 65) rfl ?_); refine goesL_ (some 8) rfl rfl Try.func65 (by kernel_rfl) rfl #[.agg #[.int .i64 a0_0, .int .i64 a0_1, .int .i64 a0_2]] rfl zA2_3 ?_; (with_reducible refine (impl_PlatOk.calls a0_0 a0_1 a0_2 true _ A6.out).mono ?_); rintro e w18 ⟨rfl, hb⟩; refine ⟨_, rfl, ?_⟩; have n0_ := Aside0.mk (blk_below (g := gb120) (o := .cells #[.int .i64 a0_0, .int .i64 a0_1, .int .i64 a0_2] 43 (0, 0)) zA2_1 hb); have n1_ := Aside0.mk (blk_below (g := gb121) (o := .cells #[.bool a1_0, .int .i64 a1_1, .int .i64 a1_2, .bool true, .int .i64 a1_4, .int .i64 a1_5, .int .i64 a1_6, .int .i64 a1_7, .int .i64 a1_8, .int .i64 a1_9, .int .i64 a1_10, .int .i64 a1_11, .int .i64 a1_12, .int .i64 a1_13, .int .i64 a1_14, .bool a1_15, .int .i64 a1_16, .int .u64 a1_17, .int .u64 a1_18, .int .u64 a1_19, .int .u64 a1_20, .slice A1_21 l1_21.length c1_21, .slice A1_22 l1_22.length c1_22, .int .i64 a1_23, .int .i64 a1_24, .int .i64 a1_25] 59 (0, 0)) zA2_2 hb); have n2_ := Aside0.mk (below_step zA2_0 hb); clear BK120; clear BK121; clear HB; have BK120 := n0_; have BK121 := n1_; have HB := n2_; clear n0_ n1_ n2_; (try clear hb); (try clear hb2); (try clear hk); (try clear hi); have hcz19_0 : w18.cell? ⟨gb121, 0, none⟩ = some (.bool a1_0) := (blk_cell BK121.out 0).trans rfl; have hcz19_1 : w18.cell? ⟨gb121, 1, none⟩ = some (.int .i64 a1_1) := (blk_cell BK121.out 1).trans rfl; have hcz19_2 : w18.cell? ⟨gb121, 2, none⟩ = some (.int .i64 a1_2) := (blk_cell BK121.out 2).trans rfl; have hcz19_3 : w18.cell? ⟨gb121, 3, none⟩ = some (.bool true) := (blk_cell BK121.out 3).trans rfl; have hcz19_4 : w18.cell? ⟨gb121, 4, none⟩ = some (.int .i64 a1_4) := (blk_cell BK121.out 4).trans rfl; have hcz19_5 : w18.cell? ⟨gb121, 5, none⟩ = some (.int .i64 a1_5) := (blk_cell BK121.out 5).trans rfl; have hcz19_6 : w18.cell? ⟨gb121, 6, none⟩ = some (.int .i64 a1_6) := (blk_cell BK121.out 6).trans rfl; have hcz19_7 : w18.cell? ⟨gb121, 7, none⟩ = some (.int .i64 a1_7) := (blk_cell BK121.out 7).trans rfl; have hcz19_8 : w18.cell? ⟨gb121, 8, none⟩ = some (.int .i64 a1_8) := (blk_cell BK121.out 8).trans rfl; have hcz19_9 : w18.cell? ⟨gb121, 9, none⟩ = some (.int .i64 a1_9) := (blk_cell BK121.out 9).trans rfl; have hcz19_10 : w18.cell? ⟨gb121, 10, none⟩ = some (.int .i64 a1_10) := (blk_cell BK121.out 10).trans rfl; have hcz19_11 : w18.cell? ⟨gb121, 11, none⟩ = some (.int .i64 a1_11) := (blk_cell BK121.out 11).trans rfl; have hcz19_12 : w18.cell? ⟨gb121, 12, none⟩ = some (.int .i64 a1_12) := (blk_cell BK121.out 12).trans rfl; have hcz19_13 : w18.cell? ⟨gb121, 13, none⟩ = some (.int .i64 a1_13) := (blk_cell BK121.out 13).trans rfl; have hcz19_14 : w18.cell? ⟨gb121, 14, none⟩ = some (.int .i64 a1_14) := (blk_cell BK121.out 14).trans rfl; have hcz19_15 : w18.cell? ⟨gb121, 15, none⟩ = some (.bool a1_15) := (blk_cell BK121.out 15).trans rfl; have hcz19_16 : w18.cell? ⟨gb121, 16, none⟩ = some (.int .i64 a1_16) := (blk_cell BK121.out 16).trans rfl; have hcz19_17 : w18.cell? ⟨gb121, 17, none⟩ = some (.int .u64 a1_17) := (blk_cell BK121.out 17).trans rfl; have hcz19_18 : w18.cell? ⟨gb121, 18, none⟩ = some (.int .u64 a1_18) := (blk_cell BK121.out 18).trans rfl; have hcz19_19 : w18.cell? ⟨gb121, 19, none⟩ = some (.int .u64 a1_19) := (blk_cell BK121.out 19).trans rfl; have hcz19_20 : w18.cell? ⟨gb121, 20, none⟩ = some (.int .u64 a1_20) := (blk_cell BK121.out 20).trans rfl; have hcz19_21 : w18.cell? ⟨gb121, 21, none⟩ = some (.slice A1_21 l1_21.length c1_21) := (blk_cell BK121.out 21).trans rfl; have hcz19_22 : w18.cell? ⟨gb121, 22, none⟩ = some (.slice A1_22 l1_22.length c1_22) := (blk_cell BK121.out 22).trans rfl; have hcz19_23 : w18.cell? ⟨gb121, 23, none⟩ = some (.int .i64 a1_23) := (blk_cell BK121.out 23).trans rfl; have hcz19_24 : w18.cell? ⟨gb121, 24, none⟩ = some (.int .i64 a1_24) := (blk_cell BK121.out 24).trans rfl; have hcz19_25 : w18.cell? ⟨gb121, 25, none⟩ = some (.int .i64 a1_25) := (blk_cell BK121.out 25).trans rfl; have hfz19_0 := blk_frozen BK121.out 0; have hfz19_1 := blk_frozen BK121.out 1; have hfz19_2 := blk_frozen BK121.out 2; have hfz19_3 := blk_frozen BK121.out 3; have hfz19_4 := blk_frozen BK121.out 4; have hfz19_5 := blk_frozen BK121.out 5; have hfz19_6 := blk_frozen BK121.out 6; have hfz19_7 := blk_frozen BK121.out 7; have hfz19_8 := blk_frozen BK121.out 8; have hfz19_9 := blk_frozen BK121.out 9; have hfz19_10 := blk_frozen BK121.out 10; have hfz19_11 := blk_frozen BK121.out 11; have hfz19_12 := blk_frozen BK121.out 12; have hfz19_13 := blk_frozen BK121.out 13; have hfz19_14 := blk_frozen BK121.out 14; have hfz19_15 := blk_frozen BK121.out 15; have hfz19_16 := blk_frozen BK121.out 16; have hfz19_17 := blk_frozen BK121.out 17; have hfz19_18 := blk_frozen BK121.out 18; have hfz19_19 := blk_frozen BK121.out 19; have hfz19_20 := blk_frozen BK121.out 20; have hfz19_21 := blk_frozen BK121.out 21; have hfz19_22 := blk_frozen BK121.out 22; have hfz19_23 := blk_frozen BK121.out 23; have hfz19_24 := blk_frozen BK121.out 24; have hfz19_25 := blk_frozen BK121.out 25; have hcz20_0 : w18.cell? ⟨gb120, 0, none⟩ = some (.int .i64 a0_0) := (blk_cell BK120.out 0).trans rfl; have hcz20_1 : w18.cell? ⟨gb120, 1, none⟩ = some (.int .i64 a0_1) := (blk_cell BK120.out 1).trans rfl; have hcz20_2 : w18.cell? ⟨gb120, 2, none⟩ = some (.int .i64 a0_2) := (blk_cell BK120.out 2).trans rfl; have hfz20_0 := blk_frozen BK120.out 0; have hfz20_1 := blk_frozen BK120.out 1; have hfz20_2 := blk_frozen BK120.out 2) | (go_at_call 66; (with_reducible refine (impl_PlatCfg_isSlot.calls a0_0 a0_1 a0_2 a1_1 t123 _ A15.out).mono ?_); rintro e w21 ⟨rfl, hb⟩; have n0_ := Aside0.mk (blk_below (g := gb120) (o := .cells #[.int .i64 a0_0, .int .i64 a0_1, .int .i64 a0_2] 43 (0, 0)) zA2_1 hb); have n1_ := Aside0.mk (blk_below (g := gb121) (o := .cells #[.bool a1_0, .int .i64 a1_1, .int .i64 a1_2, .bool true, .int .i64 a1_4, .int .i64 a1_5, .int .i64 a1_6, .int .i64 a1_7, .int .i64 a1_8, .int .i64 a1_9, .int .i64 a1_10, .int .i64 a1_11, .int .i64 a1_12, .int .i64 a1_13, .int .i64 a1_14, .bool a1_15, .int .i64 a1_16, .int .u64 a1_17, .int .u64 a1_18, .int .u64 a1_19, .int .u64 a1_20, .slice A1_21 l1_21.length c1_21, .slice A1_22 l1_22.length c1_22, .int .i64 a1_23, .int .i64 a1_24, .int .i64 a1_25] 59 (0, 0)) zA2_2 hb); have n2_ := Aside0.mk (below_step zA2_0 hb); clear BK120; clear BK121; clear HB; have BK120 := n0_; have BK121 := n1_; have HB := n2_; clear n0_ n1_ n2_; (try clear hb); (try clear hb2); (try clear hk); (try clear hi)))
      go_meet
      case rel => exact ⟨_, (!t123), zA2_5, H', ⟨by first | omega | exact Nat.le_refl _⟩, ⟨zA2_1⟩, ⟨zA2_2⟩, ⟨zA2_0⟩⟩
     ·rw [if_neg c14] at H
      have c14b0 : (a1_5 == a1_1) = false := beq_eq_false_iff_ne.mpr c14
      have c14b1 : (a1_5 != a1_1) = true := bne_iff_ne.mpr c14
      have H' := Aside0.mk H
      clear H
      have hnb22 := NB120_121.out
      have hnc22 := NB121_120.out
      obtain ⟨hcz23_0, hcz23_1, hcz23_2, hfz23_0, hfz23_1, hfz23_2⟩ := zf2_3 BK120.out
      go_wp2_with (first | ((with_reducible refine gate_callee (f := 65) rfl ?_); refine goesL_ (some 8) rfl rfl Try.func65 (by kernel_rfl) rfl #[.agg #[.int .i64 a0_0, .int .i64 a0_1, .int .i64 a0_2]] rfl zA2_3 ?_; (with_reducible refine (impl_PlatOk.calls a0_0 a0_1 a0_2 true _ A6.out).mono ?_); rintro e w24 ⟨rfl, hb⟩; refine ⟨_, rfl, ?_⟩; have n0_ := Aside0.mk (blk_below (g := gb120) (o := .cells #[.int .i64 a0_0, .int .i64 a0_1, .int .i64 a0_2] 43 (0, 0)) zA2_1 hb); have n1_ := Aside0.mk (blk_below (g := gb121) (o := .cells #[.bool a1_0, .int .i64 a1_1, .int .i64 a1_2, .bool true, .int .i64 a1_4, .int .i64 a1_5, .int .i64 a1_6, .int .i64 a1_7, .int .i64 a1_8, .int .i64 a1_9, .int .i64 a1_10, .int .i64 a1_11, .int .i64 a1_12, .int .i64 a1_13, .int .i64 a1_14, .bool a1_15, .int .i64 a1_16, .int .u64 a1_17, .int .u64 a1_18, .int .u64 a1_19, .int .u64 a1_20, .slice A1_21 l1_21.length c1_21, .slice A1_22 l1_22.length c1_22, .int .i64 a1_23, .int .i64 a1_24, .int .i64 a1_25] 59 (0, 0)) zA2_2 hb); have n2_ := Aside0.mk (below_step zA2_0 hb); clear BK120; clear BK121; clear HB; have BK120 := n0_; have BK121 := n1_; have HB := n2_; clear n0_ n1_ n2_; (try clear hb); (try clear hb2); (try clear hk); (try clear hi); have hcz25_0 : w24.cell? ⟨gb121, 0, none⟩ = some (.bool a1_0) := (blk_cell BK121.out 0).trans rfl; have hcz25_1 : w24.cell? ⟨gb121, 1, none⟩ = some (.int .i64 a1_1) := (blk_cell BK121.out 1).trans rfl; have hcz25_2 : w24.cell? ⟨gb121, 2, none⟩ = some (.int .i64 a1_2) := (blk_cell BK121.out 2).trans rfl; have hcz25_3 : w24.cell? ⟨gb121, 3, none⟩ = some (.bool true) := (blk_cell BK121.out 3).trans rfl; have hcz25_4 : w24.cell? ⟨gb121, 4, none⟩ = some (.int .i64 a1_4) := (blk_cell BK121.out 4).trans rfl; have hcz25_5 : w24.cell? ⟨gb121, 5, none⟩ = some (.int .i64 a1_5) := (blk_cell BK121.out 5).trans rfl; have hcz25_6 : w24.cell? ⟨gb121, 6, none⟩ = some (.int .i64 a1_6) := (blk_cell BK121.out 6).trans rfl; have hcz25_7 : w24.cell? ⟨gb121, 7, none⟩ = some (.int .i64 a1_7) := (blk_cell BK121.out 7).trans rfl; have hcz25_8 : w24.cell? ⟨gb121, 8, none⟩ = some (.int .i64 a1_8) := (blk_cell BK121.out 8).trans rfl; have hcz25_9 : w24.cell? ⟨gb121, 9, none⟩ = some (.int .i64 a1_9) := (blk_cell BK121.out 9).trans rfl; have hcz25_10 : w24.cell? ⟨gb121, 10, none⟩ = some (.int .i64 a1_10) := (blk_cell BK121.out 10).trans rfl; have hcz25_11 : w24.cell? ⟨gb121, 11, none⟩ = some (.int .i64 a1_11) := (blk_cell BK121.out 11).trans rfl; have hcz25_12 : w24.cell? ⟨gb121, 12, none⟩ = some (.int .i64 a1_12) := (blk_cell BK121.out 12).trans rfl; have hcz25_13 : w24.cell? ⟨gb121, 13, none⟩ = some (.int .i64 a1_13) := (blk_cell BK121.out 13).trans rfl; have hcz25_14 : w24.cell? ⟨gb121, 14, none⟩ = some (.int .i64 a1_14) := (blk_cell BK121.out 14).trans rfl; have hcz25_15 : w24.cell? ⟨gb121, 15, none⟩ = some (.bool a1_15) := (blk_cell BK121.out 15).trans rfl; have hcz25_16 : w24.cell? ⟨gb121, 16, none⟩ = some (.int .i64 a1_16) := (blk_cell BK121.out 16).trans rfl; have hcz25_17 : w24.cell? ⟨gb121, 17, none⟩ = some (.int .u64 a1_17) := (blk_cell BK121.out 17).trans rfl; have hcz25_18 : w24.cell? ⟨gb121, 18, none⟩ = some (.int .u64 a1_18) := (blk_cell BK121.out 18).trans rfl; have hcz25_19 : w24.cell? ⟨gb121, 19, none⟩ = some (.int .u64 a1_19) := (blk_cell BK121.out 19).trans rfl; have hcz25_20 : w24.cell? ⟨gb121, 20, none⟩ = some (.int .u64 a1_20) := (blk_cell BK121.out 20).trans rfl; have hcz25_21 : w24.cell? ⟨gb121, 21, none⟩ = some (.slice A1_21 l1_21.length c1_21) := (blk_cell BK121.out 21).trans rfl; have hcz25_22 : w24.cell? ⟨gb121, 22, none⟩ = some (.slice A1_22 l1_22.length c1_22) := (blk_cell BK121.out 22).trans rfl; have hcz25_23 : w24.cell? ⟨gb121, 23, none⟩ = some (.int .i64 a1_23) := (blk_cell BK121.out 23).trans rfl; have hcz25_24 : w24.cell? ⟨gb121, 24, none⟩ = some (.int .i64 a1_24) := (blk_cell BK121.out 24).trans rfl; have hcz25_25 : w24.cell? ⟨gb121, 25, none⟩ = some (.int .i64 a1_25) := (blk_cell BK121.out 25).trans rfl; have hfz25_0 := blk_frozen BK121.out 0; have hfz25_1 := blk_frozen BK121.out 1; have hfz25_2 := blk_frozen BK121.out 2; have hfz25_3 := blk_frozen BK121.out 3; have hfz25_4 := blk_frozen BK121.out 4; have hfz25_5 := blk_frozen BK121.out 5; have hfz25_6 := blk_frozen BK121.out 6; have hfz25_7 := blk_frozen BK121.out 7; have hfz25_8 := blk_frozen BK121.out 8; have hfz25_9 := blk_frozen BK121.out 9; have hfz25_10 := blk_frozen BK121.out 10; have hfz25_11 := blk_frozen BK121.out 11; have hfz25_12 := blk_frozen BK121.out 12; have hfz25_13 := blk_frozen BK121.out 13; have hfz25_14 := blk_frozen BK121.out 14; have hfz25_15 := blk_frozen BK121.out 15; have hfz25_16 := blk_frozen BK121.out 16; have hfz25_17 := blk_frozen BK121.out 17; have hfz25_18 := blk_frozen BK121.out 18; have hfz25_19 := blk_frozen BK121.out 19; have hfz25_20 := blk_frozen BK121.out 20; have hfz25_21 := blk_frozen BK121.out 21; have hfz25_22 := blk_frozen BK121.out 22; have hfz25_23 := blk_frozen BK121.out 23; have hfz25_24 := blk_frozen BK121.out 24; have hfz25_25 := blk_frozen BK121.out 25))
      go_meet
      case rel => exact ⟨_, (true), zA2_5, H', ⟨by first | omega | exact Nat.le_refl _⟩, ⟨zA2_1⟩, ⟨zA2_2⟩, ⟨zA2_0⟩⟩
    ·replace c13 := Bool.eq_false_iff.mpr c13
     subst c13
     have H1 : ((impl_PlatCfg_isSlot.f a0_0 a0_1 a0_2 a1_1).bind fun t124 => (impl_GuestOk.j0 k (!t124) a0_0 a0_1 a0_2 a1_0 a1_1 a1_2 false a1_4 a1_5 a1_6 a1_7 a1_8 a1_9 a1_10 a1_11 a1_12 a1_13 a1_14 a1_15 a1_16 a1_17 a1_18 a1_19 a1_20 l1_21 l1_22 a1_23 a1_24 a1_25)) = some r := by rw [if_neg (show ¬ (false = true) by decide)] at H; exact H
     clear H
     have H := H1
     clear H1
     replace H := Option.bind_eq_some_iff.mp H
     obtain ⟨t124, A260, H⟩ := H
     replace H : (impl_GuestOk.j0 k (!t124) a0_0 a0_1 a0_2 a1_0 a1_1 a1_2 false a1_4 a1_5 a1_6 a1_7 a1_8 a1_9 a1_10 a1_11 a1_12 a1_13 a1_14 a1_15 a1_16 a1_17 a1_18 a1_19 a1_20 l1_21 l1_22 a1_23 a1_24 a1_25) = some r := H
     have A26 := Aside0.mk A260
     clear A260
     have H' := Aside0.mk H
     clear H
     have hnb27 := NB120_121.out
     have hnc27 := NB121_120.out
     obtain ⟨hcz28_0, hcz28_1, hcz28_2, hfz28_0, hfz28_1, hfz28_2⟩ := zf2_3 BK120.out
     go_wp2_with (first | ((with_reducible refine gate_callee (f := 65) rfl ?_); refine goesL_ (some 8) rfl rfl Try.func65 (by kernel_rfl) rfl #[.agg #[.int .i64 a0_0, .int .i64 a0_1, .int .i64 a0_2]] rfl zA2_3 ?_; (with_reducible refine (impl_PlatOk.calls a0_0 a0_1 a0_2 true _ A6.out).mono ?_); rintro e w29 ⟨rfl, hb⟩; refine ⟨_, rfl, ?_⟩; have n0_ := Aside0.mk (blk_below (g := gb120) (o := .cells #[.int .i64 a0_0, .int .i64 a0_1, .int .i64 a0_2] 43 (0, 0)) zA2_1 hb); have n1_ := Aside0.mk (blk_below (g := gb121) (o := .cells #[.bool a1_0, .int .i64 a1_1, .int .i64 a1_2, .bool false, .int .i64 a1_4, .int .i64 a1_5, .int .i64 a1_6, .int .i64 a1_7, .int .i64 a1_8, .int .i64 a1_9, .int .i64 a1_10, .int .i64 a1_11, .int .i64 a1_12, .int .i64 a1_13, .int .i64 a1_14, .bool a1_15, .int .i64 a1_16, .int .u64 a1_17, .int .u64 a1_18, .int .u64 a1_19, .int .u64 a1_20, .slice A1_21 l1_21.length c1_21, .slice A1_22 l1_22.length c1_22, .int .i64 a1_23, .int .i64 a1_24, .int .i64 a1_25] 59 (0, 0)) zA2_2 hb); have n2_ := Aside0.mk (below_step zA2_0 hb); clear BK120; clear BK121; clear HB; have BK120 := n0_; have BK121 := n1_; have HB := n2_; clear n0_ n1_ n2_; (try clear hb); (try clear hb2); (try clear hk); (try clear hi); have hcz30_0 : w29.cell? ⟨gb121, 0, none⟩ = some (.bool a1_0) := (blk_cell BK121.out 0).trans rfl; have hcz30_1 : w29.cell? ⟨gb121, 1, none⟩ = some (.int .i64 a1_1) := (blk_cell BK121.out 1).trans rfl; have hcz30_2 : w29.cell? ⟨gb121, 2, none⟩ = some (.int .i64 a1_2) := (blk_cell BK121.out 2).trans rfl; have hcz30_3 : w29.cell? ⟨gb121, 3, none⟩ = some (.bool false) := (blk_cell BK121.out 3).trans rfl; have hcz30_4 : w29.cell? ⟨gb121, 4, none⟩ = some (.int .i64 a1_4) := (blk_cell BK121.out 4).trans rfl; have hcz30_5 : w29.cell? ⟨gb121, 5, none⟩ = some (.int .i64 a1_5) := (blk_cell BK121.out 5).trans rfl; have hcz30_6 : w29.cell? ⟨gb121, 6, none⟩ = some (.int .i64 a1_6) := (blk_cell BK121.out 6).trans rfl; have hcz30_7 : w29.cell? ⟨gb121, 7, none⟩ = some (.int .i64 a1_7) := (blk_cell BK121.out 7).trans rfl; have hcz30_8 : w29.cell? ⟨gb121, 8, none⟩ = some (.int .i64 a1_8) := (blk_cell BK121.out 8).trans rfl; have hcz30_9 : w29.cell? ⟨gb121, 9, none⟩ = some (.int .i64 a1_9) := (blk_cell BK121.out 9).trans rfl; have hcz30_10 : w29.cell? ⟨gb121, 10, none⟩ = some (.int .i64 a1_10) := (blk_cell BK121.out 10).trans rfl; have hcz30_11 : w29.cell? ⟨gb121, 11, none⟩ = some (.int .i64 a1_11) := (blk_cell BK121.out 11).trans rfl; have hcz30_12 : w29.cell? ⟨gb121, 12, none⟩ = some (.int .i64 a1_12) := (blk_cell BK121.out 12).trans rfl; have hcz30_13 : w29.cell? ⟨gb121, 13, none⟩ = some (.int .i64 a1_13) := (blk_cell BK121.out 13).trans rfl; have hcz30_14 : w29.cell? ⟨gb121, 14, none⟩ = some (.int .i64 a1_14) := (blk_cell BK121.out 14).trans rfl; have hcz30_15 : w29.cell? ⟨gb121, 15, none⟩ = some (.bool a1_15) := (blk_cell BK121.out 15).trans rfl; have hcz30_16 : w29.cell? ⟨gb121, 16, none⟩ = some (.int .i64 a1_16) := (blk_cell BK121.out 16).trans rfl; have hcz30_17 : w29.cell? ⟨gb121, 17, none⟩ = some (.int .u64 a1_17) := (blk_cell BK121.out 17).trans rfl; have hcz30_18 : w29.cell? ⟨gb121, 18, none⟩ = some (.int .u64 a1_18) := (blk_cell BK121.out 18).trans rfl; have hcz30_19 : w29.cell? ⟨gb121, 19, none⟩ = some (.int .u64 a1_19) := (blk_cell BK121.out 19).trans rfl; have hcz30_20 : w29.cell? ⟨gb121, 20, none⟩ = some (.int .u64 a1_20) := (blk_cell BK121.out 20).trans rfl; have hcz30_21 : w29.cell? ⟨gb121, 21, none⟩ = some (.slice A1_21 l1_21.length c1_21) := (blk_cell BK121.out 21).trans rfl; have hcz30_22 : w29.cell? ⟨gb121, 22, none⟩ = some (.slice A1_22 l1_22.length c1_22) := (blk_cell BK121.out 22).trans rfl; have hcz30_23 : w29.cell? ⟨gb121, 23, none⟩ = some (.int .i64 a1_23) := (blk_cell BK121.out 23).trans rfl; have hcz30_24 : w29.cell? ⟨gb121, 24, none⟩ = some (.int .i64 a1_24) := (blk_cell BK121.out 24).trans rfl; have hcz30_25 : w29.cell? ⟨gb121, 25, none⟩ = some (.int .i64 a1_25) := (blk_cell BK121.out 25).trans rfl; have hfz30_0 := blk_frozen BK121.out 0; have hfz30_1 := blk_frozen BK121.out 1; have hfz30_2 := blk_frozen BK121.out 2; have hfz30_3 := blk_frozen BK121.out 3; have hfz30_4 := blk_frozen BK121.out 4; have hfz30_5 := blk_frozen BK121.out 5; have hfz30_6 := blk_frozen BK121.out 6; have hfz30_7 := blk_frozen BK121.out 7; have hfz30_8 := blk_frozen BK121.out 8; have hfz30_9 := blk_frozen BK121.out 9; have hfz30_10 := blk_frozen BK121.out 10; have hfz30_11 := blk_frozen BK121.out 11; have hfz30_12 := blk_frozen BK121.out 12; have hfz30_13 := blk_frozen BK121.out 13; have hfz30_14 := blk_frozen BK121.out 14; have hfz30_15 := blk_frozen BK121.out 15; have hfz30_16 := blk_frozen BK121.out 16; have hfz30_17 := blk_frozen BK121.out 17; have hfz30_18 := blk_frozen BK121.out 18; have hfz30_19 := blk_frozen BK121.out 19; have hfz30_20 := blk_frozen BK121.out 20; have hfz30_21 := blk_frozen BK121.out 21; have hfz30_22 := blk_frozen BK121.out 22; have hfz30_23 := blk_frozen BK121.out 23; have hfz30_24 := blk_frozen BK121.out 24; have hfz30_25 := blk_frozen BK121.out 25; have hcz31_0 : w29.cell? ⟨gb120, 0, none⟩ = some (.int .i64 a0_0) := (blk_cell BK120.out 0).trans rfl; have hcz31_1 : w29.cell? ⟨gb120, 1, none⟩ = some (.int .i64 a0_1) := (blk_cell BK120.out 1).trans rfl; have hcz31_2 : w29.cell? ⟨gb120, 2, none⟩ = some (.int .i64 a0_2) := (blk_cell BK120.out 2).trans rfl; have hfz31_0 := blk_frozen BK120.out 0; have hfz31_1 := blk_frozen BK120.out 1; have hfz31_2 := blk_frozen BK120.out 2) | (go_at_call 66; (with_reducible refine (impl_PlatCfg_isSlot.calls a0_0 a0_1 a0_2 a1_1 t124 _ A26.out).mono ?_); rintro e w32 ⟨rfl, hb⟩; have n0_ := Aside0.mk (blk_below (g := gb120) (o := .cells #[.int .i64 a0_0, .int .i64 a0_1, .int .i64 a0_2] 43 (0, 0)) zA2_1 hb); have n1_ := Aside0.mk (blk_below (g := gb121) (o := .cells #[.bool a1_0, .int .i64 a1_1, .int .i64 a1_2, .bool false, .int .i64 a1_4, .int .i64 a1_5, .int .i64 a1_6, .int .i64 a1_7, .int .i64 a1_8, .int .i64 a1_9, .int .i64 a1_10, .int .i64 a1_11, .int .i64 a1_12, .int .i64 a1_13, .int .i64 a1_14, .bool a1_15, .int .i64 a1_16, .int .u64 a1_17, .int .u64 a1_18, .int .u64 a1_19, .int .u64 a1_20, .slice A1_21 l1_21.length c1_21, .slice A1_22 l1_22.length c1_22, .int .i64 a1_23, .int .i64 a1_24, .int .i64 a1_25] 59 (0, 0)) zA2_2 hb); have n2_ := Aside0.mk (below_step zA2_0 hb); clear BK120; clear BK121; clear HB; have BK120 := n0_; have BK121 := n1_; have HB := n2_; clear n0_ n1_ n2_; (try clear hb); (try clear hb2); (try clear hk); (try clear hi)))
     go_meet
     case rel => exact ⟨_, (!t124), zA2_5, H', ⟨by first | omega | exact Nat.le_refl _⟩, ⟨zA2_1⟩, ⟨zA2_2⟩, ⟨zA2_0⟩⟩
  ·replace c7 := Bool.eq_false_iff.mpr c7
   subst c7
   have H1 : (impl_GuestOk.j0 k true a0_0 a0_1 a0_2 a1_0 a1_1 a1_2 a1_3 a1_4 a1_5 a1_6 a1_7 a1_8 a1_9 a1_10 a1_11 a1_12 a1_13 a1_14 a1_15 a1_16 a1_17 a1_18 a1_19 a1_20 l1_21 l1_22 a1_23 a1_24 a1_25) = some r := by rw [if_neg (show ¬ (false = true) by decide)] at H; exact H
   clear H
   have H := H1
   clear H1
   have H' := Aside0.mk H
   clear H
   have hnb33 := NB120_121.out
   have hnc33 := NB121_120.out
   obtain ⟨hcz34_0, hcz34_1, hcz34_2, hfz34_0, hfz34_1, hfz34_2⟩ := zf2_3 BK120.out
   go_wp2_with (first | ((with_reducible refine gate_callee (f := 65) rfl ?_); refine goesL_ (some 8) rfl rfl Try.func65 (by kernel_rfl) rfl #[.agg #[.int .i64 a0_0, .int .i64 a0_1, .int .i64 a0_2]] rfl zA2_3 ?_; (with_reducible refine (impl_PlatOk.calls a0_0 a0_1 a0_2 false _ A6.out).mono ?_); rintro e w35 ⟨rfl, hb⟩; refine ⟨_, rfl, ?_⟩; have n0_ := Aside0.mk (blk_below (g := gb120) (o := .cells #[.int .i64 a0_0, .int .i64 a0_1, .int .i64 a0_2] 43 (0, 0)) zA2_1 hb); have n1_ := Aside0.mk (blk_below (g := gb121) (o := .cells #[.bool a1_0, .int .i64 a1_1, .int .i64 a1_2, .bool a1_3, .int .i64 a1_4, .int .i64 a1_5, .int .i64 a1_6, .int .i64 a1_7, .int .i64 a1_8, .int .i64 a1_9, .int .i64 a1_10, .int .i64 a1_11, .int .i64 a1_12, .int .i64 a1_13, .int .i64 a1_14, .bool a1_15, .int .i64 a1_16, .int .u64 a1_17, .int .u64 a1_18, .int .u64 a1_19, .int .u64 a1_20, .slice A1_21 l1_21.length c1_21, .slice A1_22 l1_22.length c1_22, .int .i64 a1_23, .int .i64 a1_24, .int .i64 a1_25] 59 (0, 0)) zA2_2 hb); have n2_ := Aside0.mk (below_step zA2_0 hb); clear BK120; clear BK121; clear HB; have BK120 := n0_; have BK121 := n1_; have HB := n2_; clear n0_ n1_ n2_; (try clear hb); (try clear hb2); (try clear hk); (try clear hi)))
   go_meet
   case rel => exact ⟨_, (true), zA2_5, H', ⟨by first | omega | exact Nat.le_refl _⟩, ⟨zA2_1⟩, ⟨zA2_2⟩, ⟨zA2_0⟩⟩
 case rest =>
  as_aux_lemma =>
  clear HC3
  try clear c1
  try clear c2
  try clear p2
  try clear c3
  try clear c6
  try clear c7
  try clear c8
  try clear c8b0
  try clear c8b1
  try clear c8b2
  try clear c9
  try clear c13
  try clear c14
  try clear c14b0
  try clear c14b1
  try clear c16
  try clear c22
  try clear c27
  try clear c33
  obtain ⟨kq, x36_2, rfl, HA, HJ2, BK120, BK121, HB⟩ := hcut
  cases kq with
  | zero => exact absurd HA.out (by simp [impl_GuestOk.j0])
  | succ kj2 =>
   have H := HA.out
   clear HA
   simp only [impl_GuestOk.j0] at H
   by_cases c36 : x36_2 = true
   ·subst c36
    have H1 : (some false) = some r := by rw [if_pos rfl] at H; exact H
    clear H
    have H := H1
    clear H1
    obtain rfl := Option.some.inj H
    go_wp2
    go_ret
    exact ⟨zA2_4, zA2_0⟩
   ·replace c36 := Bool.eq_false_iff.mpr c36
    subst c36
    have H1 : ((impl_PlatCfg_deskAt.f a0_0 a0_1 a0_2).bind fun t125 => ((impl_within.f a1_2 0 4095).bind fun t126 => (if t126 = true then ((impl_within.f a1_12 0 4095).bind fun t127 => (if t127 = true then ((impl_within.f a1_14 0 4095).bind fun t128 => (impl_GuestOk.j1 kj2 t125 t128 a0_0 a0_1 a0_2 a1_0 a1_1 a1_2 a1_3 a1_4 a1_5 a1_6 a1_7 a1_8 a1_9 a1_10 a1_11 a1_12 a1_13 a1_14 a1_15 a1_16 a1_17 a1_18 a1_19 a1_20 l1_21 l1_22 a1_23 a1_24 a1_25)) else (impl_GuestOk.j1 kj2 t125 false a0_0 a0_1 a0_2 a1_0 a1_1 a1_2 a1_3 a1_4 a1_5 a1_6 a1_7 a1_8 a1_9 a1_10 a1_11 a1_12 a1_13 a1_14 a1_15 a1_16 a1_17 a1_18 a1_19 a1_20 l1_21 l1_22 a1_23 a1_24 a1_25))) else (impl_GuestOk.j1 kj2 t125 false a0_0 a0_1 a0_2 a1_0 a1_1 a1_2 a1_3 a1_4 a1_5 a1_6 a1_7 a1_8 a1_9 a1_10 a1_11 a1_12 a1_13 a1_14 a1_15 a1_16 a1_17 a1_18 a1_19 a1_20 l1_21 l1_22 a1_23 a1_24 a1_25)))) = some r := by rw [if_neg (show ¬ (false = true) by decide)] at H; exact H
    clear H
    have H := H1
    clear H1
    replace H := Option.bind_eq_some_iff.mp H
    obtain ⟨t125, A370, H⟩ := H
    replace H : ((impl_within.f a1_2 0 4095).bind fun t126 => (if t126 = true then ((impl_within.f a1_12 0 4095).bind fun t127 => (if t127 = true then ((impl_within.f a1_14 0 4095).bind fun t128 => (impl_GuestOk.j1 kj2 t125 t128 a0_0 a0_1 a0_2 a1_0 a1_1 a1_2 a1_3 a1_4 a1_5 a1_6 a1_7 a1_8 a1_9 a1_10 a1_11 a1_12 a1_13 a1_14 a1_15 a1_16 a1_17 a1_18 a1_19 a1_20 l1_21 l1_22 a1_23 a1_24 a1_25)) else (impl_GuestOk.j1 kj2 t125 false a0_0 a0_1 a0_2 a1_0 a1_1 a1_2 a1_3 a1_4 a1_5 a1_6 a1_7 a1_8 a1_9 a1_10 a1_11 a1_12 a1_13 a1_14 a1_15 a1_16 a1_17 a1_18 a1_19 a1_20 l1_21 l1_22 a1_23 a1_24 a1_25))) else (impl_GuestOk.j1 kj2 t125 false a0_0 a0_1 a0_2 a1_0 a1_1 a1_2 a1_3 a1_4 a1_5 a1_6 a1_7 a1_8 a1_9 a1_10 a1_11 a1_12 a1_13 a1_14 a1_15 a1_16 a1_17 a1_18 a1_19 a1_20 l1_21 l1_22 a1_23 a1_24 a1_25))) = some r := H
    have A37 := Aside0.mk A370
    clear A370
    have HC38 := Aside0.mk H
    clear H
    have hnb39 := NB120_121.out
    have hnc39 := NB121_120.out
    obtain ⟨hcz40_0, hcz40_1, hcz40_2, hfz40_0, hfz40_1, hfz40_2⟩ := zf2_3 BK120.out
    go_upto_region 4 with (first | ((with_reducible refine gate_callee (f := 67) rfl ?_); refine goesL_ (some 38) rfl rfl Try.func67 (by kernel_rfl) rfl #[.agg #[.int .i64 a0_0, .int .i64 a0_1, .int .i64 a0_2]] rfl zA2_3 ?_; (with_reducible refine (impl_PlatCfg_deskAt.calls a0_0 a0_1 a0_2 t125 _ A37.out).mono ?_); rintro e w41 ⟨rfl, hb⟩; refine ⟨_, rfl, ?_⟩; have n0_ := Aside0.mk (blk_below (g := gb120) (o := .cells #[.int .i64 a0_0, .int .i64 a0_1, .int .i64 a0_2] 43 (0, 0)) zA2_1 hb); have n1_ := Aside0.mk (blk_below (g := gb121) (o := .cells #[.bool a1_0, .int .i64 a1_1, .int .i64 a1_2, .bool a1_3, .int .i64 a1_4, .int .i64 a1_5, .int .i64 a1_6, .int .i64 a1_7, .int .i64 a1_8, .int .i64 a1_9, .int .i64 a1_10, .int .i64 a1_11, .int .i64 a1_12, .int .i64 a1_13, .int .i64 a1_14, .bool a1_15, .int .i64 a1_16, .int .u64 a1_17, .int .u64 a1_18, .int .u64 a1_19, .int .u64 a1_20, .slice A1_21 l1_21.length c1_21, .slice A1_22 l1_22.length c1_22, .int .i64 a1_23, .int .i64 a1_24, .int .i64 a1_25] 59 (0, 0)) zA2_2 hb); have n2_ := Aside0.mk (below_step zA2_0 hb); clear BK120; clear BK121; clear HB; have BK120 := n0_; have BK121 := n1_; have HB := n2_; clear n0_ n1_ n2_; (try clear hb); (try clear hb2); (try clear hk); (try clear hi)))
    (try simp only [Act.put, List.setIfInBounds_toArray, List.set_cons_zero, List.set_cons_succ])
    go_cut [6] (fun v6 wc => ∃ (kq : Nat) (x6_37 : Bool), v6 = .bool x6_37 ∧ Aside0 (impl_GuestOk.j1 kq t125 x6_37 a0_0 a0_1 a0_2 a1_0 a1_1 a1_2 a1_3 a1_4 a1_5 a1_6 a1_7 a1_8 a1_9 a1_10 a1_11 a1_12 a1_13 a1_14 a1_15 a1_16 a1_17 a1_18 a1_19 a1_20 l1_21 l1_22 a1_23 a1_24 a1_25 = some r) ∧ Aside0 (kq ≤ kj2) ∧ Aside0 (wc.heap[gb120]? = some (.cells #[.int .i64 a0_0, .int .i64 a0_1, .int .i64 a0_2] 43 (0, 0))) ∧ Aside0 (wc.heap[gb121]? = some (.cells #[.bool a1_0, .int .i64 a1_1, .int .i64 a1_2, .bool a1_3, .int .i64 a1_4, .int .i64 a1_5, .int .i64 a1_6, .int .i64 a1_7, .int .i64 a1_8, .int .i64 a1_9, .int .i64 a1_10, .int .i64 a1_11, .int .i64 a1_12, .int .i64 a1_13, .int .i64 a1_14, .bool a1_15, .int .i64 a1_16, .int .u64 a1_17, .int .u64 a1_18, .int .u64 a1_19, .int .u64 a1_20, (.slice A1_21 l1_21.length c1_21), (.slice A1_22 l1_22.length c1_22), .int .i64 a1_23, .int .i64 a1_24, .int .i64 a1_25] 59 (0, 0))) ∧ Aside0 (Below w.heap.size w wc))
    case first =>
     as_aux_lemma =>
     have H := HC38.out
     clear HC38
     replace H := Option.bind_eq_some_iff.mp H
     obtain ⟨t126, A420, H⟩ := H
     replace H : (if t126 = true then ((impl_within.f a1_12 0 4095).bind fun t127 => (if t127 = true then ((impl_within.f a1_14 0 4095).bind fun t128 => (impl_GuestOk.j1 kj2 t125 t128 a0_0 a0_1 a0_2 a1_0 a1_1 a1_2 a1_3 a1_4 a1_5 a1_6 a1_7 a1_8 a1_9 a1_10 a1_11 a1_12 a1_13 a1_14 a1_15 a1_16 a1_17 a1_18 a1_19 a1_20 l1_21 l1_22 a1_23 a1_24 a1_25)) else (impl_GuestOk.j1 kj2 t125 false a0_0 a0_1 a0_2 a1_0 a1_1 a1_2 a1_3 a1_4 a1_5 a1_6 a1_7 a1_8 a1_9 a1_10 a1_11 a1_12 a1_13 a1_14 a1_15 a1_16 a1_17 a1_18 a1_19 a1_20 l1_21 l1_22 a1_23 a1_24 a1_25))) else (impl_GuestOk.j1 kj2 t125 false a0_0 a0_1 a0_2 a1_0 a1_1 a1_2 a1_3 a1_4 a1_5 a1_6 a1_7 a1_8 a1_9 a1_10 a1_11 a1_12 a1_13 a1_14 a1_15 a1_16 a1_17 a1_18 a1_19 a1_20 l1_21 l1_22 a1_23 a1_24 a1_25)) = some r := H
     have A42 := Aside0.mk A420
     clear A420
     by_cases c43 : t126 = true
     ·subst c43
      have H1 : ((impl_within.f a1_12 0 4095).bind fun t127 => (if t127 = true then ((impl_within.f a1_14 0 4095).bind fun t128 => (impl_GuestOk.j1 kj2 t125 t128 a0_0 a0_1 a0_2 a1_0 a1_1 a1_2 a1_3 a1_4 a1_5 a1_6 a1_7 a1_8 a1_9 a1_10 a1_11 a1_12 a1_13 a1_14 a1_15 a1_16 a1_17 a1_18 a1_19 a1_20 l1_21 l1_22 a1_23 a1_24 a1_25)) else (impl_GuestOk.j1 kj2 t125 false a0_0 a0_1 a0_2 a1_0 a1_1 a1_2 a1_3 a1_4 a1_5 a1_6 a1_7 a1_8 a1_9 a1_10 a1_11 a1_12 a1_13 a1_14 a1_15 a1_16 a1_17 a1_18 a1_19 a1_20 l1_21 l1_22 a1_23 a1_24 a1_25))) = some r := by rw [if_pos rfl] at H; exact H
      clear H
      have H := H1
      clear H1
      replace H := Option.bind_eq_some_iff.mp H
      obtain ⟨t127, A440, H⟩ := H
      replace H : (if t127 = true then ((impl_within.f a1_14 0 4095).bind fun t128 => (impl_GuestOk.j1 kj2 t125 t128 a0_0 a0_1 a0_2 a1_0 a1_1 a1_2 a1_3 a1_4 a1_5 a1_6 a1_7 a1_8 a1_9 a1_10 a1_11 a1_12 a1_13 a1_14 a1_15 a1_16 a1_17 a1_18 a1_19 a1_20 l1_21 l1_22 a1_23 a1_24 a1_25)) else (impl_GuestOk.j1 kj2 t125 false a0_0 a0_1 a0_2 a1_0 a1_1 a1_2 a1_3 a1_4 a1_5 a1_6 a1_7 a1_8 a1_9 a1_10 a1_11 a1_12 a1_13 a1_14 a1_15 a1_16 a1_17 a1_18 a1_19 a1_20 l1_21 l1_22 a1_23 a1_24 a1_25)) = some r := H
      have A44 := Aside0.mk A440
      clear A440
      by_cases c45 : t127 = true
      ·subst c45
       have H1 : ((impl_within.f a1_14 0 4095).bind fun t128 => (impl_GuestOk.j1 kj2 t125 t128 a0_0 a0_1 a0_2 a1_0 a1_1 a1_2 a1_3 a1_4 a1_5 a1_6 a1_7 a1_8 a1_9 a1_10 a1_11 a1_12 a1_13 a1_14 a1_15 a1_16 a1_17 a1_18 a1_19 a1_20 l1_21 l1_22 a1_23 a1_24 a1_25)) = some r := by rw [if_pos rfl] at H; exact H
       clear H
       have H := H1
       clear H1
       replace H := Option.bind_eq_some_iff.mp H
       obtain ⟨t128, A460, H⟩ := H
       replace H : (impl_GuestOk.j1 kj2 t125 t128 a0_0 a0_1 a0_2 a1_0 a1_1 a1_2 a1_3 a1_4 a1_5 a1_6 a1_7 a1_8 a1_9 a1_10 a1_11 a1_12 a1_13 a1_14 a1_15 a1_16 a1_17 a1_18 a1_19 a1_20 l1_21 l1_22 a1_23 a1_24 a1_25) = some r := H
       have A46 := Aside0.mk A460
       clear A460
       have H' := Aside0.mk H
       clear H
       have hnb47 := NB121_120.out
       have hnc47 := NB120_121.out
       obtain ⟨hcz48_0, hcz48_1, hcz48_2, hcz48_3, hcz48_4, hcz48_5, hcz48_6, hcz48_7, hcz48_8, hcz48_9, hcz48_10, hcz48_11, hcz48_12, hcz48_13, hcz48_14, hcz48_15, hcz48_16, hcz48_17, hcz48_18, hcz48_19, hcz48_20, hcz48_21, hcz48_22, hcz48_23, hcz48_24, hcz48_25, hfz48_0, hfz48_1, hfz48_2, hfz48_3, hfz48_4, hfz48_5, hfz48_6, hfz48_7, hfz48_8, hfz48_9, hfz48_10, hfz48_11, hfz48_12, hfz48_13, hfz48_14, hfz48_15, hfz48_16, hfz48_17, hfz48_18, hfz48_19, hfz48_20, hfz48_21, hfz48_22, hfz48_23, hfz48_24, hfz48_25⟩ := zf2_26 BK121.out
       go_wp2_with (first | ((with_reducible refine gate_callee (f := 44) rfl ?_); refine goesL_ (some 41) rfl rfl Try.func44 (by kernel_rfl) rfl #[.int .i64 a1_2, .int .i64 0, .int .i64 4095] rfl zA2_3 ?_; (with_reducible refine (impl_within.calls a1_2 0 4095 true _ A42.out).mono ?_); rintro e w' ⟨rfl, ⟨nd, rfl⟩⟩; refine ⟨_, rfl, ?_⟩) | (go_at_call 44; (with_reducible refine (impl_within.calls a1_12 0 4095 true _ A44.out).mono ?_); rintro e w' ⟨rfl, ⟨nd, rfl⟩⟩) | (go_at_call 44; (with_reducible refine (impl_within.calls a1_14 0 4095 t128 _ A46.out).mono ?_); rintro e w' ⟨rfl, ⟨nd, rfl⟩⟩))
       go_meet
       case rel => exact ⟨_, (t128), zA2_5, H', ⟨by have := HJ2.out; first | omega | exact Nat.le_refl _⟩, ⟨zA2_1⟩, ⟨zA2_2⟩, ⟨zA2_0⟩⟩
      ·replace c45 := Bool.eq_false_iff.mpr c45
       subst c45
       have H1 : (impl_GuestOk.j1 kj2 t125 false a0_0 a0_1 a0_2 a1_0 a1_1 a1_2 a1_3 a1_4 a1_5 a1_6 a1_7 a1_8 a1_9 a1_10 a1_11 a1_12 a1_13 a1_14 a1_15 a1_16 a1_17 a1_18 a1_19 a1_20 l1_21 l1_22 a1_23 a1_24 a1_25) = some r := by rw [if_neg (show ¬ (false = true) by decide)] at H; exact H
       clear H
       have H := H1
       clear H1
       have H' := Aside0.mk H
       clear H
       have hnb49 := NB121_120.out
       have hnc49 := NB120_121.out
       obtain ⟨hcz50_0, hcz50_1, hcz50_2, hcz50_3, hcz50_4, hcz50_5, hcz50_6, hcz50_7, hcz50_8, hcz50_9, hcz50_10, hcz50_11, hcz50_12, hcz50_13, hcz50_14, hcz50_15, hcz50_16, hcz50_17, hcz50_18, hcz50_19, hcz50_20, hcz50_21, hcz50_22, hcz50_23, hcz50_24, hcz50_25, hfz50_0, hfz50_1, hfz50_2, hfz50_3, hfz50_4, hfz50_5, hfz50_6, hfz50_7, hfz50_8, hfz50_9, hfz50_10, hfz50_11, hfz50_12, hfz50_13, hfz50_14, hfz50_15, hfz50_16, hfz50_17, hfz50_18, hfz50_19, hfz50_20, hfz50_21, hfz50_22, hfz50_23, hfz50_24, hfz50_25⟩ := zf2_26 BK121.out
       go_wp2_with (first | ((with_reducible refine gate_callee (f := 44) rfl ?_); refine goesL_ (some 41) rfl rfl Try.func44 (by kernel_rfl) rfl #[.int .i64 a1_2, .int .i64 0, .int .i64 4095] rfl zA2_3 ?_; (with_reducible refine (impl_within.calls a1_2 0 4095 true _ A42.out).mono ?_); rintro e w' ⟨rfl, ⟨nd, rfl⟩⟩; refine ⟨_, rfl, ?_⟩) | (go_at_call 44; (with_reducible refine (impl_within.calls a1_12 0 4095 false _ A44.out).mono ?_); rintro e w' ⟨rfl, ⟨nd, rfl⟩⟩))
       go_meet
       case rel => exact ⟨_, (false), zA2_5, H', ⟨by have := HJ2.out; first | omega | exact Nat.le_refl _⟩, ⟨zA2_1⟩, ⟨zA2_2⟩, ⟨zA2_0⟩⟩
     ·replace c43 := Bool.eq_false_iff.mpr c43
      subst c43
      have H1 : (impl_GuestOk.j1 kj2 t125 false a0_0 a0_1 a0_2 a1_0 a1_1 a1_2 a1_3 a1_4 a1_5 a1_6 a1_7 a1_8 a1_9 a1_10 a1_11 a1_12 a1_13 a1_14 a1_15 a1_16 a1_17 a1_18 a1_19 a1_20 l1_21 l1_22 a1_23 a1_24 a1_25) = some r := by rw [if_neg (show ¬ (false = true) by decide)] at H; exact H
      clear H
      have H := H1
      clear H1
      have H' := Aside0.mk H
      clear H
      have hnb51 := NB121_120.out
      have hnc51 := NB120_121.out
      obtain ⟨hcz52_0, hcz52_1, hcz52_2, hcz52_3, hcz52_4, hcz52_5, hcz52_6, hcz52_7, hcz52_8, hcz52_9, hcz52_10, hcz52_11, hcz52_12, hcz52_13, hcz52_14, hcz52_15, hcz52_16, hcz52_17, hcz52_18, hcz52_19, hcz52_20, hcz52_21, hcz52_22, hcz52_23, hcz52_24, hcz52_25, hfz52_0, hfz52_1, hfz52_2, hfz52_3, hfz52_4, hfz52_5, hfz52_6, hfz52_7, hfz52_8, hfz52_9, hfz52_10, hfz52_11, hfz52_12, hfz52_13, hfz52_14, hfz52_15, hfz52_16, hfz52_17, hfz52_18, hfz52_19, hfz52_20, hfz52_21, hfz52_22, hfz52_23, hfz52_24, hfz52_25⟩ := zf2_26 BK121.out
      go_wp2_with (first | ((with_reducible refine gate_callee (f := 44) rfl ?_); refine goesL_ (some 41) rfl rfl Try.func44 (by kernel_rfl) rfl #[.int .i64 a1_2, .int .i64 0, .int .i64 4095] rfl zA2_3 ?_; (with_reducible refine (impl_within.calls a1_2 0 4095 false _ A42.out).mono ?_); rintro e w' ⟨rfl, ⟨nd, rfl⟩⟩; refine ⟨_, rfl, ?_⟩))
      go_meet
      case rel => exact ⟨_, (false), zA2_5, H', ⟨by have := HJ2.out; first | omega | exact Nat.le_refl _⟩, ⟨zA2_1⟩, ⟨zA2_2⟩, ⟨zA2_0⟩⟩
    case rest =>
     as_aux_lemma =>
     clear HC38
     try clear c1
     try clear c2
     try clear p2
     try clear c3
     try clear c4
     try clear c5
     try clear c6
     try clear c7
     try clear c8
     try clear c8b0
     try clear c8b1
     try clear c8b2
     try clear c9
     try clear c13
     try clear c14
     try clear c14b0
     try clear c14b1
     try clear c16
     try clear c22
     try clear c27
     try clear c33
     try clear c36
     try clear c39
     try clear c43
     try clear c44
     try clear c45
     try clear c47
     try clear c49
     try clear c51
     clear hcz40_0 hcz40_1 hcz40_2 hfz40_0 hfz40_1 hfz40_2
     try clear p2
     obtain ⟨kq, x6_37, rfl, HA, HJ37, BK120, BK121, HB⟩ := hcut
     cases kq with
     | zero => exact absurd HA.out (by simp [impl_GuestOk.j1])
     | succ kj37 =>
      have H := HA.out
      clear HA
      simp only [impl_GuestOk.j1] at H
      have HC53 := Aside0.mk H
      clear H
      go_upto_region 5 with (fail)
      go_cut [103] (fun v103 wc => ∃ (kq : Nat) (x103_52 : Bool), v103 = .bool x103_52 ∧ Aside0 (impl_GuestOk.j2 kq t125 x103_52 a0_0 a0_1 a0_2 a1_0 a1_1 a1_2 a1_3 a1_4 a1_5 a1_6 a1_7 a1_8 a1_9 a1_10 a1_11 a1_12 a1_13 a1_14 a1_15 a1_16 a1_17 a1_18 a1_19 a1_20 l1_21 l1_22 a1_23 a1_24 a1_25 = some r) ∧ Aside0 (kq ≤ kj37) ∧ Aside0 (wc.heap[gb120]? = some (.cells #[.int .i64 a0_0, .int .i64 a0_1, .int .i64 a0_2] 43 (0, 0))) ∧ Aside0 (wc.heap[gb121]? = some (.cells #[.bool a1_0, .int .i64 a1_1, .int .i64 a1_2, .bool a1_3, .int .i64 a1_4, .int .i64 a1_5, .int .i64 a1_6, .int .i64 a1_7, .int .i64 a1_8, .int .i64 a1_9, .int .i64 a1_10, .int .i64 a1_11, .int .i64 a1_12, .int .i64 a1_13, .int .i64 a1_14, .bool a1_15, .int .i64 a1_16, .int .u64 a1_17, .int .u64 a1_18, .int .u64 a1_19, .int .u64 a1_20, (.slice A1_21 l1_21.length c1_21), (.slice A1_22 l1_22.length c1_22), .int .i64 a1_23, .int .i64 a1_24, .int .i64 a1_25] 59 (0, 0))) ∧ Aside0 (Below w.heap.size w wc))
      case first =>
       as_aux_lemma =>
       have H := HC53.out
       clear HC53
       by_cases c54 : x6_37 = true
       ·subst c54
        have H1 : ((impl_within.f a1_8 0 26).bind fun t129 => (if t129 = true then ((impl_within.f a1_11 0 1000001).bind fun t130 => (if t130 = true then ((impl_within.f a1_13 0 7).bind fun t131 => (if t131 = true then ((impl_within.f a1_10 0 20).bind fun t132 => (if t132 = true then ((impl_within.f a1_9 0 t125).bind fun t133 => (if t133 = true then ((impl_within.f a1_16 0 1048575).bind fun t134 => (if t134 = true then (if (l1_21.length : Int) > t125 then (impl_GuestOk.j2 kj37 t125 true a0_0 a0_1 a0_2 a1_0 a1_1 a1_2 a1_3 a1_4 a1_5 a1_6 a1_7 a1_8 a1_9 a1_10 a1_11 a1_12 a1_13 a1_14 a1_15 a1_16 a1_17 a1_18 a1_19 a1_20 l1_21 l1_22 a1_23 a1_24 a1_25) else (impl_GuestOk.j2 kj37 t125 (decide ((l1_22.length : Int) > 20)) a0_0 a0_1 a0_2 a1_0 a1_1 a1_2 a1_3 a1_4 a1_5 a1_6 a1_7 a1_8 a1_9 a1_10 a1_11 a1_12 a1_13 a1_14 a1_15 a1_16 a1_17 a1_18 a1_19 a1_20 l1_21 l1_22 a1_23 a1_24 a1_25)) else (impl_GuestOk.j2 kj37 t125 true a0_0 a0_1 a0_2 a1_0 a1_1 a1_2 a1_3 a1_4 a1_5 a1_6 a1_7 a1_8 a1_9 a1_10 a1_11 a1_12 a1_13 a1_14 a1_15 a1_16 a1_17 a1_18 a1_19 a1_20 l1_21 l1_22 a1_23 a1_24 a1_25))) else (impl_GuestOk.j2 kj37 t125 true a0_0 a0_1 a0_2 a1_0 a1_1 a1_2 a1_3 a1_4 a1_5 a1_6 a1_7 a1_8 a1_9 a1_10 a1_11 a1_12 a1_13 a1_14 a1_15 a1_16 a1_17 a1_18 a1_19 a1_20 l1_21 l1_22 a1_23 a1_24 a1_25))) else (impl_GuestOk.j2 kj37 t125 true a0_0 a0_1 a0_2 a1_0 a1_1 a1_2 a1_3 a1_4 a1_5 a1_6 a1_7 a1_8 a1_9 a1_10 a1_11 a1_12 a1_13 a1_14 a1_15 a1_16 a1_17 a1_18 a1_19 a1_20 l1_21 l1_22 a1_23 a1_24 a1_25))) else (impl_GuestOk.j2 kj37 t125 true a0_0 a0_1 a0_2 a1_0 a1_1 a1_2 a1_3 a1_4 a1_5 a1_6 a1_7 a1_8 a1_9 a1_10 a1_11 a1_12 a1_13 a1_14 a1_15 a1_16 a1_17 a1_18 a1_19 a1_20 l1_21 l1_22 a1_23 a1_24 a1_25))) else (impl_GuestOk.j2 kj37 t125 true a0_0 a0_1 a0_2 a1_0 a1_1 a1_2 a1_3 a1_4 a1_5 a1_6 a1_7 a1_8 a1_9 a1_10 a1_11 a1_12 a1_13 a1_14 a1_15 a1_16 a1_17 a1_18 a1_19 a1_20 l1_21 l1_22 a1_23 a1_24 a1_25))) else (impl_GuestOk.j2 kj37 t125 true a0_0 a0_1 a0_2 a1_0 a1_1 a1_2 a1_3 a1_4 a1_5 a1_6 a1_7 a1_8 a1_9 a1_10 a1_11 a1_12 a1_13 a1_14 a1_15 a1_16 a1_17 a1_18 a1_19 a1_20 l1_21 l1_22 a1_23 a1_24 a1_25))) = some r := by rw [if_pos rfl] at H; exact H
        clear H
        have H := H1
        clear H1
        replace H := Option.bind_eq_some_iff.mp H
        obtain ⟨t129, A550, H⟩ := H
        replace H : (if t129 = true then ((impl_within.f a1_11 0 1000001).bind fun t130 => (if t130 = true then ((impl_within.f a1_13 0 7).bind fun t131 => (if t131 = true then ((impl_within.f a1_10 0 20).bind fun t132 => (if t132 = true then ((impl_within.f a1_9 0 t125).bind fun t133 => (if t133 = true then ((impl_within.f a1_16 0 1048575).bind fun t134 => (if t134 = true then (if (l1_21.length : Int) > t125 then (impl_GuestOk.j2 kj37 t125 true a0_0 a0_1 a0_2 a1_0 a1_1 a1_2 a1_3 a1_4 a1_5 a1_6 a1_7 a1_8 a1_9 a1_10 a1_11 a1_12 a1_13 a1_14 a1_15 a1_16 a1_17 a1_18 a1_19 a1_20 l1_21 l1_22 a1_23 a1_24 a1_25) else (impl_GuestOk.j2 kj37 t125 (decide ((l1_22.length : Int) > 20)) a0_0 a0_1 a0_2 a1_0 a1_1 a1_2 a1_3 a1_4 a1_5 a1_6 a1_7 a1_8 a1_9 a1_10 a1_11 a1_12 a1_13 a1_14 a1_15 a1_16 a1_17 a1_18 a1_19 a1_20 l1_21 l1_22 a1_23 a1_24 a1_25)) else (impl_GuestOk.j2 kj37 t125 true a0_0 a0_1 a0_2 a1_0 a1_1 a1_2 a1_3 a1_4 a1_5 a1_6 a1_7 a1_8 a1_9 a1_10 a1_11 a1_12 a1_13 a1_14 a1_15 a1_16 a1_17 a1_18 a1_19 a1_20 l1_21 l1_22 a1_23 a1_24 a1_25))) else (impl_GuestOk.j2 kj37 t125 true a0_0 a0_1 a0_2 a1_0 a1_1 a1_2 a1_3 a1_4 a1_5 a1_6 a1_7 a1_8 a1_9 a1_10 a1_11 a1_12 a1_13 a1_14 a1_15 a1_16 a1_17 a1_18 a1_19 a1_20 l1_21 l1_22 a1_23 a1_24 a1_25))) else (impl_GuestOk.j2 kj37 t125 true a0_0 a0_1 a0_2 a1_0 a1_1 a1_2 a1_3 a1_4 a1_5 a1_6 a1_7 a1_8 a1_9 a1_10 a1_11 a1_12 a1_13 a1_14 a1_15 a1_16 a1_17 a1_18 a1_19 a1_20 l1_21 l1_22 a1_23 a1_24 a1_25))) else (impl_GuestOk.j2 kj37 t125 true a0_0 a0_1 a0_2 a1_0 a1_1 a1_2 a1_3 a1_4 a1_5 a1_6 a1_7 a1_8 a1_9 a1_10 a1_11 a1_12 a1_13 a1_14 a1_15 a1_16 a1_17 a1_18 a1_19 a1_20 l1_21 l1_22 a1_23 a1_24 a1_25))) else (impl_GuestOk.j2 kj37 t125 true a0_0 a0_1 a0_2 a1_0 a1_1 a1_2 a1_3 a1_4 a1_5 a1_6 a1_7 a1_8 a1_9 a1_10 a1_11 a1_12 a1_13 a1_14 a1_15 a1_16 a1_17 a1_18 a1_19 a1_20 l1_21 l1_22 a1_23 a1_24 a1_25))) else (impl_GuestOk.j2 kj37 t125 true a0_0 a0_1 a0_2 a1_0 a1_1 a1_2 a1_3 a1_4 a1_5 a1_6 a1_7 a1_8 a1_9 a1_10 a1_11 a1_12 a1_13 a1_14 a1_15 a1_16 a1_17 a1_18 a1_19 a1_20 l1_21 l1_22 a1_23 a1_24 a1_25)) = some r := H
        have A55 := Aside0.mk A550
        clear A550
        by_cases c56 : t129 = true
        ·subst c56
         have H1 : ((impl_within.f a1_11 0 1000001).bind fun t130 => (if t130 = true then ((impl_within.f a1_13 0 7).bind fun t131 => (if t131 = true then ((impl_within.f a1_10 0 20).bind fun t132 => (if t132 = true then ((impl_within.f a1_9 0 t125).bind fun t133 => (if t133 = true then ((impl_within.f a1_16 0 1048575).bind fun t134 => (if t134 = true then (if (l1_21.length : Int) > t125 then (impl_GuestOk.j2 kj37 t125 true a0_0 a0_1 a0_2 a1_0 a1_1 a1_2 a1_3 a1_4 a1_5 a1_6 a1_7 a1_8 a1_9 a1_10 a1_11 a1_12 a1_13 a1_14 a1_15 a1_16 a1_17 a1_18 a1_19 a1_20 l1_21 l1_22 a1_23 a1_24 a1_25) else (impl_GuestOk.j2 kj37 t125 (decide ((l1_22.length : Int) > 20)) a0_0 a0_1 a0_2 a1_0 a1_1 a1_2 a1_3 a1_4 a1_5 a1_6 a1_7 a1_8 a1_9 a1_10 a1_11 a1_12 a1_13 a1_14 a1_15 a1_16 a1_17 a1_18 a1_19 a1_20 l1_21 l1_22 a1_23 a1_24 a1_25)) else (impl_GuestOk.j2 kj37 t125 true a0_0 a0_1 a0_2 a1_0 a1_1 a1_2 a1_3 a1_4 a1_5 a1_6 a1_7 a1_8 a1_9 a1_10 a1_11 a1_12 a1_13 a1_14 a1_15 a1_16 a1_17 a1_18 a1_19 a1_20 l1_21 l1_22 a1_23 a1_24 a1_25))) else (impl_GuestOk.j2 kj37 t125 true a0_0 a0_1 a0_2 a1_0 a1_1 a1_2 a1_3 a1_4 a1_5 a1_6 a1_7 a1_8 a1_9 a1_10 a1_11 a1_12 a1_13 a1_14 a1_15 a1_16 a1_17 a1_18 a1_19 a1_20 l1_21 l1_22 a1_23 a1_24 a1_25))) else (impl_GuestOk.j2 kj37 t125 true a0_0 a0_1 a0_2 a1_0 a1_1 a1_2 a1_3 a1_4 a1_5 a1_6 a1_7 a1_8 a1_9 a1_10 a1_11 a1_12 a1_13 a1_14 a1_15 a1_16 a1_17 a1_18 a1_19 a1_20 l1_21 l1_22 a1_23 a1_24 a1_25))) else (impl_GuestOk.j2 kj37 t125 true a0_0 a0_1 a0_2 a1_0 a1_1 a1_2 a1_3 a1_4 a1_5 a1_6 a1_7 a1_8 a1_9 a1_10 a1_11 a1_12 a1_13 a1_14 a1_15 a1_16 a1_17 a1_18 a1_19 a1_20 l1_21 l1_22 a1_23 a1_24 a1_25))) else (impl_GuestOk.j2 kj37 t125 true a0_0 a0_1 a0_2 a1_0 a1_1 a1_2 a1_3 a1_4 a1_5 a1_6 a1_7 a1_8 a1_9 a1_10 a1_11 a1_12 a1_13 a1_14 a1_15 a1_16 a1_17 a1_18 a1_19 a1_20 l1_21 l1_22 a1_23 a1_24 a1_25))) = some r := by rw [if_pos rfl] at H; exact H
         clear H
         have H := H1
         clear H1
         replace H := Option.bind_eq_some_iff.mp H
         obtain ⟨t130, A570, H⟩ := H
         replace H : (if t130 = true then ((impl_within.f a1_13 0 7).bind fun t131 => (if t131 = true then ((impl_within.f a1_10 0 20).bind fun t132 => (if t132 = true then ((impl_within.f a1_9 0 t125).bind fun t133 => (if t133 = true then ((impl_within.f a1_16 0 1048575).bind fun t134 => (if t134 = true then (if (l1_21.length : Int) > t125 then (impl_GuestOk.j2 kj37 t125 true a0_0 a0_1 a0_2 a1_0 a1_1 a1_2 a1_3 a1_4 a1_5 a1_6 a1_7 a1_8 a1_9 a1_10 a1_11 a1_12 a1_13 a1_14 a1_15 a1_16 a1_17 a1_18 a1_19 a1_20 l1_21 l1_22 a1_23 a1_24 a1_25) else (impl_GuestOk.j2 kj37 t125 (decide ((l1_22.length : Int) > 20)) a0_0 a0_1 a0_2 a1_0 a1_1 a1_2 a1_3 a1_4 a1_5 a1_6 a1_7 a1_8 a1_9 a1_10 a1_11 a1_12 a1_13 a1_14 a1_15 a1_16 a1_17 a1_18 a1_19 a1_20 l1_21 l1_22 a1_23 a1_24 a1_25)) else (impl_GuestOk.j2 kj37 t125 true a0_0 a0_1 a0_2 a1_0 a1_1 a1_2 a1_3 a1_4 a1_5 a1_6 a1_7 a1_8 a1_9 a1_10 a1_11 a1_12 a1_13 a1_14 a1_15 a1_16 a1_17 a1_18 a1_19 a1_20 l1_21 l1_22 a1_23 a1_24 a1_25))) else (impl_GuestOk.j2 kj37 t125 true a0_0 a0_1 a0_2 a1_0 a1_1 a1_2 a1_3 a1_4 a1_5 a1_6 a1_7 a1_8 a1_9 a1_10 a1_11 a1_12 a1_13 a1_14 a1_15 a1_16 a1_17 a1_18 a1_19 a1_20 l1_21 l1_22 a1_23 a1_24 a1_25))) else (impl_GuestOk.j2 kj37 t125 true a0_0 a0_1 a0_2 a1_0 a1_1 a1_2 a1_3 a1_4 a1_5 a1_6 a1_7 a1_8 a1_9 a1_10 a1_11 a1_12 a1_13 a1_14 a1_15 a1_16 a1_17 a1_18 a1_19 a1_20 l1_21 l1_22 a1_23 a1_24 a1_25))) else (impl_GuestOk.j2 kj37 t125 true a0_0 a0_1 a0_2 a1_0 a1_1 a1_2 a1_3 a1_4 a1_5 a1_6 a1_7 a1_8 a1_9 a1_10 a1_11 a1_12 a1_13 a1_14 a1_15 a1_16 a1_17 a1_18 a1_19 a1_20 l1_21 l1_22 a1_23 a1_24 a1_25))) else (impl_GuestOk.j2 kj37 t125 true a0_0 a0_1 a0_2 a1_0 a1_1 a1_2 a1_3 a1_4 a1_5 a1_6 a1_7 a1_8 a1_9 a1_10 a1_11 a1_12 a1_13 a1_14 a1_15 a1_16 a1_17 a1_18 a1_19 a1_20 l1_21 l1_22 a1_23 a1_24 a1_25)) = some r := H
         have A57 := Aside0.mk A570
         clear A570
         by_cases c58 : t130 = true
         ·subst c58
          have H1 : ((impl_within.f a1_13 0 7).bind fun t131 => (if t131 = true then ((impl_within.f a1_10 0 20).bind fun t132 => (if t132 = true then ((impl_within.f a1_9 0 t125).bind fun t133 => (if t133 = true then ((impl_within.f a1_16 0 1048575).bind fun t134 => (if t134 = true then (if (l1_21.length : Int) > t125 then (impl_GuestOk.j2 kj37 t125 true a0_0 a0_1 a0_2 a1_0 a1_1 a1_2 a1_3 a1_4 a1_5 a1_6 a1_7 a1_8 a1_9 a1_10 a1_11 a1_12 a1_13 a1_14 a1_15 a1_16 a1_17 a1_18 a1_19 a1_20 l1_21 l1_22 a1_23 a1_24 a1_25) else (impl_GuestOk.j2 kj37 t125 (decide ((l1_22.length : Int) > 20)) a0_0 a0_1 a0_2 a1_0 a1_1 a1_2 a1_3 a1_4 a1_5 a1_6 a1_7 a1_8 a1_9 a1_10 a1_11 a1_12 a1_13 a1_14 a1_15 a1_16 a1_17 a1_18 a1_19 a1_20 l1_21 l1_22 a1_23 a1_24 a1_25)) else (impl_GuestOk.j2 kj37 t125 true a0_0 a0_1 a0_2 a1_0 a1_1 a1_2 a1_3 a1_4 a1_5 a1_6 a1_7 a1_8 a1_9 a1_10 a1_11 a1_12 a1_13 a1_14 a1_15 a1_16 a1_17 a1_18 a1_19 a1_20 l1_21 l1_22 a1_23 a1_24 a1_25))) else (impl_GuestOk.j2 kj37 t125 true a0_0 a0_1 a0_2 a1_0 a1_1 a1_2 a1_3 a1_4 a1_5 a1_6 a1_7 a1_8 a1_9 a1_10 a1_11 a1_12 a1_13 a1_14 a1_15 a1_16 a1_17 a1_18 a1_19 a1_20 l1_21 l1_22 a1_23 a1_24 a1_25))) else (impl_GuestOk.j2 kj37 t125 true a0_0 a0_1 a0_2 a1_0 a1_1 a1_2 a1_3 a1_4 a1_5 a1_6 a1_7 a1_8 a1_9 a1_10 a1_11 a1_12 a1_13 a1_14 a1_15 a1_16 a1_17 a1_18 a1_19 a1_20 l1_21 l1_22 a1_23 a1_24 a1_25))) else (impl_GuestOk.j2 kj37 t125 true a0_0 a0_1 a0_2 a1_0 a1_1 a1_2 a1_3 a1_4 a1_5 a1_6 a1_7 a1_8 a1_9 a1_10 a1_11 a1_12 a1_13 a1_14 a1_15 a1_16 a1_17 a1_18 a1_19 a1_20 l1_21 l1_22 a1_23 a1_24 a1_25))) = some r := by rw [if_pos rfl] at H; exact H
          clear H
          have H := H1
          clear H1
          replace H := Option.bind_eq_some_iff.mp H
          obtain ⟨t131, A590, H⟩ := H
          replace H : (if t131 = true then ((impl_within.f a1_10 0 20).bind fun t132 => (if t132 = true then ((impl_within.f a1_9 0 t125).bind fun t133 => (if t133 = true then ((impl_within.f a1_16 0 1048575).bind fun t134 => (if t134 = true then (if (l1_21.length : Int) > t125 then (impl_GuestOk.j2 kj37 t125 true a0_0 a0_1 a0_2 a1_0 a1_1 a1_2 a1_3 a1_4 a1_5 a1_6 a1_7 a1_8 a1_9 a1_10 a1_11 a1_12 a1_13 a1_14 a1_15 a1_16 a1_17 a1_18 a1_19 a1_20 l1_21 l1_22 a1_23 a1_24 a1_25) else (impl_GuestOk.j2 kj37 t125 (decide ((l1_22.length : Int) > 20)) a0_0 a0_1 a0_2 a1_0 a1_1 a1_2 a1_3 a1_4 a1_5 a1_6 a1_7 a1_8 a1_9 a1_10 a1_11 a1_12 a1_13 a1_14 a1_15 a1_16 a1_17 a1_18 a1_19 a1_20 l1_21 l1_22 a1_23 a1_24 a1_25)) else (impl_GuestOk.j2 kj37 t125 true a0_0 a0_1 a0_2 a1_0 a1_1 a1_2 a1_3 a1_4 a1_5 a1_6 a1_7 a1_8 a1_9 a1_10 a1_11 a1_12 a1_13 a1_14 a1_15 a1_16 a1_17 a1_18 a1_19 a1_20 l1_21 l1_22 a1_23 a1_24 a1_25))) else (impl_GuestOk.j2 kj37 t125 true a0_0 a0_1 a0_2 a1_0 a1_1 a1_2 a1_3 a1_4 a1_5 a1_6 a1_7 a1_8 a1_9 a1_10 a1_11 a1_12 a1_13 a1_14 a1_15 a1_16 a1_17 a1_18 a1_19 a1_20 l1_21 l1_22 a1_23 a1_24 a1_25))) else (impl_GuestOk.j2 kj37 t125 true a0_0 a0_1 a0_2 a1_0 a1_1 a1_2 a1_3 a1_4 a1_5 a1_6 a1_7 a1_8 a1_9 a1_10 a1_11 a1_12 a1_13 a1_14 a1_15 a1_16 a1_17 a1_18 a1_19 a1_20 l1_21 l1_22 a1_23 a1_24 a1_25))) else (impl_GuestOk.j2 kj37 t125 true a0_0 a0_1 a0_2 a1_0 a1_1 a1_2 a1_3 a1_4 a1_5 a1_6 a1_7 a1_8 a1_9 a1_10 a1_11 a1_12 a1_13 a1_14 a1_15 a1_16 a1_17 a1_18 a1_19 a1_20 l1_21 l1_22 a1_23 a1_24 a1_25)) = some r := H
          have A59 := Aside0.mk A590
          clear A590
          by_cases c60 : t131 = true
          ·subst c60
           have H1 : ((impl_within.f a1_10 0 20).bind fun t132 => (if t132 = true then ((impl_within.f a1_9 0 t125).bind fun t133 => (if t133 = true then ((impl_within.f a1_16 0 1048575).bind fun t134 => (if t134 = true then (if (l1_21.length : Int) > t125 then (impl_GuestOk.j2 kj37 t125 true a0_0 a0_1 a0_2 a1_0 a1_1 a1_2 a1_3 a1_4 a1_5 a1_6 a1_7 a1_8 a1_9 a1_10 a1_11 a1_12 a1_13 a1_14 a1_15 a1_16 a1_17 a1_18 a1_19 a1_20 l1_21 l1_22 a1_23 a1_24 a1_25) else (impl_GuestOk.j2 kj37 t125 (decide ((l1_22.length : Int) > 20)) a0_0 a0_1 a0_2 a1_0 a1_1 a1_2 a1_3 a1_4 a1_5 a1_6 a1_7 a1_8 a1_9 a1_10 a1_11 a1_12 a1_13 a1_14 a1_15 a1_16 a1_17 a1_18 a1_19 a1_20 l1_21 l1_22 a1_23 a1_24 a1_25)) else (impl_GuestOk.j2 kj37 t125 true a0_0 a0_1 a0_2 a1_0 a1_1 a1_2 a1_3 a1_4 a1_5 a1_6 a1_7 a1_8 a1_9 a1_10 a1_11 a1_12 a1_13 a1_14 a1_15 a1_16 a1_17 a1_18 a1_19 a1_20 l1_21 l1_22 a1_23 a1_24 a1_25))) else (impl_GuestOk.j2 kj37 t125 true a0_0 a0_1 a0_2 a1_0 a1_1 a1_2 a1_3 a1_4 a1_5 a1_6 a1_7 a1_8 a1_9 a1_10 a1_11 a1_12 a1_13 a1_14 a1_15 a1_16 a1_17 a1_18 a1_19 a1_20 l1_21 l1_22 a1_23 a1_24 a1_25))) else (impl_GuestOk.j2 kj37 t125 true a0_0 a0_1 a0_2 a1_0 a1_1 a1_2 a1_3 a1_4 a1_5 a1_6 a1_7 a1_8 a1_9 a1_10 a1_11 a1_12 a1_13 a1_14 a1_15 a1_16 a1_17 a1_18 a1_19 a1_20 l1_21 l1_22 a1_23 a1_24 a1_25))) = some r := by rw [if_pos rfl] at H; exact H
           clear H
           have H := H1
           clear H1
           replace H := Option.bind_eq_some_iff.mp H
           obtain ⟨t132, A610, H⟩ := H
           replace H : (if t132 = true then ((impl_within.f a1_9 0 t125).bind fun t133 => (if t133 = true then ((impl_within.f a1_16 0 1048575).bind fun t134 => (if t134 = true then (if (l1_21.length : Int) > t125 then (impl_GuestOk.j2 kj37 t125 true a0_0 a0_1 a0_2 a1_0 a1_1 a1_2 a1_3 a1_4 a1_5 a1_6 a1_7 a1_8 a1_9 a1_10 a1_11 a1_12 a1_13 a1_14 a1_15 a1_16 a1_17 a1_18 a1_19 a1_20 l1_21 l1_22 a1_23 a1_24 a1_25) else (impl_GuestOk.j2 kj37 t125 (decide ((l1_22.length : Int) > 20)) a0_0 a0_1 a0_2 a1_0 a1_1 a1_2 a1_3 a1_4 a1_5 a1_6 a1_7 a1_8 a1_9 a1_10 a1_11 a1_12 a1_13 a1_14 a1_15 a1_16 a1_17 a1_18 a1_19 a1_20 l1_21 l1_22 a1_23 a1_24 a1_25)) else (impl_GuestOk.j2 kj37 t125 true a0_0 a0_1 a0_2 a1_0 a1_1 a1_2 a1_3 a1_4 a1_5 a1_6 a1_7 a1_8 a1_9 a1_10 a1_11 a1_12 a1_13 a1_14 a1_15 a1_16 a1_17 a1_18 a1_19 a1_20 l1_21 l1_22 a1_23 a1_24 a1_25))) else (impl_GuestOk.j2 kj37 t125 true a0_0 a0_1 a0_2 a1_0 a1_1 a1_2 a1_3 a1_4 a1_5 a1_6 a1_7 a1_8 a1_9 a1_10 a1_11 a1_12 a1_13 a1_14 a1_15 a1_16 a1_17 a1_18 a1_19 a1_20 l1_21 l1_22 a1_23 a1_24 a1_25))) else (impl_GuestOk.j2 kj37 t125 true a0_0 a0_1 a0_2 a1_0 a1_1 a1_2 a1_3 a1_4 a1_5 a1_6 a1_7 a1_8 a1_9 a1_10 a1_11 a1_12 a1_13 a1_14 a1_15 a1_16 a1_17 a1_18 a1_19 a1_20 l1_21 l1_22 a1_23 a1_24 a1_25)) = some r := H
           have A61 := Aside0.mk A610
           clear A610
           by_cases c62 : t132 = true
           ·subst c62
            have H1 : ((impl_within.f a1_9 0 t125).bind fun t133 => (if t133 = true then ((impl_within.f a1_16 0 1048575).bind fun t134 => (if t134 = true then (if (l1_21.length : Int) > t125 then (impl_GuestOk.j2 kj37 t125 true a0_0 a0_1 a0_2 a1_0 a1_1 a1_2 a1_3 a1_4 a1_5 a1_6 a1_7 a1_8 a1_9 a1_10 a1_11 a1_12 a1_13 a1_14 a1_15 a1_16 a1_17 a1_18 a1_19 a1_20 l1_21 l1_22 a1_23 a1_24 a1_25) else (impl_GuestOk.j2 kj37 t125 (decide ((l1_22.length : Int) > 20)) a0_0 a0_1 a0_2 a1_0 a1_1 a1_2 a1_3 a1_4 a1_5 a1_6 a1_7 a1_8 a1_9 a1_10 a1_11 a1_12 a1_13 a1_14 a1_15 a1_16 a1_17 a1_18 a1_19 a1_20 l1_21 l1_22 a1_23 a1_24 a1_25)) else (impl_GuestOk.j2 kj37 t125 true a0_0 a0_1 a0_2 a1_0 a1_1 a1_2 a1_3 a1_4 a1_5 a1_6 a1_7 a1_8 a1_9 a1_10 a1_11 a1_12 a1_13 a1_14 a1_15 a1_16 a1_17 a1_18 a1_19 a1_20 l1_21 l1_22 a1_23 a1_24 a1_25))) else (impl_GuestOk.j2 kj37 t125 true a0_0 a0_1 a0_2 a1_0 a1_1 a1_2 a1_3 a1_4 a1_5 a1_6 a1_7 a1_8 a1_9 a1_10 a1_11 a1_12 a1_13 a1_14 a1_15 a1_16 a1_17 a1_18 a1_19 a1_20 l1_21 l1_22 a1_23 a1_24 a1_25))) = some r := by rw [if_pos rfl] at H; exact H
            clear H
            have H := H1
            clear H1
            replace H := Option.bind_eq_some_iff.mp H
            obtain ⟨t133, A630, H⟩ := H
            replace H : (if t133 = true then ((impl_within.f a1_16 0 1048575).bind fun t134 => (if t134 = true then (if (l1_21.length : Int) > t125 then (impl_GuestOk.j2 kj37 t125 true a0_0 a0_1 a0_2 a1_0 a1_1 a1_2 a1_3 a1_4 a1_5 a1_6 a1_7 a1_8 a1_9 a1_10 a1_11 a1_12 a1_13 a1_14 a1_15 a1_16 a1_17 a1_18 a1_19 a1_20 l1_21 l1_22 a1_23 a1_24 a1_25) else (impl_GuestOk.j2 kj37 t125 (decide ((l1_22.length : Int) > 20)) a0_0 a0_1 a0_2 a1_0 a1_1 a1_2 a1_3 a1_4 a1_5 a1_6 a1_7 a1_8 a1_9 a1_10 a1_11 a1_12 a1_13 a1_14 a1_15 a1_16 a1_17 a1_18 a1_19 a1_20 l1_21 l1_22 a1_23 a1_24 a1_25)) else (impl_GuestOk.j2 kj37 t125 true a0_0 a0_1 a0_2 a1_0 a1_1 a1_2 a1_3 a1_4 a1_5 a1_6 a1_7 a1_8 a1_9 a1_10 a1_11 a1_12 a1_13 a1_14 a1_15 a1_16 a1_17 a1_18 a1_19 a1_20 l1_21 l1_22 a1_23 a1_24 a1_25))) else (impl_GuestOk.j2 kj37 t125 true a0_0 a0_1 a0_2 a1_0 a1_1 a1_2 a1_3 a1_4 a1_5 a1_6 a1_7 a1_8 a1_9 a1_10 a1_11 a1_12 a1_13 a1_14 a1_15 a1_16 a1_17 a1_18 a1_19 a1_20 l1_21 l1_22 a1_23 a1_24 a1_25)) = some r := H
            have A63 := Aside0.mk A630
            clear A630
            by_cases c64 : t133 = true
            ·subst c64
             have H1 : ((impl_within.f a1_16 0 1048575).bind fun t134 => (if t134 = true then (if (l1_21.length : Int) > t125 then (impl_GuestOk.j2 kj37 t125 true a0_0 a0_1 a0_2 a1_0 a1_1 a1_2 a1_3 a1_4 a1_5 a1_6 a1_7 a1_8 a1_9 a1_10 a1_11 a1_12 a1_13 a1_14 a1_15 a1_16 a1_17 a1_18 a1_19 a1_20 l1_21 l1_22 a1_23 a1_24 a1_25) else (impl_GuestOk.j2 kj37 t125 (decide ((l1_22.length : Int) > 20)) a0_0 a0_1 a0_2 a1_0 a1_1 a1_2 a1_3 a1_4 a1_5 a1_6 a1_7 a1_8 a1_9 a1_10 a1_11 a1_12 a1_13 a1_14 a1_15 a1_16 a1_17 a1_18 a1_19 a1_20 l1_21 l1_22 a1_23 a1_24 a1_25)) else (impl_GuestOk.j2 kj37 t125 true a0_0 a0_1 a0_2 a1_0 a1_1 a1_2 a1_3 a1_4 a1_5 a1_6 a1_7 a1_8 a1_9 a1_10 a1_11 a1_12 a1_13 a1_14 a1_15 a1_16 a1_17 a1_18 a1_19 a1_20 l1_21 l1_22 a1_23 a1_24 a1_25))) = some r := by rw [if_pos rfl] at H; exact H
             clear H
             have H := H1
             clear H1
             replace H := Option.bind_eq_some_iff.mp H
             obtain ⟨t134, A650, H⟩ := H
             replace H : (if t134 = true then (if (l1_21.length : Int) > t125 then (impl_GuestOk.j2 kj37 t125 true a0_0 a0_1 a0_2 a1_0 a1_1 a1_2 a1_3 a1_4 a1_5 a1_6 a1_7 a1_8 a1_9 a1_10 a1_11 a1_12 a1_13 a1_14 a1_15 a1_16 a1_17 a1_18 a1_19 a1_20 l1_21 l1_22 a1_23 a1_24 a1_25) else (impl_GuestOk.j2 kj37 t125 (decide ((l1_22.length : Int) > 20)) a0_0 a0_1 a0_2 a1_0 a1_1 a1_2 a1_3 a1_4 a1_5 a1_6 a1_7 a1_8 a1_9 a1_10 a1_11 a1_12 a1_13 a1_14 a1_15 a1_16 a1_17 a1_18 a1_19 a1_20 l1_21 l1_22 a1_23 a1_24 a1_25)) else (impl_GuestOk.j2 kj37 t125 true a0_0 a0_1 a0_2 a1_0 a1_1 a1_2 a1_3 a1_4 a1_5 a1_6 a1_7 a1_8 a1_9 a1_10 a1_11 a1_12 a1_13 a1_14 a1_15 a1_16 a1_17 a1_18 a1_19 a1_20 l1_21 l1_22 a1_23 a1_24 a1_25)) = some r := H
             have A65 := Aside0.mk A650
             clear A650
             by_cases c66 : t134 = true
             ·subst c66
              have H1 : (if (l1_21.length : Int) > t125 then (impl_GuestOk.j2 kj37 t125 true a0_0 a0_1 a0_2 a1_0 a1_1 a1_2 a1_3 a1_4 a1_5 a1_6 a1_7 a1_8 a1_9 a1_10 a1_11 a1_12 a1_13 a1_14 a1_15 a1_16 a1_17 a1_18 a1_19 a1_20 l1_21 l1_22 a1_23 a1_24 a1_25) else (impl_GuestOk.j2 kj37 t125 (decide ((l1_22.length : Int) > 20)) a0_0 a0_1 a0_2 a1_0 a1_1 a1_2 a1_3 a1_4 a1_5 a1_6 a1_7 a1_8 a1_9 a1_10 a1_11 a1_12 a1_13 a1_14 a1_15 a1_16 a1_17 a1_18 a1_19 a1_20 l1_21 l1_22 a1_23 a1_24 a1_25)) = some r := by rw [if_pos rfl] at H; exact H
              clear H
              have H := H1
              clear H1
              by_cases c67 : (l1_21.length : Int) > t125
              ·rw [if_pos c67] at H
               have c67b0 : decide (t125 < (l1_21.length : Int)) = true := decide_eq_true c67
               clear c67
               (first | rw [c67b0] | (simp only [i64_w, i32_w]; rw [c67b0]) | skip)
               have H' := Aside0.mk H
               clear H
               have hnb68 := NB121_120.out
               have hnc68 := NB120_121.out
               obtain ⟨hcz69_0, hcz69_1, hcz69_2, hcz69_3, hcz69_4, hcz69_5, hcz69_6, hcz69_7, hcz69_8, hcz69_9, hcz69_10, hcz69_11, hcz69_12, hcz69_13, hcz69_14, hcz69_15, hcz69_16, hcz69_17, hcz69_18, hcz69_19, hcz69_20, hcz69_21, hcz69_22, hcz69_23, hcz69_24, hcz69_25, hfz69_0, hfz69_1, hfz69_2, hfz69_3, hfz69_4, hfz69_5, hfz69_6, hfz69_7, hfz69_8, hfz69_9, hfz69_10, hfz69_11, hfz69_12, hfz69_13, hfz69_14, hfz69_15, hfz69_16, hfz69_17, hfz69_18, hfz69_19, hfz69_20, hfz69_21, hfz69_22, hfz69_23, hfz69_24, hfz69_25⟩ := zf2_26 BK121.out
               go_wp2_with (first | (go_at_call 44; (with_reducible refine (impl_within.calls a1_8 0 26 true _ A55.out).mono ?_); rintro e w' ⟨rfl, ⟨nd, rfl⟩⟩) | (go_at_call 44; (with_reducible refine (impl_within.calls a1_11 0 1000001 true _ A57.out).mono ?_); rintro e w' ⟨rfl, ⟨nd, rfl⟩⟩) | (go_at_call 44; (with_reducible refine (impl_within.calls a1_13 0 7 true _ A59.out).mono ?_); rintro e w' ⟨rfl, ⟨nd, rfl⟩⟩) | (go_at_call 44; (with_reducible refine (impl_within.calls a1_10 0 20 true _ A61.out).mono ?_); rintro e w' ⟨rfl, ⟨nd, rfl⟩⟩) | (go_at_call 44; (with_reducible refine (impl_within.calls a1_9 0 t125 true _ A63.out).mono ?_); rintro e w' ⟨rfl, ⟨nd, rfl⟩⟩) | (go_at_call 44; (with_reducible refine (impl_within.calls a1_16 0 1048575 true _ A65.out).mono ?_); rintro e w' ⟨rfl, ⟨nd, rfl⟩⟩))
               go_meet
               case rel => exact ⟨_, (true), zA2_5, H', ⟨zA2_6⟩, ⟨zA2_1⟩, ⟨zA2_2⟩, ⟨zA2_0⟩⟩
              ·rw [if_neg c67] at H
               have c67b0 : decide (t125 < (l1_21.length : Int)) = false := decide_eq_false c67
               clear c67
               (first | rw [c67b0] | (simp only [i64_w, i32_w]; rw [c67b0]) | skip)
               have H' := Aside0.mk H
               clear H
               have hnb70 := NB121_120.out
               have hnc70 := NB120_121.out
               obtain ⟨hcz71_0, hcz71_1, hcz71_2, hcz71_3, hcz71_4, hcz71_5, hcz71_6, hcz71_7, hcz71_8, hcz71_9, hcz71_10, hcz71_11, hcz71_12, hcz71_13, hcz71_14, hcz71_15, hcz71_16, hcz71_17, hcz71_18, hcz71_19, hcz71_20, hcz71_21, hcz71_22, hcz71_23, hcz71_24, hcz71_25, hfz71_0, hfz71_1, hfz71_2, hfz71_3, hfz71_4, hfz71_5, hfz71_6, hfz71_7, hfz71_8, hfz71_9, hfz71_10, hfz71_11, hfz71_12, hfz71_13, hfz71_14, hfz71_15, hfz71_16, hfz71_17, hfz71_18, hfz71_19, hfz71_20, hfz71_21, hfz71_22, hfz71_23, hfz71_24, hfz71_25⟩ := zf2_26 BK121.out
               go_wp2_with (first | (go_at_call 44; (with_reducible refine (impl_within.calls a1_8 0 26 true _ A55.out).mono ?_); rintro e w' ⟨rfl, ⟨nd, rfl⟩⟩) | (go_at_call 44; (with_reducible refine (impl_within.calls a1_11 0 1000001 true _ A57.out).mono ?_); rintro e w' ⟨rfl, ⟨nd, rfl⟩⟩) | (go_at_call 44; (with_reducible refine (impl_within.calls a1_13 0 7 true _ A59.out).mono ?_); rintro e w' ⟨rfl, ⟨nd, rfl⟩⟩) | (go_at_call 44; (with_reducible refine (impl_within.calls a1_10 0 20 true _ A61.out).mono ?_); rintro e w' ⟨rfl, ⟨nd, rfl⟩⟩) | (go_at_call 44; (with_reducible refine (impl_within.calls a1_9 0 t125 true _ A63.out).mono ?_); rintro e w' ⟨rfl, ⟨nd, rfl⟩⟩) | (go_at_call 44; (with_reducible refine (impl_within.calls a1_16 0 1048575 true _ A65.out).mono ?_); rintro e w' ⟨rfl, ⟨nd, rfl⟩⟩))
               go_meet
               case rel => exact ⟨_, (decide ((l1_22.length : Int) > 20)), zA2_5, H', ⟨zA2_6⟩, ⟨zA2_1⟩, ⟨zA2_2⟩, ⟨zA2_0⟩⟩
             ·replace c66 := Bool.eq_false_iff.mpr c66
              subst c66
              have H1 : (impl_GuestOk.j2 kj37 t125 true a0_0 a0_1 a0_2 a1_0 a1_1 a1_2 a1_3 a1_4 a1_5 a1_6 a1_7 a1_8 a1_9 a1_10 a1_11 a1_12 a1_13 a1_14 a1_15 a1_16 a1_17 a1_18 a1_19 a1_20 l1_21 l1_22 a1_23 a1_24 a1_25) = some r := by rw [if_neg (show ¬ (false = true) by decide)] at H; exact H
              clear H
              have H := H1
              clear H1
              have H' := Aside0.mk H
              clear H
              have hnb72 := NB121_120.out
              have hnc72 := NB120_121.out
              obtain ⟨hcz73_0, hcz73_1, hcz73_2, hcz73_3, hcz73_4, hcz73_5, hcz73_6, hcz73_7, hcz73_8, hcz73_9, hcz73_10, hcz73_11, hcz73_12, hcz73_13, hcz73_14, hcz73_15, hcz73_16, hcz73_17, hcz73_18, hcz73_19, hcz73_20, hcz73_21, hcz73_22, hcz73_23, hcz73_24, hcz73_25, hfz73_0, hfz73_1, hfz73_2, hfz73_3, hfz73_4, hfz73_5, hfz73_6, hfz73_7, hfz73_8, hfz73_9, hfz73_10, hfz73_11, hfz73_12, hfz73_13, hfz73_14, hfz73_15, hfz73_16, hfz73_17, hfz73_18, hfz73_19, hfz73_20, hfz73_21, hfz73_22, hfz73_23, hfz73_24, hfz73_25⟩ := zf2_26 BK121.out
              go_wp2_with (first | (go_at_call 44; (with_reducible refine (impl_within.calls a1_8 0 26 true _ A55.out).mono ?_); rintro e w' ⟨rfl, ⟨nd, rfl⟩⟩) | (go_at_call 44; (with_reducible refine (impl_within.calls a1_11 0 1000001 true _ A57.out).mono ?_); rintro e w' ⟨rfl, ⟨nd, rfl⟩⟩) | (go_at_call 44; (with_reducible refine (impl_within.calls a1_13 0 7 true _ A59.out).mono ?_); rintro e w' ⟨rfl, ⟨nd, rfl⟩⟩) | (go_at_call 44; (with_reducible refine (impl_within.calls a1_10 0 20 true _ A61.out).mono ?_); rintro e w' ⟨rfl, ⟨nd, rfl⟩⟩) | (go_at_call 44; (with_reducible refine (impl_within.calls a1_9 0 t125 true _ A63.out).mono ?_); rintro e w' ⟨rfl, ⟨nd, rfl⟩⟩) | (go_at_call 44; (with_reducible refine (impl_within.calls a1_16 0 1048575 false _ A65.out).mono ?_); rintro e w' ⟨rfl, ⟨nd, rfl⟩⟩))
              go_meet
              case rel => exact ⟨_, (true), zA2_5, H', ⟨zA2_6⟩, ⟨zA2_1⟩, ⟨zA2_2⟩, ⟨zA2_0⟩⟩
            ·replace c64 := Bool.eq_false_iff.mpr c64
             subst c64
             have H1 : (impl_GuestOk.j2 kj37 t125 true a0_0 a0_1 a0_2 a1_0 a1_1 a1_2 a1_3 a1_4 a1_5 a1_6 a1_7 a1_8 a1_9 a1_10 a1_11 a1_12 a1_13 a1_14 a1_15 a1_16 a1_17 a1_18 a1_19 a1_20 l1_21 l1_22 a1_23 a1_24 a1_25) = some r := by rw [if_neg (show ¬ (false = true) by decide)] at H; exact H
             clear H
             have H := H1
             clear H1
             have H' := Aside0.mk H
             clear H
             have hnb74 := NB121_120.out
             have hnc74 := NB120_121.out
             obtain ⟨hcz75_0, hcz75_1, hcz75_2, hcz75_3, hcz75_4, hcz75_5, hcz75_6, hcz75_7, hcz75_8, hcz75_9, hcz75_10, hcz75_11, hcz75_12, hcz75_13, hcz75_14, hcz75_15, hcz75_16, hcz75_17, hcz75_18, hcz75_19, hcz75_20, hcz75_21, hcz75_22, hcz75_23, hcz75_24, hcz75_25, hfz75_0, hfz75_1, hfz75_2, hfz75_3, hfz75_4, hfz75_5, hfz75_6, hfz75_7, hfz75_8, hfz75_9, hfz75_10, hfz75_11, hfz75_12, hfz75_13, hfz75_14, hfz75_15, hfz75_16, hfz75_17, hfz75_18, hfz75_19, hfz75_20, hfz75_21, hfz75_22, hfz75_23, hfz75_24, hfz75_25⟩ := zf2_26 BK121.out
             go_wp2_with (first | (go_at_call 44; (with_reducible refine (impl_within.calls a1_8 0 26 true _ A55.out).mono ?_); rintro e w' ⟨rfl, ⟨nd, rfl⟩⟩) | (go_at_call 44; (with_reducible refine (impl_within.calls a1_11 0 1000001 true _ A57.out).mono ?_); rintro e w' ⟨rfl, ⟨nd, rfl⟩⟩) | (go_at_call 44; (with_reducible refine (impl_within.calls a1_13 0 7 true _ A59.out).mono ?_); rintro e w' ⟨rfl, ⟨nd, rfl⟩⟩) | (go_at_call 44; (with_reducible refine (impl_within.calls a1_10 0 20 true _ A61.out).mono ?_); rintro e w' ⟨rfl, ⟨nd, rfl⟩⟩) | (go_at_call 44; (with_reducible refine (impl_within.calls a1_9 0 t125 false _ A63.out).mono ?_); rintro e w' ⟨rfl, ⟨nd, rfl⟩⟩))
             go_meet
             case rel => exact ⟨_, (true), zA2_5, H', ⟨zA2_6⟩, ⟨zA2_1⟩, ⟨zA2_2⟩, ⟨zA2_0⟩⟩
           ·replace c62 := Bool.eq_false_iff.mpr c62
            subst c62
            have H1 : (impl_GuestOk.j2 kj37 t125 true a0_0 a0_1 a0_2 a1_0 a1_1 a1_2 a1_3 a1_4 a1_5 a1_6 a1_7 a1_8 a1_9 a1_10 a1_11 a1_12 a1_13 a1_14 a1_15 a1_16 a1_17 a1_18 a1_19 a1_20 l1_21 l1_22 a1_23 a1_24 a1_25) = some r := by rw [if_neg (show ¬ (false = true) by decide)] at H; exact H
            clear H
            have H := H1
            clear H1
            have H' := Aside0.mk H
            clear H
            have hnb76 := NB121_120.out
            have hnc76 := NB120_121.out
            obtain ⟨hcz77_0, hcz77_1, hcz77_2, hcz77_3, hcz77_4, hcz77_5, hcz77_6, hcz77_7, hcz77_8, hcz77_9, hcz77_10, hcz77_11, hcz77_12, hcz77_13, hcz77_14, hcz77_15, hcz77_16, hcz77_17, hcz77_18, hcz77_19, hcz77_20, hcz77_21, hcz77_22, hcz77_23, hcz77_24, hcz77_25, hfz77_0, hfz77_1, hfz77_2, hfz77_3, hfz77_4, hfz77_5, hfz77_6, hfz77_7, hfz77_8, hfz77_9, hfz77_10, hfz77_11, hfz77_12, hfz77_13, hfz77_14, hfz77_15, hfz77_16, hfz77_17, hfz77_18, hfz77_19, hfz77_20, hfz77_21, hfz77_22, hfz77_23, hfz77_24, hfz77_25⟩ := zf2_26 BK121.out
            go_wp2_with (first | (go_at_call 44; (with_reducible refine (impl_within.calls a1_8 0 26 true _ A55.out).mono ?_); rintro e w' ⟨rfl, ⟨nd, rfl⟩⟩) | (go_at_call 44; (with_reducible refine (impl_within.calls a1_11 0 1000001 true _ A57.out).mono ?_); rintro e w' ⟨rfl, ⟨nd, rfl⟩⟩) | (go_at_call 44; (with_reducible refine (impl_within.calls a1_13 0 7 true _ A59.out).mono ?_); rintro e w' ⟨rfl, ⟨nd, rfl⟩⟩) | (go_at_call 44; (with_reducible refine (impl_within.calls a1_10 0 20 false _ A61.out).mono ?_); rintro e w' ⟨rfl, ⟨nd, rfl⟩⟩))
            go_meet
            case rel => exact ⟨_, (true), zA2_5, H', ⟨zA2_6⟩, ⟨zA2_1⟩, ⟨zA2_2⟩, ⟨zA2_0⟩⟩
          ·replace c60 := Bool.eq_false_iff.mpr c60
           subst c60
           have H1 : (impl_GuestOk.j2 kj37 t125 true a0_0 a0_1 a0_2 a1_0 a1_1 a1_2 a1_3 a1_4 a1_5 a1_6 a1_7 a1_8 a1_9 a1_10 a1_11 a1_12 a1_13 a1_14 a1_15 a1_16 a1_17 a1_18 a1_19 a1_20 l1_21 l1_22 a1_23 a1_24 a1_25) = some r := by rw [if_neg (show ¬ (false = true) by decide)] at H; exact H
           clear H
           have H := H1
           clear H1
           have H' := Aside0.mk H
           clear H
           have hnb78 := NB121_120.out
           have hnc78 := NB120_121.out
           obtain ⟨hcz79_0, hcz79_1, hcz79_2, hcz79_3, hcz79_4, hcz79_5, hcz79_6, hcz79_7, hcz79_8, hcz79_9, hcz79_10, hcz79_11, hcz79_12, hcz79_13, hcz79_14, hcz79_15, hcz79_16, hcz79_17, hcz79_18, hcz79_19, hcz79_20, hcz79_21, hcz79_22, hcz79_23, hcz79_24, hcz79_25, hfz79_0, hfz79_1, hfz79_2, hfz79_3, hfz79_4, hfz79_5, hfz79_6, hfz79_7, hfz79_8, hfz79_9, hfz79_10, hfz79_11, hfz79_12, hfz79_13, hfz79_14, hfz79_15, hfz79_16, hfz79_17, hfz79_18, hfz79_19, hfz79_20, hfz79_21, hfz79_22, hfz79_23, hfz79_24, hfz79_25⟩ := zf2_26 BK121.out
           go_wp2_with (first | (go_at_call 44; (with_reducible refine (impl_within.calls a1_8 0 26 true _ A55.out).mono ?_); rintro e w' ⟨rfl, ⟨nd, rfl⟩⟩) | (go_at_call 44; (with_reducible refine (impl_within.calls a1_11 0 1000001 true _ A57.out).mono ?_); rintro e w' ⟨rfl, ⟨nd, rfl⟩⟩) | (go_at_call 44; (with_reducible refine (impl_within.calls a1_13 0 7 false _ A59.out).mono ?_); rintro e w' ⟨rfl, ⟨nd, rfl⟩⟩))
           go_meet
           case rel => exact ⟨_, (true), zA2_5, H', ⟨zA2_6⟩, ⟨zA2_1⟩, ⟨zA2_2⟩, ⟨zA2_0⟩⟩
         ·replace c58 := Bool.eq_false_iff.mpr c58
          subst c58
          have H1 : (impl_GuestOk.j2 kj37 t125 true a0_0 a0_1 a0_2 a1_0 a1_1 a1_2 a1_3 a1_4 a1_5 a1_6 a1_7 a1_8 a1_9 a1_10 a1_11 a1_12 a1_13 a1_14 a1_15 a1_16 a1_17 a1_18 a1_19 a1_20 l1_21 l1_22 a1_23 a1_24 a1_25) = some r := by rw [if_neg (show ¬ (false = true) by decide)] at H; exact H
          clear H
          have H := H1
          clear H1
          have H' := Aside0.mk H
          clear H
          have hnb80 := NB121_120.out
          have hnc80 := NB120_121.out
          obtain ⟨hcz81_0, hcz81_1, hcz81_2, hcz81_3, hcz81_4, hcz81_5, hcz81_6, hcz81_7, hcz81_8, hcz81_9, hcz81_10, hcz81_11, hcz81_12, hcz81_13, hcz81_14, hcz81_15, hcz81_16, hcz81_17, hcz81_18, hcz81_19, hcz81_20, hcz81_21, hcz81_22, hcz81_23, hcz81_24, hcz81_25, hfz81_0, hfz81_1, hfz81_2, hfz81_3, hfz81_4, hfz81_5, hfz81_6, hfz81_7, hfz81_8, hfz81_9, hfz81_10, hfz81_11, hfz81_12, hfz81_13, hfz81_14, hfz81_15, hfz81_16, hfz81_17, hfz81_18, hfz81_19, hfz81_20, hfz81_21, hfz81_22, hfz81_23, hfz81_24, hfz81_25⟩ := zf2_26 BK121.out
          go_wp2_with (first | (go_at_call 44; (with_reducible refine (impl_within.calls a1_8 0 26 true _ A55.out).mono ?_); rintro e w' ⟨rfl, ⟨nd, rfl⟩⟩) | (go_at_call 44; (with_reducible refine (impl_within.calls a1_11 0 1000001 false _ A57.out).mono ?_); rintro e w' ⟨rfl, ⟨nd, rfl⟩⟩))
          go_meet
          case rel => exact ⟨_, (true), zA2_5, H', ⟨zA2_6⟩, ⟨zA2_1⟩, ⟨zA2_2⟩, ⟨zA2_0⟩⟩
        ·replace c56 := Bool.eq_false_iff.mpr c56
         subst c56
         have H1 : (impl_GuestOk.j2 kj37 t125 true a0_0 a0_1 a0_2 a1_0 a1_1 a1_2 a1_3 a1_4 a1_5 a1_6 a1_7 a1_8 a1_9 a1_10 a1_11 a1_12 a1_13 a1_14 a1_15 a1_16 a1_17 a1_18 a1_19 a1_20 l1_21 l1_22 a1_23 a1_24 a1_25) = some r := by rw [if_neg (show ¬ (false = true) by decide)] at H; exact H
         clear H
         have H := H1
         clear H1
         have H' := Aside0.mk H
         clear H
         have hnb82 := NB121_120.out
         have hnc82 := NB120_121.out
         obtain ⟨hcz83_0, hcz83_1, hcz83_2, hcz83_3, hcz83_4, hcz83_5, hcz83_6, hcz83_7, hcz83_8, hcz83_9, hcz83_10, hcz83_11, hcz83_12, hcz83_13, hcz83_14, hcz83_15, hcz83_16, hcz83_17, hcz83_18, hcz83_19, hcz83_20, hcz83_21, hcz83_22, hcz83_23, hcz83_24, hcz83_25, hfz83_0, hfz83_1, hfz83_2, hfz83_3, hfz83_4, hfz83_5, hfz83_6, hfz83_7, hfz83_8, hfz83_9, hfz83_10, hfz83_11, hfz83_12, hfz83_13, hfz83_14, hfz83_15, hfz83_16, hfz83_17, hfz83_18, hfz83_19, hfz83_20, hfz83_21, hfz83_22, hfz83_23, hfz83_24, hfz83_25⟩ := zf2_26 BK121.out
         go_wp2_with (first | (go_at_call 44; (with_reducible refine (impl_within.calls a1_8 0 26 false _ A55.out).mono ?_); rintro e w' ⟨rfl, ⟨nd, rfl⟩⟩))
         go_meet
         case rel => exact ⟨_, (true), zA2_5, H', ⟨zA2_6⟩, ⟨zA2_1⟩, ⟨zA2_2⟩, ⟨zA2_0⟩⟩
       ·replace c54 := Bool.eq_false_iff.mpr c54
        subst c54
        have H1 : (impl_GuestOk.j2 kj37 t125 true a0_0 a0_1 a0_2 a1_0 a1_1 a1_2 a1_3 a1_4 a1_5 a1_6 a1_7 a1_8 a1_9 a1_10 a1_11 a1_12 a1_13 a1_14 a1_15 a1_16 a1_17 a1_18 a1_19 a1_20 l1_21 l1_22 a1_23 a1_24 a1_25) = some r := by rw [if_neg (show ¬ (false = true) by decide)] at H; exact H
        clear H
        have H := H1
        clear H1
        have H' := Aside0.mk H
        clear H
        go_wp2
        go_meet
        case rel => exact ⟨_, (true), zA2_5, H', ⟨zA2_6⟩, ⟨zA2_1⟩, ⟨zA2_2⟩, ⟨zA2_0⟩⟩
      case rest =>
       as_aux_lemma =>
       clear HC53
       try clear c1
       try clear p2
       try clear c5
       try clear c6
       try clear c7
       try clear c8
       try clear c54
       try clear c56
       try clear c58
       try clear c60
       try clear c62
       try clear c64
       try clear c66
       try clear c67
       try clear c67b0
       try clear c68
       try clear c70
       try clear c72
       try clear c74
       try clear c76
       try clear c78
       try clear c80
       try clear c82
       obtain ⟨kq, x103_52, rfl, HA, HJ52, BK120, BK121, HB⟩ := hcut
       cases kq with
       | zero => exact absurd HA.out (by simp [impl_GuestOk.j2])
       | succ kj52 =>
        have H := HA.out
        clear HA
        simp only [impl_GuestOk.j2] at H
        by_cases c84 : x103_52 = true
        ·subst c84
         have H1 : (some false) = some r := by rw [if_pos rfl] at H; exact H
         clear H
         have H := H1
         clear H1
         obtain rfl := Option.some.inj H
         go_wp2
         go_ret
         exact ⟨zA2_4, zA2_0⟩
        ·replace c84 := Bool.eq_false_iff.mpr c84
         subst c84
         have H1 : (if a1_8 = 11 then (if (l1_21.length : Int) = a1_9 then (if a1_9 = t125 then (some false) else (impl_GuestOk.j5 kj52 a0_0 a0_1 a0_2 a1_0 a1_1 a1_2 a1_3 a1_4 a1_5 a1_6 a1_7 a1_8 a1_9 a1_10 a1_11 a1_12 a1_13 a1_14 a1_15 a1_16 a1_17 a1_18 a1_19 a1_20 l1_21 l1_22 a1_23 a1_24 a1_25)) else (some false)) else (if a1_8 = 12 then (if (l1_21.length : Int) = t125 then ((impl_PlatCfg_isSlot.f a0_0 a0_1 a0_2 a1_6).bind fun t135 => (if t135 = true then (impl_GuestOk.j5 kj52 a0_0 a0_1 a0_2 a1_0 a1_1 a1_2 a1_3 a1_4 a1_5 a1_6 a1_7 a1_8 a1_9 a1_10 a1_11 a1_12 a1_13 a1_14 a1_15 a1_16 a1_17 a1_18 a1_19 a1_20 l1_21 l1_22 a1_23 a1_24 a1_25) else (some false))) else (some false)) else (if a1_8 = 13 then (impl_GuestOk.j3 kj52 a1_8 (a1_8 == 13) a0_0 a0_1 a0_2 a1_0 a1_1 a1_2 a1_3 a1_4 a1_5 a1_6 a1_7 a1_8 a1_9 a1_10 a1_11 a1_12 a1_13 a1_14 a1_15 a1_16 a1_17 a1_18 a1_19 a1_20 l1_21 l1_22 a1_23 a1_24 a1_25) else (impl_GuestOk.j3 kj52 a1_8 (a1_8 == 14) a0_0 a0_1 a0_2 a1_0 a1_1 a1_2 a1_3 a1_4 a1_5 a1_6 a1_7 a1_8 a1_9 a1_10 a1_11 a1_12 a1_13 a1_14 a1_15 a1_16 a1_17 a1_18 a1_19 a1_20 l1_21 l1_22 a1_23 a1_24 a1_25)))) = some r := by rw [if_neg (show ¬ (false = true) by decide)] at H; exact H
         clear H
         have H := H1
         clear H1
         have HC85 := Aside0.mk H
         clear H
         have hnb86 := NB121_120.out
         have hnc86 := NB120_121.out
         obtain ⟨hcz87_0, hcz87_1, hcz87_2, hcz87_3, hcz87_4, hcz87_5, hcz87_6, hcz87_7, hcz87_8, hcz87_9, hcz87_10, hcz87_11, hcz87_12, hcz87_13, hcz87_14, hcz87_15, hcz87_16, hcz87_17, hcz87_18, hcz87_19, hcz87_20, hcz87_21, hcz87_22, hcz87_23, hcz87_24, hcz87_25, hfz87_0, hfz87_1, hfz87_2, hfz87_3, hfz87_4, hfz87_5, hfz87_6, hfz87_7, hfz87_8, hfz87_9, hfz87_10, hfz87_11, hfz87_12, hfz87_13, hfz87_14, hfz87_15, hfz87_16, hfz87_17, hfz87_18, hfz87_19, hfz87_20, hfz87_21, hfz87_22, hfz87_23, hfz87_24, hfz87_25⟩ := zf2_26 BK121.out
         go_upto_block 0 with (fail)
         go_cut [] (fun wc => ∃ (kq : Nat), Aside0 (impl_GuestOk.j5 kq a0_0 a0_1 a0_2 a1_0 a1_1 a1_2 a1_3 a1_4 a1_5 a1_6 a1_7 a1_8 a1_9 a1_10 a1_11 a1_12 a1_13 a1_14 a1_15 a1_16 a1_17 a1_18 a1_19 a1_20 l1_21 l1_22 a1_23 a1_24 a1_25 = some r) ∧ Aside0 (kq ≤ kj52) ∧ Aside0 (wc.heap[gb120]? = some (.cells #[.int .i64 a0_0, .int .i64 a0_1, .int .i64 a0_2] 43 (0, 0))) ∧ Aside0 (wc.heap[gb121]? = some (.cells #[.bool a1_0, .int .i64 a1_1, .int .i64 a1_2, .bool a1_3, .int .i64 a1_4, .int .i64 a1_5, .int .i64 a1_6, .int .i64 a1_7, .int .i64 a1_8, .int .i64 a1_9, .int .i64 a1_10, .int .i64 a1_11, .int .i64 a1_12, .int .i64 a1_13, .int .i64 a1_14, .bool a1_15, .int .i64 a1_16, .int .u64 a1_17, .int .u64 a1_18, .int .u64 a1_19, .int .u64 a1_20, (.slice A1_21 l1_21.length c1_21), (.slice A1_22 l1_22.length c1_22), .int .i64 a1_23, .int .i64 a1_24, .int .i64 a1_25] 59 (0, 0))) ∧ Aside0 (Below w.heap.size w wc))
         case first =>
          as_aux_lemma =>
          have H := HC85.out
          clear HC85
          by_cases c88 : a1_8 = 11
          ·rw [if_pos c88] at H
           have c88b0 : (a1_8 == 11) = true := beq_iff_eq.mpr c88
           have c88b1 : (a1_8 != 11) = false := bne_eq_false_iff_eq.mpr c88
           clear c88
           (first | rw [c88b0] | (simp only [i64_w, i32_w]; rw [c88b0]) | skip)
           by_cases c89 : (l1_21.length : Int) = a1_9
           ·rw [if_pos c89] at H
            have c89b0 : ((l1_21.length : Int) == a1_9) = true := beq_iff_eq.mpr c89
            have c89b1 : ((l1_21.length : Int) != a1_9) = false := bne_eq_false_iff_eq.mpr c89
            clear c89
            by_cases c90 : a1_9 = t125
            ·rw [if_pos c90] at H
             have c90b0 : (a1_9 == t125) = true := beq_iff_eq.mpr c90
             have c90b1 : (a1_9 != t125) = false := bne_eq_false_iff_eq.mpr c90
             clear c90
             obtain rfl := Option.some.inj H
             have hnb91 := NB121_120.out
             have hnc91 := NB120_121.out
             obtain ⟨hcz92_0, hcz92_1, hcz92_2, hcz92_3, hcz92_4, hcz92_5, hcz92_6, hcz92_7, hcz92_8, hcz92_9, hcz92_10, hcz92_11, hcz92_12, hcz92_13, hcz92_14, hcz92_15, hcz92_16, hcz92_17, hcz92_18, hcz92_19, hcz92_20, hcz92_21, hcz92_22, hcz92_23, hcz92_24, hcz92_25, hfz92_0, hfz92_1, hfz92_2, hfz92_3, hfz92_4, hfz92_5, hfz92_6, hfz92_7, hfz92_8, hfz92_9, hfz92_10, hfz92_11, hfz92_12, hfz92_13, hfz92_14, hfz92_15, hfz92_16, hfz92_17, hfz92_18, hfz92_19, hfz92_20, hfz92_21, hfz92_22, hfz92_23, hfz92_24, hfz92_25⟩ := zf2_26 BK121.out
             go_wp2
             go_ret
             exact ⟨zA2_4, zA2_0⟩
            ·rw [if_neg c90] at H
             have c90b0 : (a1_9 == t125) = false := beq_eq_false_iff_ne.mpr c90
             have c90b1 : (a1_9 != t125) = true := bne_iff_ne.mpr c90
             have H' := Aside0.mk H
             clear H
             have hnb93 := NB121_120.out
             have hnc93 := NB120_121.out
             obtain ⟨hcz94_0, hcz94_1, hcz94_2, hcz94_3, hcz94_4, hcz94_5, hcz94_6, hcz94_7, hcz94_8, hcz94_9, hcz94_10, hcz94_11, hcz94_12, hcz94_13, hcz94_14, hcz94_15, hcz94_16, hcz94_17, hcz94_18, hcz94_19, hcz94_20, hcz94_21, hcz94_22, hcz94_23, hcz94_24, hcz94_25, hfz94_0, hfz94_1, hfz94_2, hfz94_3, hfz94_4, hfz94_5, hfz94_6, hfz94_7, hfz94_8, hfz94_9, hfz94_10, hfz94_11, hfz94_12, hfz94_13, hfz94_14, hfz94_15, hfz94_16, hfz94_17, hfz94_18, hfz94_19, hfz94_20, hfz94_21, hfz94_22, hfz94_23, hfz94_24, hfz94_25⟩ := zf2_26 BK121.out
             go_wp2
             go_meet
             case rel => exact ⟨_, H', ⟨zA2_10⟩, ⟨zA2_1⟩, ⟨zA2_2⟩, ⟨zA2_0⟩⟩
           ·rw [if_neg c89] at H
            have c89b0 : ((l1_21.length : Int) == a1_9) = false := beq_eq_false_iff_ne.mpr c89
            have c89b1 : ((l1_21.length : Int) != a1_9) = true := bne_iff_ne.mpr c89
            obtain rfl := Option.some.inj H
            have hnb95 := NB121_120.out
            have hnc95 := NB120_121.out
            obtain ⟨hcz96_0, hcz96_1, hcz96_2, hcz96_3, hcz96_4, hcz96_5, hcz96_6, hcz96_7, hcz96_8, hcz96_9, hcz96_10, hcz96_11, hcz96_12, hcz96_13, hcz96_14, hcz96_15, hcz96_16, hcz96_17, hcz96_18, hcz96_19, hcz96_20, hcz96_21, hcz96_22, hcz96_23, hcz96_24, hcz96_25, hfz96_0, hfz96_1, hfz96_2, hfz96_3, hfz96_4, hfz96_5, hfz96_6, hfz96_7, hfz96_8, hfz96_9, hfz96_10, hfz96_11, hfz96_12, hfz96_13, hfz96_14, hfz96_15, hfz96_16, hfz96_17, hfz96_18, hfz96_19, hfz96_20, hfz96_21, hfz96_22, hfz96_23, hfz96_24, hfz96_25⟩ := zf2_26 BK121.out
            go_wp2
            go_ret
            exact ⟨zA2_4, zA2_0⟩
          ·rw [if_neg c88] at H
           have c88b0 : (a1_8 == 11) = false := beq_eq_false_iff_ne.mpr c88
           have c88b1 : (a1_8 != 11) = true := bne_iff_ne.mpr c88
           (first | rw [c88b0] | (simp only [i64_w, i32_w]; rw [c88b0]) | skip)
           by_cases c97 : a1_8 = 12
           ·rw [if_pos c97] at H
            have c97b0 : (a1_8 == 12) = true := beq_iff_eq.mpr c97
            have c97b1 : (a1_8 != 12) = false := bne_eq_false_iff_eq.mpr c97
            clear c97
            by_cases c98 : (l1_21.length : Int) = t125
            ·rw [if_pos c98] at H
             have c98b0 : ((l1_21.length : Int) == t125) = true := beq_iff_eq.mpr c98
             have c98b1 : ((l1_21.length : Int) != t125) = false := bne_eq_false_iff_eq.mpr c98
             clear c98
             replace H := Option.bind_eq_some_iff.mp H
             obtain ⟨t135, A990, H⟩ := H
             replace H : (if t135 = true then (impl_GuestOk.j5 kj52 a0_0 a0_1 a0_2 a1_0 a1_1 a1_2 a1_3 a1_4 a1_5 a1_6 a1_7 a1_8 a1_9 a1_10 a1_11 a1_12 a1_13 a1_14 a1_15 a1_16 a1_17 a1_18 a1_19 a1_20 l1_21 l1_22 a1_23 a1_24 a1_25) else (some false)) = some r := H
             have A99 := Aside0.mk A990
             clear A990
             by_cases c100 : t135 = true
             ·subst c100
              have H1 : (impl_GuestOk.j5 kj52 a0_0 a0_1 a0_2 a1_0 a1_1 a1_2 a1_3 a1_4 a1_5 a1_6 a1_7 a1_8 a1_9 a1_10 a1_11 a1_12 a1_13 a1_14 a1_15 a1_16 a1_17 a1_18 a1_19 a1_20 l1_21 l1_22 a1_23 a1_24 a1_25) = some r := by rw [if_pos rfl] at H; exact H
              clear H
              have H := H1
              clear H1
              have H' := Aside0.mk H
              clear H
              have hnb101 := NB121_120.out
              have hnc101 := NB120_121.out
              obtain ⟨hcz102_0, hcz102_1, hcz102_2, hcz102_3, hcz102_4, hcz102_5, hcz102_6, hcz102_7, hcz102_8, hcz102_9, hcz102_10, hcz102_11, hcz102_12, hcz102_13, hcz102_14, hcz102_15, hcz102_16, hcz102_17, hcz102_18, hcz102_19, hcz102_20, hcz102_21, hcz102_22, hcz102_23, hcz102_24, hcz102_25, hfz102_0, hfz102_1, hfz102_2, hfz102_3, hfz102_4, hfz102_5, hfz102_6, hfz102_7, hfz102_8, hfz102_9, hfz102_10, hfz102_11, hfz102_12, hfz102_13, hfz102_14, hfz102_15, hfz102_16, hfz102_17, hfz102_18, hfz102_19, hfz102_20, hfz102_21, hfz102_22, hfz102_23, hfz102_24, hfz102_25⟩ := zf2_26 BK121.out
              obtain ⟨hcz103_0, hcz103_1, hcz103_2, hfz103_0, hfz103_1, hfz103_2⟩ := zf2_3 BK120.out
              go_wp2_with (first | (go_at_call 66; (with_reducible refine (impl_PlatCfg_isSlot.calls a0_0 a0_1 a0_2 a1_6 true _ A99.out).mono ?_); rintro e w104 ⟨rfl, hb⟩; have n0_ := Aside0.mk (blk_below (g := gb120) (o := .cells #[.int .i64 a0_0, .int .i64 a0_1, .int .i64 a0_2] 43 (0, 0)) zA2_1 hb); have n1_ := Aside0.mk (blk_below (g := gb121) (o := .cells #[.bool a1_0, .int .i64 a1_1, .int .i64 a1_2, .bool a1_3, .int .i64 a1_4, .int .i64 a1_5, .int .i64 a1_6, .int .i64 a1_7, .int .i64 a1_8, .int .i64 a1_9, .int .i64 a1_10, .int .i64 a1_11, .int .i64 a1_12, .int .i64 a1_13, .int .i64 a1_14, .bool a1_15, .int .i64 a1_16, .int .u64 a1_17, .int .u64 a1_18, .int .u64 a1_19, .int .u64 a1_20, .slice A1_21 l1_21.length c1_21, .slice A1_22 l1_22.length c1_22, .int .i64 a1_23, .int .i64 a1_24, .int .i64 a1_25] 59 (0, 0)) zA2_2 hb); have n2_ := Aside0.mk (below_step zA2_0 hb); clear BK120; clear BK121; clear HB; have BK120 := n0_; have BK121 := n1_; have HB := n2_; clear n0_ n1_ n2_; (try clear hb); (try clear hb2); (try clear hk); (try clear hi)))
              go_meet
              case rel => exact ⟨_, H', ⟨zA2_10⟩, ⟨zA2_1⟩, ⟨zA2_2⟩, ⟨zA2_0⟩⟩
             ·replace c100 := Bool.eq_false_iff.mpr c100
              subst c100
              have H1 : (some false) = some r := by rw [if_neg (show ¬ (false = true) by decide)] at H; exact H
              clear H
              have H := H1
              clear H1
              obtain rfl := Option.some.inj H
              have hnb105 := NB121_120.out
              have hnc105 := NB120_121.out
              obtain ⟨hcz106_0, hcz106_1, hcz106_2, hcz106_3, hcz106_4, hcz106_5, hcz106_6, hcz106_7, hcz106_8, hcz106_9, hcz106_10, hcz106_11, hcz106_12, hcz106_13, hcz106_14, hcz106_15, hcz106_16, hcz106_17, hcz106_18, hcz106_19, hcz106_20, hcz106_21, hcz106_22, hcz106_23, hcz106_24, hcz106_25, hfz106_0, hfz106_1, hfz106_2, hfz106_3, hfz106_4, hfz106_5, hfz106_6, hfz106_7, hfz106_8, hfz106_9, hfz106_10, hfz106_11, hfz106_12, hfz106_13, hfz106_14, hfz106_15, hfz106_16, hfz106_17, hfz106_18, hfz106_19, hfz106_20, hfz106_21, hfz106_22, hfz106_23, hfz106_24, hfz106_25⟩ := zf2_26 BK121.out
              obtain ⟨hcz107_0, hcz107_1, hcz107_2, hfz107_0, hfz107_1, hfz107_2⟩ := zf2_3 BK120.out
              go_wp2_with (first | (go_at_call 66; (with_reducible refine (impl_PlatCfg_isSlot.calls a0_0 a0_1 a0_2 a1_6 false _ A99.out).mono ?_); rintro e w108 ⟨rfl, hb⟩; have n0_ := Aside0.mk (blk_below (g := gb120) (o := .cells #[.int .i64 a0_0, .int .i64 a0_1, .int .i64 a0_2] 43 (0, 0)) zA2_1 hb); have n1_ := Aside0.mk (blk_below (g := gb121) (o := .cells #[.bool a1_0, .int .i64 a1_1, .int .i64 a1_2, .bool a1_3, .int .i64 a1_4, .int .i64 a1_5, .int .i64 a1_6, .int .i64 a1_7, .int .i64 a1_8, .int .i64 a1_9, .int .i64 a1_10, .int .i64 a1_11, .int .i64 a1_12, .int .i64 a1_13, .int .i64 a1_14, .bool a1_15, .int .i64 a1_16, .int .u64 a1_17, .int .u64 a1_18, .int .u64 a1_19, .int .u64 a1_20, .slice A1_21 l1_21.length c1_21, .slice A1_22 l1_22.length c1_22, .int .i64 a1_23, .int .i64 a1_24, .int .i64 a1_25] 59 (0, 0)) zA2_2 hb); have n2_ := Aside0.mk (below_step zA2_0 hb); clear BK120; clear BK121; clear HB; have BK120 := n0_; have BK121 := n1_; have HB := n2_; clear n0_ n1_ n2_; (try clear hb); (try clear hb2); (try clear hk); (try clear hi)))
              go_ret
              exact ⟨zA2_4, zA2_0⟩
            ·rw [if_neg c98] at H
             have c98b0 : ((l1_21.length : Int) == t125) = false := beq_eq_false_iff_ne.mpr c98
             have c98b1 : ((l1_21.length : Int) != t125) = true := bne_iff_ne.mpr c98
             obtain rfl := Option.some.inj H
             have hnb109 := NB121_120.out
             have hnc109 := NB120_121.out
             obtain ⟨hcz110_0, hcz110_1, hcz110_2, hcz110_3, hcz110_4, hcz110_5, hcz110_6, hcz110_7, hcz110_8, hcz110_9, hcz110_10, hcz110_11, hcz110_12, hcz110_13, hcz110_14, hcz110_15, hcz110_16, hcz110_17, hcz110_18, hcz110_19, hcz110_20, hcz110_21, hcz110_22, hcz110_23, hcz110_24, hcz110_25, hfz110_0, hfz110_1, hfz110_2, hfz110_3, hfz110_4, hfz110_5, hfz110_6, hfz110_7, hfz110_8, hfz110_9, hfz110_10, hfz110_11, hfz110_12, hfz110_13, hfz110_14, hfz110_15, hfz110_16, hfz110_17, hfz110_18, hfz110_19, hfz110_20, hfz110_21, hfz110_22, hfz110_23, hfz110_24, hfz110_25⟩ := zf2_26 BK121.out
             go_wp2
             go_ret
             exact ⟨zA2_4, zA2_0⟩
           ·rw [if_neg c97] at H
            have c97b0 : (a1_8 == 12) = false := beq_eq_false_iff_ne.mpr c97
            have c97b1 : (a1_8 != 12) = true := bne_iff_ne.mpr c97
            have HC111 := Aside0.mk H
            clear H
            go_upto_if 135 with (fail)
            go_cut [135] (fun v135 wc => ∃ (kq : Nat) (x135_110 : Bool), v135 = .bool x135_110 ∧ Aside0 (impl_GuestOk.j3 kq a1_8 x135_110 a0_0 a0_1 a0_2 a1_0 a1_1 a1_2 a1_3 a1_4 a1_5 a1_6 a1_7 a1_8 a1_9 a1_10 a1_11 a1_12 a1_13 a1_14 a1_15 a1_16 a1_17 a1_18 a1_19 a1_20 l1_21 l1_22 a1_23 a1_24 a1_25 = some r) ∧ Aside0 (kq ≤ kj52) ∧ Aside0 (wc.heap[gb120]? = some (.cells #[.int .i64 a0_0, .int .i64 a0_1, .int .i64 a0_2] 43 (0, 0))) ∧ Aside0 (wc.heap[gb121]? = some (.cells #[.bool a1_0, .int .i64 a1_1, .int .i64 a1_2, .bool a1_3, .int .i64 a1_4, .int .i64 a1_5, .int .i64 a1_6, .int .i64 a1_7, .int .i64 a1_8, .int .i64 a1_9, .int .i64 a1_10, .int .i64 a1_11, .int .i64 a1_12, .int .i64 a1_13, .int .i64 a1_14, .bool a1_15, .int .i64 a1_16, .int .u64 a1_17, .int .u64 a1_18, .int .u64 a1_19, .int .u64 a1_20, (.slice A1_21 l1_21.length c1_21), (.slice A1_22 l1_22.length c1_22), .int .i64 a1_23, .int .i64 a1_24, .int .i64 a1_25] 59 (0, 0))) ∧ Aside0 (Below w.heap.size w wc))
            case first =>
             as_aux_lemma =>
             have H := HC111.out
             clear HC111
             by_cases c112 : a1_8 = 13
             ·rw [if_pos c112] at H
              have c112b0 : (a1_8 == 13) = true := beq_iff_eq.mpr c112
              have c112b1 : (a1_8 != 13) = false := bne_eq_false_iff_eq.mpr c112
              clear c112
              (first | rw [c112b0] | (simp only [i64_w, i32_w]; rw [c112b0]) | skip)
              have H' := Aside0.mk H
              clear H
              go_wp2
              go_meet
              case rel => exact ⟨_, ((a1_8 == 13)), zA2_5, H', ⟨zA2_10⟩, ⟨zA2_1⟩, ⟨zA2_2⟩, ⟨zA2_0⟩⟩
             ·rw [if_neg c112] at H
              have c112b0 : (a1_8 == 13) = false := beq_eq_false_iff_ne.mpr c112
              have c112b1 : (a1_8 != 13) = true := bne_iff_ne.mpr c112
              (first | rw [c112b0] | (simp only [i64_w, i32_w]; rw [c112b0]) | skip)
              have H' := Aside0.mk H
              clear H
              go_wp2
              go_meet
              case rel => exact ⟨_, ((a1_8 == 14)), zA2_5, H', ⟨zA2_10⟩, ⟨zA2_1⟩, ⟨zA2_2⟩, ⟨zA2_0⟩⟩
            case rest =>
             as_aux_lemma =>
             clear HC111
             try clear c1
             try clear p2
             try clear c8
             try clear c9
             try clear c10
             try clear c11
             try clear c84
             try clear c86
             try clear c88
             try clear c88b0
             try clear c88b1
             try clear c89
             try clear c89b0
             try clear c89b1
             try clear c90
             try clear c90b0
             try clear c90b1
             try clear c91
             try clear c93
             try clear c95
             try clear c97
             try clear c97b0
             try clear c97b1
             try clear c98
             try clear c98b0
             try clear c98b1
             try clear c100
             try clear c101
             try clear c105
             try clear c109
             try clear c112
             try clear c112b0
             try clear c112b1
             clear hcz87_0 hcz87_1 hcz87_10 hcz87_11 hcz87_12 hcz87_13 hcz87_14 hcz87_15 hcz87_16 hcz87_17 hcz87_18 hcz87_19 hcz87_2 hcz87_20 hcz87_21 hcz87_22 hcz87_23 hcz87_24 hcz87_25 hcz87_3 hcz87_4 hcz87_5 hcz87_6 hcz87_7 hcz87_8 hcz87_9 hfz87_0 hfz87_1 hfz87_10 hfz87_11 hfz87_12 hfz87_13 hfz87_14 hfz87_15 hfz87_16 hfz87_17 hfz87_18 hfz87_19 hfz87_2 hfz87_20 hfz87_21 hfz87_22 hfz87_23 hfz87_24 hfz87_25 hfz87_3 hfz87_4 hfz87_5 hfz87_6 hfz87_7 hfz87_8 hfz87_9
             obtain ⟨kq, x135_110, rfl, HA, HJ110, BK120, BK121, HB⟩ := hcut
             cases kq with
             | zero => exact absurd HA.out (by simp [impl_GuestOk.j3])
             | succ kj110 =>
              have H := HA.out
              clear HA
              simp only [impl_GuestOk.j3] at H
              by_cases c113 : x135_110 = true
              ·subst c113
               have H1 : (if a1_9 > (l1_22.length : Int) then (some false) else (impl_GuestOk.j5 kj110 a0_0 a0_1 a0_2 a1_0 a1_1 a1_2 a1_3 a1_4 a1_5 a1_6 a1_7 a1_8 a1_9 a1_10 a1_11 a1_12 a1_13 a1_14 a1_15 a1_16 a1_17 a1_18 a1_19 a1_20 l1_21 l1_22 a1_23 a1_24 a1_25)) = some r := by rw [if_pos rfl] at H; exact H
               clear H
               have H := H1
               clear H1
               by_cases c114 : a1_9 > (l1_22.length : Int)
               ·rw [if_pos c114] at H
                have c114b0 : decide ((l1_22.length : Int) < a1_9) = true := decide_eq_true c114
                clear c114
                obtain rfl := Option.some.inj H
                have hnb115 := NB121_120.out
                have hnc115 := NB120_121.out
                obtain ⟨hcz116_0, hcz116_1, hcz116_2, hcz116_3, hcz116_4, hcz116_5, hcz116_6, hcz116_7, hcz116_8, hcz116_9, hcz116_10, hcz116_11, hcz116_12, hcz116_13, hcz116_14, hcz116_15, hcz116_16, hcz116_17, hcz116_18, hcz116_19, hcz116_20, hcz116_21, hcz116_22, hcz116_23, hcz116_24, hcz116_25, hfz116_0, hfz116_1, hfz116_2, hfz116_3, hfz116_4, hfz116_5, hfz116_6, hfz116_7, hfz116_8, hfz116_9, hfz116_10, hfz116_11, hfz116_12, hfz116_13, hfz116_14, hfz116_15, hfz116_16, hfz116_17, hfz116_18, hfz116_19, hfz116_20, hfz116_21, hfz116_22, hfz116_23, hfz116_24, hfz116_25⟩ := zf2_26 BK121.out
                go_wp2
                go_ret
                exact ⟨zA2_4, zA2_0⟩
               ·rw [if_neg c114] at H
                have c114b0 : decide ((l1_22.length : Int) < a1_9) = false := decide_eq_false c114
                clear c114
                have H' := Aside0.mk H
                clear H
                have hnb117 := NB121_120.out
                have hnc117 := NB120_121.out
                obtain ⟨hcz118_0, hcz118_1, hcz118_2, hcz118_3, hcz118_4, hcz118_5, hcz118_6, hcz118_7, hcz118_8, hcz118_9, hcz118_10, hcz118_11, hcz118_12, hcz118_13, hcz118_14, hcz118_15, hcz118_16, hcz118_17, hcz118_18, hcz118_19, hcz118_20, hcz118_21, hcz118_22, hcz118_23, hcz118_24, hcz118_25, hfz118_0, hfz118_1, hfz118_2, hfz118_3, hfz118_4, hfz118_5, hfz118_6, hfz118_7, hfz118_8, hfz118_9, hfz118_10, hfz118_11, hfz118_12, hfz118_13, hfz118_14, hfz118_15, hfz118_16, hfz118_17, hfz118_18, hfz118_19, hfz118_20, hfz118_21, hfz118_22, hfz118_23, hfz118_24, hfz118_25⟩ := zf2_26 BK121.out
                go_wp2
                go_meet
                case rel => exact ⟨_, H', ⟨zA2_8⟩, ⟨zA2_1⟩, ⟨zA2_2⟩, ⟨zA2_0⟩⟩
              ·replace c113 := Bool.eq_false_iff.mpr c113
               subst c113
               have H1 : (if a1_8 = 22 then (impl_GuestOk.j4 kj110 (a1_8 == 22) a0_0 a0_1 a0_2 a1_0 a1_1 a1_2 a1_3 a1_4 a1_5 a1_6 a1_7 a1_8 a1_9 a1_10 a1_11 a1_12 a1_13 a1_14 a1_15 a1_16 a1_17 a1_18 a1_19 a1_20 l1_21 l1_22 a1_23 a1_24 a1_25) else (if a1_8 = 23 then (impl_GuestOk.j4 kj110 (a1_8 == 23) a0_0 a0_1 a0_2 a1_0 a1_1 a1_2 a1_3 a1_4 a1_5 a1_6 a1_7 a1_8 a1_9 a1_10 a1_11 a1_12 a1_13 a1_14 a1_15 a1_16 a1_17 a1_18 a1_19 a1_20 l1_21 l1_22 a1_23 a1_24 a1_25) else (impl_GuestOk.j4 kj110 (a1_8 == 24) a0_0 a0_1 a0_2 a1_0 a1_1 a1_2 a1_3 a1_4 a1_5 a1_6 a1_7 a1_8 a1_9 a1_10 a1_11 a1_12 a1_13 a1_14 a1_15 a1_16 a1_17 a1_18 a1_19 a1_20 l1_21 l1_22 a1_23 a1_24 a1_25))) = some r := by rw [if_neg (show ¬ (false = true) by decide)] at H; exact H
               clear H
               have H := H1
               clear H1
               have HC119 := Aside0.mk H
               clear H
               go_upto_if 144 with (fail)
               go_cut [144] (fun v144 wc => ∃ (kq : Nat) (x144_118 : Bool), v144 = .bool x144_118 ∧ Aside0 (impl_GuestOk.j4 kq x144_118 a0_0 a0_1 a0_2 a1_0 a1_1 a1_2 a1_3 a1_4 a1_5 a1_6 a1_7 a1_8 a1_9 a1_10 a1_11 a1_12 a1_13 a1_14 a1_15 a1_16 a1_17 a1_18 a1_19 a1_20 l1_21 l1_22 a1_23 a1_24 a1_25 = some r) ∧ Aside0 (kq ≤ kj110) ∧ Aside0 (wc.heap[gb120]? = some (.cells #[.int .i64 a0_0, .int .i64 a0_1, .int .i64 a0_2] 43 (0, 0))) ∧ Aside0 (wc.heap[gb121]? = some (.cells #[.bool a1_0, .int .i64 a1_1, .int .i64 a1_2, .bool a1_3, .int .i64 a1_4, .int .i64 a1_5, .int .i64 a1_6, .int .i64 a1_7, .int .i64 a1_8, .int .i64 a1_9, .int .i64 a1_10, .int .i64 a1_11, .int .i64 a1_12, .int .i64 a1_13, .int .i64 a1_14, .bool a1_15, .int .i64 a1_16, .int .u64 a1_17, .int .u64 a1_18, .int .u64 a1_19, .int .u64 a1_20, (.slice A1_21 l1_21.length c1_21), (.slice A1_22 l1_22.length c1_22), .int .i64 a1_23, .int .i64 a1_24, .int .i64 a1_25] 59 (0, 0))) ∧ Aside0 (Below w.heap.size w wc))
               case first =>
                as_aux_lemma =>
                have H := HC119.out
                clear HC119
                by_cases c120 : a1_8 = 22
                ·rw [if_pos c120] at H
                 have c120b0 : (a1_8 == 22) = true := beq_iff_eq.mpr c120
                 have c120b1 : (a1_8 != 22) = false := bne_eq_false_iff_eq.mpr c120
                 clear c120
                 (first | rw [c120b0] | (simp only [i64_w, i32_w]; rw [c120b0]) | skip)
                 have H' := Aside0.mk H
                 clear H
                 go_wp2
                 go_meet
                 case rel => exact ⟨_, ((a1_8 == 22)), zA2_5, H', ⟨zA2_8⟩, ⟨zA2_1⟩, ⟨zA2_2⟩, ⟨zA2_0⟩⟩
                ·rw [if_neg c120] at H
                 have c120b0 : (a1_8 == 22) = false := beq_eq_false_iff_ne.mpr c120
                 have c120b1 : (a1_8 != 22) = true := bne_iff_ne.mpr c120
                 (first | rw [c120b0] | (simp only [i64_w, i32_w]; rw [c120b0]) | skip)
                 by_cases c121 : a1_8 = 23
                 ·rw [if_pos c121] at H
                  have c121b0 : (a1_8 == 23) = true := beq_iff_eq.mpr c121
                  have c121b1 : (a1_8 != 23) = false := bne_eq_false_iff_eq.mpr c121
                  clear c121
                  have H' := Aside0.mk H
                  clear H
                  go_wp2
                  go_meet
                  case rel => exact ⟨_, ((a1_8 == 23)), zA2_5, H', ⟨zA2_8⟩, ⟨zA2_1⟩, ⟨zA2_2⟩, ⟨zA2_0⟩⟩
                 ·rw [if_neg c121] at H
                  have c121b0 : (a1_8 == 23) = false := beq_eq_false_iff_ne.mpr c121
                  have c121b1 : (a1_8 != 23) = true := bne_iff_ne.mpr c121
                  have H' := Aside0.mk H
                  clear H
                  go_wp2
                  go_meet
                  case rel => exact ⟨_, ((a1_8 == 24)), zA2_5, H', ⟨zA2_8⟩, ⟨zA2_1⟩, ⟨zA2_2⟩, ⟨zA2_0⟩⟩
               case rest =>
                as_aux_lemma =>
                clear HC119
                try clear c1
                try clear p2
                try clear c11
                try clear c12
                try clear c113
                try clear c114
                try clear c114b0
                try clear c115
                try clear c117
                try clear c120
                try clear c120b0
                try clear c120b1
                try clear c121
                try clear c121b0
                try clear c121b1
                obtain ⟨kq, x144_118, rfl, HA, HJ118, BK120, BK121, HB⟩ := hcut
                cases kq with
                | zero => exact absurd HA.out (by simp [impl_GuestOk.j4])
                | succ kj118 =>
                 have H := HA.out
                 clear HA
                 simp only [impl_GuestOk.j4] at H
                 by_cases c122 : x144_118 = true
                 ·subst c122
                  have H1 : ((impl_within.f a1_9 1 a1_10).bind fun t136 => (if t136 = true then (if a1_15 = true then (if a1_10 = (l1_22.length : Int) then ((impl_PlatCfg_isSlot.f a0_0 a0_1 a0_2 a1_13).bind fun t137 => (if t137 = true then (impl_GuestOk.j5 kj118 a0_0 a0_1 a0_2 a1_0 a1_1 a1_2 a1_3 a1_4 a1_5 a1_6 a1_7 a1_8 a1_9 a1_10 a1_11 a1_12 a1_13 a1_14 a1_15 a1_16 a1_17 a1_18 a1_19 a1_20 l1_21 l1_22 a1_23 a1_24 a1_25) else (some false))) else (some false)) else ((impl_PlatCfg_isSlot.f a0_0 a0_1 a0_2 a1_13).bind fun t138 => (if t138 = true then (impl_GuestOk.j5 kj118 a0_0 a0_1 a0_2 a1_0 a1_1 a1_2 a1_3 a1_4 a1_5 a1_6 a1_7 a1_8 a1_9 a1_10 a1_11 a1_12 a1_13 a1_14 a1_15 a1_16 a1_17 a1_18 a1_19 a1_20 l1_21 l1_22 a1_23 a1_24 a1_25) else (some false)))) else (some false))) = some r := by rw [if_pos rfl] at H; exact H
                  clear H
                  have H := H1
                  clear H1
                  replace H := Option.bind_eq_some_iff.mp H
                  obtain ⟨t136, A1230, H⟩ := H
                  replace H : (if t136 = true then (if a1_15 = true then (if a1_10 = (l1_22.length : Int) then ((impl_PlatCfg_isSlot.f a0_0 a0_1 a0_2 a1_13).bind fun t137 => (if t137 = true then (impl_GuestOk.j5 kj118 a0_0 a0_1 a0_2 a1_0 a1_1 a1_2 a1_3 a1_4 a1_5 a1_6 a1_7 a1_8 a1_9 a1_10 a1_11 a1_12 a1_13 a1_14 a1_15 a1_16 a1_17 a1_18 a1_19 a1_20 l1_21 l1_22 a1_23 a1_24 a1_25) else (some false))) else (some false)) else ((impl_PlatCfg_isSlot.f a0_0 a0_1 a0_2 a1_13).bind fun t138 => (if t138 = true then (impl_GuestOk.j5 kj118 a0_0 a0_1 a0_2 a1_0 a1_1 a1_2 a1_3 a1_4 a1_5 a1_6 a1_7 a1_8 a1_9 a1_10 a1_11 a1_12 a1_13 a1_14 a1_15 a1_16 a1_17 a1_18 a1_19 a1_20 l1_21 l1_22 a1_23 a1_24 a1_25) else (some false)))) else (some false)) = some r := H
                  have A123 := Aside0.mk A1230
                  clear A1230
                  by_cases c124 : t136 = true
                  ·subst c124
                   have H1 : (if a1_15 = true then (if a1_10 = (l1_22.length : Int) then ((impl_PlatCfg_isSlot.f a0_0 a0_1 a0_2 a1_13).bind fun t137 => (if t137 = true then (impl_GuestOk.j5 kj118 a0_0 a0_1 a0_2 a1_0 a1_1 a1_2 a1_3 a1_4 a1_5 a1_6 a1_7 a1_8 a1_9 a1_10 a1_11 a1_12 a1_13 a1_14 a1_15 a1_16 a1_17 a1_18 a1_19 a1_20 l1_21 l1_22 a1_23 a1_24 a1_25) else (some false))) else (some false)) else ((impl_PlatCfg_isSlot.f a0_0 a0_1 a0_2 a1_13).bind fun t138 => (if t138 = true then (impl_GuestOk.j5 kj118 a0_0 a0_1 a0_2 a1_0 a1_1 a1_2 a1_3 a1_4 a1_5 a1_6 a1_7 a1_8 a1_9 a1_10 a1_11 a1_12 a1_13 a1_14 a1_15 a1_16 a1_17 a1_18 a1_19 a1_20 l1_21 l1_22 a1_23 a1_24 a1_25) else (some false)))) = some r := by rw [if_pos rfl] at H; exact H
                   clear H
                   have H := H1
                   clear H1
                   by_cases c125 : a1_15 = true
                   ·subst c125
                    have H1 : (if a1_10 = (l1_22.length : Int) then ((impl_PlatCfg_isSlot.f a0_0 a0_1 a0_2 a1_13).bind fun t137 => (if t137 = true then (impl_GuestOk.j5 kj118 a0_0 a0_1 a0_2 a1_0 a1_1 a1_2 a1_3 a1_4 a1_5 a1_6 a1_7 a1_8 a1_9 a1_10 a1_11 a1_12 a1_13 a1_14 true a1_16 a1_17 a1_18 a1_19 a1_20 l1_21 l1_22 a1_23 a1_24 a1_25) else (some false))) else (some false)) = some r := by rw [if_pos rfl] at H; exact H
                    clear H
                    have H := H1
                    clear H1
                    by_cases c126 : a1_10 = (l1_22.length : Int)
                    ·rw [if_pos c126] at H
                     have c126b0 : (a1_10 == (l1_22.length : Int)) = true := beq_iff_eq.mpr c126
                     have c126b1 : (a1_10 != (l1_22.length : Int)) = false := bne_eq_false_iff_eq.mpr c126
                     clear c126
                     replace H := Option.bind_eq_some_iff.mp H
                     obtain ⟨t137, A1270, H⟩ := H
                     replace H : (if t137 = true then (impl_GuestOk.j5 kj118 a0_0 a0_1 a0_2 a1_0 a1_1 a1_2 a1_3 a1_4 a1_5 a1_6 a1_7 a1_8 a1_9 a1_10 a1_11 a1_12 a1_13 a1_14 true a1_16 a1_17 a1_18 a1_19 a1_20 l1_21 l1_22 a1_23 a1_24 a1_25) else (some false)) = some r := H
                     have A127 := Aside0.mk A1270
                     clear A1270
                     by_cases c128 : t137 = true
                     ·subst c128
                      have H1 : (impl_GuestOk.j5 kj118 a0_0 a0_1 a0_2 a1_0 a1_1 a1_2 a1_3 a1_4 a1_5 a1_6 a1_7 a1_8 a1_9 a1_10 a1_11 a1_12 a1_13 a1_14 true a1_16 a1_17 a1_18 a1_19 a1_20 l1_21 l1_22 a1_23 a1_24 a1_25) = some r := by rw [if_pos rfl] at H; exact H
                      clear H
                      have H := H1
                      clear H1
                      have H' := Aside0.mk H
                      clear H
                      have hnb129 := NB121_120.out
                      have hnc129 := NB120_121.out
                      obtain ⟨hcz130_0, hcz130_1, hcz130_2, hcz130_3, hcz130_4, hcz130_5, hcz130_6, hcz130_7, hcz130_8, hcz130_9, hcz130_10, hcz130_11, hcz130_12, hcz130_13, hcz130_14, hcz130_15, hcz130_16, hcz130_17, hcz130_18, hcz130_19, hcz130_20, hcz130_21, hcz130_22, hcz130_23, hcz130_24, hcz130_25, hfz130_0, hfz130_1, hfz130_2, hfz130_3, hfz130_4, hfz130_5, hfz130_6, hfz130_7, hfz130_8, hfz130_9, hfz130_10, hfz130_11, hfz130_12, hfz130_13, hfz130_14, hfz130_15, hfz130_16, hfz130_17, hfz130_18, hfz130_19, hfz130_20, hfz130_21, hfz130_22, hfz130_23, hfz130_24, hfz130_25⟩ := zf2_26 BK121.out
                      go_wp2_with (first | ((with_reducible refine gate_callee (f := 44) rfl ?_); refine goesL_ (some 152) rfl rfl Try.func44 (by kernel_rfl) rfl #[.int .i64 a1_9, .int .i64 1, .int .i64 a1_10] rfl zA2_3 ?_; (with_reducible refine (impl_within.calls a1_9 1 a1_10 true _ A123.out).mono ?_); rintro e w' ⟨rfl, ⟨nd, rfl⟩⟩; refine ⟨_, rfl, ?_⟩; have hcz131_0 : wc.cell? ⟨gb120, 0, none⟩ = some (.int .i64 a0_0) := (blk_cell BK120.out 0).trans rfl; have hcz131_1 : wc.cell? ⟨gb120, 1, none⟩ = some (.int .i64 a0_1) := (blk_cell BK120.out 1).trans rfl; have hcz131_2 : wc.cell? ⟨gb120, 2, none⟩ = some (.int .i64 a0_2) := (blk_cell BK120.out 2).trans rfl; have hfz131_0 := blk_frozen BK120.out 0; have hfz131_1 := blk_frozen BK120.out 1; have hfz131_2 := blk_frozen BK120.out 2) | (go_at_call 66; (with_reducible refine (impl_PlatCfg_isSlot.calls a0_0 a0_1 a0_2 a1_13 true _ A127.out).mono ?_); rintro e w132 ⟨rfl, hb⟩; have n0_ := Aside0.mk (blk_below (g := gb120) (o := .cells #[.int .i64 a0_0, .int .i64 a0_1, .int .i64 a0_2] 43 (0, 0)) zA2_1 hb); have n1_ := Aside0.mk (blk_below (g := gb121) (o := .cells #[.bool a1_0, .int .i64 a1_1, .int .i64 a1_2, .bool a1_3, .int .i64 a1_4, .int .i64 a1_5, .int .i64 a1_6, .int .i64 a1_7, .int .i64 a1_8, .int .i64 a1_9, .int .i64 a1_10, .int .i64 a1_11, .int .i64 a1_12, .int .i64 a1_13, .int .i64 a1_14, .bool true, .int .i64 a1_16, .int .u64 a1_17, .int .u64 a1_18, .int .u64 a1_19, .int .u64 a1_20, .slice A1_21 l1_21.length c1_21, .slice A1_22 l1_22.length c1_22, .int .i64 a1_23, .int .i64 a1_24, .int .i64 a1_25] 59 (0, 0)) zA2_2 hb); have n2_ := Aside0.mk (below_step zA2_0 hb); clear BK120; clear BK121; clear HB; have BK120 := n0_; have BK121 := n1_; have HB := n2_; clear n0_ n1_ n2_; (try clear hb); (try clear hb2); (try clear hk); (try clear hi)))
                      go_meet
                      case rel => exact ⟨_, H', ⟨zA2_11⟩, ⟨zA2_1⟩, ⟨zA2_2⟩, ⟨zA2_0⟩⟩
                     ·replace c128 := Bool.eq_false_iff.mpr c128
                      subst c128
                      have H1 : (some false) = some r := by rw [if_neg (show ¬ (false = true) by decide)] at H; exact H
                      clear H
                      have H := H1
                      clear H1
                      obtain rfl := Option.some.inj H
                      have hnb133 := NB121_120.out
                      have hnc133 := NB120_121.out
                      obtain ⟨hcz134_0, hcz134_1, hcz134_2, hcz134_3, hcz134_4, hcz134_5, hcz134_6, hcz134_7, hcz134_8, hcz134_9, hcz134_10, hcz134_11, hcz134_12, hcz134_13, hcz134_14, hcz134_15, hcz134_16, hcz134_17, hcz134_18, hcz134_19, hcz134_20, hcz134_21, hcz134_22, hcz134_23, hcz134_24, hcz134_25, hfz134_0, hfz134_1, hfz134_2, hfz134_3, hfz134_4, hfz134_5, hfz134_6, hfz134_7, hfz134_8, hfz134_9, hfz134_10, hfz134_11, hfz134_12, hfz134_13, hfz134_14, hfz134_15, hfz134_16, hfz134_17, hfz134_18, hfz134_19, hfz134_20, hfz134_21, hfz134_22, hfz134_23, hfz134_24, hfz134_25⟩ := zf2_26 BK121.out
                      go_wp2_with (first | ((with_reducible refine gate_callee (f := 44) rfl ?_); refine goesL_ (some 152) rfl rfl Try.func44 (by kernel_rfl) rfl #[.int .i64 a1_9, .int .i64 1, .int .i64 a1_10] rfl zA2_3 ?_; (with_reducible refine (impl_within.calls a1_9 1 a1_10 true _ A123.out).mono ?_); rintro e w' ⟨rfl, ⟨nd, rfl⟩⟩; refine ⟨_, rfl, ?_⟩; have hcz135_0 : wc.cell? ⟨gb120, 0, none⟩ = some (.int .i64 a0_0) := (blk_cell BK120.out 0).trans rfl; have hcz135_1 : wc.cell? ⟨gb120, 1, none⟩ = some (.int .i64 a0_1) := (blk_cell BK120.out 1).trans rfl; have hcz135_2 : wc.cell? ⟨gb120, 2, none⟩ = some (.int .i64 a0_2) := (blk_cell BK120.out 2).trans rfl; have hfz135_0 := blk_frozen BK120.out 0; have hfz135_1 := blk_frozen BK120.out 1; have hfz135_2 := blk_frozen BK120.out 2) | (go_at_call 66; (with_reducible refine (impl_PlatCfg_isSlot.calls a0_0 a0_1 a0_2 a1_13 false _ A127.out).mono ?_); rintro e w136 ⟨rfl, hb⟩; have n0_ := Aside0.mk (blk_below (g := gb120) (o := .cells #[.int .i64 a0_0, .int .i64 a0_1, .int .i64 a0_2] 43 (0, 0)) zA2_1 hb); have n1_ := Aside0.mk (blk_below (g := gb121) (o := .cells #[.bool a1_0, .int .i64 a1_1, .int .i64 a1_2, .bool a1_3, .int .i64 a1_4, .int .i64 a1_5, .int .i64 a1_6, .int .i64 a1_7, .int .i64 a1_8, .int .i64 a1_9, .int .i64 a1_10, .int .i64 a1_11, .int .i64 a1_12, .int .i64 a1_13, .int .i64 a1_14, .bool true, .int .i64 a1_16, .int .u64 a1_17, .int .u64 a1_18, .int .u64 a1_19, .int .u64 a1_20, .slice A1_21 l1_21.length c1_21, .slice A1_22 l1_22.length c1_22, .int .i64 a1_23, .int .i64 a1_24, .int .i64 a1_25] 59 (0, 0)) zA2_2 hb); have n2_ := Aside0.mk (below_step zA2_0 hb); clear BK120; clear BK121; clear HB; have BK120 := n0_; have BK121 := n1_; have HB := n2_; clear n0_ n1_ n2_; (try clear hb); (try clear hb2); (try clear hk); (try clear hi)))
                      go_ret
                      exact ⟨zA2_4, zA2_0⟩
                    ·rw [if_neg c126] at H
                     have c126b0 : (a1_10 == (l1_22.length : Int)) = false := beq_eq_false_iff_ne.mpr c126
                     have c126b1 : (a1_10 != (l1_22.length : Int)) = true := bne_iff_ne.mpr c126
                     obtain rfl := Option.some.inj H
                     have hnb137 := NB121_120.out
                     have hnc137 := NB120_121.out
                     obtain ⟨hcz138_0, hcz138_1, hcz138_2, hcz138_3, hcz138_4, hcz138_5, hcz138_6, hcz138_7, hcz138_8, hcz138_9, hcz138_10, hcz138_11, hcz138_12, hcz138_13, hcz138_14, hcz138_15, hcz138_16, hcz138_17, hcz138_18, hcz138_19, hcz138_20, hcz138_21, hcz138_22, hcz138_23, hcz138_24, hcz138_25, hfz138_0, hfz138_1, hfz138_2, hfz138_3, hfz138_4, hfz138_5, hfz138_6, hfz138_7, hfz138_8, hfz138_9, hfz138_10, hfz138_11, hfz138_12, hfz138_13, hfz138_14, hfz138_15, hfz138_16, hfz138_17, hfz138_18, hfz138_19, hfz138_20, hfz138_21, hfz138_22, hfz138_23, hfz138_24, hfz138_25⟩ := zf2_26 BK121.out
                     go_wp2_with (first | ((with_reducible refine gate_callee (f := 44) rfl ?_); refine goesL_ (some 152) rfl rfl Try.func44 (by kernel_rfl) rfl #[.int .i64 a1_9, .int .i64 1, .int .i64 a1_10] rfl zA2_3 ?_; (with_reducible refine (impl_within.calls a1_9 1 a1_10 true _ A123.out).mono ?_); rintro e w' ⟨rfl, ⟨nd, rfl⟩⟩; refine ⟨_, rfl, ?_⟩))
                     go_ret
                     exact ⟨zA2_4, zA2_0⟩
                   ·replace c125 := Bool.eq_false_iff.mpr c125
                    subst c125
                    have H1 : ((impl_PlatCfg_isSlot.f a0_0 a0_1 a0_2 a1_13).bind fun t138 => (if t138 = true then (impl_GuestOk.j5 kj118 a0_0 a0_1 a0_2 a1_0 a1_1 a1_2 a1_3 a1_4 a1_5 a1_6 a1_7 a1_8 a1_9 a1_10 a1_11 a1_12 a1_13 a1_14 false a1_16 a1_17 a1_18 a1_19 a1_20 l1_21 l1_22 a1_23 a1_24 a1_25) else (some false))) = some r := by rw [if_neg (show ¬ (false = true) by decide)] at H; exact H
                    clear H
                    have H := H1
                    clear H1
                    replace H := Option.bind_eq_some_iff.mp H
                    obtain ⟨t138, A1390, H⟩ := H
                    replace H : (if t138 = true then (impl_GuestOk.j5 kj118 a0_0 a0_1 a0_2 a1_0 a1_1 a1_2 a1_3 a1_4 a1_5 a1_6 a1_7 a1_8 a1_9 a1_10 a1_11 a1_12 a1_13 a1_14 false a1_16 a1_17 a1_18 a1_19 a1_20 l1_21 l1_22 a1_23 a1_24 a1_25) else (some false)) = some r := H
                    have A139 := Aside0.mk A1390
                    clear A1390
                    by_cases c140 : t138 = true
                    ·subst c140
                     have H1 : (impl_GuestOk.j5 kj118 a0_0 a0_1 a0_2 a1_0 a1_1 a1_2 a1_3 a1_4 a1_5 a1_6 a1_7 a1_8 a1_9 a1_10 a1_11 a1_12 a1_13 a1_14 false a1_16 a1_17 a1_18 a1_19 a1_20 l1_21 l1_22 a1_23 a1_24 a1_25) = some r := by rw [if_pos rfl] at H; exact H
                     clear H
                     have H := H1
                     clear H1
                     have H' := Aside0.mk H
                     clear H
                     have hnb141 := NB121_120.out
                     have hnc141 := NB120_121.out
                     obtain ⟨hcz142_0, hcz142_1, hcz142_2, hcz142_3, hcz142_4, hcz142_5, hcz142_6, hcz142_7, hcz142_8, hcz142_9, hcz142_10, hcz142_11, hcz142_12, hcz142_13, hcz142_14, hcz142_15, hcz142_16, hcz142_17, hcz142_18, hcz142_19, hcz142_20, hcz142_21, hcz142_22, hcz142_23, hcz142_24, hcz142_25, hfz142_0, hfz142_1, hfz142_2, hfz142_3, hfz142_4, hfz142_5, hfz142_6, hfz142_7, hfz142_8, hfz142_9, hfz142_10, hfz142_11, hfz142_12, hfz142_13, hfz142_14, hfz142_15, hfz142_16, hfz142_17, hfz142_18, hfz142_19, hfz142_20, hfz142_21, hfz142_22, hfz142_23, hfz142_24, hfz142_25⟩ := zf2_26 BK121.out
                     go_wp2_with (first | ((with_reducible refine gate_callee (f := 44) rfl ?_); refine goesL_ (some 152) rfl rfl Try.func44 (by kernel_rfl) rfl #[.int .i64 a1_9, .int .i64 1, .int .i64 a1_10] rfl zA2_3 ?_; (with_reducible refine (impl_within.calls a1_9 1 a1_10 true _ A123.out).mono ?_); rintro e w' ⟨rfl, ⟨nd, rfl⟩⟩; refine ⟨_, rfl, ?_⟩; have hcz143_0 : wc.cell? ⟨gb120, 0, none⟩ = some (.int .i64 a0_0) := (blk_cell BK120.out 0).trans rfl; have hcz143_1 : wc.cell? ⟨gb120, 1, none⟩ = some (.int .i64 a0_1) := (blk_cell BK120.out 1).trans rfl; have hcz143_2 : wc.cell? ⟨gb120, 2, none⟩ = some (.int .i64 a0_2) := (blk_cell BK120.out 2).trans rfl; have hfz143_0 := blk_frozen BK120.out 0; have hfz143_1 := blk_frozen BK120.out 1; have hfz143_2 := blk_frozen BK120.out 2) | (go_at_call 66; (with_reducible refine (impl_PlatCfg_isSlot.calls a0_0 a0_1 a0_2 a1_13 true _ A139.out).mono ?_); rintro e w144 ⟨rfl, hb⟩; have n0_ := Aside0.mk (blk_below (g := gb120) (o := .cells #[.int .i64 a0_0, .int .i64 a0_1, .int .i64 a0_2] 43 (0, 0)) zA2_1 hb); have n1_ := Aside0.mk (blk_below (g := gb121) (o := .cells #[.bool a1_0, .int .i64 a1_1, .int .i64 a1_2, .bool a1_3, .int .i64 a1_4, .int .i64 a1_5, .int .i64 a1_6, .int .i64 a1_7, .int .i64 a1_8, .int .i64 a1_9, .int .i64 a1_10, .int .i64 a1_11, .int .i64 a1_12, .int .i64 a1_13, .int .i64 a1_14, .bool false, .int .i64 a1_16, .int .u64 a1_17, .int .u64 a1_18, .int .u64 a1_19, .int .u64 a1_20, .slice A1_21 l1_21.length c1_21, .slice A1_22 l1_22.length c1_22, .int .i64 a1_23, .int .i64 a1_24, .int .i64 a1_25] 59 (0, 0)) zA2_2 hb); have n2_ := Aside0.mk (below_step zA2_0 hb); clear BK120; clear BK121; clear HB; have BK120 := n0_; have BK121 := n1_; have HB := n2_; clear n0_ n1_ n2_; (try clear hb); (try clear hb2); (try clear hk); (try clear hi)))
                     go_meet
                     case rel => exact ⟨_, H', ⟨zA2_11⟩, ⟨zA2_1⟩, ⟨zA2_2⟩, ⟨zA2_0⟩⟩
                    ·replace c140 := Bool.eq_false_iff.mpr c140
                     subst c140
                     have H1 : (some false) = some r := by rw [if_neg (show ¬ (false = true) by decide)] at H; exact H
                     clear H
                     have H := H1
                     clear H1
                     obtain rfl := Option.some.inj H
                     have hnb145 := NB121_120.out
                     have hnc145 := NB120_121.out
                     obtain ⟨hcz146_0, hcz146_1, hcz146_2, hcz146_3, hcz146_4, hcz146_5, hcz146_6, hcz146_7, hcz146_8, hcz146_9, hcz146_10, hcz146_11, hcz146_12, hcz146_13, hcz146_14, hcz146_15, hcz146_16, hcz146_17, hcz146_18, hcz146_19, hcz146_20, hcz146_21, hcz146_22, hcz146_23, hcz146_24, hcz146_25, hfz146_0, hfz146_1, hfz146_2, hfz146_3, hfz146_4, hfz146_5, hfz146_6, hfz146_7, hfz146_8, hfz146_9, hfz146_10, hfz146_11, hfz146_12, hfz146_13, hfz146_14, hfz146_15, hfz146_16, hfz146_17, hfz146_18, hfz146_19, hfz146_20, hfz146_21, hfz146_22, hfz146_23, hfz146_24, hfz146_25⟩ := zf2_26 BK121.out
                     go_wp2_with (first | ((with_reducible refine gate_callee (f := 44) rfl ?_); refine goesL_ (some 152) rfl rfl Try.func44 (by kernel_rfl) rfl #[.int .i64 a1_9, .int .i64 1, .int .i64 a1_10] rfl zA2_3 ?_; (with_reducible refine (impl_within.calls a1_9 1 a1_10 true _ A123.out).mono ?_); rintro e w' ⟨rfl, ⟨nd, rfl⟩⟩; refine ⟨_, rfl, ?_⟩; have hcz147_0 : wc.cell? ⟨gb120, 0, none⟩ = some (.int .i64 a0_0) := (blk_cell BK120.out 0).trans rfl; have hcz147_1 : wc.cell? ⟨gb120, 1, none⟩ = some (.int .i64 a0_1) := (blk_cell BK120.out 1).trans rfl; have hcz147_2 : wc.cell? ⟨gb120, 2, none⟩ = some (.int .i64 a0_2) := (blk_cell BK120.out 2).trans rfl; have hfz147_0 := blk_frozen BK120.out 0; have hfz147_1 := blk_frozen BK120.out 1; have hfz147_2 := blk_frozen BK120.out 2) | (go_at_call 66; (with_reducible refine (impl_PlatCfg_isSlot.calls a0_0 a0_1 a0_2 a1_13 false _ A139.out).mono ?_); rintro e w148 ⟨rfl, hb⟩; have n0_ := Aside0.mk (blk_below (g := gb120) (o := .cells #[.int .i64 a0_0, .int .i64 a0_1, .int .i64 a0_2] 43 (0, 0)) zA2_1 hb); have n1_ := Aside0.mk (blk_below (g := gb121) (o := .cells #[.bool a1_0, .int .i64 a1_1, .int .i64 a1_2, .bool a1_3, .int .i64 a1_4, .int .i64 a1_5, .int .i64 a1_6, .int .i64 a1_7, .int .i64 a1_8, .int .i64 a1_9, .int .i64 a1_10, .int .i64 a1_11, .int .i64 a1_12, .int .i64 a1_13, .int .i64 a1_14, .bool false, .int .i64 a1_16, .int .u64 a1_17, .int .u64 a1_18, .int .u64 a1_19, .int .u64 a1_20, .slice A1_21 l1_21.length c1_21, .slice A1_22 l1_22.length c1_22, .int .i64 a1_23, .int .i64 a1_24, .int .i64 a1_25] 59 (0, 0)) zA2_2 hb); have n2_ := Aside0.mk (below_step zA2_0 hb); clear BK120; clear BK121; clear HB; have BK120 := n0_; have BK121 := n1_; have HB := n2_; clear n0_ n1_ n2_; (try clear hb); (try clear hb2); (try clear hk); (try clear hi)))
                     go_ret
                     exact ⟨zA2_4, zA2_0⟩
                  ·replace c124 := Bool.eq_false_iff.mpr c124
                   subst c124
                   have H1 : (some false) = some r := by rw [if_neg (show ¬ (false = true) by decide)] at H; exact H
                   clear H
                   have H := H1
                   clear H1
                   obtain rfl := Option.some.inj H
                   have hnb149 := NB121_120.out
                   have hnc149 := NB120_121.out
                   obtain ⟨hcz150_0, hcz150_1, hcz150_2, hcz150_3, hcz150_4, hcz150_5, hcz150_6, hcz150_7, hcz150_8, hcz150_9, hcz150_10, hcz150_11, hcz150_12, hcz150_13, hcz150_14, hcz150_15, hcz150_16, hcz150_17, hcz150_18, hcz150_19, hcz150_20, hcz150_21, hcz150_22, hcz150_23, hcz150_24, hcz150_25, hfz150_0, hfz150_1, hfz150_2, hfz150_3, hfz150_4, hfz150_5, hfz150_6, hfz150_7, hfz150_8, hfz150_9, hfz150_10, hfz150_11, hfz150_12, hfz150_13, hfz150_14, hfz150_15, hfz150_16, hfz150_17, hfz150_18, hfz150_19, hfz150_20, hfz150_21, hfz150_22, hfz150_23, hfz150_24, hfz150_25⟩ := zf2_26 BK121.out
                   go_wp2_with (first | ((with_reducible refine gate_callee (f := 44) rfl ?_); refine goesL_ (some 152) rfl rfl Try.func44 (by kernel_rfl) rfl #[.int .i64 a1_9, .int .i64 1, .int .i64 a1_10] rfl zA2_3 ?_; (with_reducible refine (impl_within.calls a1_9 1 a1_10 false _ A123.out).mono ?_); rintro e w' ⟨rfl, ⟨nd, rfl⟩⟩; refine ⟨_, rfl, ?_⟩))
                   go_ret
                   exact ⟨zA2_4, zA2_0⟩
                 ·replace c122 := Bool.eq_false_iff.mpr c122
                  subst c122
                  have H1 : (impl_GuestOk.j5 kj118 a0_0 a0_1 a0_2 a1_0 a1_1 a1_2 a1_3 a1_4 a1_5 a1_6 a1_7 a1_8 a1_9 a1_10 a1_11 a1_12 a1_13 a1_14 a1_15 a1_16 a1_17 a1_18 a1_19 a1_20 l1_21 l1_22 a1_23 a1_24 a1_25) = some r := by rw [if_neg (show ¬ (false = true) by decide)] at H; exact H
                  clear H
                  have H := H1
                  clear H1
                  have H' := Aside0.mk H
                  clear H
                  go_wp2
                  go_meet
                  case rel => exact ⟨_, H', ⟨zA2_11⟩, ⟨zA2_1⟩, ⟨zA2_2⟩, ⟨zA2_0⟩⟩
         case rest =>
          as_aux_lemma =>
          clear HC85
          try clear c1
          try clear p2
          try clear c4
          try clear c12
          try clear c13
          try clear c14
          try clear c44
          try clear c122
          try clear c124
          try clear c125
          try clear c126
          try clear c126b0
          try clear c126b1
          try clear c128
          try clear c129
          try clear c133
          try clear c137
          try clear c140
          try clear c141
          try clear c145
          try clear c149
          obtain ⟨kq, HA, HJ84, BK120, BK121, HB⟩ := hcut
          cases kq with
          | zero => exact absurd HA.out (by simp [impl_GuestOk.j5])
          | succ kj84 =>
           have H := HA.out
           clear HA
           simp only [impl_GuestOk.j5] at H
           replace H := Option.bind_eq_some_iff.mp H
           obtain ⟨t139, A1510, H⟩ := H
           replace H : (if t139 = true then ((impl_PlatCfg_isSlot.f a0_0 a0_1 a0_2 a1_13).bind fun t140 => (if t140 = true then (if a1_15 = true then (if a1_8 = 23 then (some true) else (if a1_8 = 24 then (some true) else (some (a1_8 == 25)))) else (some true)) else (some false))) else (if a1_15 = true then (if a1_8 = 23 then (some true) else (if a1_8 = 24 then (some true) else (some (a1_8 == 25)))) else (some true))) = some r := H
           have A151 := Aside0.mk A1510
           clear A1510
           by_cases c152 : t139 = true
           ·subst c152
            have H1 : ((impl_PlatCfg_isSlot.f a0_0 a0_1 a0_2 a1_13).bind fun t140 => (if t140 = true then (if a1_15 = true then (if a1_8 = 23 then (some true) else (if a1_8 = 24 then (some true) else (some (a1_8 == 25)))) else (some true)) else (some false))) = some r := by rw [if_pos rfl] at H; exact H
            clear H
            have H := H1
            clear H1
            replace H := Option.bind_eq_some_iff.mp H
            obtain ⟨t140, A1530, H⟩ := H
            replace H : (if t140 = true then (if a1_15 = true then (if a1_8 = 23 then (some true) else (if a1_8 = 24 then (some true) else (some (a1_8 == 25)))) else (some true)) else (some false)) = some r := H
            have A153 := Aside0.mk A1530
            clear A1530
            by_cases c154 : t140 = true
            ·subst c154
             have H1 : (if a1_15 = true then (if a1_8 = 23 then (some true) else (if a1_8 = 24 then (some true) else (some (a1_8 == 25)))) else (some true)) = some r := by rw [if_pos rfl] at H; exact H
             clear H
             have H := H1
             clear H1
             by_cases c155 : a1_15 = true
             ·subst c155
              have H1 : (if a1_8 = 23 then (some true) else (if a1_8 = 24 then (some true) else (some (a1_8 == 25)))) = some r := by rw [if_pos rfl] at H; exact H
              clear H
              have H := H1
              clear H1
              by_cases c156 : a1_8 = 23
              ·rw [if_pos c156] at H
               have c156b0 : (a1_8 == 23) = true := beq_iff_eq.mpr c156
               have c156b1 : (a1_8 != 23) = false := bne_eq_false_iff_eq.mpr c156
               clear c156
               obtain rfl := Option.some.inj H
               have hnb157 := NB121_120.out
               have hnc157 := NB120_121.out
               obtain ⟨hcz158_0, hcz158_1, hcz158_2, hcz158_3, hcz158_4, hcz158_5, hcz158_6, hcz158_7, hcz158_8, hcz158_9, hcz158_10, hcz158_11, hcz158_12, hcz158_13, hcz158_14, hcz158_15, hcz158_16, hcz158_17, hcz158_18, hcz158_19, hcz158_20, hcz158_21, hcz158_22, hcz158_23, hcz158_24, hcz158_25, hfz158_0, hfz158_1, hfz158_2, hfz158_3, hfz158_4, hfz158_5, hfz158_6, hfz158_7, hfz158_8, hfz158_9, hfz158_10, hfz158_11, hfz158_12, hfz158_13, hfz158_14, hfz158_15, hfz158_16, hfz158_17, hfz158_18, hfz158_19, hfz158_20, hfz158_21, hfz158_22, hfz158_23, hfz158_24, hfz158_25⟩ := zf2_26 BK121.out
               go_wp2_with (first | ((with_reducible refine gate_callee (f := 44) rfl ?_); refine goesL_ (some 175) rfl rfl Try.func44 (by kernel_rfl) rfl #[.int .i64 a1_8, .int .i64 16, .int .i64 21] rfl zA2_3 ?_; (with_reducible refine (impl_within.calls a1_8 16 21 true _ A151.out).mono ?_); rintro e w' ⟨rfl, ⟨nd, rfl⟩⟩; refine ⟨_, rfl, ?_⟩; have hcz159_0 : wc.cell? ⟨gb120, 0, none⟩ = some (.int .i64 a0_0) := (blk_cell BK120.out 0).trans rfl; have hcz159_1 : wc.cell? ⟨gb120, 1, none⟩ = some (.int .i64 a0_1) := (blk_cell BK120.out 1).trans rfl; have hcz159_2 : wc.cell? ⟨gb120, 2, none⟩ = some (.int .i64 a0_2) := (blk_cell BK120.out 2).trans rfl; have hfz159_0 := blk_frozen BK120.out 0; have hfz159_1 := blk_frozen BK120.out 1; have hfz159_2 := blk_frozen BK120.out 2) | (go_at_call 66; (with_reducible refine (impl_PlatCfg_isSlot.calls a0_0 a0_1 a0_2 a1_13 true _ A153.out).mono ?_); rintro e w160 ⟨rfl, hb⟩; have n0_ := Aside0.mk (blk_below (g := gb120) (o := .cells #[.int .i64 a0_0, .int .i64 a0_1, .int .i64 a0_2] 43 (0, 0)) zA2_1 hb); have n1_ := Aside0.mk (blk_below (g := gb121) (o := .cells #[.bool a1_0, .int .i64 a1_1, .int .i64 a1_2, .bool a1_3, .int .i64 a1_4, .int .i64 a1_5, .int .i64 a1_6, .int .i64 a1_7, .int .i64 a1_8, .int .i64 a1_9, .int .i64 a1_10, .int .i64 a1_11, .int .i64 a1_12, .int .i64 a1_13, .int .i64 a1_14, .bool true, .int .i64 a1_16, .int .u64 a1_17, .int .u64 a1_18, .int .u64 a1_19, .int .u64 a1_20, .slice A1_21 l1_21.length c1_21, .slice A1_22 l1_22.length c1_22, .int .i64 a1_23, .int .i64 a1_24, .int .i64 a1_25] 59 (0, 0)) zA2_2 hb); have n2_ := Aside0.mk (below_step zA2_0 hb); clear BK120; clear BK121; clear HB; have BK120 := n0_; have BK121 := n1_; have HB := n2_; clear n0_ n1_ n2_; (try clear hb); (try clear hb2); (try clear hk); (try clear hi); have hcz161_0 : w160.cell? ⟨gb121, 0, none⟩ = some (.bool a1_0) := (blk_cell BK121.out 0).trans rfl; have hcz161_1 : w160.cell? ⟨gb121, 1, none⟩ = some (.int .i64 a1_1) := (blk_cell BK121.out 1).trans rfl; have hcz161_2 : w160.cell? ⟨gb121, 2, none⟩ = some (.int .i64 a1_2) := (blk_cell BK121.out 2).trans rfl; have hcz161_3 : w160.cell? ⟨gb121, 3, none⟩ = some (.bool a1_3) := (blk_cell BK121.out 3).trans rfl; have hcz161_4 : w160.cell? ⟨gb121, 4, none⟩ = some (.int .i64 a1_4) := (blk_cell BK121.out 4).trans rfl; have hcz161_5 : w160.cell? ⟨gb121, 5, none⟩ = some (.int .i64 a1_5) := (blk_cell BK121.out 5).trans rfl; have hcz161_6 : w160.cell? ⟨gb121, 6, none⟩ = some (.int .i64 a1_6) := (blk_cell BK121.out 6).trans rfl; have hcz161_7 : w160.cell? ⟨gb121, 7, none⟩ = some (.int .i64 a1_7) := (blk_cell BK121.out 7).trans rfl; have hcz161_8 : w160.cell? ⟨gb121, 8, none⟩ = some (.int .i64 a1_8) := (blk_cell BK121.out 8).trans rfl; have hcz161_9 : w160.cell? ⟨gb121, 9, none⟩ = some (.int .i64 a1_9) := (blk_cell BK121.out 9).trans rfl; have hcz161_10 : w160.cell? ⟨gb121, 10, none⟩ = some (.int .i64 a1_10) := (blk_cell BK121.out 10).trans rfl; have hcz161_11 : w160.cell? ⟨gb121, 11, none⟩ = some (.int .i64 a1_11) := (blk_cell BK121.out 11).trans rfl; have hcz161_12 : w160.cell? ⟨gb121, 12, none⟩ = some (.int .i64 a1_12) := (blk_cell BK121.out 12).trans rfl; have hcz161_13 : w160.cell? ⟨gb121, 13, none⟩ = some (.int .i64 a1_13) := (blk_cell BK121.out 13).trans rfl; have hcz161_14 : w160.cell? ⟨gb121, 14, none⟩ = some (.int .i64 a1_14) := (blk_cell BK121.out 14).trans rfl; have hcz161_15 : w160.cell? ⟨gb121, 15, none⟩ = some (.bool true) := (blk_cell BK121.out 15).trans rfl; have hcz161_16 : w160.cell? ⟨gb121, 16, none⟩ = some (.int .i64 a1_16) := (blk_cell BK121.out 16).trans rfl; have hcz161_17 : w160.cell? ⟨gb121, 17, none⟩ = some (.int .u64 a1_17) := (blk_cell BK121.out 17).trans rfl; have hcz161_18 : w160.cell? ⟨gb121, 18, none⟩ = some (.int .u64 a1_18) := (blk_cell BK121.out 18).trans rfl; have hcz161_19 : w160.cell? ⟨gb121, 19, none⟩ = some (.int .u64 a1_19) := (blk_cell BK121.out 19).trans rfl; have hcz161_20 : w160.cell? ⟨gb121, 20, none⟩ = some (.int .u64 a1_20) := (blk_cell BK121.out 20).trans rfl; have hcz161_21 : w160.cell? ⟨gb121, 21, none⟩ = some (.slice A1_21 l1_21.length c1_21) := (blk_cell BK121.out 21).trans rfl; have hcz161_22 : w160.cell? ⟨gb121, 22, none⟩ = some (.slice A1_22 l1_22.length c1_22) := (blk_cell BK121.out 22).trans rfl; have hcz161_23 : w160.cell? ⟨gb121, 23, none⟩ = some (.int .i64 a1_23) := (blk_cell BK121.out 23).trans rfl; have hcz161_24 : w160.cell? ⟨gb121, 24, none⟩ = some (.int .i64 a1_24) := (blk_cell BK121.out 24).trans rfl; have hcz161_25 : w160.cell? ⟨gb121, 25, none⟩ = some (.int .i64 a1_25) := (blk_cell BK121.out 25).trans rfl; have hfz161_0 := blk_frozen BK121.out 0; have hfz161_1 := blk_frozen BK121.out 1; have hfz161_2 := blk_frozen BK121.out 2; have hfz161_3 := blk_frozen BK121.out 3; have hfz161_4 := blk_frozen BK121.out 4; have hfz161_5 := blk_frozen BK121.out 5; have hfz161_6 := blk_frozen BK121.out 6; have hfz161_7 := blk_frozen BK121.out 7; have hfz161_8 := blk_frozen BK121.out 8; have hfz161_9 := blk_frozen BK121.out 9; have hfz161_10 := blk_frozen BK121.out 10; have hfz161_11 := blk_frozen BK121.out 11; have hfz161_12 := blk_frozen BK121.out 12; have hfz161_13 := blk_frozen BK121.out 13; have hfz161_14 := blk_frozen BK121.out 14; have hfz161_15 := blk_frozen BK121.out 15; have hfz161_16 := blk_frozen BK121.out 16; have hfz161_17 := blk_frozen BK121.out 17; have hfz161_18 := blk_frozen BK121.out 18; have hfz161_19 := blk_frozen BK121.out 19; have hfz161_20 := blk_frozen BK121.out 20; have hfz161_21 := blk_frozen BK121.out 21; have hfz161_22 := blk_frozen BK121.out 22; have hfz161_23 := blk_frozen BK121.out 23; have hfz161_24 := blk_frozen BK121.out 24; have hfz161_25 := blk_frozen BK121.out 25))
               go_ret
               exact ⟨zA2_4, zA2_0⟩
              ·rw [if_neg c156] at H
               have c156b0 : (a1_8 == 23) = false := beq_eq_false_iff_ne.mpr c156
               have c156b1 : (a1_8 != 23) = true := bne_iff_ne.mpr c156
               by_cases c162 : a1_8 = 24
               ·rw [if_pos c162] at H
                have c162b0 : (a1_8 == 24) = true := beq_iff_eq.mpr c162
                have c162b1 : (a1_8 != 24) = false := bne_eq_false_iff_eq.mpr c162
                clear c162
                obtain rfl := Option.some.inj H
                have hnb163 := NB121_120.out
                have hnc163 := NB120_121.out
                obtain ⟨hcz164_0, hcz164_1, hcz164_2, hcz164_3, hcz164_4, hcz164_5, hcz164_6, hcz164_7, hcz164_8, hcz164_9, hcz164_10, hcz164_11, hcz164_12, hcz164_13, hcz164_14, hcz164_15, hcz164_16, hcz164_17, hcz164_18, hcz164_19, hcz164_20, hcz164_21, hcz164_22, hcz164_23, hcz164_24, hcz164_25, hfz164_0, hfz164_1, hfz164_2, hfz164_3, hfz164_4, hfz164_5, hfz164_6, hfz164_7, hfz164_8, hfz164_9, hfz164_10, hfz164_11, hfz164_12, hfz164_13, hfz164_14, hfz164_15, hfz164_16, hfz164_17, hfz164_18, hfz164_19, hfz164_20, hfz164_21, hfz164_22, hfz164_23, hfz164_24, hfz164_25⟩ := zf2_26 BK121.out
                go_wp2_with (first | ((with_reducible refine gate_callee (f := 44) rfl ?_); refine goesL_ (some 175) rfl rfl Try.func44 (by kernel_rfl) rfl #[.int .i64 a1_8, .int .i64 16, .int .i64 21] rfl zA2_3 ?_; (with_reducible refine (impl_within.calls a1_8 16 21 true _ A151.out).mono ?_); rintro e w' ⟨rfl, ⟨nd, rfl⟩⟩; refine ⟨_, rfl, ?_⟩; have hcz165_0 : wc.cell? ⟨gb120, 0, none⟩ = some (.int .i64 a0_0) := (blk_cell BK120.out 0).trans rfl; have hcz165_1 : wc.cell? ⟨gb120, 1, none⟩ = some (.int .i64 a0_1) := (blk_cell BK120.out 1).trans rfl; have hcz165_2 : wc.cell? ⟨gb120, 2, none⟩ = some (.int .i64 a0_2) := (blk_cell BK120.out 2).trans rfl; have hfz165_0 := blk_frozen BK120.out 0; have hfz165_1 := blk_frozen BK120.out 1; have hfz165_2 := blk_frozen BK120.out 2) | (go_at_call 66; (with_reducible refine (impl_PlatCfg_isSlot.calls a0_0 a0_1 a0_2 a1_13 true _ A153.out).mono ?_); rintro e w166 ⟨rfl, hb⟩; have n0_ := Aside0.mk (blk_below (g := gb120) (o := .cells #[.int .i64 a0_0, .int .i64 a0_1, .int .i64 a0_2] 43 (0, 0)) zA2_1 hb); have n1_ := Aside0.mk (blk_below (g := gb121) (o := .cells #[.bool a1_0, .int .i64 a1_1, .int .i64 a1_2, .bool a1_3, .int .i64 a1_4, .int .i64 a1_5, .int .i64 a1_6, .int .i64 a1_7, .int .i64 a1_8, .int .i64 a1_9, .int .i64 a1_10, .int .i64 a1_11, .int .i64 a1_12, .int .i64 a1_13, .int .i64 a1_14, .bool true, .int .i64 a1_16, .int .u64 a1_17, .int .u64 a1_18, .int .u64 a1_19, .int .u64 a1_20, .slice A1_21 l1_21.length c1_21, .slice A1_22 l1_22.length c1_22, .int .i64 a1_23, .int .i64 a1_24, .int .i64 a1_25] 59 (0, 0)) zA2_2 hb); have n2_ := Aside0.mk (below_step zA2_0 hb); clear BK120; clear BK121; clear HB; have BK120 := n0_; have BK121 := n1_; have HB := n2_; clear n0_ n1_ n2_; (try clear hb); (try clear hb2); (try clear hk); (try clear hi); have hcz167_0 : w166.cell? ⟨gb121, 0, none⟩ = some (.bool a1_0) := (blk_cell BK121.out 0).trans rfl; have hcz167_1 : w166.cell? ⟨gb121, 1, none⟩ = some (.int .i64 a1_1) := (blk_cell BK121.out 1).trans rfl; have hcz167_2 : w166.cell? ⟨gb121, 2, none⟩ = some (.int .i64 a1_2) := (blk_cell BK121.out 2).trans rfl; have hcz167_3 : w166.cell? ⟨gb121, 3, none⟩ = some (.bool a1_3) := (blk_cell BK121.out 3).trans rfl; have hcz167_4 : w166.cell? ⟨gb121, 4, none⟩ = some (.int .i64 a1_4) := (blk_cell BK121.out 4).trans rfl; have hcz167_5 : w166.cell? ⟨gb121, 5, none⟩ = some (.int .i64 a1_5) := (blk_cell BK121.out 5).trans rfl; have hcz167_6 : w166.cell? ⟨gb121, 6, none⟩ = some (.int .i64 a1_6) := (blk_cell BK121.out 6).trans rfl; have hcz167_7 : w166.cell? ⟨gb121, 7, none⟩ = some (.int .i64 a1_7) := (blk_cell BK121.out 7).trans rfl; have hcz167_8 : w166.cell? ⟨gb121, 8, none⟩ = some (.int .i64 a1_8) := (blk_cell BK121.out 8).trans rfl; have hcz167_9 : w166.cell? ⟨gb121, 9, none⟩ = some (.int .i64 a1_9) := (blk_cell BK121.out 9).trans rfl; have hcz167_10 : w166.cell? ⟨gb121, 10, none⟩ = some (.int .i64 a1_10) := (blk_cell BK121.out 10).trans rfl; have hcz167_11 : w166.cell? ⟨gb121, 11, none⟩ = some (.int .i64 a1_11) := (blk_cell BK121.out 11).trans rfl; have hcz167_12 : w166.cell? ⟨gb121, 12, none⟩ = some (.int .i64 a1_12) := (blk_cell BK121.out 12).trans rfl; have hcz167_13 : w166.cell? ⟨gb121, 13, none⟩ = some (.int .i64 a1_13) := (blk_cell BK121.out 13).trans rfl; have hcz167_14 : w166.cell? ⟨gb121, 14, none⟩ = some (.int .i64 a1_14) := (blk_cell BK121.out 14).trans rfl; have hcz167_15 : w166.cell? ⟨gb121, 15, none⟩ = some (.bool true) := (blk_cell BK121.out 15).trans rfl; have hcz167_16 : w166.cell? ⟨gb121, 16, none⟩ = some (.int .i64 a1_16) := (blk_cell BK121.out 16).trans rfl; have hcz167_17 : w166.cell? ⟨gb121, 17, none⟩ = some (.int .u64 a1_17) := (blk_cell BK121.out 17).trans rfl; have hcz167_18 : w166.cell? ⟨gb121, 18, none⟩ = some (.int .u64 a1_18) := (blk_cell BK121.out 18).trans rfl; have hcz167_19 : w166.cell? ⟨gb121, 19, none⟩ = some (.int .u64 a1_19) := (blk_cell BK121.out 19).trans rfl; have hcz167_20 : w166.cell? ⟨gb121, 20, none⟩ = some (.int .u64 a1_20) := (blk_cell BK121.out 20).trans rfl; have hcz167_21 : w166.cell? ⟨gb121, 21, none⟩ = some (.slice A1_21 l1_21.length c1_21) := (blk_cell BK121.out 21).trans rfl; have hcz167_22 : w166.cell? ⟨gb121, 22, none⟩ = some (.slice A1_22 l1_22.length c1_22) := (blk_cell BK121.out 22).trans rfl; have hcz167_23 : w166.cell? ⟨gb121, 23, none⟩ = some (.int .i64 a1_23) := (blk_cell BK121.out 23).trans rfl; have hcz167_24 : w166.cell? ⟨gb121, 24, none⟩ = some (.int .i64 a1_24) := (blk_cell BK121.out 24).trans rfl; have hcz167_25 : w166.cell? ⟨gb121, 25, none⟩ = some (.int .i64 a1_25) := (blk_cell BK121.out 25).trans rfl; have hfz167_0 := blk_frozen BK121.out 0; have hfz167_1 := blk_frozen BK121.out 1; have hfz167_2 := blk_frozen BK121.out 2; have hfz167_3 := blk_frozen BK121.out 3; have hfz167_4 := blk_frozen BK121.out 4; have hfz167_5 := blk_frozen BK121.out 5; have hfz167_6 := blk_frozen BK121.out 6; have hfz167_7 := blk_frozen BK121.out 7; have hfz167_8 := blk_frozen BK121.out 8; have hfz167_9 := blk_frozen BK121.out 9; have hfz167_10 := blk_frozen BK121.out 10; have hfz167_11 := blk_frozen BK121.out 11; have hfz167_12 := blk_frozen BK121.out 12; have hfz167_13 := blk_frozen BK121.out 13; have hfz167_14 := blk_frozen BK121.out 14; have hfz167_15 := blk_frozen BK121.out 15; have hfz167_16 := blk_frozen BK121.out 16; have hfz167_17 := blk_frozen BK121.out 17; have hfz167_18 := blk_frozen BK121.out 18; have hfz167_19 := blk_frozen BK121.out 19; have hfz167_20 := blk_frozen BK121.out 20; have hfz167_21 := blk_frozen BK121.out 21; have hfz167_22 := blk_frozen BK121.out 22; have hfz167_23 := blk_frozen BK121.out 23; have hfz167_24 := blk_frozen BK121.out 24; have hfz167_25 := blk_frozen BK121.out 25))
                go_ret
                exact ⟨zA2_4, zA2_0⟩
               ·rw [if_neg c162] at H
                have c162b0 : (a1_8 == 24) = false := beq_eq_false_iff_ne.mpr c162
                have c162b1 : (a1_8 != 24) = true := bne_iff_ne.mpr c162
                obtain rfl := Option.some.inj H
                have hnb168 := NB121_120.out
                have hnc168 := NB120_121.out
                obtain ⟨hcz169_0, hcz169_1, hcz169_2, hcz169_3, hcz169_4, hcz169_5, hcz169_6, hcz169_7, hcz169_8, hcz169_9, hcz169_10, hcz169_11, hcz169_12, hcz169_13, hcz169_14, hcz169_15, hcz169_16, hcz169_17, hcz169_18, hcz169_19, hcz169_20, hcz169_21, hcz169_22, hcz169_23, hcz169_24, hcz169_25, hfz169_0, hfz169_1, hfz169_2, hfz169_3, hfz169_4, hfz169_5, hfz169_6, hfz169_7, hfz169_8, hfz169_9, hfz169_10, hfz169_11, hfz169_12, hfz169_13, hfz169_14, hfz169_15, hfz169_16, hfz169_17, hfz169_18, hfz169_19, hfz169_20, hfz169_21, hfz169_22, hfz169_23, hfz169_24, hfz169_25⟩ := zf2_26 BK121.out
                go_wp2_with (first | ((with_reducible refine gate_callee (f := 44) rfl ?_); refine goesL_ (some 175) rfl rfl Try.func44 (by kernel_rfl) rfl #[.int .i64 a1_8, .int .i64 16, .int .i64 21] rfl zA2_3 ?_; (with_reducible refine (impl_within.calls a1_8 16 21 true _ A151.out).mono ?_); rintro e w' ⟨rfl, ⟨nd, rfl⟩⟩; refine ⟨_, rfl, ?_⟩; have hcz170_0 : wc.cell? ⟨gb120, 0, none⟩ = some (.int .i64 a0_0) := (blk_cell BK120.out 0).trans rfl; have hcz170_1 : wc.cell? ⟨gb120, 1, none⟩ = some (.int .i64 a0_1) := (blk_cell BK120.out 1).trans rfl; have hcz170_2 : wc.cell? ⟨gb120, 2, none⟩ = some (.int .i64 a0_2) := (blk_cell BK120.out 2).trans rfl; have hfz170_0 := blk_frozen BK120.out 0; have hfz170_1 := blk_frozen BK120.out 1; have hfz170_2 := blk_frozen BK120.out 2) | (go_at_call 66; (with_reducible refine (impl_PlatCfg_isSlot.calls a0_0 a0_1 a0_2 a1_13 true _ A153.out).mono ?_); rintro e w171 ⟨rfl, hb⟩; have n0_ := Aside0.mk (blk_below (g := gb120) (o := .cells #[.int .i64 a0_0, .int .i64 a0_1, .int .i64 a0_2] 43 (0, 0)) zA2_1 hb); have n1_ := Aside0.mk (blk_below (g := gb121) (o := .cells #[.bool a1_0, .int .i64 a1_1, .int .i64 a1_2, .bool a1_3, .int .i64 a1_4, .int .i64 a1_5, .int .i64 a1_6, .int .i64 a1_7, .int .i64 a1_8, .int .i64 a1_9, .int .i64 a1_10, .int .i64 a1_11, .int .i64 a1_12, .int .i64 a1_13, .int .i64 a1_14, .bool true, .int .i64 a1_16, .int .u64 a1_17, .int .u64 a1_18, .int .u64 a1_19, .int .u64 a1_20, .slice A1_21 l1_21.length c1_21, .slice A1_22 l1_22.length c1_22, .int .i64 a1_23, .int .i64 a1_24, .int .i64 a1_25] 59 (0, 0)) zA2_2 hb); have n2_ := Aside0.mk (below_step zA2_0 hb); clear BK120; clear BK121; clear HB; have BK120 := n0_; have BK121 := n1_; have HB := n2_; clear n0_ n1_ n2_; (try clear hb); (try clear hb2); (try clear hk); (try clear hi); have hcz172_0 : w171.cell? ⟨gb121, 0, none⟩ = some (.bool a1_0) := (blk_cell BK121.out 0).trans rfl; have hcz172_1 : w171.cell? ⟨gb121, 1, none⟩ = some (.int .i64 a1_1) := (blk_cell BK121.out 1).trans rfl; have hcz172_2 : w171.cell? ⟨gb121, 2, none⟩ = some (.int .i64 a1_2) := (blk_cell BK121.out 2).trans rfl; have hcz172_3 : w171.cell? ⟨gb121, 3, none⟩ = some (.bool a1_3) := (blk_cell BK121.out 3).trans rfl; have hcz172_4 : w171.cell? ⟨gb121, 4, none⟩ = some (.int .i64 a1_4) := (blk_cell BK121.out 4).trans rfl; have hcz172_5 : w171.cell? ⟨gb121, 5, none⟩ = some (.int .i64 a1_5) := (blk_cell BK121.out 5).trans rfl; have hcz172_6 : w171.cell? ⟨gb121, 6, none⟩ = some (.int .i64 a1_6) := (blk_cell BK121.out 6).trans rfl; have hcz172_7 : w171.cell? ⟨gb121, 7, none⟩ = some (.int .i64 a1_7) := (blk_cell BK121.out 7).trans rfl; have hcz172_8 : w171.cell? ⟨gb121, 8, none⟩ = some (.int .i64 a1_8) := (blk_cell BK121.out 8).trans rfl; have hcz172_9 : w171.cell? ⟨gb121, 9, none⟩ = some (.int .i64 a1_9) := (blk_cell BK121.out 9).trans rfl; have hcz172_10 : w171.cell? ⟨gb121, 10, none⟩ = some (.int .i64 a1_10) := (blk_cell BK121.out 10).trans rfl; have hcz172_11 : w171.cell? ⟨gb121, 11, none⟩ = some (.int .i64 a1_11) := (blk_cell BK121.out 11).trans rfl; have hcz172_12 : w171.cell? ⟨gb121, 12, none⟩ = some (.int .i64 a1_12) := (blk_cell BK121.out 12).trans rfl; have hcz172_13 : w171.cell? ⟨gb121, 13, none⟩ = some (.int .i64 a1_13) := (blk_cell BK121.out 13).trans rfl; have hcz172_14 : w171.cell? ⟨gb121, 14, none⟩ = some (.int .i64 a1_14) := (blk_cell BK121.out 14).trans rfl; have hcz172_15 : w171.cell? ⟨gb121, 15, none⟩ = some (.bool true) := (blk_cell BK121.out 15).trans rfl; have hcz172_16 : w171.cell? ⟨gb121, 16, none⟩ = some (.int .i64 a1_16) := (blk_cell BK121.out 16).trans rfl; have hcz172_17 : w171.cell? ⟨gb121, 17, none⟩ = some (.int .u64 a1_17) := (blk_cell BK121.out 17).trans rfl; have hcz172_18 : w171.cell? ⟨gb121, 18, none⟩ = some (.int .u64 a1_18) := (blk_cell BK121.out 18).trans rfl; have hcz172_19 : w171.cell? ⟨gb121, 19, none⟩ = some (.int .u64 a1_19) := (blk_cell BK121.out 19).trans rfl; have hcz172_20 : w171.cell? ⟨gb121, 20, none⟩ = some (.int .u64 a1_20) := (blk_cell BK121.out 20).trans rfl; have hcz172_21 : w171.cell? ⟨gb121, 21, none⟩ = some (.slice A1_21 l1_21.length c1_21) := (blk_cell BK121.out 21).trans rfl; have hcz172_22 : w171.cell? ⟨gb121, 22, none⟩ = some (.slice A1_22 l1_22.length c1_22) := (blk_cell BK121.out 22).trans rfl; have hcz172_23 : w171.cell? ⟨gb121, 23, none⟩ = some (.int .i64 a1_23) := (blk_cell BK121.out 23).trans rfl; have hcz172_24 : w171.cell? ⟨gb121, 24, none⟩ = some (.int .i64 a1_24) := (blk_cell BK121.out 24).trans rfl; have hcz172_25 : w171.cell? ⟨gb121, 25, none⟩ = some (.int .i64 a1_25) := (blk_cell BK121.out 25).trans rfl; have hfz172_0 := blk_frozen BK121.out 0; have hfz172_1 := blk_frozen BK121.out 1; have hfz172_2 := blk_frozen BK121.out 2; have hfz172_3 := blk_frozen BK121.out 3; have hfz172_4 := blk_frozen BK121.out 4; have hfz172_5 := blk_frozen BK121.out 5; have hfz172_6 := blk_frozen BK121.out 6; have hfz172_7 := blk_frozen BK121.out 7; have hfz172_8 := blk_frozen BK121.out 8; have hfz172_9 := blk_frozen BK121.out 9; have hfz172_10 := blk_frozen BK121.out 10; have hfz172_11 := blk_frozen BK121.out 11; have hfz172_12 := blk_frozen BK121.out 12; have hfz172_13 := blk_frozen BK121.out 13; have hfz172_14 := blk_frozen BK121.out 14; have hfz172_15 := blk_frozen BK121.out 15; have hfz172_16 := blk_frozen BK121.out 16; have hfz172_17 := blk_frozen BK121.out 17; have hfz172_18 := blk_frozen BK121.out 18; have hfz172_19 := blk_frozen BK121.out 19; have hfz172_20 := blk_frozen BK121.out 20; have hfz172_21 := blk_frozen BK121.out 21; have hfz172_22 := blk_frozen BK121.out 22; have hfz172_23 := blk_frozen BK121.out 23; have hfz172_24 := blk_frozen BK121.out 24; have hfz172_25 := blk_frozen BK121.out 25))
                go_ret
                exact ⟨zA2_4, zA2_0⟩
             ·replace c155 := Bool.eq_false_iff.mpr c155
              subst c155
              have H1 : (some true) = some r := by rw [if_neg (show ¬ (false = true) by decide)] at H; exact H
              clear H
              have H := H1
              clear H1
              obtain rfl := Option.some.inj H
              have hnb173 := NB121_120.out
              have hnc173 := NB120_121.out
              obtain ⟨hcz174_0, hcz174_1, hcz174_2, hcz174_3, hcz174_4, hcz174_5, hcz174_6, hcz174_7, hcz174_8, hcz174_9, hcz174_10, hcz174_11, hcz174_12, hcz174_13, hcz174_14, hcz174_15, hcz174_16, hcz174_17, hcz174_18, hcz174_19, hcz174_20, hcz174_21, hcz174_22, hcz174_23, hcz174_24, hcz174_25, hfz174_0, hfz174_1, hfz174_2, hfz174_3, hfz174_4, hfz174_5, hfz174_6, hfz174_7, hfz174_8, hfz174_9, hfz174_10, hfz174_11, hfz174_12, hfz174_13, hfz174_14, hfz174_15, hfz174_16, hfz174_17, hfz174_18, hfz174_19, hfz174_20, hfz174_21, hfz174_22, hfz174_23, hfz174_24, hfz174_25⟩ := zf2_26 BK121.out
              go_wp2_with (first | ((with_reducible refine gate_callee (f := 44) rfl ?_); refine goesL_ (some 175) rfl rfl Try.func44 (by kernel_rfl) rfl #[.int .i64 a1_8, .int .i64 16, .int .i64 21] rfl zA2_3 ?_; (with_reducible refine (impl_within.calls a1_8 16 21 true _ A151.out).mono ?_); rintro e w' ⟨rfl, ⟨nd, rfl⟩⟩; refine ⟨_, rfl, ?_⟩; have hcz175_0 : wc.cell? ⟨gb120, 0, none⟩ = some (.int .i64 a0_0) := (blk_cell BK120.out 0).trans rfl; have hcz175_1 : wc.cell? ⟨gb120, 1, none⟩ = some (.int .i64 a0_1) := (blk_cell BK120.out 1).trans rfl; have hcz175_2 : wc.cell? ⟨gb120, 2, none⟩ = some (.int .i64 a0_2) := (blk_cell BK120.out 2).trans rfl; have hfz175_0 := blk_frozen BK120.out 0; have hfz175_1 := blk_frozen BK120.out 1; have hfz175_2 := blk_frozen BK120.out 2) | (go_at_call 66; (with_reducible refine (impl_PlatCfg_isSlot.calls a0_0 a0_1 a0_2 a1_13 true _ A153.out).mono ?_); rintro e w176 ⟨rfl, hb⟩; have n0_ := Aside0.mk (blk_below (g := gb120) (o := .cells #[.int .i64 a0_0, .int .i64 a0_1, .int .i64 a0_2] 43 (0, 0)) zA2_1 hb); have n1_ := Aside0.mk (blk_below (g := gb121) (o := .cells #[.bool a1_0, .int .i64 a1_1, .int .i64 a1_2, .bool a1_3, .int .i64 a1_4, .int .i64 a1_5, .int .i64 a1_6, .int .i64 a1_7, .int .i64 a1_8, .int .i64 a1_9, .int .i64 a1_10, .int .i64 a1_11, .int .i64 a1_12, .int .i64 a1_13, .int .i64 a1_14, .bool false, .int .i64 a1_16, .int .u64 a1_17, .int .u64 a1_18, .int .u64 a1_19, .int .u64 a1_20, .slice A1_21 l1_21.length c1_21, .slice A1_22 l1_22.length c1_22, .int .i64 a1_23, .int .i64 a1_24, .int .i64 a1_25] 59 (0, 0)) zA2_2 hb); have n2_ := Aside0.mk (below_step zA2_0 hb); clear BK120; clear BK121; clear HB; have BK120 := n0_; have BK121 := n1_; have HB := n2_; clear n0_ n1_ n2_; (try clear hb); (try clear hb2); (try clear hk); (try clear hi); have hcz177_0 : w176.cell? ⟨gb121, 0, none⟩ = some (.bool a1_0) := (blk_cell BK121.out 0).trans rfl; have hcz177_1 : w176.cell? ⟨gb121, 1, none⟩ = some (.int .i64 a1_1) := (blk_cell BK121.out 1).trans rfl; have hcz177_2 : w176.cell? ⟨gb121, 2, none⟩ = some (.int .i64 a1_2) := (blk_cell BK121.out 2).trans rfl; have hcz177_3 : w176.cell? ⟨gb121, 3, none⟩ = some (.bool a1_3) := (blk_cell BK121.out 3).trans rfl; have hcz177_4 : w176.cell? ⟨gb121, 4, none⟩ = some (.int .i64 a1_4) := (blk_cell BK121.out 4).trans rfl; have hcz177_5 : w176.cell? ⟨gb121, 5, none⟩ = some (.int .i64 a1_5) := (blk_cell BK121.out 5).trans rfl; have hcz177_6 : w176.cell? ⟨gb121, 6, none⟩ = some (.int .i64 a1_6) := (blk_cell BK121.out 6).trans rfl; have hcz177_7 : w176.cell? ⟨gb121, 7, none⟩ = some (.int .i64 a1_7) := (blk_cell BK121.out 7).trans rfl; have hcz177_8 : w176.cell? ⟨gb121, 8, none⟩ = some (.int .i64 a1_8) := (blk_cell BK121.out 8).trans rfl; have hcz177_9 : w176.cell? ⟨gb121, 9, none⟩ = some (.int .i64 a1_9) := (blk_cell BK121.out 9).trans rfl; have hcz177_10 : w176.cell? ⟨gb121, 10, none⟩ = some (.int .i64 a1_10) := (blk_cell BK121.out 10).trans rfl; have hcz177_11 : w176.cell? ⟨gb121, 11, none⟩ = some (.int .i64 a1_11) := (blk_cell BK121.out 11).trans rfl; have hcz177_12 : w176.cell? ⟨gb121, 12, none⟩ = some (.int .i64 a1_12) := (blk_cell BK121.out 12).trans rfl; have hcz177_13 : w176.cell? ⟨gb121, 13, none⟩ = some (.int .i64 a1_13) := (blk_cell BK121.out 13).trans rfl; have hcz177_14 : w176.cell? ⟨gb121, 14, none⟩ = some (.int .i64 a1_14) := (blk_cell BK121.out 14).trans rfl; have hcz177_15 : w176.cell? ⟨gb121, 15, none⟩ = some (.bool false) := (blk_cell BK121.out 15).trans rfl; have hcz177_16 : w176.cell? ⟨gb121, 16, none⟩ = some (.int .i64 a1_16) := (blk_cell BK121.out 16).trans rfl; have hcz177_17 : w176.cell? ⟨gb121, 17, none⟩ = some (.int .u64 a1_17) := (blk_cell BK121.out 17).trans rfl; have hcz177_18 : w176.cell? ⟨gb121, 18, none⟩ = some (.int .u64 a1_18) := (blk_cell BK121.out 18).trans rfl; have hcz177_19 : w176.cell? ⟨gb121, 19, none⟩ = some (.int .u64 a1_19) := (blk_cell BK121.out 19).trans rfl; have hcz177_20 : w176.cell? ⟨gb121, 20, none⟩ = some (.int .u64 a1_20) := (blk_cell BK121.out 20).trans rfl; have hcz177_21 : w176.cell? ⟨gb121, 21, none⟩ = some (.slice A1_21 l1_21.length c1_21) := (blk_cell BK121.out 21).trans rfl; have hcz177_22 : w176.cell? ⟨gb121, 22, none⟩ = some (.slice A1_22 l1_22.length c1_22) := (blk_cell BK121.out 22).trans rfl; have hcz177_23 : w176.cell? ⟨gb121, 23, none⟩ = some (.int .i64 a1_23) := (blk_cell BK121.out 23).trans rfl; have hcz177_24 : w176.cell? ⟨gb121, 24, none⟩ = some (.int .i64 a1_24) := (blk_cell BK121.out 24).trans rfl; have hcz177_25 : w176.cell? ⟨gb121, 25, none⟩ = some (.int .i64 a1_25) := (blk_cell BK121.out 25).trans rfl; have hfz177_0 := blk_frozen BK121.out 0; have hfz177_1 := blk_frozen BK121.out 1; have hfz177_2 := blk_frozen BK121.out 2; have hfz177_3 := blk_frozen BK121.out 3; have hfz177_4 := blk_frozen BK121.out 4; have hfz177_5 := blk_frozen BK121.out 5; have hfz177_6 := blk_frozen BK121.out 6; have hfz177_7 := blk_frozen BK121.out 7; have hfz177_8 := blk_frozen BK121.out 8; have hfz177_9 := blk_frozen BK121.out 9; have hfz177_10 := blk_frozen BK121.out 10; have hfz177_11 := blk_frozen BK121.out 11; have hfz177_12 := blk_frozen BK121.out 12; have hfz177_13 := blk_frozen BK121.out 13; have hfz177_14 := blk_frozen BK121.out 14; have hfz177_15 := blk_frozen BK121.out 15; have hfz177_16 := blk_frozen BK121.out 16; have hfz177_17 := blk_frozen BK121.out 17; have hfz177_18 := blk_frozen BK121.out 18; have hfz177_19 := blk_frozen BK121.out 19; have hfz177_20 := blk_frozen BK121.out 20; have hfz177_21 := blk_frozen BK121.out 21; have hfz177_22 := blk_frozen BK121.out 22; have hfz177_23 := blk_frozen BK121.out 23; have hfz177_24 := blk_frozen BK121.out 24; have hfz177_25 := blk_frozen BK121.out 25))
              go_ret
              exact ⟨zA2_4, zA2_0⟩
            ·replace c154 := Bool.eq_false_iff.mpr c154
             subst c154
             have H1 : (some false) = some r := by rw [if_neg (show ¬ (false = true) by decide)] at H; exact H
             clear H
             have H := H1
             clear H1
             obtain rfl := Option.some.inj H
             have hnb178 := NB121_120.out
             have hnc178 := NB120_121.out
             obtain ⟨hcz179_0, hcz179_1, hcz179_2, hcz179_3, hcz179_4, hcz179_5, hcz179_6, hcz179_7, hcz179_8, hcz179_9, hcz179_10, hcz179_11, hcz179_12, hcz179_13, hcz179_14, hcz179_15, hcz179_16, hcz179_17, hcz179_18, hcz179_19, hcz179_20, hcz179_21, hcz179_22, hcz179_23, hcz179_24, hcz179_25, hfz179_0, hfz179_1, hfz179_2, hfz179_3, hfz179_4, hfz179_5, hfz179_6, hfz179_7, hfz179_8, hfz179_9, hfz179_10, hfz179_11, hfz179_12, hfz179_13, hfz179_14, hfz179_15, hfz179_16, hfz179_17, hfz179_18, hfz179_19, hfz179_20, hfz179_21, hfz179_22, hfz179_23, hfz179_24, hfz179_25⟩ := zf2_26 BK121.out
             go_wp2_with (first | ((with_reducible refine gate_callee (f := 44) rfl ?_); refine goesL_ (some 175) rfl rfl Try.func44 (by kernel_rfl) rfl #[.int .i64 a1_8, .int .i64 16, .int .i64 21] rfl zA2_3 ?_; (with_reducible refine (impl_within.calls a1_8 16 21 true _ A151.out).mono ?_); rintro e w' ⟨rfl, ⟨nd, rfl⟩⟩; refine ⟨_, rfl, ?_⟩; have hcz180_0 : wc.cell? ⟨gb120, 0, none⟩ = some (.int .i64 a0_0) := (blk_cell BK120.out 0).trans rfl; have hcz180_1 : wc.cell? ⟨gb120, 1, none⟩ = some (.int .i64 a0_1) := (blk_cell BK120.out 1).trans rfl; have hcz180_2 : wc.cell? ⟨gb120, 2, none⟩ = some (.int .i64 a0_2) := (blk_cell BK120.out 2).trans rfl; have hfz180_0 := blk_frozen BK120.out 0; have hfz180_1 := blk_frozen BK120.out 1; have hfz180_2 := blk_frozen BK120.out 2) | (go_at_call 66; (with_reducible refine (impl_PlatCfg_isSlot.calls a0_0 a0_1 a0_2 a1_13 false _ A153.out).mono ?_); rintro e w181 ⟨rfl, hb⟩; have n0_ := Aside0.mk (blk_below (g := gb120) (o := .cells #[.int .i64 a0_0, .int .i64 a0_1, .int .i64 a0_2] 43 (0, 0)) zA2_1 hb); have n1_ := Aside0.mk (blk_below (g := gb121) (o := .cells #[.bool a1_0, .int .i64 a1_1, .int .i64 a1_2, .bool a1_3, .int .i64 a1_4, .int .i64 a1_5, .int .i64 a1_6, .int .i64 a1_7, .int .i64 a1_8, .int .i64 a1_9, .int .i64 a1_10, .int .i64 a1_11, .int .i64 a1_12, .int .i64 a1_13, .int .i64 a1_14, .bool a1_15, .int .i64 a1_16, .int .u64 a1_17, .int .u64 a1_18, .int .u64 a1_19, .int .u64 a1_20, .slice A1_21 l1_21.length c1_21, .slice A1_22 l1_22.length c1_22, .int .i64 a1_23, .int .i64 a1_24, .int .i64 a1_25] 59 (0, 0)) zA2_2 hb); have n2_ := Aside0.mk (below_step zA2_0 hb); clear BK120; clear BK121; clear HB; have BK120 := n0_; have BK121 := n1_; have HB := n2_; clear n0_ n1_ n2_; (try clear hb); (try clear hb2); (try clear hk); (try clear hi)))
             go_ret
             exact ⟨zA2_4, zA2_0⟩
           ·replace c152 := Bool.eq_false_iff.mpr c152
            subst c152
            have H1 : (if a1_15 = true then (if a1_8 = 23 then (some true) else (if a1_8 = 24 then (some true) else (some (a1_8 == 25)))) else (some true)) = some r := by rw [if_neg (show ¬ (false = true) by decide)] at H; exact H
            clear H
            have H := H1
            clear H1
            by_cases c182 : a1_15 = true
            ·subst c182
             have H1 : (if a1_8 = 23 then (some true) else (if a1_8 = 24 then (some true) else (some (a1_8 == 25)))) = some r := by rw [if_pos rfl] at H; exact H
             clear H
             have H := H1
             clear H1
             by_cases c183 : a1_8 = 23
             ·rw [if_pos c183] at H
              have c183b0 : (a1_8 == 23) = true := beq_iff_eq.mpr c183
              have c183b1 : (a1_8 != 23) = false := bne_eq_false_iff_eq.mpr c183
              clear c183
              obtain rfl := Option.some.inj H
              have hnb184 := NB121_120.out
              have hnc184 := NB120_121.out
              obtain ⟨hcz185_0, hcz185_1, hcz185_2, hcz185_3, hcz185_4, hcz185_5, hcz185_6, hcz185_7, hcz185_8, hcz185_9, hcz185_10, hcz185_11, hcz185_12, hcz185_13, hcz185_14, hcz185_15, hcz185_16, hcz185_17, hcz185_18, hcz185_19, hcz185_20, hcz185_21, hcz185_22, hcz185_23, hcz185_24, hcz185_25, hfz185_0, hfz185_1, hfz185_2, hfz185_3, hfz185_4, hfz185_5, hfz185_6, hfz185_7, hfz185_8, hfz185_9, hfz185_10, hfz185_11, hfz185_12, hfz185_13, hfz185_14, hfz185_15, hfz185_16, hfz185_17, hfz185_18, hfz185_19, hfz185_20, hfz185_21, hfz185_22, hfz185_23, hfz185_24, hfz185_25⟩ := zf2_26 BK121.out
              go_wp2_with (first | ((with_reducible refine gate_callee (f := 44) rfl ?_); refine goesL_ (some 175) rfl rfl Try.func44 (by kernel_rfl) rfl #[.int .i64 a1_8, .int .i64 16, .int .i64 21] rfl zA2_3 ?_; (with_reducible refine (impl_within.calls a1_8 16 21 false _ A151.out).mono ?_); rintro e w' ⟨rfl, ⟨nd, rfl⟩⟩; refine ⟨_, rfl, ?_⟩))
              go_ret
              exact ⟨zA2_4, zA2_0⟩
             ·rw [if_neg c183] at H
              have c183b0 : (a1_8 == 23) = false := beq_eq_false_iff_ne.mpr c183
              have c183b1 : (a1_8 != 23) = true := bne_iff_ne.mpr c183
              by_cases c186 : a1_8 = 24
              ·rw [if_pos c186] at H
               have c186b0 : (a1_8 == 24) = true := beq_iff_eq.mpr c186
               have c186b1 : (a1_8 != 24) = false := bne_eq_false_iff_eq.mpr c186
               clear c186
               obtain rfl := Option.some.inj H
               have hnb187 := NB121_120.out
               have hnc187 := NB120_121.out
               obtain ⟨hcz188_0, hcz188_1, hcz188_2, hcz188_3, hcz188_4, hcz188_5, hcz188_6, hcz188_7, hcz188_8, hcz188_9, hcz188_10, hcz188_11, hcz188_12, hcz188_13, hcz188_14, hcz188_15, hcz188_16, hcz188_17, hcz188_18, hcz188_19, hcz188_20, hcz188_21, hcz188_22, hcz188_23, hcz188_24, hcz188_25, hfz188_0, hfz188_1, hfz188_2, hfz188_3, hfz188_4, hfz188_5, hfz188_6, hfz188_7, hfz188_8, hfz188_9, hfz188_10, hfz188_11, hfz188_12, hfz188_13, hfz188_14, hfz188_15, hfz188_16, hfz188_17, hfz188_18, hfz188_19, hfz188_20, hfz188_21, hfz188_22, hfz188_23, hfz188_24, hfz188_25⟩ := zf2_26 BK121.out
               go_wp2_with (first | ((with_reducible refine gate_callee (f := 44) rfl ?_); refine goesL_ (some 175) rfl rfl Try.func44 (by kernel_rfl) rfl #[.int .i64 a1_8, .int .i64 16, .int .i64 21] rfl zA2_3 ?_; (with_reducible refine (impl_within.calls a1_8 16 21 false _ A151.out).mono ?_); rintro e w' ⟨rfl, ⟨nd, rfl⟩⟩; refine ⟨_, rfl, ?_⟩))
               go_ret
               exact ⟨zA2_4, zA2_0⟩
              ·rw [if_neg c186] at H
               have c186b0 : (a1_8 == 24) = false := beq_eq_false_iff_ne.mpr c186
               have c186b1 : (a1_8 != 24) = true := bne_iff_ne.mpr c186
               obtain rfl := Option.some.inj H
               have hnb189 := NB121_120.out
               have hnc189 := NB120_121.out
               obtain ⟨hcz190_0, hcz190_1, hcz190_2, hcz190_3, hcz190_4, hcz190_5, hcz190_6, hcz190_7, hcz190_8, hcz190_9, hcz190_10, hcz190_11, hcz190_12, hcz190_13, hcz190_14, hcz190_15, hcz190_16, hcz190_17, hcz190_18, hcz190_19, hcz190_20, hcz190_21, hcz190_22, hcz190_23, hcz190_24, hcz190_25, hfz190_0, hfz190_1, hfz190_2, hfz190_3, hfz190_4, hfz190_5, hfz190_6, hfz190_7, hfz190_8, hfz190_9, hfz190_10, hfz190_11, hfz190_12, hfz190_13, hfz190_14, hfz190_15, hfz190_16, hfz190_17, hfz190_18, hfz190_19, hfz190_20, hfz190_21, hfz190_22, hfz190_23, hfz190_24, hfz190_25⟩ := zf2_26 BK121.out
               go_wp2_with (first | ((with_reducible refine gate_callee (f := 44) rfl ?_); refine goesL_ (some 175) rfl rfl Try.func44 (by kernel_rfl) rfl #[.int .i64 a1_8, .int .i64 16, .int .i64 21] rfl zA2_3 ?_; (with_reducible refine (impl_within.calls a1_8 16 21 false _ A151.out).mono ?_); rintro e w' ⟨rfl, ⟨nd, rfl⟩⟩; refine ⟨_, rfl, ?_⟩))
               go_ret
               exact ⟨zA2_4, zA2_0⟩
            ·replace c182 := Bool.eq_false_iff.mpr c182
             subst c182
             have H1 : (some true) = some r := by rw [if_neg (show ¬ (false = true) by decide)] at H; exact H
             clear H
             have H := H1
             clear H1
             obtain rfl := Option.some.inj H
             have hnb191 := NB121_120.out
             have hnc191 := NB120_121.out
             obtain ⟨hcz192_0, hcz192_1, hcz192_2, hcz192_3, hcz192_4, hcz192_5, hcz192_6, hcz192_7, hcz192_8, hcz192_9, hcz192_10, hcz192_11, hcz192_12, hcz192_13, hcz192_14, hcz192_15, hcz192_16, hcz192_17, hcz192_18, hcz192_19, hcz192_20, hcz192_21, hcz192_22, hcz192_23, hcz192_24, hcz192_25, hfz192_0, hfz192_1, hfz192_2, hfz192_3, hfz192_4, hfz192_5, hfz192_6, hfz192_7, hfz192_8, hfz192_9, hfz192_10, hfz192_11, hfz192_12, hfz192_13, hfz192_14, hfz192_15, hfz192_16, hfz192_17, hfz192_18, hfz192_19, hfz192_20, hfz192_21, hfz192_22, hfz192_23, hfz192_24, hfz192_25⟩ := zf2_26 BK121.out
             go_wp2_with (first | ((with_reducible refine gate_callee (f := 44) rfl ?_); refine goesL_ (some 175) rfl rfl Try.func44 (by kernel_rfl) rfl #[.int .i64 a1_8, .int .i64 16, .int .i64 21] rfl zA2_3 ?_; (with_reducible refine (impl_within.calls a1_8 16 21 false _ A151.out).mono ?_); rintro e w' ⟨rfl, ⟨nd, rfl⟩⟩; refine ⟨_, rfl, ?_⟩))
             go_ret
             exact ⟨zA2_4, zA2_0⟩

end Go.Proofs.Ytfpdccaomhjpjaa.PGuestOk

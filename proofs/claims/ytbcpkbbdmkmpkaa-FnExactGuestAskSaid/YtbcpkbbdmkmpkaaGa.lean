/- GuestAsk, the reference's and the program's: walks. -/
import Derived.Test.YtbcpkbbdmkmpkaaGur3
set_option linter.unusedVariables false
set_option linter.unusedSimpArgs false
namespace Go.Proofs.Ytbcpkbbdmkmpkaa.Gu
open Go.RowKit Go.Proofs.YtbcpkbbdmkmpkaaW.PrintWords Go.Proofs.YtbcpkbbdmkmpkaaW.PrintLast Go.Proofs.YtbcpkbbdmkmpkaaW.PrintMore Go.Proofs.Ytbcpkbbdmkmpkaa.St0

set_option maxHeartbeats 4000000 in
set_option maxRecDepth 100000 in
theorem copyG_calls (g : Gu) (A : Option Addr) (cA : Nat) (B : Option Addr) (cB : Nat) (w : World) (h : GC w g A cA B cB) (hl : g.snap.length ≤ 1048576 ∧ g.plan.length ≤ 1048576) :
    Calls Try.prog 96 #[.agg (gC g A cA B cB)] w (RetG g w) := by
  obtain ⟨up, slot, epoch, busy, opK, opS, opA, opB, pc, k, n, seq, next, who, whoE, own, time, was, door, beat, entry, snap, plan, code, val, count⟩ := g
  have HR := Aside0.mk h
  have HL := Aside0.mk hl
  clear h hl
  simp only [] at HL
  have S := Aside0.mk (St.start w)
  go_enter Try.func96, Try.ntmps96
  go_wp2_with (first | ((with_reducible refine gate_dst (N := 1) rfl ?_); refine box_event rfl (N := 1) rfl (cs := gC (Gu.mk up slot epoch busy opK opS opA opB pc k n seq next who whoE own time was door beat entry snap plan code val count) A cA B cB) (t := 42) (by first | (go_simp; done) | (go_simp; rfl)) ?_; intro gb hg_ w1 hbox_ hb_; have Sn_ := Aside0.mk (S.out.box hg_ hbox_ hb_); clear hbox_ hb_ hg_ S; have S := Sn_; clear Sn_) | ((with_reducible refine gate_dst (N := 2) rfl ?_); refine box_event rfl (N := 2) rfl (cs := #[.bool false, .int .i64 0, .int .i64 0, .bool false, .int .i64 0, .int .i64 0, .int .i64 0, .int .i64 0, .int .i64 0, .int .i64 0, .int .i64 0, .int .i64 0, .int .i64 0, .int .i64 0, .int .i64 0, .bool false, .int .i64 0, .int .u64 0, .int .u64 0, .int .u64 0, .int .u64 0, .slice none 0 0, .slice none 0 0, .int .i64 0, .int .i64 0, .int .i64 0]) (t := 42) (by first | (go_simp; done) | (go_simp; rfl)) ?_; intro gr hg_ w2 hbox_ hb_; have Sn_ := Aside0.mk (S.out.box hg_ hbox_ hb_); clear hbox_ hb_ hg_ S; have S := Sn_; clear Sn_) | ((with_reducible refine gate_dst (N := 3) rfl ?_); refine Kd.R_lit (Kd.int .u64) _ 40 ?hg (N := 3) ?hd (xs := ([] : List Int)) (inner := []) (ok := fun _ => True) (okp := fun _ => True) ?hr ?hp (fun _ hk => hk) trivial (Below.refl _ _) (Nat.le_refl _) (by simp) ?_; (case hd => rfl); (case hg => rfl); (case hr => first | (go_simp; done) | (go_simp; rfl)); (case hp => exact (Reps.none _ _)); intro v0 w3 ho4 hb4 hg_ hnew_; clear hg_ hnew_; have HO0 := Aside0.mk ho4; have HBL0 := Aside0.mk hb4; clear ho4 hb4; have S3_ := S.out.call HBL0.out; have f_a : w3.cell? ⟨gb, 21, none⟩ = some (.slice A snap.length cA) := (S3_.cell 1 rfl 21).trans rfl; have z_a := S3_.frozen 1 rfl 21; clear S3_) | ((with_reducible refine gate_builtin (b := .append) (xs := #[.tmp 3, .tmp 5]) rfl ?_); at_builtin; refine Kd.R_append_rows (Kd.int .u64) (w0 := w2) w2.heap.size rfl (.tmp 3) (.tmp 5) 30 40 (.int .u64 0) 8 rfl Try.underlying30 infoE rfl (by decide) (by omega) v0 [] snap _ _ _ (fun _ => True) (fun _ => False) rfl rfl HO0.out (HR.out.1.below (below_step S.out.base HBL0.out)).1 (fun _ _ h => h) (fun _ h => h.elim) (fun _ _ => trivial) HBL0.out HBL0.out.size (by have := HL.out.1; simp only [List.length_nil]; omega) ?_; intro va_ w4 ho hb hg hat; rw [List.nil_append] at ho; obtain ⟨A1, c1, eo_, ho_⟩ := UO.of ho; subst eo_; have Sn_ := Aside0.mk (S.out.new (P := UO w2.heap.size w4.heap.size A1 c1 snap) hb ho_ (UO.stable _ _ _ _ _)); clear S ho hb hg hat ho_ HO0 HBL0 f_a z_a; have S := Sn_; clear Sn_; have f_gb_21 : w4.cell? ⟨gb, 21, none⟩ = some (.slice A snap.length cA) := (S.out.cell 2 rfl 21).trans rfl; have z_gb_21 := S.out.frozen 2 rfl 21) | ((with_reducible refine gate_store (t := 30) (p := 7) rfl ?_); refine store_event (t := 30) (p := 7) (v := ?vo_1) (w1 := w4.setCell ⟨gb, 21, none⟩ (.slice A1 snap.length c1)) ?hg ?ho ?hn ?hr ?_; (case ho => rfl); (case hg => rfl); (case hn => rfl); (case hr => first | (go_simp; done) | (go_simp; rfl)); intro w5 hw_; have Sn_ := Aside0.mk ((S.out.setCell (cs' := gC (Gu.mk up slot epoch busy opK opS opA opB pc k n seq next who whoE own time was door beat entry snap plan code val count) A1 c1 B cB) (rs' := [⟨w2.heap.size, w4.heap.size, UO w2.heap.size w4.heap.size A1 c1 snap⟩, Blk gr (#[.bool false, .int .i64 0, .int .i64 0, .bool false, .int .i64 0, .int .i64 0, .int .i64 0, .int .i64 0, .int .i64 0, .int .i64 0, .int .i64 0, .int .i64 0, .int .i64 0, .int .i64 0, .int .i64 0, .bool false, .int .i64 0, .int .u64 0, .int .u64 0, .int .u64 0, .int .u64 0, .slice none 0 0, .slice none 0 0, .int .i64 0, .int .i64 0, .int .i64 0]) 42, Blk gb (gC (Gu.mk up slot epoch busy opK opS opA opB pc k n seq next who whoE own time was door beat entry snap plan code val count) A1 c1 B cB) 42]) 2 rfl 21 (.slice A1 snap.length c1) (by simp only [gC, List.setIfInBounds_toArray, List.set_cons_zero, List.set_cons_succ]) rfl).of hw_); clear S hw_; have S := Sn_; clear Sn_) | ((with_reducible refine gate_dst (N := 8) rfl ?_); refine Kd.R_lit (Kd.int .u64) _ 40 ?hg (N := 8) ?hd (xs := ([] : List Int)) (inner := []) (ok := fun _ => True) (okp := fun _ => True) ?hr ?hp (fun _ hk => hk) trivial (Below.refl _ _) (Nat.le_refl _) (by simp) ?_; (case hd => rfl); (case hg => rfl); (case hr => first | (go_simp; done) | (go_simp; rfl)); (case hp => exact (Reps.none _ _)); intro v1 w6 ho4 hb4 hg_ hnew_; clear hg_ hnew_; have HO1 := Aside0.mk ho4; have HBL1 := Aside0.mk hb4; clear ho4 hb4; have S3_ := S.out.call HBL1.out; have f_a : w6.cell? ⟨gb, 22, none⟩ = some (.slice B plan.length cB) := (S3_.cell 2 rfl 22).trans rfl; have z_a := S3_.frozen 2 rfl 22; clear S3_) | ((with_reducible refine gate_builtin (b := .append) (xs := #[.tmp 8, .tmp 10]) rfl ?_); at_builtin; refine Kd.R_append_rows (Kd.int .u64) (w0 := w5) w5.heap.size rfl (.tmp 8) (.tmp 10) 30 40 (.int .u64 0) 8 rfl Try.underlying30 infoE rfl (by decide) (by omega) v1 [] plan _ _ _ (fun _ => True) (fun _ => False) rfl rfl HO1.out (HR.out.2.below (below_step S.out.base HBL1.out)).1 (fun _ _ h => h) (fun _ h => h.elim) (fun _ _ => trivial) HBL1.out HBL1.out.size (by have := HL.out.2; simp only [List.length_nil]; omega) ?_; intro va_ w7 ho hb hg hat; rw [List.nil_append] at ho; obtain ⟨B1, d1, eo_, ho_⟩ := UO.of ho; subst eo_; have Sn_ := Aside0.mk (S.out.new (P := UO w5.heap.size w7.heap.size B1 d1 plan) hb ho_ (UO.stable _ _ _ _ _)); clear S ho hb hg hat ho_ HO1 HBL1 f_a z_a; have S := Sn_; clear Sn_; have f_gb_22 : w7.cell? ⟨gb, 22, none⟩ = some (.slice B plan.length cB) := (S.out.cell 3 rfl 22).trans rfl; have z_gb_22 := S.out.frozen 3 rfl 22) | ((with_reducible refine gate_store (t := 30) (p := 12) rfl ?_); refine store_event (t := 30) (p := 12) (v := ?vo_2) (w1 := w7.setCell ⟨gb, 22, none⟩ (.slice B1 plan.length d1)) ?hg ?ho ?hn ?hr ?_; (case ho => rfl); (case hg => rfl); (case hn => rfl); (case hr => first | (go_simp; done) | (go_simp; rfl)); intro w8 hw_; have Sn_ := Aside0.mk ((S.out.setCell (cs' := gC (Gu.mk up slot epoch busy opK opS opA opB pc k n seq next who whoE own time was door beat entry snap plan code val count) A1 c1 B1 d1) (rs' := [⟨w5.heap.size, w7.heap.size, UO w5.heap.size w7.heap.size B1 d1 plan⟩, ⟨w2.heap.size, w4.heap.size, UO w2.heap.size w4.heap.size A1 c1 snap⟩, Blk gr (#[.bool false, .int .i64 0, .int .i64 0, .bool false, .int .i64 0, .int .i64 0, .int .i64 0, .int .i64 0, .int .i64 0, .int .i64 0, .int .i64 0, .int .i64 0, .int .i64 0, .int .i64 0, .int .i64 0, .bool false, .int .i64 0, .int .u64 0, .int .u64 0, .int .u64 0, .int .u64 0, .slice none 0 0, .slice none 0 0, .int .i64 0, .int .i64 0, .int .i64 0]) 42, Blk gb (gC (Gu.mk up slot epoch busy opK opS opA opB pc k n seq next who whoE own time was door beat entry snap plan code val count) A1 c1 B1 d1) 42]) 3 rfl 22 (.slice B1 plan.length d1) (by simp only [gC, List.setIfInBounds_toArray, List.set_cons_zero, List.set_cons_succ]) rfl).of hw_); clear S hw_; have S := Sn_; clear Sn_) | ((with_reducible refine gate_dst (N := 13) rfl ?_); refine Kd.event_run rfl (Row.load_row_run (g := gb) (t := 42) (cells := gC (Gu.mk up slot epoch busy opK opS opA opB pc k n seq next who whoE own time was door beat entry snap plan code val count) A1 c1 B1 d1) rfl rfl (S.out.blk 3 rfl) Try.underlying42 rfl (by kernel_rfl)) ?_) | ((with_reducible refine gate_store (t := 42) (p := 2) rfl ?_); refine store_event (t := 42) (p := 2) (v := ?vo_3) (w1 := w8.setRow gr (gC (Gu.mk up slot epoch busy opK opS opA opB pc k n seq next who whoE own time was door beat entry snap plan code val count) A1 c1 B1 d1)) ?hg ?ho ?hn ?hr ?_; (case ho => rfl); (case hg => rfl); (case hn => rfl); (case hr => exact (Row.store_row_run (g := gr) (cells := gC (Gu.mk up slot epoch busy opK opS opA opB pc k n seq next who whoE own time was door beat entry snap plan code val count) A1 c1 B1 d1) (t := 42) (old := #[.bool false, .int .i64 0, .int .i64 0, .bool false, .int .i64 0, .int .i64 0, .int .i64 0, .int .i64 0, .int .i64 0, .int .i64 0, .int .i64 0, .int .i64 0, .int .i64 0, .int .i64 0, .int .i64 0, .bool false, .int .i64 0, .int .u64 0, .int .u64 0, .int .u64 0, .int .u64 0, .slice none 0 0, .slice none 0 0, .int .i64 0, .int .i64 0, .int .i64 0]) rfl (by rfl) (by rfl) (S.out.blk 2 rfl) (by kernel_rfl) rfl (by simp [Value.oneCell', gC]))); intro w9 hw_; have Sn_ := Aside0.mk ((S.out.setRow (cs' := gC (Gu.mk up slot epoch busy opK opS opA opB pc k n seq next who whoE own time was door beat entry snap plan code val count) A1 c1 B1 d1) (rs' := [⟨w5.heap.size, w7.heap.size, UO w5.heap.size w7.heap.size B1 d1 plan⟩, ⟨w2.heap.size, w4.heap.size, UO w2.heap.size w4.heap.size A1 c1 snap⟩, Blk gr (gC (Gu.mk up slot epoch busy opK opS opA opB pc k n seq next who whoE own time was door beat entry snap plan code val count) A1 c1 B1 d1) 42, Blk gb (gC (Gu.mk up slot epoch busy opK opS opA opB pc k n seq next who whoE own time was door beat entry snap plan code val count) A1 c1 B1 d1) 42]) 2 rfl rfl).of hw_); clear S hw_; have S := Sn_; clear Sn_))
  refine bodyPost_ret (results_cell_row rfl _ _ gr 42 (gC (Gu.mk up slot epoch busy opK opS opA opB pc k n seq next who whoE own time was door beat entry snap plan code val count) A1 c1 B1 d1) (0, 0) _ rfl (S.out.blk 2 rfl) Try.underlying42 rfl (by kernel_rfl)) rfl ?_
  exact ⟨A1, c1, B1, d1, rfl, ⟨UO.wide (S.out.get 1 rfl) (S.out.ge 1 rfl) (S.out.le 1 rfl), UO.wide (S.out.get 0 rfl) (S.out.ge 0 rfl) (S.out.le 0 rfl), UO.neRow (S.out.get 1 rfl) (S.out.get 0 rfl) (S.out.ne 1 0 rfl rfl (by decide))⟩, S.out.base⟩
set_option maxHeartbeats 4000000 in
set_option maxRecDepth 100000 in
theorem ownG_calls (g : Gu) (A : Option Addr) (cA : Nat) (B : Option Addr) (cB : Nat) (w : World) (h : GC w g A cA B cB) (hl : g.snap.length ≤ 1048576 ∧ g.plan.length ≤ 1048576) :
    Calls Try.prog 98 #[.agg (gC g A cA B cB)] w (RetG g w) := by
  obtain ⟨up, slot, epoch, busy, opK, opS, opA, opB, pc, k, n, seq, next, who, whoE, own, time, was, door, beat, entry, snap, plan, code, val, count⟩ := g
  have HR := Aside0.mk h
  have HL := Aside0.mk hl
  clear h hl
  simp only [] at HL
  have S := Aside0.mk (St.start w)
  go_enter Try.func98, Try.ntmps98
  go_wp2_with (first | ((with_reducible refine gate_dst (N := 1) rfl ?_); refine box_event rfl (N := 1) rfl (cs := gC (Gu.mk up slot epoch busy opK opS opA opB pc k n seq next who whoE own time was door beat entry snap plan code val count) A cA B cB) (t := 42) (by first | (go_simp; done) | (go_simp; rfl)) ?_; intro gb hg_ w1 hbox_ hb_; have Sn_ := Aside0.mk (S.out.box hg_ hbox_ hb_); clear hbox_ hb_ hg_ S; have S := Sn_; clear Sn_) | ((with_reducible refine gate_dst (N := 2) rfl ?_); refine box_event rfl (N := 2) rfl (cs := #[.bool false, .int .i64 0, .int .i64 0, .bool false, .int .i64 0, .int .i64 0, .int .i64 0, .int .i64 0, .int .i64 0, .int .i64 0, .int .i64 0, .int .i64 0, .int .i64 0, .int .i64 0, .int .i64 0, .bool false, .int .i64 0, .int .u64 0, .int .u64 0, .int .u64 0, .int .u64 0, .slice none 0 0, .slice none 0 0, .int .i64 0, .int .i64 0, .int .i64 0]) (t := 42) (by first | (go_simp; done) | (go_simp; rfl)) ?_; intro gr hg_ w2 hbox_ hb_; have Sn_ := Aside0.mk (S.out.box hg_ hbox_ hb_); clear hbox_ hb_ hg_ S; have S := Sn_; clear Sn_))
  have HGR := Aside0.mk (show gr < w2.heap.size from S.out.le 0 rfl)
  have HGB := Aside0.mk (show gb < w2.heap.size from S.out.le 1 rfl)
  refine start_ (n := 10) (S := fun w_ => St w w_ [Blk gr (#[.bool false, .int .i64 0, .int .i64 0, .bool false, .int .i64 0, .int .i64 0, .int .i64 0, .int .i64 0, .int .i64 0, .int .i64 0, .int .i64 0, .int .i64 0, .int .i64 0, .int .i64 0, .int .i64 0, .bool false, .int .i64 0, .int .u64 0, .int .u64 0, .int .u64 0, .int .u64 0, .slice none 0 0, .slice none 0 0, .int .i64 0, .int .i64 0, .int .i64 0]) 42, Blk gb (gC (Gu.mk up slot epoch busy opK opS opA opB pc k n seq next who whoE own time was door beat entry snap plan code val count) A cA B cB) 42]) (ds := [7, 9]) #[false, false, false, false, false, false, false, false, false, false] (by kernel_rfl) rfl rfl (S.out.drew) (fun hH_ => ?_)
  refine pure_ (i := 0) (N := some 3) (v := ?_) (a' := ?_) #[true, false, false, false, false, false, false, false, false, false] rfl rfl (by kernel_rfl) (fun _ _ _ h => h) (Or.inl ⟨by rfl, ?_⟩) ?_ ?_
  rotate_left
  · intro w'
    go_simp
    with_reducible rfl
  rotate_left
  · simp only [Act.put, List.setIfInBounds_toArray, List.set_cons_zero, List.set_cons_succ, i64_w, i32_w]
    rfl
  refine pure_ (i := 3) (N := some 6) (v := ?_) (a' := ?_) #[true, false, false, true, false, false, false, false, false, false] rfl rfl (by kernel_rfl) (fun _ _ _ h => h) (Or.inl ⟨by rfl, ?_⟩) ?_ ?_
  rotate_left
  · intro w'
    go_simp
    with_reducible rfl
  rotate_left
  · simp only [Act.put, List.setIfInBounds_toArray, List.set_cons_zero, List.set_cons_succ, i64_w, i32_w]
    rfl
  refine take_ (i := 1) (N := some 4) (v := ?_) (a' := ?_) #[true, true, false, true, false, false, false, false, false, false] rfl rfl (by kernel_rfl) (fun _ _ _ h => h) (Or.inl ⟨by rfl, ?_⟩) hH_ ?_ ?_
  rotate_left
  · intro w' s0
    have f_ : w'.cell? ⟨gb, 21, none⟩ = some (.slice A snap.length cA) := (s0.cell 1 rfl 21).trans rfl
    clear s0
    go_simp
    with_reducible rfl
  rotate_left
  · simp only [Act.put, List.setIfInBounds_toArray, List.set_cons_zero, List.set_cons_succ, i64_w, i32_w]
    rfl
  refine take_ (i := 4) (N := some 7) (v := ?_) (a' := ?_) #[true, true, false, true, true, false, false, false, false, false] rfl rfl (by kernel_rfl) (fun _ _ _ h => h) (Or.inl ⟨by rfl, ?_⟩) hH_ ?_ ?_
  rotate_left
  · intro w' s0
    have f_ : w'.cell? ⟨gb, 22, none⟩ = some (.slice B plan.length cB) := (s0.cell 1 rfl 22).trans rfl
    clear s0
    go_simp
    with_reducible rfl
  rotate_left
  · simp only [Act.put, List.setIfInBounds_toArray, List.set_cons_zero, List.set_cons_succ, i64_w, i32_w]
    rfl
  refine one_ (i := 2) (N := some 5) #[true, true, true, true, true, false, false, false, false, false] rfl rfl (by kernel_rfl) (by decide) (fun K hK => ?_)
  refine goes_ Try.func93 (by kernel_rfl) rfl #[.slice A snap.length cA] (by rfl) rfl rfl (by (try simp only [List.map_toArray, List.map_cons, List.map_nil]); first | done | rfl) ?_
  refine (clone_calls A cA snap _ (HR.out.1.below hH_.base) HL.out.1).mono ?_
  rintro e w3 ⟨A1, c1, rfl, ho, hb⟩
  have HO1 := Aside0.mk ho
  have HBB1 := Aside0.mk hb
  clear ho
  have hHw3_ := hH_.call hb
  refine ⟨_, rfl, hK.out _ _ hHw3_ (fun hX_ => ?_)⟩
  clear hK K hX_
  refine norm_ (a' := ?_) ?_ ?_
  rotate_left
  · show Act.put _ (some 5) _ = _
    simp only [Act.put, List.setIfInBounds_toArray, List.set_cons_zero, List.set_cons_succ, i64_w, i32_w]
    rfl
  clear hb
  refine pure_ (i := 6) (N := some 9) (v := ?_) (a' := ?_) #[true, true, true, true, true, false, true, false, false, false] rfl rfl (by kernel_rfl) (fun _ _ _ h => h) (Or.inl ⟨by rfl, ?_⟩) ?_ ?_
  rotate_left
  · intro w'
    go_simp
    with_reducible rfl
  rotate_left
  · simp only [Act.put, List.setIfInBounds_toArray, List.set_cons_zero, List.set_cons_succ, i64_w, i32_w]
    rfl
  refine one_ (i := 5) (N := some 8) #[true, true, true, true, true, true, true, false, false, false] rfl rfl (by kernel_rfl) (by decide) (fun K hK => ?_)
  refine goes_ Try.func93 (by kernel_rfl) rfl #[.slice B plan.length cB] (by rfl) rfl rfl (by (try simp only [List.map_toArray, List.map_cons, List.map_nil]); first | done | rfl) ?_
  refine (clone_calls B cB plan _ (HR.out.2.below hHw3_.base) HL.out.2).mono ?_
  rintro e w4 ⟨B1, d1, rfl, ho, hb⟩
  have HO2 := Aside0.mk ho
  have HBB2 := Aside0.mk hb
  clear ho
  have hHw4_ := hHw3_.call hb
  refine ⟨_, rfl, hK.out _ _ hHw4_ (fun hX_ => ?_)⟩
  clear hK K hX_
  refine norm_ (a' := ?_) ?_ ?_
  rotate_left
  · show Act.put _ (some 8) _ = _
    simp only [Act.put, List.setIfInBounds_toArray, List.set_cons_zero, List.set_cons_succ, i64_w, i32_w]
    rfl
  clear hb
  have HO3 := Aside0.mk (HO1.out.below HBB2.out)
  have HSZ0 := Aside0.mk (And.intro HBB2.out.size (Nat.le_refl w4.heap.size))
  have HSW := Aside0.mk (show w.heap.size ≤ w2.drew.heap.size from Nat.le_trans S.out.size (Nat.le_refl _))
  clear HO1
  have f2_ : w4.cell? ⟨gb, 21, none⟩ = some (.slice A snap.length cA) := (hHw4_.cell 1 rfl 21).trans rfl
  have z_ := hHw4_.frozen 1 rfl 21
  have HO4 := Aside0.mk (UO.stable _ _ _ _ _ _ (w4.setCell ⟨gb, 21, none⟩ (.slice A1 snap.length c1)) HO3.out (by simp) (fun k h1 h2 => Below.heap_setCell _ _ _ k (by have := HGB.out; have h3_ : (w2.drew).heap.size ≤ k := Nat.le_trans (by first | exact Nat.le_refl _ | exact HBB1.out.size) h1; have h4_ : (w2.drew).heap.size = w2.heap.size := rfl; show k ≠ gb; omega)))
  clear HO3
  have HO5 := Aside0.mk (UO.stable _ _ _ _ _ _ (w4.setCell ⟨gb, 21, none⟩ (.slice A1 snap.length c1)) HO2.out (by simp) (fun k h1 h2 => Below.heap_setCell _ _ _ k (by have := HGB.out; have h3_ : (w2.drew).heap.size ≤ k := Nat.le_trans (by first | exact Nat.le_refl _ | exact HBB1.out.size) h1; have h4_ : (w2.drew).heap.size = w2.heap.size := rfl; show k ≠ gb; omega)))
  clear HO2
  have HZS : Aside0 (w.heap.size ≤ w2.drew.heap.size ∧ w3.heap.size ≤ (w4.setCell ⟨gb, 21, none⟩ (.slice A1 snap.length c1)).heap.size ∧ w4.heap.size ≤ (w4.setCell ⟨gb, 21, none⟩ (.slice A1 snap.length c1)).heap.size) := ⟨HSW.out, by have := HBB2.out.size; simpa using this, by simp⟩
  refine last_ (i := 7) (N := none) #[true, true, true, true, true, true, true, true, false, false] rfl rfl (by kernel_rfl) (by decide) (fun K hK => ?_)
  refine skip_ (w1 := w4.setCell ⟨gb, 21, none⟩ (.slice A1 snap.length c1)) (by rfl) rfl (by first | (go_simp; done) | (go_simp; rfl)) ?_
  refine hK.out _ _ ?_
  clear hK K
  have Sn_ := Aside0.mk (hHw4_.setCell (cs' := gC (Gu.mk up slot epoch busy opK opS opA opB pc k n seq next who whoE own time was door beat entry snap plan code val count) A1 c1 B cB) (rs' := [Blk gr (#[.bool false, .int .i64 0, .int .i64 0, .bool false, .int .i64 0, .int .i64 0, .int .i64 0, .int .i64 0, .int .i64 0, .int .i64 0, .int .i64 0, .int .i64 0, .int .i64 0, .int .i64 0, .int .i64 0, .bool false, .int .i64 0, .int .u64 0, .int .u64 0, .int .u64 0, .int .u64 0, .slice none 0 0, .slice none 0 0, .int .i64 0, .int .i64 0, .int .i64 0]) 42, Blk gb (gC (Gu.mk up slot epoch busy opK opS opA opB pc k n seq next who whoE own time was door beat entry snap plan code val count) A1 c1 B cB) 42]) 1 rfl 21 (.slice A1 snap.length c1) (by simp only [gC, List.setIfInBounds_toArray, List.set_cons_zero, List.set_cons_succ]) rfl)
  clear S
  have S := Sn_
  clear Sn_
  obtain ⟨w5, hw_⟩ : ∃ w_, w4.setCell ⟨gb, 21, none⟩ (.slice A1 snap.length c1) = w_ := ⟨_, rfl⟩
  rw [hw_] at S HO4 HO5 HZS
  rw [hw_]
  clear hw_
  clear hH_ hHw3_ hHw4_
  clear f2_ z_
  refine pure_ (i := 8) (N := some 10) (v := ?_) (a' := ?_) #[true, true, true, true, true, true, true, true, true, false] rfl rfl (by kernel_rfl) (fun _ _ _ h => h) (Or.inl ⟨by rfl, ?_⟩) ?_ ?_
  rotate_left
  · intro w'
    go_simp
    with_reducible rfl
  rotate_left
  · simp only [Act.put, List.setIfInBounds_toArray, List.set_cons_zero, List.set_cons_succ, i64_w, i32_w]
    rfl
  have f2_ : w5.cell? ⟨gb, 22, none⟩ = some (.slice B plan.length cB) := (S.out.cell 1 rfl 22).trans rfl
  have z_ := S.out.frozen 1 rfl 22
  have HO6 := Aside0.mk (UO.stable _ _ _ _ _ _ (w5.setCell ⟨gb, 22, none⟩ (.slice B1 plan.length d1)) HO4.out (by simp) (fun k h1 h2 => Below.heap_setCell _ _ _ k (by have := HGB.out; have h3_ : (w2.drew).heap.size ≤ k := Nat.le_trans (by first | exact Nat.le_refl _ | exact HBB1.out.size) h1; have h4_ : (w2.drew).heap.size = w2.heap.size := rfl; show k ≠ gb; omega)))
  clear HO4
  have HO7 := Aside0.mk (UO.stable _ _ _ _ _ _ (w5.setCell ⟨gb, 22, none⟩ (.slice B1 plan.length d1)) HO5.out (by simp) (fun k h1 h2 => Below.heap_setCell _ _ _ k (by have := HGB.out; have h3_ : (w2.drew).heap.size ≤ k := Nat.le_trans (by first | exact Nat.le_refl _ | exact HBB1.out.size) h1; have h4_ : (w2.drew).heap.size = w2.heap.size := rfl; show k ≠ gb; omega)))
  clear HO5
  have HSZ : Aside0 (w.heap.size ≤ w2.drew.heap.size ∧ w3.heap.size ≤ (w5.setCell ⟨gb, 22, none⟩ (.slice B1 plan.length d1)).heap.size ∧ w4.heap.size ≤ (w5.setCell ⟨gb, 22, none⟩ (.slice B1 plan.length d1)).heap.size) := ⟨HSW.out, by have := HZS.out.2.1; simpa using this, by have := HZS.out.2.2; simpa using this⟩
  refine last_ (i := 9) (N := none) #[true, true, true, true, true, true, true, true, true, true] rfl rfl (by kernel_rfl) (by decide) (fun K hK => ?_)
  refine skip_ (w1 := w5.setCell ⟨gb, 22, none⟩ (.slice B1 plan.length d1)) (by rfl) rfl (by first | (go_simp; done) | (go_simp; rfl)) ?_
  refine hK.out _ _ ?_
  clear hK K
  have Sn_ := Aside0.mk (S.out.setCell (cs' := gC (Gu.mk up slot epoch busy opK opS opA opB pc k n seq next who whoE own time was door beat entry snap plan code val count) A1 c1 B1 d1) (rs' := [Blk gr (#[.bool false, .int .i64 0, .int .i64 0, .bool false, .int .i64 0, .int .i64 0, .int .i64 0, .int .i64 0, .int .i64 0, .int .i64 0, .int .i64 0, .int .i64 0, .int .i64 0, .int .i64 0, .int .i64 0, .bool false, .int .i64 0, .int .u64 0, .int .u64 0, .int .u64 0, .int .u64 0, .slice none 0 0, .slice none 0 0, .int .i64 0, .int .i64 0, .int .i64 0]) 42, Blk gb (gC (Gu.mk up slot epoch busy opK opS opA opB pc k n seq next who whoE own time was door beat entry snap plan code val count) A1 c1 B1 d1) 42]) 1 rfl 22 (.slice B1 plan.length d1) (by simp only [gC, List.setIfInBounds_toArray, List.set_cons_zero, List.set_cons_succ]) rfl)
  clear S
  have S := Sn_
  clear Sn_
  obtain ⟨w6, hw_⟩ : ∃ w_, w5.setCell ⟨gb, 22, none⟩ (.slice B1 plan.length d1) = w_ := ⟨_, rfl⟩
  rw [hw_] at S HO6 HO7 HSZ
  rw [hw_]
  clear hw_
  clear f2_ z_
  refine done_ (by kernel_rfl) ?_
  have Sn_ := Aside0.mk (S.out.add (P := UO w2.drew.heap.size w3.heap.size A1 c1 snap) HO6.out (UO.stable _ _ _ _ _) (HSZ.out.1) (HBB1.out.size) (HSZ.out.2.1) (fun r hr => by
    simp only [List.mem_cons, List.not_mem_nil, or_false] at hr
    rcases hr with rfl | rfl
    all_goals (left; first | exact HGR.out | exact HGB.out)))
  clear S
  have S := Sn_
  clear Sn_
  have Sn_ := Aside0.mk (S.out.add (P := UO w3.heap.size w4.heap.size B1 d1 plan) HO7.out (UO.stable _ _ _ _ _) (Nat.le_trans HSZ.out.1 HBB1.out.size) (HBB2.out.size) (HSZ.out.2.2) (fun r hr => by
    simp only [List.mem_cons, List.not_mem_nil, or_false] at hr
    rcases hr with rfl | rfl | rfl
    all_goals (left; first | exact Nat.le_refl _ | exact Nat.le_trans HGR.out HBB1.out.size | exact Nat.le_trans HGB.out HBB1.out.size)))
  clear S
  have S := Sn_
  clear Sn_
  go_wp2_with (first | ((with_reducible refine gate_dst (N := 11) rfl ?_); refine Kd.event_run rfl (Row.load_row_run (g := gb) (t := 42) (cells := gC (Gu.mk up slot epoch busy opK opS opA opB pc k n seq next who whoE own time was door beat entry snap plan code val count) A1 c1 B1 d1) rfl rfl (S.out.blk 3 rfl) Try.underlying42 rfl (by kernel_rfl)) ?_) | ((with_reducible refine gate_store (t := 42) (p := 2) rfl ?_); refine store_event (t := 42) (p := 2) (v := ?vo_4) (w1 := w6.setRow gr (gC (Gu.mk up slot epoch busy opK opS opA opB pc k n seq next who whoE own time was door beat entry snap plan code val count) A1 c1 B1 d1)) ?hg ?ho ?hn ?hr ?_; (case ho => rfl); (case hg => rfl); (case hn => rfl); (case hr => exact (Row.store_row_run (g := gr) (cells := gC (Gu.mk up slot epoch busy opK opS opA opB pc k n seq next who whoE own time was door beat entry snap plan code val count) A1 c1 B1 d1) (t := 42) (old := #[.bool false, .int .i64 0, .int .i64 0, .bool false, .int .i64 0, .int .i64 0, .int .i64 0, .int .i64 0, .int .i64 0, .int .i64 0, .int .i64 0, .int .i64 0, .int .i64 0, .int .i64 0, .int .i64 0, .bool false, .int .i64 0, .int .u64 0, .int .u64 0, .int .u64 0, .int .u64 0, .slice none 0 0, .slice none 0 0, .int .i64 0, .int .i64 0, .int .i64 0]) rfl (by rfl) (by rfl) (S.out.blk 2 rfl) (by kernel_rfl) rfl (by simp [Value.oneCell', gC]))); intro w7 hw_; have Sn_ := Aside0.mk ((S.out.setRow (cs' := gC (Gu.mk up slot epoch busy opK opS opA opB pc k n seq next who whoE own time was door beat entry snap plan code val count) A1 c1 B1 d1) (rs' := [⟨w3.heap.size, w4.heap.size, UO w3.heap.size w4.heap.size B1 d1 plan⟩, ⟨w2.drew.heap.size, w3.heap.size, UO w2.drew.heap.size w3.heap.size A1 c1 snap⟩, Blk gr (gC (Gu.mk up slot epoch busy opK opS opA opB pc k n seq next who whoE own time was door beat entry snap plan code val count) A1 c1 B1 d1) 42, Blk gb (gC (Gu.mk up slot epoch busy opK opS opA opB pc k n seq next who whoE own time was door beat entry snap plan code val count) A1 c1 B1 d1) 42]) 2 rfl rfl).of hw_); clear S hw_; have S := Sn_; clear Sn_))
  refine bodyPost_ret (results_cell_row rfl _ _ gr 42 (gC (Gu.mk up slot epoch busy opK opS opA opB pc k n seq next who whoE own time was door beat entry snap plan code val count) A1 c1 B1 d1) (0, 0) _ rfl (S.out.blk 2 rfl) Try.underlying42 rfl (by kernel_rfl)) rfl ?_
  exact ⟨A1, c1, B1, d1, rfl, ⟨UO.wide (S.out.get 1 rfl) (S.out.ge 1 rfl) (S.out.le 1 rfl), UO.wide (S.out.get 0 rfl) (S.out.ge 0 rfl) (S.out.le 0 rfl), UO.neRow (S.out.get 1 rfl) (S.out.get 0 rfl) (S.out.ne 1 0 rfl rfl (by decide))⟩, S.out.base⟩
end Go.Proofs.Ytbcpkbbdmkmpkaa.Gu

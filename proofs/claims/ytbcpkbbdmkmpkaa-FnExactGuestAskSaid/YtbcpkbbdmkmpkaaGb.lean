/- GuestAsk, the reference's and the program's: walks. -/
import Derived.Test.YtbcpkbbdmkmpkaaGa
set_option linter.unusedVariables false
set_option linter.unusedSimpArgs false
namespace Go.Proofs.Ytbcpkbbdmkmpkaa.Gu
open Go.RowKit Go.Proofs.YtbcpkbbdmkmpkaaW.PrintWords Go.Proofs.YtbcpkbbdmkmpkaaW.PrintLast Go.Proofs.YtbcpkbbdmkmpkaaW.PrintMore Go.Proofs.Ytbcpkbbdmkmpkaa.St0

/-- A call is over. -/
def ansG (g : Gu) (code val : Int) : Gu := ⟨g.up, g.slot, g.epoch, false, g.opK, g.opS, g.opA, g.opB, 0, 0, 0, 0, 0, 0, 0, false, 0, 0, 0, 0, 0, [], [], code, val, wrap64 (g.count + 1)⟩
theorem within_t (n lo hi : Int) (w : World) (h0 : lo ≤ n) (h1 : n ≤ hi) : Calls Try.prog 83 #[.int .i64 n, .int .i64 lo, .int .i64 hi] w fun e w' => e = .returned (.bool true) ∧ Below w.heap.size w w' := by
  go_enter Try.func83, Try.ntmps83
  go_wp2
  go_ret
  exact ⟨rfl, (by repeat (first | exact Below.refl _ _ | apply below_drew1 | apply pw_below_drewN))⟩
theorem within_f1 (n lo hi : Int) (w : World) (h0 : ¬ lo ≤ n) : Calls Try.prog 83 #[.int .i64 n, .int .i64 lo, .int .i64 hi] w fun e w' => e = .returned (.bool false) ∧ Below w.heap.size w w' := by
  go_enter Try.func83, Try.ntmps83
  go_wp2
  go_ret
  exact ⟨rfl, (by repeat (first | exact Below.refl _ _ | apply below_drew1 | apply pw_below_drewN))⟩
theorem within_f2 (n lo hi : Int) (w : World) (h0 : lo ≤ n) (h1 : ¬ n ≤ hi) : Calls Try.prog 83 #[.int .i64 n, .int .i64 lo, .int .i64 hi] w fun e w' => e = .returned (.bool false) ∧ Below w.heap.size w w' := by
  go_enter Try.func83, Try.ntmps83
  go_wp2
  go_ret
  exact ⟨rfl, (by repeat (first | exact Below.refl _ _ | apply below_drew1 | apply pw_below_drewN))⟩
set_option maxHeartbeats 4000000 in
set_option maxRecDepth 100000 in
theorem answer_calls (g : Gu) (A : Option Addr) (cA : Nat) (B : Option Addr) (cB : Nat) (code val : Int) (w : World) (hc : (code == 0) = false) :
    Calls Try.prog 97 #[.agg (gC g A cA B cB), .int .i64 code, .int .i64 val] w fun e w' => e = .returned (.agg (gC (ansG g code val) none 0 none 0)) ∧ Below w.heap.size w w' := by
  obtain ⟨up, slot, epoch, busy, opK, opS, opA, opB, pc, k, n, seq, next, who, whoE, own, time, was, door, beat, entry, snap, plan, code0, val0, count⟩ := g
  unfold ansG
  by_cases hK : opK = 5
  · skip
    have hKb : (opK == 5) = true := by rw [hK]; rfl
    clear hK
    have S := Aside0.mk (St.start w)
    go_enter Try.func97, Try.ntmps97
    go_wp2_with (first | ((with_reducible refine gate_dst (N := 3) rfl ?_); refine box_event rfl (N := 3) rfl (cs := gC (Gu.mk up slot epoch busy opK opS opA opB pc k n seq next who whoE own time was door beat entry snap plan code0 val0 count) A cA B cB) (t := 42) (by first | (go_simp; done) | (go_simp; rfl)) ?_; intro gb hg_ w1 hbox_ hb_; have Sn_ := Aside0.mk (S.out.box hg_ hbox_ hb_); clear hbox_ hb_ hg_ S; have S := Sn_; clear Sn_; have f_gb_0 : w1.cell? ⟨gb, 0, none⟩ = some (.bool up) := (S.out.cell 0 rfl 0).trans rfl; have z_gb_0 := S.out.frozen 0 rfl 0; have f_gb_1 : w1.cell? ⟨gb, 1, none⟩ = some (.int .i64 slot) := (S.out.cell 0 rfl 1).trans rfl; have z_gb_1 := S.out.frozen 0 rfl 1; have f_gb_2 : w1.cell? ⟨gb, 2, none⟩ = some (.int .i64 epoch) := (S.out.cell 0 rfl 2).trans rfl; have z_gb_2 := S.out.frozen 0 rfl 2; have f_gb_4 : w1.cell? ⟨gb, 4, none⟩ = some (.int .i64 opK) := (S.out.cell 0 rfl 4).trans rfl; have z_gb_4 := S.out.frozen 0 rfl 4; have f_gb_5 : w1.cell? ⟨gb, 5, none⟩ = some (.int .i64 opS) := (S.out.cell 0 rfl 5).trans rfl; have z_gb_5 := S.out.frozen 0 rfl 5; have f_gb_6 : w1.cell? ⟨gb, 6, none⟩ = some (.int .i64 opA) := (S.out.cell 0 rfl 6).trans rfl; have z_gb_6 := S.out.frozen 0 rfl 6; have f_gb_7 : w1.cell? ⟨gb, 7, none⟩ = some (.int .i64 opB) := (S.out.cell 0 rfl 7).trans rfl; have z_gb_7 := S.out.frozen 0 rfl 7; have f_gb_25 : w1.cell? ⟨gb, 25, none⟩ = some (.int .i64 count) := (S.out.cell 0 rfl 25).trans rfl; have z_gb_25 := S.out.frozen 0 rfl 25) | ((with_reducible refine gate_dst (N := 6) rfl ?_); refine box_event rfl (N := 6) rfl (cs := #[.bool false, .int .i64 0, .int .i64 0, .bool false, .int .i64 0, .int .i64 0, .int .i64 0, .int .i64 0, .int .i64 0, .int .i64 0, .int .i64 0, .int .i64 0, .int .i64 0, .int .i64 0, .int .i64 0, .bool false, .int .i64 0, .int .u64 0, .int .u64 0, .int .u64 0, .int .u64 0, .slice none 0 0, .slice none 0 0, .int .i64 0, .int .i64 0, .int .i64 0]) (t := 42) (by first | (go_simp; done) | (go_simp; rfl)) ?_; intro gr hg_ w2 hbox_ hb_; have Sn_ := Aside0.mk (S.out.box hg_ hbox_ hb_); clear hbox_ hb_ hg_ S; have S := Sn_; clear Sn_; have f_gb_0 : w2.cell? ⟨gb, 0, none⟩ = some (.bool up) := (S.out.cell 1 rfl 0).trans rfl; have z_gb_0 := S.out.frozen 1 rfl 0; have f_gb_1 : w2.cell? ⟨gb, 1, none⟩ = some (.int .i64 slot) := (S.out.cell 1 rfl 1).trans rfl; have z_gb_1 := S.out.frozen 1 rfl 1; have f_gb_2 : w2.cell? ⟨gb, 2, none⟩ = some (.int .i64 epoch) := (S.out.cell 1 rfl 2).trans rfl; have z_gb_2 := S.out.frozen 1 rfl 2; have f_gb_4 : w2.cell? ⟨gb, 4, none⟩ = some (.int .i64 opK) := (S.out.cell 1 rfl 4).trans rfl; have z_gb_4 := S.out.frozen 1 rfl 4; have f_gb_5 : w2.cell? ⟨gb, 5, none⟩ = some (.int .i64 opS) := (S.out.cell 1 rfl 5).trans rfl; have z_gb_5 := S.out.frozen 1 rfl 5; have f_gb_6 : w2.cell? ⟨gb, 6, none⟩ = some (.int .i64 opA) := (S.out.cell 1 rfl 6).trans rfl; have z_gb_6 := S.out.frozen 1 rfl 6; have f_gb_7 : w2.cell? ⟨gb, 7, none⟩ = some (.int .i64 opB) := (S.out.cell 1 rfl 7).trans rfl; have z_gb_7 := S.out.frozen 1 rfl 7; have f_gb_25 : w2.cell? ⟨gb, 25, none⟩ = some (.int .i64 count) := (S.out.cell 1 rfl 25).trans rfl; have z_gb_25 := S.out.frozen 1 rfl 25) | ((with_reducible refine gate_store (t := 42) (p := 6) rfl ?_); refine store_event (t := 42) (p := 6) (v := ?vo_1) (w1 := w2.setRow gr (gC (Gu.mk up slot epoch false opK opS opA opB 0 0 0 0 0 0 0 false 0 0 0 0 0 [] [] code val (wrap64 (count + 1))) none 0 none 0)) ?hg ?ho ?hn ?hr ?_; (case ho => rfl); (case hg => rfl); (case hn => rfl); (case hr => exact (Row.store_row_run (g := gr) (cells := gC (Gu.mk up slot epoch false opK opS opA opB 0 0 0 0 0 0 0 false 0 0 0 0 0 [] [] code val (wrap64 (count + 1))) none 0 none 0) (t := 42) (old := #[.bool false, .int .i64 0, .int .i64 0, .bool false, .int .i64 0, .int .i64 0, .int .i64 0, .int .i64 0, .int .i64 0, .int .i64 0, .int .i64 0, .int .i64 0, .int .i64 0, .int .i64 0, .int .i64 0, .bool false, .int .i64 0, .int .u64 0, .int .u64 0, .int .u64 0, .int .u64 0, .slice none 0 0, .slice none 0 0, .int .i64 0, .int .i64 0, .int .i64 0]) rfl (by rfl) (by rfl) (S.out.blk 0 rfl) (by kernel_rfl) rfl (by simp [Value.oneCell', gC]))); intro w3 hw_; have Sn_ := Aside0.mk ((S.out.setRow (cs' := gC (Gu.mk up slot epoch false opK opS opA opB 0 0 0 0 0 0 0 false 0 0 0 0 0 [] [] code val (wrap64 (count + 1))) none 0 none 0) (rs' := [Blk gr (gC (Gu.mk up slot epoch false opK opS opA opB 0 0 0 0 0 0 0 false 0 0 0 0 0 [] [] code val (wrap64 (count + 1))) none 0 none 0) 42, Blk gb (gC (Gu.mk up slot epoch busy opK opS opA opB pc k n seq next who whoE own time was door beat entry snap plan code0 val0 count) A cA B cB) 42]) 0 rfl rfl).of hw_); clear S hw_; have S := Sn_; clear Sn_; have f_gb_0 : w3.cell? ⟨gb, 0, none⟩ = some (.bool up) := (S.out.cell 1 rfl 0).trans rfl; have z_gb_0 := S.out.frozen 1 rfl 0; have f_gb_1 : w3.cell? ⟨gb, 1, none⟩ = some (.int .i64 slot) := (S.out.cell 1 rfl 1).trans rfl; have z_gb_1 := S.out.frozen 1 rfl 1; have f_gb_2 : w3.cell? ⟨gb, 2, none⟩ = some (.int .i64 epoch) := (S.out.cell 1 rfl 2).trans rfl; have z_gb_2 := S.out.frozen 1 rfl 2; have f_gb_4 : w3.cell? ⟨gb, 4, none⟩ = some (.int .i64 opK) := (S.out.cell 1 rfl 4).trans rfl; have z_gb_4 := S.out.frozen 1 rfl 4; have f_gb_5 : w3.cell? ⟨gb, 5, none⟩ = some (.int .i64 opS) := (S.out.cell 1 rfl 5).trans rfl; have z_gb_5 := S.out.frozen 1 rfl 5; have f_gb_6 : w3.cell? ⟨gb, 6, none⟩ = some (.int .i64 opA) := (S.out.cell 1 rfl 6).trans rfl; have z_gb_6 := S.out.frozen 1 rfl 6; have f_gb_7 : w3.cell? ⟨gb, 7, none⟩ = some (.int .i64 opB) := (S.out.cell 1 rfl 7).trans rfl; have z_gb_7 := S.out.frozen 1 rfl 7; have f_gb_25 : w3.cell? ⟨gb, 25, none⟩ = some (.int .i64 count) := (S.out.cell 1 rfl 25).trans rfl; have z_gb_25 := S.out.frozen 1 rfl 25))
    refine bodyPost_ret (results_cell_row rfl _ _ gr 42 (gC (Gu.mk up slot epoch false opK opS opA opB 0 0 0 0 0 0 0 false 0 0 0 0 0 [] [] code val (wrap64 (count + 1))) none 0 none 0) (0, 0) _ rfl (S.out.blk 0 rfl) Try.underlying42 rfl (by kernel_rfl)) rfl ?_
    exact ⟨rfl, S.out.base⟩
  · skip
    have hKb : (opK == 5) = false := beq_eq_false_iff_ne.mpr hK
    clear hK
    have S := Aside0.mk (St.start w)
    go_enter Try.func97, Try.ntmps97
    go_wp2_with (first | ((with_reducible refine gate_dst (N := 3) rfl ?_); refine box_event rfl (N := 3) rfl (cs := gC (Gu.mk up slot epoch busy opK opS opA opB pc k n seq next who whoE own time was door beat entry snap plan code0 val0 count) A cA B cB) (t := 42) (by first | (go_simp; done) | (go_simp; rfl)) ?_; intro gb hg_ w1 hbox_ hb_; have Sn_ := Aside0.mk (S.out.box hg_ hbox_ hb_); clear hbox_ hb_ hg_ S; have S := Sn_; clear Sn_; have f_gb_0 : w1.cell? ⟨gb, 0, none⟩ = some (.bool up) := (S.out.cell 0 rfl 0).trans rfl; have z_gb_0 := S.out.frozen 0 rfl 0; have f_gb_1 : w1.cell? ⟨gb, 1, none⟩ = some (.int .i64 slot) := (S.out.cell 0 rfl 1).trans rfl; have z_gb_1 := S.out.frozen 0 rfl 1; have f_gb_2 : w1.cell? ⟨gb, 2, none⟩ = some (.int .i64 epoch) := (S.out.cell 0 rfl 2).trans rfl; have z_gb_2 := S.out.frozen 0 rfl 2; have f_gb_4 : w1.cell? ⟨gb, 4, none⟩ = some (.int .i64 opK) := (S.out.cell 0 rfl 4).trans rfl; have z_gb_4 := S.out.frozen 0 rfl 4; have f_gb_5 : w1.cell? ⟨gb, 5, none⟩ = some (.int .i64 opS) := (S.out.cell 0 rfl 5).trans rfl; have z_gb_5 := S.out.frozen 0 rfl 5; have f_gb_6 : w1.cell? ⟨gb, 6, none⟩ = some (.int .i64 opA) := (S.out.cell 0 rfl 6).trans rfl; have z_gb_6 := S.out.frozen 0 rfl 6; have f_gb_7 : w1.cell? ⟨gb, 7, none⟩ = some (.int .i64 opB) := (S.out.cell 0 rfl 7).trans rfl; have z_gb_7 := S.out.frozen 0 rfl 7; have f_gb_25 : w1.cell? ⟨gb, 25, none⟩ = some (.int .i64 count) := (S.out.cell 0 rfl 25).trans rfl; have z_gb_25 := S.out.frozen 0 rfl 25) | ((with_reducible refine gate_dst (N := 6) rfl ?_); refine box_event rfl (N := 6) rfl (cs := #[.bool false, .int .i64 0, .int .i64 0, .bool false, .int .i64 0, .int .i64 0, .int .i64 0, .int .i64 0, .int .i64 0, .int .i64 0, .int .i64 0, .int .i64 0, .int .i64 0, .int .i64 0, .int .i64 0, .bool false, .int .i64 0, .int .u64 0, .int .u64 0, .int .u64 0, .int .u64 0, .slice none 0 0, .slice none 0 0, .int .i64 0, .int .i64 0, .int .i64 0]) (t := 42) (by first | (go_simp; done) | (go_simp; rfl)) ?_; intro gr hg_ w2 hbox_ hb_; have Sn_ := Aside0.mk (S.out.box hg_ hbox_ hb_); clear hbox_ hb_ hg_ S; have S := Sn_; clear Sn_; have f_gb_0 : w2.cell? ⟨gb, 0, none⟩ = some (.bool up) := (S.out.cell 1 rfl 0).trans rfl; have z_gb_0 := S.out.frozen 1 rfl 0; have f_gb_1 : w2.cell? ⟨gb, 1, none⟩ = some (.int .i64 slot) := (S.out.cell 1 rfl 1).trans rfl; have z_gb_1 := S.out.frozen 1 rfl 1; have f_gb_2 : w2.cell? ⟨gb, 2, none⟩ = some (.int .i64 epoch) := (S.out.cell 1 rfl 2).trans rfl; have z_gb_2 := S.out.frozen 1 rfl 2; have f_gb_4 : w2.cell? ⟨gb, 4, none⟩ = some (.int .i64 opK) := (S.out.cell 1 rfl 4).trans rfl; have z_gb_4 := S.out.frozen 1 rfl 4; have f_gb_5 : w2.cell? ⟨gb, 5, none⟩ = some (.int .i64 opS) := (S.out.cell 1 rfl 5).trans rfl; have z_gb_5 := S.out.frozen 1 rfl 5; have f_gb_6 : w2.cell? ⟨gb, 6, none⟩ = some (.int .i64 opA) := (S.out.cell 1 rfl 6).trans rfl; have z_gb_6 := S.out.frozen 1 rfl 6; have f_gb_7 : w2.cell? ⟨gb, 7, none⟩ = some (.int .i64 opB) := (S.out.cell 1 rfl 7).trans rfl; have z_gb_7 := S.out.frozen 1 rfl 7; have f_gb_25 : w2.cell? ⟨gb, 25, none⟩ = some (.int .i64 count) := (S.out.cell 1 rfl 25).trans rfl; have z_gb_25 := S.out.frozen 1 rfl 25) | ((with_reducible refine gate_store (t := 42) (p := 6) rfl ?_); refine store_event (t := 42) (p := 6) (v := ?vo_2) (w1 := w2.setRow gr (gC (Gu.mk up slot epoch false opK opS opA opB 0 0 0 0 0 0 0 false 0 0 0 0 0 [] [] code val (wrap64 (count + 1))) none 0 none 0)) ?hg ?ho ?hn ?hr ?_; (case ho => rfl); (case hg => rfl); (case hn => rfl); (case hr => exact (Row.store_row_run (g := gr) (cells := gC (Gu.mk up slot epoch false opK opS opA opB 0 0 0 0 0 0 0 false 0 0 0 0 0 [] [] code val (wrap64 (count + 1))) none 0 none 0) (t := 42) (old := #[.bool false, .int .i64 0, .int .i64 0, .bool false, .int .i64 0, .int .i64 0, .int .i64 0, .int .i64 0, .int .i64 0, .int .i64 0, .int .i64 0, .int .i64 0, .int .i64 0, .int .i64 0, .int .i64 0, .bool false, .int .i64 0, .int .u64 0, .int .u64 0, .int .u64 0, .int .u64 0, .slice none 0 0, .slice none 0 0, .int .i64 0, .int .i64 0, .int .i64 0]) rfl (by rfl) (by rfl) (S.out.blk 0 rfl) (by kernel_rfl) rfl (by simp [Value.oneCell', gC]))); intro w3 hw_; have Sn_ := Aside0.mk ((S.out.setRow (cs' := gC (Gu.mk up slot epoch false opK opS opA opB 0 0 0 0 0 0 0 false 0 0 0 0 0 [] [] code val (wrap64 (count + 1))) none 0 none 0) (rs' := [Blk gr (gC (Gu.mk up slot epoch false opK opS opA opB 0 0 0 0 0 0 0 false 0 0 0 0 0 [] [] code val (wrap64 (count + 1))) none 0 none 0) 42, Blk gb (gC (Gu.mk up slot epoch busy opK opS opA opB pc k n seq next who whoE own time was door beat entry snap plan code0 val0 count) A cA B cB) 42]) 0 rfl rfl).of hw_); clear S hw_; have S := Sn_; clear Sn_; have f_gb_0 : w3.cell? ⟨gb, 0, none⟩ = some (.bool up) := (S.out.cell 1 rfl 0).trans rfl; have z_gb_0 := S.out.frozen 1 rfl 0; have f_gb_1 : w3.cell? ⟨gb, 1, none⟩ = some (.int .i64 slot) := (S.out.cell 1 rfl 1).trans rfl; have z_gb_1 := S.out.frozen 1 rfl 1; have f_gb_2 : w3.cell? ⟨gb, 2, none⟩ = some (.int .i64 epoch) := (S.out.cell 1 rfl 2).trans rfl; have z_gb_2 := S.out.frozen 1 rfl 2; have f_gb_4 : w3.cell? ⟨gb, 4, none⟩ = some (.int .i64 opK) := (S.out.cell 1 rfl 4).trans rfl; have z_gb_4 := S.out.frozen 1 rfl 4; have f_gb_5 : w3.cell? ⟨gb, 5, none⟩ = some (.int .i64 opS) := (S.out.cell 1 rfl 5).trans rfl; have z_gb_5 := S.out.frozen 1 rfl 5; have f_gb_6 : w3.cell? ⟨gb, 6, none⟩ = some (.int .i64 opA) := (S.out.cell 1 rfl 6).trans rfl; have z_gb_6 := S.out.frozen 1 rfl 6; have f_gb_7 : w3.cell? ⟨gb, 7, none⟩ = some (.int .i64 opB) := (S.out.cell 1 rfl 7).trans rfl; have z_gb_7 := S.out.frozen 1 rfl 7; have f_gb_25 : w3.cell? ⟨gb, 25, none⟩ = some (.int .i64 count) := (S.out.cell 1 rfl 25).trans rfl; have z_gb_25 := S.out.frozen 1 rfl 25))
    refine bodyPost_ret (results_cell_row rfl _ _ gr 42 (gC (Gu.mk up slot epoch false opK opS opA opB 0 0 0 0 0 0 0 false 0 0 0 0 0 [] [] code val (wrap64 (count + 1))) none 0 none 0) (0, 0) _ rfl (S.out.blk 0 rfl) Try.underlying42 rfl (by kernel_rfl)) rfl ?_
    exact ⟨rfl, S.out.base⟩
set_option maxHeartbeats 4000000 in
set_option maxRecDepth 100000 in
theorem complete_calls (g : Gu) (A : Option Addr) (cA : Nat) (B : Option Addr) (cB : Nat) (gb : Nat) (code val : Int) (w : World) (h : w.heap[gb]? = some (.cells (gC g A cA B cB) 42 (0, 0))) (hc : (code == 0) = false) :
    Calls Try.prog 99 #[.pointer (some ⟨gb, 0, none⟩), .int .i64 code, .int .i64 val] w fun e w' => e = .returned (.tuple #[]) ∧ w'.heap[gb]? = some (.cells (gC (ansG g code val) none 0 none 0) 42 (0, 0)) ∧ Keep gb (gb + 1) w w' := by
  obtain ⟨up, slot, epoch, busy, opK, opS, opA, opB, pc, k, n, seq, next, who, whoE, own, time, was, door, beat, entry, snap, plan, code0, val0, count⟩ := g
  unfold ansG
  have S := Aside0.mk h
  clear h
  by_cases hK : opK = 5
  · skip
    have hKb : (opK == 5) = true := by rw [hK]; rfl
    clear hK
    have f2 : w.cell? ⟨gb, 2, none⟩ = some (.int .i64 epoch) := (blk_cell S.out 2).trans rfl
    have f4 : w.cell? ⟨gb, 4, none⟩ = some (.int .i64 opK) := (blk_cell S.out 4).trans rfl
    go_enter Try.func99, Try.ntmps99
    go_wp2_with fail
    clear f2 f4
    refine start_ (n := 24) (S := fun w_ => w_.heap[gb]? = some (.cells (gC (Gu.mk up slot epoch busy opK opS opA opB pc k n seq next who whoE own time was door beat entry snap plan code0 val0 count) A cA B cB) 42 (0, 0))) (ds := [23]) #[false, false, false, false, false, false, false, false, false, false, false, false, false, false, false, false, false, false, false, false, false, false, false, false] (by kernel_rfl) rfl rfl (S.out) (fun hH_ => ?_)
    refine pure_ (i := 0) (N := some 21) (v := ?_) (a' := ?_) #[true, false, false, false, false, false, false, false, false, false, false, false, false, false, false, false, false, false, false, false, false, false, false, false] rfl rfl (by kernel_rfl) (fun _ _ _ h => h) (Or.inl ⟨by rfl, ?_⟩) ?_ ?_
    rotate_left
    · intro w'
      go_simp
      with_reducible rfl
    rotate_left
    · simp only [Act.put, List.setIfInBounds_toArray, List.set_cons_zero, List.set_cons_succ, i64_w, i32_w]
      rfl
    refine pure_ (i := 1) (N := some 22) (v := ?_) (a' := ?_) #[true, true, false, false, false, false, false, false, false, false, false, false, false, false, false, false, false, false, false, false, false, false, false, false] rfl rfl (by kernel_rfl) (fun _ _ _ h => h) (Or.inl ⟨by rfl, ?_⟩) ?_ ?_
    rotate_left
    · intro w'
      go_simp
      with_reducible rfl
    rotate_left
    · simp only [Act.put, List.setIfInBounds_toArray, List.set_cons_zero, List.set_cons_succ, i64_w, i32_w]
      rfl
    refine pure_ (i := 5) (N := some 26) (v := ?_) (a' := ?_) #[true, true, false, false, false, true, false, false, false, false, false, false, false, false, false, false, false, false, false, false, false, false, false, false] rfl rfl (by kernel_rfl) (fun _ _ _ h => h) (Or.inl ⟨by rfl, ?_⟩) ?_ ?_
    rotate_left
    · intro w'
      go_simp
      with_reducible rfl
    rotate_left
    · simp only [Act.put, List.setIfInBounds_toArray, List.set_cons_zero, List.set_cons_succ, i64_w, i32_w]
      rfl
    refine pure_ (i := 9) (N := some 30) (v := ?_) (a' := ?_) #[true, true, false, false, false, true, false, false, false, true, false, false, false, false, false, false, false, false, false, false, false, false, false, false] rfl rfl (by kernel_rfl) (fun _ _ _ h => h) (Or.inl ⟨by rfl, ?_⟩) ?_ ?_
    rotate_left
    · intro w'
      go_simp
      with_reducible rfl
    rotate_left
    · simp only [Act.put, List.setIfInBounds_toArray, List.set_cons_zero, List.set_cons_succ, i64_w, i32_w]
      rfl
    refine pure_ (i := 10) (N := some 31) (v := ?_) (a' := ?_) #[true, true, false, false, false, true, false, false, false, true, true, false, false, false, false, false, false, false, false, false, false, false, false, false] rfl rfl (by kernel_rfl) (fun _ _ _ h => h) (Or.inl ⟨by rfl, ?_⟩) ?_ ?_
    rotate_left
    · intro w'
      go_simp
      with_reducible rfl
    rotate_left
    · simp only [Act.put, List.setIfInBounds_toArray, List.set_cons_zero, List.set_cons_succ, i64_w, i32_w]
      rfl
    refine pure_ (i := 14) (N := some 35) (v := ?_) (a' := ?_) #[true, true, false, false, false, true, false, false, false, true, true, false, false, false, true, false, false, false, false, false, false, false, false, false] rfl rfl (by kernel_rfl) (fun _ _ _ h => h) (Or.inl ⟨by rfl, ?_⟩) ?_ ?_
    rotate_left
    · intro w'
      go_simp
      with_reducible rfl
    rotate_left
    · simp only [Act.put, List.setIfInBounds_toArray, List.set_cons_zero, List.set_cons_succ, i64_w, i32_w]
      rfl
    refine pure_ (i := 15) (N := some 36) (v := ?_) (a' := ?_) #[true, true, false, false, false, true, false, false, false, true, true, false, false, false, true, true, false, false, false, false, false, false, false, false] rfl rfl (by kernel_rfl) (fun _ _ _ h => h) (Or.inl ⟨by rfl, ?_⟩) ?_ ?_
    rotate_left
    · intro w'
      go_simp
      with_reducible rfl
    rotate_left
    · simp only [Act.put, List.setIfInBounds_toArray, List.set_cons_zero, List.set_cons_succ, i64_w, i32_w]
      rfl
    refine pure_ (i := 16) (N := some 37) (v := ?_) (a' := ?_) #[true, true, false, false, false, true, false, false, false, true, true, false, false, false, true, true, true, false, false, false, false, false, false, false] rfl rfl (by kernel_rfl) (fun _ _ _ h => h) (Or.inl ⟨by rfl, ?_⟩) ?_ ?_
    rotate_left
    · intro w'
      go_simp
      with_reducible rfl
    rotate_left
    · simp only [Act.put, List.setIfInBounds_toArray, List.set_cons_zero, List.set_cons_succ, i64_w, i32_w]
      rfl
    refine pure_ (i := 2) (N := some 23) (v := ?_) (a' := ?_) #[true, true, true, false, false, true, false, false, false, true, true, false, false, false, true, true, true, false, false, false, false, false, false, false] rfl rfl (by kernel_rfl) (fun _ _ _ h => h) (Or.inl ⟨by rfl, ?_⟩) ?_ ?_
    rotate_left
    · intro w'
      go_simp
      with_reducible rfl
    rotate_left
    · simp only [Act.put, List.setIfInBounds_toArray, List.set_cons_zero, List.set_cons_succ, i64_w, i32_w]
      rfl
    refine pure_ (i := 6) (N := some 27) (v := ?_) (a' := ?_) #[true, true, true, false, false, true, true, false, false, true, true, false, false, false, true, true, true, false, false, false, false, false, false, false] rfl rfl (by kernel_rfl) (fun _ _ _ h => h) (Or.inl ⟨by rfl, ?_⟩) ?_ ?_
    rotate_left
    · intro w'
      go_simp
      with_reducible rfl
    rotate_left
    · simp only [Act.put, List.setIfInBounds_toArray, List.set_cons_zero, List.set_cons_succ, i64_w, i32_w]
      rfl
    refine pure_ (i := 11) (N := some 32) (v := ?_) (a' := ?_) #[true, true, true, false, false, true, true, false, false, true, true, true, false, false, true, true, true, false, false, false, false, false, false, false] rfl rfl (by kernel_rfl) (fun _ _ _ h => h) (Or.inl ⟨by rfl, ?_⟩) ?_ ?_
    rotate_left
    · intro w'
      go_simp
      with_reducible rfl
    rotate_left
    · simp only [Act.put, List.setIfInBounds_toArray, List.set_cons_zero, List.set_cons_succ, i64_w, i32_w]
      rfl
    refine pure_ (i := 17) (N := some 38) (v := ?_) (a' := ?_) #[true, true, true, false, false, true, true, false, false, true, true, true, false, false, true, true, true, true, false, false, false, false, false, false] rfl rfl (by kernel_rfl) (fun _ _ _ h => h) (Or.inl ⟨by rfl, ?_⟩) ?_ ?_
    rotate_left
    · intro w'
      go_simp
      with_reducible rfl
    rotate_left
    · simp only [Act.put, List.setIfInBounds_toArray, List.set_cons_zero, List.set_cons_succ, i64_w, i32_w]
      rfl
    refine pure_ (i := 3) (N := some 24) (v := ?_) (a' := ?_) #[true, true, true, true, false, true, true, false, false, true, true, true, false, false, true, true, true, true, false, false, false, false, false, false] rfl rfl (by kernel_rfl) (fun _ _ _ h => h) (Or.inl ⟨by rfl, ?_⟩) ?_ ?_
    rotate_left
    · intro w'
      go_simp
      with_reducible rfl
    rotate_left
    · simp only [Act.put, List.setIfInBounds_toArray, List.set_cons_zero, List.set_cons_succ, i64_w, i32_w]
      rfl
    refine pure_ (i := 7) (N := some 28) (v := ?_) (a' := ?_) #[true, true, true, true, false, true, true, true, false, true, true, true, false, false, true, true, true, true, false, false, false, false, false, false] rfl rfl (by kernel_rfl) (fun _ _ _ h => h) (Or.inl ⟨by rfl, ?_⟩) ?_ ?_
    rotate_left
    · intro w'
      go_simp
      with_reducible rfl
    rotate_left
    · simp only [Act.put, List.setIfInBounds_toArray, List.set_cons_zero, List.set_cons_succ, i64_w, i32_w]
      rfl
    refine pure_ (i := 12) (N := some 33) (v := ?_) (a' := ?_) #[true, true, true, true, false, true, true, true, false, true, true, true, true, false, true, true, true, true, false, false, false, false, false, false] rfl rfl (by kernel_rfl) (fun _ _ _ h => h) (Or.inl ⟨by rfl, ?_⟩) ?_ ?_
    rotate_left
    · intro w'
      go_simp
      with_reducible rfl
    rotate_left
    · simp only [Act.put, List.setIfInBounds_toArray, List.set_cons_zero, List.set_cons_succ, i64_w, i32_w]
      rfl
    refine pure_ (i := 18) (N := some 39) (v := ?_) (a' := ?_) #[true, true, true, true, false, true, true, true, false, true, true, true, true, false, true, true, true, true, true, false, false, false, false, false] rfl rfl (by kernel_rfl) (fun _ _ _ h => h) (Or.inl ⟨by rfl, ?_⟩) ?_ ?_
    rotate_left
    · intro w'
      go_simp
      with_reducible rfl
    rotate_left
    · simp only [Act.put, List.setIfInBounds_toArray, List.set_cons_zero, List.set_cons_succ, i64_w, i32_w]
      rfl
    refine take_ (i := 4) (N := some 25) (v := ?_) (a' := ?_) #[true, true, true, true, true, true, true, true, false, true, true, true, true, false, true, true, true, true, true, false, false, false, false, false] rfl rfl (by kernel_rfl) (fun _ _ _ h => h) (Or.inl ⟨by rfl, ?_⟩) hH_ ?_ ?_
    rotate_left
    · intro w' s0
      have f0_ : w'.cell? ⟨gb, 0, none⟩ = some (.bool up) := (blk_cell s0 0).trans rfl
      clear s0
      go_simp
      with_reducible rfl
    rotate_left
    · simp only [Act.put, List.setIfInBounds_toArray, List.set_cons_zero, List.set_cons_succ, i64_w, i32_w]
      rfl
    refine take_ (i := 8) (N := some 29) (v := ?_) (a' := ?_) #[true, true, true, true, true, true, true, true, true, true, true, true, true, false, true, true, true, true, true, false, false, false, false, false] rfl rfl (by kernel_rfl) (fun _ _ _ h => h) (Or.inl ⟨by rfl, ?_⟩) hH_ ?_ ?_
    rotate_left
    · intro w' s0
      have f1_ : w'.cell? ⟨gb, 1, none⟩ = some (.int .i64 slot) := (blk_cell s0 1).trans rfl
      clear s0
      go_simp
      with_reducible rfl
    rotate_left
    · simp only [Act.put, List.setIfInBounds_toArray, List.set_cons_zero, List.set_cons_succ, i64_w, i32_w]
      rfl
    refine take_ (i := 13) (N := some 34) (v := ?_) (a' := ?_) #[true, true, true, true, true, true, true, true, true, true, true, true, true, true, true, true, true, true, true, false, false, false, false, false] rfl rfl (by kernel_rfl) (fun _ _ _ h => h) (Or.inl ⟨by rfl, ?_⟩) hH_ ?_ ?_
    rotate_left
    · intro w' s0
      have f4_ : w'.cell? ⟨gb, 4, none⟩ = some (.int .i64 opK) := (blk_cell s0 4).trans rfl
      have f5_ : w'.cell? ⟨gb, 5, none⟩ = some (.int .i64 opS) := (blk_cell s0 5).trans rfl
      have f6_ : w'.cell? ⟨gb, 6, none⟩ = some (.int .i64 opA) := (blk_cell s0 6).trans rfl
      have f7_ : w'.cell? ⟨gb, 7, none⟩ = some (.int .i64 opB) := (blk_cell s0 7).trans rfl
      clear s0
      go_simp
      with_reducible rfl
    rotate_left
    · simp only [Act.put, List.setIfInBounds_toArray, List.set_cons_zero, List.set_cons_succ, i64_w, i32_w]
      rfl
    refine take_ (i := 19) (N := some 40) (v := ?_) (a' := ?_) #[true, true, true, true, true, true, true, true, true, true, true, true, true, true, true, true, true, true, true, true, false, false, false, false] rfl rfl (by kernel_rfl) (fun _ _ _ h => h) (Or.inl ⟨by rfl, ?_⟩) hH_ ?_ ?_
    rotate_left
    · intro w' s0
      have f25_ : w'.cell? ⟨gb, 25, none⟩ = some (.int .i64 count) := (blk_cell s0 25).trans rfl
      clear s0
      go_simp
      with_reducible rfl
    rotate_left
    · simp only [Act.put, List.setIfInBounds_toArray, List.set_cons_zero, List.set_cons_succ, i64_w, i32_w]
      rfl
    refine pure_ (i := 20) (N := some 41) (v := ?_) (a' := ?_) #[true, true, true, true, true, true, true, true, true, true, true, true, true, true, true, true, true, true, true, true, true, false, false, false] rfl rfl (by kernel_rfl) (fun _ _ _ h => h) (Or.inl ⟨by rfl, ?_⟩) ?_ ?_
    rotate_left
    · intro w'
      go_simp
      with_reducible rfl
    rotate_left
    · simp only [Act.put, List.setIfInBounds_toArray, List.set_cons_zero, List.set_cons_succ, i64_w, i32_w]
      rfl
    refine pure_ (i := 21) (N := some 42) (v := ?_) (a' := ?_) #[true, true, true, true, true, true, true, true, true, true, true, true, true, true, true, true, true, true, true, true, true, true, false, false] rfl rfl (by kernel_rfl) (fun _ _ _ h => h) (Or.inl ⟨by rfl, ?_⟩) ?_ ?_
    rotate_left
    · intro w'
      go_simp
      with_reducible rfl
    rotate_left
    · simp only [Act.put, List.setIfInBounds_toArray, List.set_cons_zero, List.set_cons_succ, i64_w, i32_w]
      rfl
    refine pure_ (i := 22) (N := some 43) (v := ?_) (a' := ?_) #[true, true, true, true, true, true, true, true, true, true, true, true, true, true, true, true, true, true, true, true, true, true, true, false] rfl rfl (by kernel_rfl) (fun _ _ _ h => h) (Or.inl ⟨by rfl, ?_⟩) ?_ ?_
    rotate_left
    · intro w'
      go_simp
      with_reducible rfl
    rotate_left
    · simp only [Act.put, List.setIfInBounds_toArray, List.set_cons_zero, List.set_cons_succ, i64_w, i32_w]
      rfl
    refine last_ (i := 23) (N := none) #[true, true, true, true, true, true, true, true, true, true, true, true, true, true, true, true, true, true, true, true, true, true, true, true] rfl rfl (by kernel_rfl) (by decide) (fun K hK => ?_)
    refine skip_ (w1 := w.drew.setRow gb (gC (Gu.mk up slot epoch false opK opS opA opB 0 0 0 0 0 0 0 false 0 0 0 0 0 [] [] code val (wrap64 (count + 1))) none 0 none 0)) (by rfl) rfl (Row.store_row_run (g := gb) (cells := gC (Gu.mk up slot epoch false opK opS opA opB 0 0 0 0 0 0 0 false 0 0 0 0 0 [] [] code val (wrap64 (count + 1))) none 0 none 0) (t := 42) (old := gC (Gu.mk up slot epoch busy opK opS opA opB pc k n seq next who whoE own time was door beat entry snap plan code0 val0 count) A cA B cB) rfl (by rfl) (by rfl) hH_ (by kernel_rfl) rfl (by simp [Value.oneCell', gC])) ?_
    refine hK.out _ _ ?_
    clear hK K
    have Sn_ := Aside0.mk (And.intro (setRow_heap _ gb _ (gC (Gu.mk up slot epoch false opK opS opA opB 0 0 0 0 0 0 0 false 0 0 0 0 0 [] [] code val (wrap64 (count + 1))) none 0 none 0) 42 (0, 0) hH_) (Keep.trans (show Keep gb (gb + 1) w w.drew from ⟨rfl, rfl, rfl, Nat.le_refl _, fun _ _ _ => rfl⟩) (St.keep_row w.drew gb (gC (Gu.mk up slot epoch false opK opS opA opB 0 0 0 0 0 0 0 false 0 0 0 0 0 [] [] code val (wrap64 (count + 1))) none 0 none 0))))
    clear S
    have S := Sn_
    clear Sn_
    obtain ⟨w1, hw_⟩ : ∃ w_, w.drew.setRow gb (gC (Gu.mk up slot epoch false opK opS opA opB 0 0 0 0 0 0 0 false 0 0 0 0 0 [] [] code val (wrap64 (count + 1))) none 0 none 0) = w_ := ⟨_, rfl⟩
    rw [hw_] at S
    rw [hw_]
    clear hw_
    clear hH_
    refine done_ (by kernel_rfl) ?_
    exact ⟨rfl, .tuple #[], by first | rfl | simp [results, Try.results99], rfl, S.out.1, S.out.2⟩
  · skip
    have hKb : (opK == 5) = false := beq_eq_false_iff_ne.mpr hK
    clear hK
    have f2 : w.cell? ⟨gb, 2, none⟩ = some (.int .i64 epoch) := (blk_cell S.out 2).trans rfl
    have f4 : w.cell? ⟨gb, 4, none⟩ = some (.int .i64 opK) := (blk_cell S.out 4).trans rfl
    go_enter Try.func99, Try.ntmps99
    go_wp2_with fail
    clear f2 f4
    refine start_ (n := 24) (S := fun w_ => w_.heap[gb]? = some (.cells (gC (Gu.mk up slot epoch busy opK opS opA opB pc k n seq next who whoE own time was door beat entry snap plan code0 val0 count) A cA B cB) 42 (0, 0))) (ds := [23]) #[false, false, false, false, false, false, false, false, false, false, false, false, false, false, false, false, false, false, false, false, false, false, false, false] (by kernel_rfl) rfl rfl (S.out) (fun hH_ => ?_)
    refine pure_ (i := 0) (N := some 21) (v := ?_) (a' := ?_) #[true, false, false, false, false, false, false, false, false, false, false, false, false, false, false, false, false, false, false, false, false, false, false, false] rfl rfl (by kernel_rfl) (fun _ _ _ h => h) (Or.inl ⟨by rfl, ?_⟩) ?_ ?_
    rotate_left
    · intro w'
      go_simp
      with_reducible rfl
    rotate_left
    · simp only [Act.put, List.setIfInBounds_toArray, List.set_cons_zero, List.set_cons_succ, i64_w, i32_w]
      rfl
    refine pure_ (i := 1) (N := some 22) (v := ?_) (a' := ?_) #[true, true, false, false, false, false, false, false, false, false, false, false, false, false, false, false, false, false, false, false, false, false, false, false] rfl rfl (by kernel_rfl) (fun _ _ _ h => h) (Or.inl ⟨by rfl, ?_⟩) ?_ ?_
    rotate_left
    · intro w'
      go_simp
      with_reducible rfl
    rotate_left
    · simp only [Act.put, List.setIfInBounds_toArray, List.set_cons_zero, List.set_cons_succ, i64_w, i32_w]
      rfl
    refine pure_ (i := 5) (N := some 26) (v := ?_) (a' := ?_) #[true, true, false, false, false, true, false, false, false, false, false, false, false, false, false, false, false, false, false, false, false, false, false, false] rfl rfl (by kernel_rfl) (fun _ _ _ h => h) (Or.inl ⟨by rfl, ?_⟩) ?_ ?_
    rotate_left
    · intro w'
      go_simp
      with_reducible rfl
    rotate_left
    · simp only [Act.put, List.setIfInBounds_toArray, List.set_cons_zero, List.set_cons_succ, i64_w, i32_w]
      rfl
    refine pure_ (i := 9) (N := some 30) (v := ?_) (a' := ?_) #[true, true, false, false, false, true, false, false, false, true, false, false, false, false, false, false, false, false, false, false, false, false, false, false] rfl rfl (by kernel_rfl) (fun _ _ _ h => h) (Or.inl ⟨by rfl, ?_⟩) ?_ ?_
    rotate_left
    · intro w'
      go_simp
      with_reducible rfl
    rotate_left
    · simp only [Act.put, List.setIfInBounds_toArray, List.set_cons_zero, List.set_cons_succ, i64_w, i32_w]
      rfl
    refine pure_ (i := 10) (N := some 31) (v := ?_) (a' := ?_) #[true, true, false, false, false, true, false, false, false, true, true, false, false, false, false, false, false, false, false, false, false, false, false, false] rfl rfl (by kernel_rfl) (fun _ _ _ h => h) (Or.inl ⟨by rfl, ?_⟩) ?_ ?_
    rotate_left
    · intro w'
      go_simp
      with_reducible rfl
    rotate_left
    · simp only [Act.put, List.setIfInBounds_toArray, List.set_cons_zero, List.set_cons_succ, i64_w, i32_w]
      rfl
    refine pure_ (i := 14) (N := some 35) (v := ?_) (a' := ?_) #[true, true, false, false, false, true, false, false, false, true, true, false, false, false, true, false, false, false, false, false, false, false, false, false] rfl rfl (by kernel_rfl) (fun _ _ _ h => h) (Or.inl ⟨by rfl, ?_⟩) ?_ ?_
    rotate_left
    · intro w'
      go_simp
      with_reducible rfl
    rotate_left
    · simp only [Act.put, List.setIfInBounds_toArray, List.set_cons_zero, List.set_cons_succ, i64_w, i32_w]
      rfl
    refine pure_ (i := 15) (N := some 36) (v := ?_) (a' := ?_) #[true, true, false, false, false, true, false, false, false, true, true, false, false, false, true, true, false, false, false, false, false, false, false, false] rfl rfl (by kernel_rfl) (fun _ _ _ h => h) (Or.inl ⟨by rfl, ?_⟩) ?_ ?_
    rotate_left
    · intro w'
      go_simp
      with_reducible rfl
    rotate_left
    · simp only [Act.put, List.setIfInBounds_toArray, List.set_cons_zero, List.set_cons_succ, i64_w, i32_w]
      rfl
    refine pure_ (i := 16) (N := some 37) (v := ?_) (a' := ?_) #[true, true, false, false, false, true, false, false, false, true, true, false, false, false, true, true, true, false, false, false, false, false, false, false] rfl rfl (by kernel_rfl) (fun _ _ _ h => h) (Or.inl ⟨by rfl, ?_⟩) ?_ ?_
    rotate_left
    · intro w'
      go_simp
      with_reducible rfl
    rotate_left
    · simp only [Act.put, List.setIfInBounds_toArray, List.set_cons_zero, List.set_cons_succ, i64_w, i32_w]
      rfl
    refine pure_ (i := 2) (N := some 23) (v := ?_) (a' := ?_) #[true, true, true, false, false, true, false, false, false, true, true, false, false, false, true, true, true, false, false, false, false, false, false, false] rfl rfl (by kernel_rfl) (fun _ _ _ h => h) (Or.inl ⟨by rfl, ?_⟩) ?_ ?_
    rotate_left
    · intro w'
      go_simp
      with_reducible rfl
    rotate_left
    · simp only [Act.put, List.setIfInBounds_toArray, List.set_cons_zero, List.set_cons_succ, i64_w, i32_w]
      rfl
    refine pure_ (i := 6) (N := some 27) (v := ?_) (a' := ?_) #[true, true, true, false, false, true, true, false, false, true, true, false, false, false, true, true, true, false, false, false, false, false, false, false] rfl rfl (by kernel_rfl) (fun _ _ _ h => h) (Or.inl ⟨by rfl, ?_⟩) ?_ ?_
    rotate_left
    · intro w'
      go_simp
      with_reducible rfl
    rotate_left
    · simp only [Act.put, List.setIfInBounds_toArray, List.set_cons_zero, List.set_cons_succ, i64_w, i32_w]
      rfl
    refine pure_ (i := 11) (N := some 32) (v := ?_) (a' := ?_) #[true, true, true, false, false, true, true, false, false, true, true, true, false, false, true, true, true, false, false, false, false, false, false, false] rfl rfl (by kernel_rfl) (fun _ _ _ h => h) (Or.inl ⟨by rfl, ?_⟩) ?_ ?_
    rotate_left
    · intro w'
      go_simp
      with_reducible rfl
    rotate_left
    · simp only [Act.put, List.setIfInBounds_toArray, List.set_cons_zero, List.set_cons_succ, i64_w, i32_w]
      rfl
    refine pure_ (i := 17) (N := some 38) (v := ?_) (a' := ?_) #[true, true, true, false, false, true, true, false, false, true, true, true, false, false, true, true, true, true, false, false, false, false, false, false] rfl rfl (by kernel_rfl) (fun _ _ _ h => h) (Or.inl ⟨by rfl, ?_⟩) ?_ ?_
    rotate_left
    · intro w'
      go_simp
      with_reducible rfl
    rotate_left
    · simp only [Act.put, List.setIfInBounds_toArray, List.set_cons_zero, List.set_cons_succ, i64_w, i32_w]
      rfl
    refine pure_ (i := 3) (N := some 24) (v := ?_) (a' := ?_) #[true, true, true, true, false, true, true, false, false, true, true, true, false, false, true, true, true, true, false, false, false, false, false, false] rfl rfl (by kernel_rfl) (fun _ _ _ h => h) (Or.inl ⟨by rfl, ?_⟩) ?_ ?_
    rotate_left
    · intro w'
      go_simp
      with_reducible rfl
    rotate_left
    · simp only [Act.put, List.setIfInBounds_toArray, List.set_cons_zero, List.set_cons_succ, i64_w, i32_w]
      rfl
    refine pure_ (i := 7) (N := some 28) (v := ?_) (a' := ?_) #[true, true, true, true, false, true, true, true, false, true, true, true, false, false, true, true, true, true, false, false, false, false, false, false] rfl rfl (by kernel_rfl) (fun _ _ _ h => h) (Or.inl ⟨by rfl, ?_⟩) ?_ ?_
    rotate_left
    · intro w'
      go_simp
      with_reducible rfl
    rotate_left
    · simp only [Act.put, List.setIfInBounds_toArray, List.set_cons_zero, List.set_cons_succ, i64_w, i32_w]
      rfl
    refine pure_ (i := 12) (N := some 33) (v := ?_) (a' := ?_) #[true, true, true, true, false, true, true, true, false, true, true, true, true, false, true, true, true, true, false, false, false, false, false, false] rfl rfl (by kernel_rfl) (fun _ _ _ h => h) (Or.inl ⟨by rfl, ?_⟩) ?_ ?_
    rotate_left
    · intro w'
      go_simp
      with_reducible rfl
    rotate_left
    · simp only [Act.put, List.setIfInBounds_toArray, List.set_cons_zero, List.set_cons_succ, i64_w, i32_w]
      rfl
    refine pure_ (i := 18) (N := some 39) (v := ?_) (a' := ?_) #[true, true, true, true, false, true, true, true, false, true, true, true, true, false, true, true, true, true, true, false, false, false, false, false] rfl rfl (by kernel_rfl) (fun _ _ _ h => h) (Or.inl ⟨by rfl, ?_⟩) ?_ ?_
    rotate_left
    · intro w'
      go_simp
      with_reducible rfl
    rotate_left
    · simp only [Act.put, List.setIfInBounds_toArray, List.set_cons_zero, List.set_cons_succ, i64_w, i32_w]
      rfl
    refine take_ (i := 4) (N := some 25) (v := ?_) (a' := ?_) #[true, true, true, true, true, true, true, true, false, true, true, true, true, false, true, true, true, true, true, false, false, false, false, false] rfl rfl (by kernel_rfl) (fun _ _ _ h => h) (Or.inl ⟨by rfl, ?_⟩) hH_ ?_ ?_
    rotate_left
    · intro w' s0
      have f0_ : w'.cell? ⟨gb, 0, none⟩ = some (.bool up) := (blk_cell s0 0).trans rfl
      clear s0
      go_simp
      with_reducible rfl
    rotate_left
    · simp only [Act.put, List.setIfInBounds_toArray, List.set_cons_zero, List.set_cons_succ, i64_w, i32_w]
      rfl
    refine take_ (i := 8) (N := some 29) (v := ?_) (a' := ?_) #[true, true, true, true, true, true, true, true, true, true, true, true, true, false, true, true, true, true, true, false, false, false, false, false] rfl rfl (by kernel_rfl) (fun _ _ _ h => h) (Or.inl ⟨by rfl, ?_⟩) hH_ ?_ ?_
    rotate_left
    · intro w' s0
      have f1_ : w'.cell? ⟨gb, 1, none⟩ = some (.int .i64 slot) := (blk_cell s0 1).trans rfl
      clear s0
      go_simp
      with_reducible rfl
    rotate_left
    · simp only [Act.put, List.setIfInBounds_toArray, List.set_cons_zero, List.set_cons_succ, i64_w, i32_w]
      rfl
    refine take_ (i := 13) (N := some 34) (v := ?_) (a' := ?_) #[true, true, true, true, true, true, true, true, true, true, true, true, true, true, true, true, true, true, true, false, false, false, false, false] rfl rfl (by kernel_rfl) (fun _ _ _ h => h) (Or.inl ⟨by rfl, ?_⟩) hH_ ?_ ?_
    rotate_left
    · intro w' s0
      have f4_ : w'.cell? ⟨gb, 4, none⟩ = some (.int .i64 opK) := (blk_cell s0 4).trans rfl
      have f5_ : w'.cell? ⟨gb, 5, none⟩ = some (.int .i64 opS) := (blk_cell s0 5).trans rfl
      have f6_ : w'.cell? ⟨gb, 6, none⟩ = some (.int .i64 opA) := (blk_cell s0 6).trans rfl
      have f7_ : w'.cell? ⟨gb, 7, none⟩ = some (.int .i64 opB) := (blk_cell s0 7).trans rfl
      clear s0
      go_simp
      with_reducible rfl
    rotate_left
    · simp only [Act.put, List.setIfInBounds_toArray, List.set_cons_zero, List.set_cons_succ, i64_w, i32_w]
      rfl
    refine take_ (i := 19) (N := some 40) (v := ?_) (a' := ?_) #[true, true, true, true, true, true, true, true, true, true, true, true, true, true, true, true, true, true, true, true, false, false, false, false] rfl rfl (by kernel_rfl) (fun _ _ _ h => h) (Or.inl ⟨by rfl, ?_⟩) hH_ ?_ ?_
    rotate_left
    · intro w' s0
      have f25_ : w'.cell? ⟨gb, 25, none⟩ = some (.int .i64 count) := (blk_cell s0 25).trans rfl
      clear s0
      go_simp
      with_reducible rfl
    rotate_left
    · simp only [Act.put, List.setIfInBounds_toArray, List.set_cons_zero, List.set_cons_succ, i64_w, i32_w]
      rfl
    refine pure_ (i := 20) (N := some 41) (v := ?_) (a' := ?_) #[true, true, true, true, true, true, true, true, true, true, true, true, true, true, true, true, true, true, true, true, true, false, false, false] rfl rfl (by kernel_rfl) (fun _ _ _ h => h) (Or.inl ⟨by rfl, ?_⟩) ?_ ?_
    rotate_left
    · intro w'
      go_simp
      with_reducible rfl
    rotate_left
    · simp only [Act.put, List.setIfInBounds_toArray, List.set_cons_zero, List.set_cons_succ, i64_w, i32_w]
      rfl
    refine pure_ (i := 21) (N := some 42) (v := ?_) (a' := ?_) #[true, true, true, true, true, true, true, true, true, true, true, true, true, true, true, true, true, true, true, true, true, true, false, false] rfl rfl (by kernel_rfl) (fun _ _ _ h => h) (Or.inl ⟨by rfl, ?_⟩) ?_ ?_
    rotate_left
    · intro w'
      go_simp
      with_reducible rfl
    rotate_left
    · simp only [Act.put, List.setIfInBounds_toArray, List.set_cons_zero, List.set_cons_succ, i64_w, i32_w]
      rfl
    refine pure_ (i := 22) (N := some 43) (v := ?_) (a' := ?_) #[true, true, true, true, true, true, true, true, true, true, true, true, true, true, true, true, true, true, true, true, true, true, true, false] rfl rfl (by kernel_rfl) (fun _ _ _ h => h) (Or.inl ⟨by rfl, ?_⟩) ?_ ?_
    rotate_left
    · intro w'
      go_simp
      with_reducible rfl
    rotate_left
    · simp only [Act.put, List.setIfInBounds_toArray, List.set_cons_zero, List.set_cons_succ, i64_w, i32_w]
      rfl
    refine last_ (i := 23) (N := none) #[true, true, true, true, true, true, true, true, true, true, true, true, true, true, true, true, true, true, true, true, true, true, true, true] rfl rfl (by kernel_rfl) (by decide) (fun K hK => ?_)
    refine skip_ (w1 := w.drew.setRow gb (gC (Gu.mk up slot epoch false opK opS opA opB 0 0 0 0 0 0 0 false 0 0 0 0 0 [] [] code val (wrap64 (count + 1))) none 0 none 0)) (by rfl) rfl (Row.store_row_run (g := gb) (cells := gC (Gu.mk up slot epoch false opK opS opA opB 0 0 0 0 0 0 0 false 0 0 0 0 0 [] [] code val (wrap64 (count + 1))) none 0 none 0) (t := 42) (old := gC (Gu.mk up slot epoch busy opK opS opA opB pc k n seq next who whoE own time was door beat entry snap plan code0 val0 count) A cA B cB) rfl (by rfl) (by rfl) hH_ (by kernel_rfl) rfl (by simp [Value.oneCell', gC])) ?_
    refine hK.out _ _ ?_
    clear hK K
    have Sn_ := Aside0.mk (And.intro (setRow_heap _ gb _ (gC (Gu.mk up slot epoch false opK opS opA opB 0 0 0 0 0 0 0 false 0 0 0 0 0 [] [] code val (wrap64 (count + 1))) none 0 none 0) 42 (0, 0) hH_) (Keep.trans (show Keep gb (gb + 1) w w.drew from ⟨rfl, rfl, rfl, Nat.le_refl _, fun _ _ _ => rfl⟩) (St.keep_row w.drew gb (gC (Gu.mk up slot epoch false opK opS opA opB 0 0 0 0 0 0 0 false 0 0 0 0 0 [] [] code val (wrap64 (count + 1))) none 0 none 0))))
    clear S
    have S := Sn_
    clear Sn_
    obtain ⟨w1, hw_⟩ : ∃ w_, w.drew.setRow gb (gC (Gu.mk up slot epoch false opK opS opA opB 0 0 0 0 0 0 0 false 0 0 0 0 0 [] [] code val (wrap64 (count + 1))) none 0 none 0) = w_ := ⟨_, rfl⟩
    rw [hw_] at S
    rw [hw_]
    clear hw_
    clear hH_
    refine done_ (by kernel_rfl) ?_
    exact ⟨rfl, .tuple #[], by first | rfl | simp [results, Try.results99], rfl, S.out.1, S.out.2⟩
end Go.Proofs.Ytbcpkbbdmkmpkaa.Gu

/- The reference's GuestOk, by hand over its two parts. -/
import Derived.Test.YtfpdccaomhjpjaaGy
set_option linter.unusedVariables false
set_option linter.unusedSimpArgs false
namespace Go.Proofs.Ytfpdccaomhjpjaa.Gu
open Go.RowKit Go.Proofs.YtfpdccaomhjpjaaW.PrintWords Go.Proofs.YtfpdccaomhjpjaaW.PrintLast Go.Proofs.YtfpdccaomhjpjaaW.PrintMore Go.Proofs.Ytfpdccaomhjpjaa.St0

def sgB (g : Gu) (x y : Bool) : Bool := (g.busy == (g.pc != 0)) && ((!g.busy || (g.opS == g.slot)) && (x && y))
set_option maxHeartbeats 4000000 in
set_option maxRecDepth 100000 in
theorem sg_A (a b d : Int) (up own : Bool) (slot epoch opK opS opA opB k n seq next who whoE time was door beat entry code val count : Int) (snap plan : List Int) (A : Option Addr) (cA : Nat) (B : Option Addr) (cB : Nat) (w : World) (x y : Bool) (h : GC w (Gu.mk up slot epoch true opK opS opA opB 0 k n seq next who whoE own time was door beat entry snap plan code val count) A cA B cB) (hp : ∀ w, Calls Try.prog 46 #[.agg #[.int .i64 a, .int .i64 b, .int .i64 d]] w fun e w' => e = .returned (.bool true) ∧ Below w.heap.size w w')
    (hf : ∀ w, GC w (Gu.mk up slot epoch true opK opS opA opB 0 k n seq next who whoE own time was door beat entry snap plan code val count) A cA B cB → Calls Try.prog 61 #[.agg #[.int .i64 a, .int .i64 b, .int .i64 d], .agg (gC (Gu.mk up slot epoch true opK opS opA opB 0 k n seq next who whoE own time was door beat entry snap plan code val count) A cA B cB)] w fun e w' => e = .returned (.bool x) ∧ Below w.heap.size w w')
    (hq : ∀ w, GC w (Gu.mk up slot epoch true opK opS opA opB 0 k n seq next who whoE own time was door beat entry snap plan code val count) A cA B cB → Calls Try.prog 62 #[.agg #[.int .i64 a, .int .i64 b, .int .i64 d], .agg (gC (Gu.mk up slot epoch true opK opS opA opB 0 k n seq next who whoE own time was door beat entry snap plan code val count) A cA B cB)] w fun e w' => e = .returned (.bool y) ∧ Below w.heap.size w w') :
    Calls Try.prog 34 #[.agg #[.int .i64 a, .int .i64 b, .int .i64 d], .agg (gC (Gu.mk up slot epoch true opK opS opA opB 0 k n seq next who whoE own time was door beat entry snap plan code val count) A cA B cB)] w fun e w' => e = .returned (.bool false) ∧ Below w.heap.size w w' := by
  have HR := Aside0.mk h
  have HP := Aside0.mk hp
  have HF := Aside0.mk hf
  have HQ := Aside0.mk hq
  clear h hp hf hq
  have S := Aside0.mk (St.start w)
  go_enter Try.func34, Try.ntmps34
  go_wp2_with (first | ((with_reducible refine gate_dst (N := 2) rfl ?_); refine box_event rfl (N := 2) rfl (cs := #[.int .i64 a, .int .i64 b, .int .i64 d]) (t := 43) (by first | (go_simp; done) | (go_simp; rfl)) ?_; intro gc hg_ w1 hbox_ hb_; have Sn_ := Aside0.mk (S.out.box hg_ hbox_ hb_); clear hbox_ hb_ hg_ S; have S := Sn_; clear Sn_) | ((with_reducible refine gate_dst (N := 3) rfl ?_); refine box_event rfl (N := 3) rfl (cs := gC (Gu.mk up slot epoch true opK opS opA opB 0 k n seq next who whoE own time was door beat entry snap plan code val count) A cA B cB) (t := 59) (by first | (go_simp; done) | (go_simp; rfl)) ?_; intro gb hg_ w2 hbox_ hb_; have Sn_ := Aside0.mk (S.out.box hg_ hbox_ hb_); clear hbox_ hb_ hg_ S; have S := Sn_; clear Sn_) | ((with_reducible refine gate_dst (N := 5) rfl ?_); refine Kd.event_run rfl (Row.load_row_run (g := gc) (t := 43) (cells := #[.int .i64 a, .int .i64 b, .int .i64 d]) rfl rfl (S.out.blk 1 rfl) Try.underlying43 rfl (by kernel_rfl)) ?_))
  refine (HP.out _).mono ?_
  rintro e w3 ⟨rfl, hb⟩
  have Sn_ := Aside0.mk (S.out.call hb)
  clear S hb
  have S := Sn_
  clear Sn_
  have f_gb_3 : w3.cell? ⟨gb, 3, none⟩ = some (.bool true) := (S.out.cell 0 rfl 3).trans rfl
  have z_gb_3 := S.out.frozen 0 rfl 3
  have f_gb_8 : w3.cell? ⟨gb, 8, none⟩ = some (.int .i64 0) := (S.out.cell 0 rfl 8).trans rfl
  have z_gb_8 := S.out.frozen 0 rfl 8
  have f_gb_5 : w3.cell? ⟨gb, 5, none⟩ = some (.int .i64 opS) := (S.out.cell 0 rfl 5).trans rfl
  have z_gb_5 := S.out.frozen 0 rfl 5
  have f_gb_1 : w3.cell? ⟨gb, 1, none⟩ = some (.int .i64 slot) := (S.out.cell 0 rfl 1).trans rfl
  have z_gb_1 := S.out.frozen 0 rfl 1
  go_wp2_with fail
  go_ret
  exact ⟨rfl, S.out.base⟩
set_option maxHeartbeats 4000000 in
set_option maxRecDepth 100000 in
theorem sg_B (a b d : Int) (up own : Bool) (slot epoch opK opS opA opB pc k n seq next who whoE time was door beat entry code val count : Int) (snap plan : List Int) (A : Option Addr) (cA : Nat) (B : Option Addr) (cB : Nat) (w : World) (x y : Bool) (h : GC w (Gu.mk up slot epoch false opK opS opA opB pc k n seq next who whoE own time was door beat entry snap plan code val count) A cA B cB) (hp : ∀ w, Calls Try.prog 46 #[.agg #[.int .i64 a, .int .i64 b, .int .i64 d]] w fun e w' => e = .returned (.bool true) ∧ Below w.heap.size w w')
    (hf : ∀ w, GC w (Gu.mk up slot epoch false opK opS opA opB pc k n seq next who whoE own time was door beat entry snap plan code val count) A cA B cB → Calls Try.prog 61 #[.agg #[.int .i64 a, .int .i64 b, .int .i64 d], .agg (gC (Gu.mk up slot epoch false opK opS opA opB pc k n seq next who whoE own time was door beat entry snap plan code val count) A cA B cB)] w fun e w' => e = .returned (.bool x) ∧ Below w.heap.size w w')
    (hq : ∀ w, GC w (Gu.mk up slot epoch false opK opS opA opB pc k n seq next who whoE own time was door beat entry snap plan code val count) A cA B cB → Calls Try.prog 62 #[.agg #[.int .i64 a, .int .i64 b, .int .i64 d], .agg (gC (Gu.mk up slot epoch false opK opS opA opB pc k n seq next who whoE own time was door beat entry snap plan code val count) A cA B cB)] w fun e w' => e = .returned (.bool y) ∧ Below w.heap.size w w') (hpc : (pc == 0) = false) :
    Calls Try.prog 34 #[.agg #[.int .i64 a, .int .i64 b, .int .i64 d], .agg (gC (Gu.mk up slot epoch false opK opS opA opB pc k n seq next who whoE own time was door beat entry snap plan code val count) A cA B cB)] w fun e w' => e = .returned (.bool false) ∧ Below w.heap.size w w' := by
  have HR := Aside0.mk h
  have HP := Aside0.mk hp
  have HF := Aside0.mk hf
  have HQ := Aside0.mk hq
  clear h hp hf hq
  have S := Aside0.mk (St.start w)
  go_enter Try.func34, Try.ntmps34
  go_wp2_with (first | ((with_reducible refine gate_dst (N := 2) rfl ?_); refine box_event rfl (N := 2) rfl (cs := #[.int .i64 a, .int .i64 b, .int .i64 d]) (t := 43) (by first | (go_simp; done) | (go_simp; rfl)) ?_; intro gc hg_ w1 hbox_ hb_; have Sn_ := Aside0.mk (S.out.box hg_ hbox_ hb_); clear hbox_ hb_ hg_ S; have S := Sn_; clear Sn_) | ((with_reducible refine gate_dst (N := 3) rfl ?_); refine box_event rfl (N := 3) rfl (cs := gC (Gu.mk up slot epoch false opK opS opA opB pc k n seq next who whoE own time was door beat entry snap plan code val count) A cA B cB) (t := 59) (by first | (go_simp; done) | (go_simp; rfl)) ?_; intro gb hg_ w2 hbox_ hb_; have Sn_ := Aside0.mk (S.out.box hg_ hbox_ hb_); clear hbox_ hb_ hg_ S; have S := Sn_; clear Sn_) | ((with_reducible refine gate_dst (N := 5) rfl ?_); refine Kd.event_run rfl (Row.load_row_run (g := gc) (t := 43) (cells := #[.int .i64 a, .int .i64 b, .int .i64 d]) rfl rfl (S.out.blk 1 rfl) Try.underlying43 rfl (by kernel_rfl)) ?_))
  refine (HP.out _).mono ?_
  rintro e w3 ⟨rfl, hb⟩
  have Sn_ := Aside0.mk (S.out.call hb)
  clear S hb
  have S := Sn_
  clear Sn_
  have f_gb_3 : w3.cell? ⟨gb, 3, none⟩ = some (.bool false) := (S.out.cell 0 rfl 3).trans rfl
  have z_gb_3 := S.out.frozen 0 rfl 3
  have f_gb_8 : w3.cell? ⟨gb, 8, none⟩ = some (.int .i64 pc) := (S.out.cell 0 rfl 8).trans rfl
  have z_gb_8 := S.out.frozen 0 rfl 8
  have f_gb_5 : w3.cell? ⟨gb, 5, none⟩ = some (.int .i64 opS) := (S.out.cell 0 rfl 5).trans rfl
  have z_gb_5 := S.out.frozen 0 rfl 5
  have f_gb_1 : w3.cell? ⟨gb, 1, none⟩ = some (.int .i64 slot) := (S.out.cell 0 rfl 1).trans rfl
  have z_gb_1 := S.out.frozen 0 rfl 1
  go_wp2_with fail
  go_ret
  exact ⟨rfl, S.out.base⟩
set_option maxHeartbeats 4000000 in
set_option maxRecDepth 100000 in
theorem sg_C (a b d : Int) (up own : Bool) (slot epoch opK opA opB pc k n seq next who whoE time was door beat entry code val count : Int) (snap plan : List Int) (A : Option Addr) (cA : Nat) (B : Option Addr) (cB : Nat) (w : World) (x y : Bool) (h : GC w (Gu.mk up slot epoch true opK slot opA opB pc k n seq next who whoE own time was door beat entry snap plan code val count) A cA B cB) (hp : ∀ w, Calls Try.prog 46 #[.agg #[.int .i64 a, .int .i64 b, .int .i64 d]] w fun e w' => e = .returned (.bool true) ∧ Below w.heap.size w w')
    (hf : ∀ w, GC w (Gu.mk up slot epoch true opK slot opA opB pc k n seq next who whoE own time was door beat entry snap plan code val count) A cA B cB → Calls Try.prog 61 #[.agg #[.int .i64 a, .int .i64 b, .int .i64 d], .agg (gC (Gu.mk up slot epoch true opK slot opA opB pc k n seq next who whoE own time was door beat entry snap plan code val count) A cA B cB)] w fun e w' => e = .returned (.bool x) ∧ Below w.heap.size w w')
    (hq : ∀ w, GC w (Gu.mk up slot epoch true opK slot opA opB pc k n seq next who whoE own time was door beat entry snap plan code val count) A cA B cB → Calls Try.prog 62 #[.agg #[.int .i64 a, .int .i64 b, .int .i64 d], .agg (gC (Gu.mk up slot epoch true opK slot opA opB pc k n seq next who whoE own time was door beat entry snap plan code val count) A cA B cB)] w fun e w' => e = .returned (.bool y) ∧ Below w.heap.size w w') (hpc : (pc == 0) = false) :
    Calls Try.prog 34 #[.agg #[.int .i64 a, .int .i64 b, .int .i64 d], .agg (gC (Gu.mk up slot epoch true opK slot opA opB pc k n seq next who whoE own time was door beat entry snap plan code val count) A cA B cB)] w fun e w' => e = .returned (.bool (x && y)) ∧ Below w.heap.size w w' := by
  have HR := Aside0.mk h
  have HP := Aside0.mk hp
  have HF := Aside0.mk hf
  have HQ := Aside0.mk hq
  clear h hp hf hq
  have hop : (slot != slot) = false := bne_self_eq_false _
  have S := Aside0.mk (St.start w)
  go_enter Try.func34, Try.ntmps34
  go_wp2_with (first | ((with_reducible refine gate_dst (N := 2) rfl ?_); refine box_event rfl (N := 2) rfl (cs := #[.int .i64 a, .int .i64 b, .int .i64 d]) (t := 43) (by first | (go_simp; done) | (go_simp; rfl)) ?_; intro gc hg_ w1 hbox_ hb_; have Sn_ := Aside0.mk (S.out.box hg_ hbox_ hb_); clear hbox_ hb_ hg_ S; have S := Sn_; clear Sn_) | ((with_reducible refine gate_dst (N := 3) rfl ?_); refine box_event rfl (N := 3) rfl (cs := gC (Gu.mk up slot epoch true opK slot opA opB pc k n seq next who whoE own time was door beat entry snap plan code val count) A cA B cB) (t := 59) (by first | (go_simp; done) | (go_simp; rfl)) ?_; intro gb hg_ w2 hbox_ hb_; have Sn_ := Aside0.mk (S.out.box hg_ hbox_ hb_); clear hbox_ hb_ hg_ S; have S := Sn_; clear Sn_) | ((with_reducible refine gate_dst (N := 5) rfl ?_); refine Kd.event_run rfl (Row.load_row_run (g := gc) (t := 43) (cells := #[.int .i64 a, .int .i64 b, .int .i64 d]) rfl rfl (S.out.blk 1 rfl) Try.underlying43 rfl (by kernel_rfl)) ?_))
  refine (HP.out _).mono ?_
  rintro e w3 ⟨rfl, hb⟩
  have Sn_ := Aside0.mk (S.out.call hb)
  clear S hb
  have S := Sn_
  clear Sn_
  have f_gb_3 : w3.cell? ⟨gb, 3, none⟩ = some (.bool true) := (S.out.cell 0 rfl 3).trans rfl
  have z_gb_3 := S.out.frozen 0 rfl 3
  have f_gb_8 : w3.cell? ⟨gb, 8, none⟩ = some (.int .i64 pc) := (S.out.cell 0 rfl 8).trans rfl
  have z_gb_8 := S.out.frozen 0 rfl 8
  have f_gb_5 : w3.cell? ⟨gb, 5, none⟩ = some (.int .i64 slot) := (S.out.cell 0 rfl 5).trans rfl
  have z_gb_5 := S.out.frozen 0 rfl 5
  have f_gb_1 : w3.cell? ⟨gb, 1, none⟩ = some (.int .i64 slot) := (S.out.cell 0 rfl 1).trans rfl
  have z_gb_1 := S.out.frozen 0 rfl 1
  go_wp2_with (first | ((with_reducible refine gate_dst (N := 28) rfl ?_); refine Kd.event_run rfl (Row.load_row_run (g := gc) (t := 43) (cells := #[.int .i64 a, .int .i64 b, .int .i64 d]) rfl rfl (S.out.blk 1 rfl) Try.underlying43 rfl (by kernel_rfl)) ?_) | ((with_reducible refine gate_dst (N := 29) rfl ?_); refine Kd.event_run rfl (Row.load_row_run (g := gb) (t := 59) (cells := gC (Gu.mk up slot epoch true opK slot opA opB pc k n seq next who whoE own time was door beat entry snap plan code val count) A cA B cB) rfl rfl (S.out.blk 0 rfl) Try.underlying59 rfl (by kernel_rfl)) ?_))
  refine (HF.out _ (HR.out.below S.out.base)).mono ?_
  rintro e w4 ⟨rfl, hb⟩
  clear f_gb_3 z_gb_3 f_gb_8 z_gb_8 f_gb_5 z_gb_5 f_gb_1 z_gb_1
  have Sn_ := Aside0.mk (S.out.call hb)
  clear S hb
  have S := Sn_
  clear Sn_
  cases x with
  | false =>
    go_wp2
    go_ret
    exact ⟨rfl, S.out.base⟩
  | true =>
    go_wp2_with (first | ((with_reducible refine gate_dst (N := 32) rfl ?_); refine gate_guard (by rfl) ?_; refine Kd.event_run rfl (Row.load_row_run (g := gc) (t := 43) (cells := #[.int .i64 a, .int .i64 b, .int .i64 d]) rfl rfl (S.out.blk 1 rfl) Try.underlying43 rfl (by kernel_rfl)) ?_) | ((with_reducible refine gate_dst (N := 33) rfl ?_); refine gate_guard (by rfl) ?_; refine Kd.event_run rfl (Row.load_row_run (g := gb) (t := 59) (cells := gC (Gu.mk up slot epoch true opK slot opA opB pc k n seq next who whoE own time was door beat entry snap plan code val count) A cA B cB) rfl rfl (S.out.blk 0 rfl) Try.underlying59 rfl (by kernel_rfl)) ?_))
    refine (HQ.out _ (HR.out.below S.out.base)).mono ?_
    rintro e w5 ⟨rfl, hb⟩
    have Sn_ := Aside0.mk (S.out.call hb)
    clear S hb
    have S := Sn_
    clear Sn_
    go_wp2
    go_ret
    exact ⟨rfl, S.out.base⟩
set_option maxHeartbeats 4000000 in
set_option maxRecDepth 100000 in
theorem sg_D (a b d : Int) (up own : Bool) (slot epoch opK opS opA opB pc k n seq next who whoE time was door beat entry code val count : Int) (snap plan : List Int) (A : Option Addr) (cA : Nat) (B : Option Addr) (cB : Nat) (w : World) (x y : Bool) (h : GC w (Gu.mk up slot epoch true opK opS opA opB pc k n seq next who whoE own time was door beat entry snap plan code val count) A cA B cB) (hp : ∀ w, Calls Try.prog 46 #[.agg #[.int .i64 a, .int .i64 b, .int .i64 d]] w fun e w' => e = .returned (.bool true) ∧ Below w.heap.size w w')
    (hf : ∀ w, GC w (Gu.mk up slot epoch true opK opS opA opB pc k n seq next who whoE own time was door beat entry snap plan code val count) A cA B cB → Calls Try.prog 61 #[.agg #[.int .i64 a, .int .i64 b, .int .i64 d], .agg (gC (Gu.mk up slot epoch true opK opS opA opB pc k n seq next who whoE own time was door beat entry snap plan code val count) A cA B cB)] w fun e w' => e = .returned (.bool x) ∧ Below w.heap.size w w')
    (hq : ∀ w, GC w (Gu.mk up slot epoch true opK opS opA opB pc k n seq next who whoE own time was door beat entry snap plan code val count) A cA B cB → Calls Try.prog 62 #[.agg #[.int .i64 a, .int .i64 b, .int .i64 d], .agg (gC (Gu.mk up slot epoch true opK opS opA opB pc k n seq next who whoE own time was door beat entry snap plan code val count) A cA B cB)] w fun e w' => e = .returned (.bool y) ∧ Below w.heap.size w w') (hpc : (pc == 0) = false) (hop : (opS != slot) = true) :
    Calls Try.prog 34 #[.agg #[.int .i64 a, .int .i64 b, .int .i64 d], .agg (gC (Gu.mk up slot epoch true opK opS opA opB pc k n seq next who whoE own time was door beat entry snap plan code val count) A cA B cB)] w fun e w' => e = .returned (.bool false) ∧ Below w.heap.size w w' := by
  have HR := Aside0.mk h
  have HP := Aside0.mk hp
  have HF := Aside0.mk hf
  have HQ := Aside0.mk hq
  clear h hp hf hq
  have S := Aside0.mk (St.start w)
  go_enter Try.func34, Try.ntmps34
  go_wp2_with (first | ((with_reducible refine gate_dst (N := 2) rfl ?_); refine box_event rfl (N := 2) rfl (cs := #[.int .i64 a, .int .i64 b, .int .i64 d]) (t := 43) (by first | (go_simp; done) | (go_simp; rfl)) ?_; intro gc hg_ w1 hbox_ hb_; have Sn_ := Aside0.mk (S.out.box hg_ hbox_ hb_); clear hbox_ hb_ hg_ S; have S := Sn_; clear Sn_) | ((with_reducible refine gate_dst (N := 3) rfl ?_); refine box_event rfl (N := 3) rfl (cs := gC (Gu.mk up slot epoch true opK opS opA opB pc k n seq next who whoE own time was door beat entry snap plan code val count) A cA B cB) (t := 59) (by first | (go_simp; done) | (go_simp; rfl)) ?_; intro gb hg_ w2 hbox_ hb_; have Sn_ := Aside0.mk (S.out.box hg_ hbox_ hb_); clear hbox_ hb_ hg_ S; have S := Sn_; clear Sn_) | ((with_reducible refine gate_dst (N := 5) rfl ?_); refine Kd.event_run rfl (Row.load_row_run (g := gc) (t := 43) (cells := #[.int .i64 a, .int .i64 b, .int .i64 d]) rfl rfl (S.out.blk 1 rfl) Try.underlying43 rfl (by kernel_rfl)) ?_))
  refine (HP.out _).mono ?_
  rintro e w3 ⟨rfl, hb⟩
  have Sn_ := Aside0.mk (S.out.call hb)
  clear S hb
  have S := Sn_
  clear Sn_
  have f_gb_3 : w3.cell? ⟨gb, 3, none⟩ = some (.bool true) := (S.out.cell 0 rfl 3).trans rfl
  have z_gb_3 := S.out.frozen 0 rfl 3
  have f_gb_8 : w3.cell? ⟨gb, 8, none⟩ = some (.int .i64 pc) := (S.out.cell 0 rfl 8).trans rfl
  have z_gb_8 := S.out.frozen 0 rfl 8
  have f_gb_5 : w3.cell? ⟨gb, 5, none⟩ = some (.int .i64 opS) := (S.out.cell 0 rfl 5).trans rfl
  have z_gb_5 := S.out.frozen 0 rfl 5
  have f_gb_1 : w3.cell? ⟨gb, 1, none⟩ = some (.int .i64 slot) := (S.out.cell 0 rfl 1).trans rfl
  have z_gb_1 := S.out.frozen 0 rfl 1
  go_wp2_with fail
  go_ret
  exact ⟨rfl, S.out.base⟩
set_option maxHeartbeats 4000000 in
set_option maxRecDepth 100000 in
theorem sg_E (a b d : Int) (up own : Bool) (slot epoch opK opA opB k n seq next who whoE time was door beat entry code val count : Int) (snap plan : List Int) (A : Option Addr) (cA : Nat) (B : Option Addr) (cB : Nat) (w : World) (x y : Bool) (h : GC w (Gu.mk up slot epoch false opK slot opA opB 0 k n seq next who whoE own time was door beat entry snap plan code val count) A cA B cB) (hp : ∀ w, Calls Try.prog 46 #[.agg #[.int .i64 a, .int .i64 b, .int .i64 d]] w fun e w' => e = .returned (.bool true) ∧ Below w.heap.size w w')
    (hf : ∀ w, GC w (Gu.mk up slot epoch false opK slot opA opB 0 k n seq next who whoE own time was door beat entry snap plan code val count) A cA B cB → Calls Try.prog 61 #[.agg #[.int .i64 a, .int .i64 b, .int .i64 d], .agg (gC (Gu.mk up slot epoch false opK slot opA opB 0 k n seq next who whoE own time was door beat entry snap plan code val count) A cA B cB)] w fun e w' => e = .returned (.bool x) ∧ Below w.heap.size w w')
    (hq : ∀ w, GC w (Gu.mk up slot epoch false opK slot opA opB 0 k n seq next who whoE own time was door beat entry snap plan code val count) A cA B cB → Calls Try.prog 62 #[.agg #[.int .i64 a, .int .i64 b, .int .i64 d], .agg (gC (Gu.mk up slot epoch false opK slot opA opB 0 k n seq next who whoE own time was door beat entry snap plan code val count) A cA B cB)] w fun e w' => e = .returned (.bool y) ∧ Below w.heap.size w w') :
    Calls Try.prog 34 #[.agg #[.int .i64 a, .int .i64 b, .int .i64 d], .agg (gC (Gu.mk up slot epoch false opK slot opA opB 0 k n seq next who whoE own time was door beat entry snap plan code val count) A cA B cB)] w fun e w' => e = .returned (.bool (x && y)) ∧ Below w.heap.size w w' := by
  have HR := Aside0.mk h
  have HP := Aside0.mk hp
  have HF := Aside0.mk hf
  have HQ := Aside0.mk hq
  clear h hp hf hq
  have hop : (slot != slot) = false := bne_self_eq_false _
  have S := Aside0.mk (St.start w)
  go_enter Try.func34, Try.ntmps34
  go_wp2_with (first | ((with_reducible refine gate_dst (N := 2) rfl ?_); refine box_event rfl (N := 2) rfl (cs := #[.int .i64 a, .int .i64 b, .int .i64 d]) (t := 43) (by first | (go_simp; done) | (go_simp; rfl)) ?_; intro gc hg_ w1 hbox_ hb_; have Sn_ := Aside0.mk (S.out.box hg_ hbox_ hb_); clear hbox_ hb_ hg_ S; have S := Sn_; clear Sn_) | ((with_reducible refine gate_dst (N := 3) rfl ?_); refine box_event rfl (N := 3) rfl (cs := gC (Gu.mk up slot epoch false opK slot opA opB 0 k n seq next who whoE own time was door beat entry snap plan code val count) A cA B cB) (t := 59) (by first | (go_simp; done) | (go_simp; rfl)) ?_; intro gb hg_ w2 hbox_ hb_; have Sn_ := Aside0.mk (S.out.box hg_ hbox_ hb_); clear hbox_ hb_ hg_ S; have S := Sn_; clear Sn_) | ((with_reducible refine gate_dst (N := 5) rfl ?_); refine Kd.event_run rfl (Row.load_row_run (g := gc) (t := 43) (cells := #[.int .i64 a, .int .i64 b, .int .i64 d]) rfl rfl (S.out.blk 1 rfl) Try.underlying43 rfl (by kernel_rfl)) ?_))
  refine (HP.out _).mono ?_
  rintro e w3 ⟨rfl, hb⟩
  have Sn_ := Aside0.mk (S.out.call hb)
  clear S hb
  have S := Sn_
  clear Sn_
  have f_gb_3 : w3.cell? ⟨gb, 3, none⟩ = some (.bool false) := (S.out.cell 0 rfl 3).trans rfl
  have z_gb_3 := S.out.frozen 0 rfl 3
  have f_gb_8 : w3.cell? ⟨gb, 8, none⟩ = some (.int .i64 0) := (S.out.cell 0 rfl 8).trans rfl
  have z_gb_8 := S.out.frozen 0 rfl 8
  have f_gb_5 : w3.cell? ⟨gb, 5, none⟩ = some (.int .i64 slot) := (S.out.cell 0 rfl 5).trans rfl
  have z_gb_5 := S.out.frozen 0 rfl 5
  have f_gb_1 : w3.cell? ⟨gb, 1, none⟩ = some (.int .i64 slot) := (S.out.cell 0 rfl 1).trans rfl
  have z_gb_1 := S.out.frozen 0 rfl 1
  go_wp2_with (first | ((with_reducible refine gate_dst (N := 28) rfl ?_); refine Kd.event_run rfl (Row.load_row_run (g := gc) (t := 43) (cells := #[.int .i64 a, .int .i64 b, .int .i64 d]) rfl rfl (S.out.blk 1 rfl) Try.underlying43 rfl (by kernel_rfl)) ?_) | ((with_reducible refine gate_dst (N := 29) rfl ?_); refine Kd.event_run rfl (Row.load_row_run (g := gb) (t := 59) (cells := gC (Gu.mk up slot epoch false opK slot opA opB 0 k n seq next who whoE own time was door beat entry snap plan code val count) A cA B cB) rfl rfl (S.out.blk 0 rfl) Try.underlying59 rfl (by kernel_rfl)) ?_))
  refine (HF.out _ (HR.out.below S.out.base)).mono ?_
  rintro e w4 ⟨rfl, hb⟩
  clear f_gb_3 z_gb_3 f_gb_8 z_gb_8 f_gb_5 z_gb_5 f_gb_1 z_gb_1
  have Sn_ := Aside0.mk (S.out.call hb)
  clear S hb
  have S := Sn_
  clear Sn_
  cases x with
  | false =>
    go_wp2
    go_ret
    exact ⟨rfl, S.out.base⟩
  | true =>
    go_wp2_with (first | ((with_reducible refine gate_dst (N := 32) rfl ?_); refine gate_guard (by rfl) ?_; refine Kd.event_run rfl (Row.load_row_run (g := gc) (t := 43) (cells := #[.int .i64 a, .int .i64 b, .int .i64 d]) rfl rfl (S.out.blk 1 rfl) Try.underlying43 rfl (by kernel_rfl)) ?_) | ((with_reducible refine gate_dst (N := 33) rfl ?_); refine gate_guard (by rfl) ?_; refine Kd.event_run rfl (Row.load_row_run (g := gb) (t := 59) (cells := gC (Gu.mk up slot epoch false opK slot opA opB 0 k n seq next who whoE own time was door beat entry snap plan code val count) A cA B cB) rfl rfl (S.out.blk 0 rfl) Try.underlying59 rfl (by kernel_rfl)) ?_))
    refine (HQ.out _ (HR.out.below S.out.base)).mono ?_
    rintro e w5 ⟨rfl, hb⟩
    have Sn_ := Aside0.mk (S.out.call hb)
    clear S hb
    have S := Sn_
    clear Sn_
    go_wp2
    go_ret
    exact ⟨rfl, S.out.base⟩
set_option maxHeartbeats 4000000 in
set_option maxRecDepth 100000 in
theorem sg_F (a b d : Int) (up own : Bool) (slot epoch opK opS opA opB k n seq next who whoE time was door beat entry code val count : Int) (snap plan : List Int) (A : Option Addr) (cA : Nat) (B : Option Addr) (cB : Nat) (w : World) (x y : Bool) (h : GC w (Gu.mk up slot epoch false opK opS opA opB 0 k n seq next who whoE own time was door beat entry snap plan code val count) A cA B cB) (hp : ∀ w, Calls Try.prog 46 #[.agg #[.int .i64 a, .int .i64 b, .int .i64 d]] w fun e w' => e = .returned (.bool true) ∧ Below w.heap.size w w')
    (hf : ∀ w, GC w (Gu.mk up slot epoch false opK opS opA opB 0 k n seq next who whoE own time was door beat entry snap plan code val count) A cA B cB → Calls Try.prog 61 #[.agg #[.int .i64 a, .int .i64 b, .int .i64 d], .agg (gC (Gu.mk up slot epoch false opK opS opA opB 0 k n seq next who whoE own time was door beat entry snap plan code val count) A cA B cB)] w fun e w' => e = .returned (.bool x) ∧ Below w.heap.size w w')
    (hq : ∀ w, GC w (Gu.mk up slot epoch false opK opS opA opB 0 k n seq next who whoE own time was door beat entry snap plan code val count) A cA B cB → Calls Try.prog 62 #[.agg #[.int .i64 a, .int .i64 b, .int .i64 d], .agg (gC (Gu.mk up slot epoch false opK opS opA opB 0 k n seq next who whoE own time was door beat entry snap plan code val count) A cA B cB)] w fun e w' => e = .returned (.bool y) ∧ Below w.heap.size w w') (hop : (opS != slot) = true) :
    Calls Try.prog 34 #[.agg #[.int .i64 a, .int .i64 b, .int .i64 d], .agg (gC (Gu.mk up slot epoch false opK opS opA opB 0 k n seq next who whoE own time was door beat entry snap plan code val count) A cA B cB)] w fun e w' => e = .returned (.bool (x && y)) ∧ Below w.heap.size w w' := by
  have HR := Aside0.mk h
  have HP := Aside0.mk hp
  have HF := Aside0.mk hf
  have HQ := Aside0.mk hq
  clear h hp hf hq
  have S := Aside0.mk (St.start w)
  go_enter Try.func34, Try.ntmps34
  go_wp2_with (first | ((with_reducible refine gate_dst (N := 2) rfl ?_); refine box_event rfl (N := 2) rfl (cs := #[.int .i64 a, .int .i64 b, .int .i64 d]) (t := 43) (by first | (go_simp; done) | (go_simp; rfl)) ?_; intro gc hg_ w1 hbox_ hb_; have Sn_ := Aside0.mk (S.out.box hg_ hbox_ hb_); clear hbox_ hb_ hg_ S; have S := Sn_; clear Sn_) | ((with_reducible refine gate_dst (N := 3) rfl ?_); refine box_event rfl (N := 3) rfl (cs := gC (Gu.mk up slot epoch false opK opS opA opB 0 k n seq next who whoE own time was door beat entry snap plan code val count) A cA B cB) (t := 59) (by first | (go_simp; done) | (go_simp; rfl)) ?_; intro gb hg_ w2 hbox_ hb_; have Sn_ := Aside0.mk (S.out.box hg_ hbox_ hb_); clear hbox_ hb_ hg_ S; have S := Sn_; clear Sn_) | ((with_reducible refine gate_dst (N := 5) rfl ?_); refine Kd.event_run rfl (Row.load_row_run (g := gc) (t := 43) (cells := #[.int .i64 a, .int .i64 b, .int .i64 d]) rfl rfl (S.out.blk 1 rfl) Try.underlying43 rfl (by kernel_rfl)) ?_))
  refine (HP.out _).mono ?_
  rintro e w3 ⟨rfl, hb⟩
  have Sn_ := Aside0.mk (S.out.call hb)
  clear S hb
  have S := Sn_
  clear Sn_
  have f_gb_3 : w3.cell? ⟨gb, 3, none⟩ = some (.bool false) := (S.out.cell 0 rfl 3).trans rfl
  have z_gb_3 := S.out.frozen 0 rfl 3
  have f_gb_8 : w3.cell? ⟨gb, 8, none⟩ = some (.int .i64 0) := (S.out.cell 0 rfl 8).trans rfl
  have z_gb_8 := S.out.frozen 0 rfl 8
  have f_gb_5 : w3.cell? ⟨gb, 5, none⟩ = some (.int .i64 opS) := (S.out.cell 0 rfl 5).trans rfl
  have z_gb_5 := S.out.frozen 0 rfl 5
  have f_gb_1 : w3.cell? ⟨gb, 1, none⟩ = some (.int .i64 slot) := (S.out.cell 0 rfl 1).trans rfl
  have z_gb_1 := S.out.frozen 0 rfl 1
  go_wp2_with (first | ((with_reducible refine gate_dst (N := 28) rfl ?_); refine Kd.event_run rfl (Row.load_row_run (g := gc) (t := 43) (cells := #[.int .i64 a, .int .i64 b, .int .i64 d]) rfl rfl (S.out.blk 1 rfl) Try.underlying43 rfl (by kernel_rfl)) ?_) | ((with_reducible refine gate_dst (N := 29) rfl ?_); refine Kd.event_run rfl (Row.load_row_run (g := gb) (t := 59) (cells := gC (Gu.mk up slot epoch false opK opS opA opB 0 k n seq next who whoE own time was door beat entry snap plan code val count) A cA B cB) rfl rfl (S.out.blk 0 rfl) Try.underlying59 rfl (by kernel_rfl)) ?_))
  refine (HF.out _ (HR.out.below S.out.base)).mono ?_
  rintro e w4 ⟨rfl, hb⟩
  clear f_gb_3 z_gb_3 f_gb_8 z_gb_8 f_gb_5 z_gb_5 f_gb_1 z_gb_1
  have Sn_ := Aside0.mk (S.out.call hb)
  clear S hb
  have S := Sn_
  clear Sn_
  cases x with
  | false =>
    go_wp2
    go_ret
    exact ⟨rfl, S.out.base⟩
  | true =>
    go_wp2_with (first | ((with_reducible refine gate_dst (N := 32) rfl ?_); refine gate_guard (by rfl) ?_; refine Kd.event_run rfl (Row.load_row_run (g := gc) (t := 43) (cells := #[.int .i64 a, .int .i64 b, .int .i64 d]) rfl rfl (S.out.blk 1 rfl) Try.underlying43 rfl (by kernel_rfl)) ?_) | ((with_reducible refine gate_dst (N := 33) rfl ?_); refine gate_guard (by rfl) ?_; refine Kd.event_run rfl (Row.load_row_run (g := gb) (t := 59) (cells := gC (Gu.mk up slot epoch false opK opS opA opB 0 k n seq next who whoE own time was door beat entry snap plan code val count) A cA B cB) rfl rfl (S.out.blk 0 rfl) Try.underlying59 rfl (by kernel_rfl)) ?_))
    refine (HQ.out _ (HR.out.below S.out.base)).mono ?_
    rintro e w5 ⟨rfl, hb⟩
    have Sn_ := Aside0.mk (S.out.call hb)
    clear S hb
    have S := Sn_
    clear Sn_
    go_wp2
    go_ret
    exact ⟨rfl, S.out.base⟩
theorem sg_calls (a b d : Int) (g : Gu) (A : Option Addr) (cA : Nat) (B : Option Addr) (cB : Nat) (w : World) (x y : Bool) (h : GC w g A cA B cB) (hp : ∀ w, Calls Try.prog 46 #[.agg #[.int .i64 a, .int .i64 b, .int .i64 d]] w fun e w' => e = .returned (.bool true) ∧ Below w.heap.size w w')
    (hf : ∀ w, GC w g A cA B cB → Calls Try.prog 61 #[.agg #[.int .i64 a, .int .i64 b, .int .i64 d], .agg (gC g A cA B cB)] w fun e w' => e = .returned (.bool x) ∧ Below w.heap.size w w')
    (hq : ∀ w, GC w g A cA B cB → Calls Try.prog 62 #[.agg #[.int .i64 a, .int .i64 b, .int .i64 d], .agg (gC g A cA B cB)] w fun e w' => e = .returned (.bool y) ∧ Below w.heap.size w w') :
    Calls Try.prog 34 #[.agg #[.int .i64 a, .int .i64 b, .int .i64 d], .agg (gC g A cA B cB)] w fun e w' => e = .returned (.bool (sgB g x y)) ∧ Below w.heap.size w w' := by
  obtain ⟨up, slot, epoch, busy, opK, opS, opA, opB, pc, k, n, seq, next, who, whoE, own, time, was, door, beat, entry, snap, plan, code, val, count⟩ := g
  by_cases hpc : pc = 0
  · subst hpc
    cases busy with
    | true => exact sg_A (h := h) (hp := hp) (hf := hf) (hq := hq)
    | false =>
      by_cases hs : opS = slot
      · subst hs
        have e : sgB (Gu.mk up opS epoch false opK opS opA opB 0 k n seq next who whoE own time was door beat entry snap plan code val count) x y = (x && y) := by simp [sgB]
        rw [e]
        exact sg_E (h := h) (hp := hp) (hf := hf) (hq := hq)
      · have e : sgB (Gu.mk up slot epoch false opK opS opA opB 0 k n seq next who whoE own time was door beat entry snap plan code val count) x y = (x && y) := by simp [sgB]
        rw [e]
        exact sg_F (h := h) (hp := hp) (hf := hf) (hq := hq) (hop := bne_iff_ne.mpr hs)
  · have hb : (pc == 0) = false := beq_eq_false_iff_ne.mpr hpc
    cases busy with
    | false =>
      have e : sgB (Gu.mk up slot epoch false opK opS opA opB pc k n seq next who whoE own time was door beat entry snap plan code val count) x y = false := by simp [sgB, hpc]
      rw [e]
      exact sg_B (h := h) (hp := hp) (hf := hf) (hq := hq) (hpc := hb)
    | true =>
      by_cases hs : opS = slot
      · subst hs
        have e : sgB (Gu.mk up opS epoch true opK opS opA opB pc k n seq next who whoE own time was door beat entry snap plan code val count) x y = (x && y) := by simp [sgB, hpc]
        rw [e]
        exact sg_C (h := h) (hp := hp) (hf := hf) (hq := hq) (hpc := hb)
      · have e : sgB (Gu.mk up slot epoch true opK opS opA opB pc k n seq next who whoE own time was door beat entry snap plan code val count) x y = false := by simp [sgB, hs]
        rw [e]
        exact sg_D (h := h) (hp := hp) (hf := hf) (hq := hq) (hpc := hb) (hop := bne_iff_ne.mpr hs)
end Go.Proofs.Ytfpdccaomhjpjaa.Gu

/- FnPlat: the law's own walk. -/
import Derived.Test.YtbcpkbbdmkmpkaaFnPlatPl
import Derived.Test.YtbcpkbbdmkmpkaaSt0
set_option linter.unusedVariables false
set_option linter.unusedSimpArgs false
namespace Go.Proofs.Ytbcpkbbdmkmpkaa.PFnPlat
open Go.RowKit Go.Proofs.YtbcpkbbdmkmpkaaW.PrintWords Go.Proofs.YtbcpkbbdmkmpkaaW.PrintLast Go.Proofs.YtbcpkbbdmkmpkaaW.PrintMore Go.Proofs.Ytbcpkbbdmkmpkaa.Pl Go.Proofs.Ytbcpkbbdmkmpkaa.Cl Go.Proofs.Ytbcpkbbdmkmpkaa.St0

theorem calls_of_args {P : Program} {f : FuncId} {args args' : Array Value} {w : World} {K : Ending → World → Prop} (e : args = args') (h : Calls P f args' w K) : Calls P f args w K := e ▸ h
theorem u64_list {l : List Int} {n : Nat} (h : l.length = n) : l.length = n := h
def isB (l : List Int) : Bool := decide (l.length ≤ 9223372036854775807) && l.all fun y => (Lit.int .u8 y).wf
def laws_FnPlat.f (k : Nat) (l0 : List Int) : Option Bool := if isB l0 = true then some true else none
set_option maxHeartbeats 8000000 in
set_option maxRecDepth 100000 in
theorem plat_big (A0 : Option Addr) (c0 : Nat) (l0 : List Int) (w : World) (hr0 : Kd.C (Kd.int .u8) w A0 l0.length l0) (hc0 : l0.length ≤ c0) (hbig : (l0.length : Int) > 1048576) :
    Calls Try.prog 9 #[.slice A0 l0.length c0] w fun e w' => e = .returned (.bool true) ∧ Below w.heap.size w w' := by
  have HR := Aside0.mk hr0
  have HC := Aside0.mk hc0
  clear hr0 hc0
  have S := Aside0.mk (St.start w)
  go_enter Try.func9, Try.ntmps9
  go_wp2
  go_ret
  exact ⟨rfl, S.out.base⟩
set_option maxHeartbeats 8000000 in
set_option maxRecDepth 100000 in
theorem plat_no (A0 : Option Addr) (c0 : Nat) (l0 : List Int) (w : World) (hr0 : Kd.C (Kd.int .u8) w A0 l0.length l0) (hc0 : l0.length ≤ c0) (a b d : Int) (e1 : spec_DrawPlatOk.f 15 l0 = some (a, b, d)) (hno : ¬ pok a b d) (hbig : ¬ (l0.length : Int) > 1048576) :
    Calls Try.prog 9 #[.slice A0 l0.length c0] w fun e w' => e = .returned (.bool true) ∧ Below w.heap.size w w' := by
  have HR := Aside0.mk hr0
  have HC := Aside0.mk hc0
  clear hr0 hc0
  have E1 := Aside0.mk e1
  have HNO := Aside0.mk hno
  obtain ⟨rl, hrl⟩ : ∃ rl, fmt a b d = rl := ⟨_, rfl⟩
  have HRL := Aside0.mk hrl
  have hl0 : rl = [] := by rw [← hrl]; exact fmt_no hno
  have HCK : Aside0 (chk rl = (0, 0, 0, false)) := ⟨by rw [hl0]; rfl⟩
  have HRG : Aside0 (∀ x ∈ rl, 0 ≤ x ∧ x ≤ 18446744073709551615) := ⟨by rw [← hrl]; exact fmt_rng a b d⟩
  have hlen : (rl.length : Int) = 0 := by rw [hl0]; rfl
  have hnz : ((rl.length : Int) != 0) = false := by rw [hlen]; rfl
  have hnp : decide (pok a b d) = false := decide_eq_false hno
  clear e1 hno hrl hl0 hlen
  have S := Aside0.mk (St.start w)
  go_enter Try.func9, Try.ntmps9
  go_wp2_with fail
  refine (spec_DrawPlatOk.calls 15 A0 c0 l0 a b d _ (Kd.C_below HR.out S.out.base) HC.out E1.out).mono ?_
  rintro e w1 ⟨rfl, hb⟩
  have Sn_ := Aside0.mk (S.out.call hb)
  clear S hb
  have S := Sn_
  clear Sn_
  go_wp2_with (first | ((with_reducible refine gate_dst (N := 3) rfl ?_); refine box_event rfl (N := 3) rfl (cs := #[.int .i64 0, .int .i64 0, .int .i64 0]) (t := 25) (by first | (go_simp; done) | (go_simp; rfl)) ?_; intro gc hg_ w2 hbox_ hb_; have Sn_ := Aside0.mk (S.out.box hg_ hbox_ hb_); clear hbox_ hb_ hg_ S; have S := Sn_; clear Sn_) | ((with_reducible refine gate_store (t := 25) (p := 3) rfl ?_); refine store_event (t := 25) (p := 3) (v := ?vo_1) (w1 := w2.setRow gc (#[.int .i64 a, .int .i64 b, .int .i64 d])) ?hg ?ho ?hn ?hr ?_; (case ho => rfl); (case hg => rfl); (case hn => rfl); (case hr => exact (Row.store_row_run (g := gc) (cells := #[.int .i64 a, .int .i64 b, .int .i64 d]) (t := 25) (old := #[.int .i64 0, .int .i64 0, .int .i64 0]) rfl (by rfl) (by rfl) (S.out.blk 0 rfl) (by kernel_rfl) rfl (by simp [Value.oneCell']))); intro w3 hw_; have Sn_ := Aside0.mk ((S.out.setRow (cs' := #[.int .i64 a, .int .i64 b, .int .i64 d]) 0 rfl rfl).of hw_); clear S hw_; have S := Sn_; clear Sn_) | ((with_reducible refine gate_dst (N := 19) rfl ?_); refine Kd.event_run rfl (Row.load_row_run (g := gc) (t := 25) (cells := #[.int .i64 a, .int .i64 b, .int .i64 d]) rfl rfl (S.out.blk 0 rfl) Try.underlying25 rfl (by kernel_rfl)) ?_))
  refine (impl_PlatFormat.calls a b d rl _ (by rw [ifmt_eq, HRL.out])).mono ?_
  rintro e w4 ⟨v4, rfl, ho, hb⟩
  have Sn_ := Aside0.mk (S.out.new (P := fun w_ => Rw (Kd.int .u64) 40 w3.heap.size w4.heap.size v4 rl w_) hb (Rw.of ho) (Rw.stable _ _ _ _ _ _))
  clear S hb ho
  have S := Sn_
  clear Sn_
  obtain ⟨A4, c4, e4⟩ := Rw.slice (S.out.get 0 rfl)
  subst e4
  go_wp2_with fail
  refine (impl_PlatCheck.calls 15 A4 c4 rl 0 0 0 false _ (Rw.c (S.out.get 0 rfl)).1 (by have := (Rw.c (S.out.get 0 rfl)).2.2; exact this) (by rw [icheck_eq _ HRG.out _ (by omega), HCK.out])).mono ?_
  rintro e w5 ⟨rfl, hb⟩
  have Sn_ := Aside0.mk (S.out.call hb)
  clear S hb
  have S := Sn_
  clear Sn_
  go_wp2_with (first | ((with_reducible refine gate_dst (N := 5) rfl ?_); refine box_event rfl (N := 5) rfl (cs := #[.int .i64 0, .int .i64 0, .int .i64 0]) (t := 25) (by first | (go_simp; done) | (go_simp; rfl)) ?_; intro g5 hg_ w6 hbox_ hb_; have Sn_ := Aside0.mk (S.out.box hg_ hbox_ hb_); clear hbox_ hb_ hg_ S; have S := Sn_; clear Sn_) | ((with_reducible refine gate_store (t := 25) (p := 5) rfl ?_); refine store_event (t := 25) (p := 5) (v := ?vo_2) (w1 := w6.setRow g5 (#[.int .i64 0, .int .i64 0, .int .i64 0])) ?hg ?ho ?hn ?hr ?_; (case ho => rfl); (case hg => rfl); (case hn => rfl); (case hr => exact (Row.store_row_run (g := g5) (cells := #[.int .i64 0, .int .i64 0, .int .i64 0]) (t := 25) (old := #[.int .i64 0, .int .i64 0, .int .i64 0]) rfl (by rfl) (by rfl) (S.out.blk 0 rfl) (by kernel_rfl) rfl (by simp [Value.oneCell']))); intro w7 hw_; have Sn_ := Aside0.mk ((S.out.setRow (cs' := #[.int .i64 0, .int .i64 0, .int .i64 0]) 0 rfl rfl).of hw_); clear S hw_; have S := Sn_; clear Sn_))
  refine start_ (n := 26) (S := fun w_ => St w w_ [Blk g5 (#[.int .i64 0, .int .i64 0, .int .i64 0]) 25, ⟨w3.heap.size, w4.heap.size, fun w_ => Rw (Kd.int .u64) 40 w3.heap.size w4.heap.size (.slice A4 rl.length c4) rl w_⟩, Blk gc (#[.int .i64 a, .int .i64 b, .int .i64 d]) 25]) (ds := []) #[false, false, false, false, false, false, false, false, false, false, false, false, false, false, false, false, false, false, false, false, false, false, false, false, false, false] (by kernel_rfl) rfl rfl S.out.drew (fun hH_ => ?_)
  refine pure_ (i := 0) (N := some 26) (v := ?_) (a' := ?_) #[true, false, false, false, false, false, false, false, false, false, false, false, false, false, false, false, false, false, false, false, false, false, false, false, false, false] rfl rfl (by kernel_rfl) (fun _ _ _ h => h) (Or.inl ⟨by rfl, ?_⟩) ?_ ?_
  rotate_left
  · intro w'
    go_simp
    with_reducible rfl
  rotate_left
  · simp only [Act.put, List.setIfInBounds_toArray, List.set_cons_zero, List.set_cons_succ, i64_w, i32_w]
    rfl
  refine take_ (i := 1) (N := some 27) (v := .agg (#[.int .i64 a, .int .i64 b, .int .i64 d])) (a' := ?_) #[true, true, false, false, false, false, false, false, false, false, false, false, false, false, false, false, false, false, false, false, false, false, false, false, false, false] rfl rfl (by kernel_rfl) (fun _ _ _ h => h) (Or.inl ⟨by rfl, fun w' s0 => Row.load_row_run (g := gc) (t := 25) (cells := #[.int .i64 a, .int .i64 b, .int .i64 d]) rfl rfl (s0.blk 2 rfl) Try.underlying25 rfl (by kernel_rfl)⟩) hH_ ?_ ?_
  rotate_left
  · simp only [Act.put, List.setIfInBounds_toArray, List.set_cons_zero, List.set_cons_succ, i64_w, i32_w]
    rfl
  refine one_ (i := 2) (N := some 28) #[true, true, true, false, false, false, false, false, false, false, false, false, false, false, false, false, false, false, false, false, false, false, false, false, false, false] rfl rfl (by kernel_rfl) (by decide) (fun K hK => ?_)
  refine goes_ Try.func31 (by kernel_rfl) rfl #[.agg #[.int .i64 a, .int .i64 b, .int .i64 d]] (by rfl) rfl rfl (by (try simp only [List.map_toArray, List.map_cons, List.map_nil]); first | done | rfl) ?_
  refine (spec_PlatOk.calls a b d false _ (by rw [splatok_eq, decide_eq_false HNO.out])).mono ?_
  rintro e w8 ⟨rfl, hb⟩
  have hHw8_ := hH_.call hb
  refine ⟨_, rfl, hK.out _ _ hHw8_ (fun hX_ => ?_)⟩
  clear hK K hX_
  refine norm_ (a' := ?_) ?_ ?_
  rotate_left
  · show Act.put _ (some 28) _ = _
    simp only [Act.put, List.setIfInBounds_toArray, List.set_cons_zero, List.set_cons_succ, i64_w, i32_w]
    rfl
  clear hb
  refine pure_ (i := 3) (N := some 29) (v := ?_) (a' := ?_) #[true, true, true, true, false, false, false, false, false, false, false, false, false, false, false, false, false, false, false, false, false, false, false, false, false, false] rfl rfl (by kernel_rfl) (fun _ _ _ h => h) (Or.inl ⟨by rfl, ?_⟩) ?_ ?_
  rotate_left
  · intro w'
    go_simp
    with_reducible rfl
  rotate_left
  · simp only [Act.put, List.setIfInBounds_toArray, List.set_cons_zero, List.set_cons_succ, i64_w, i32_w]
    rfl
  refine pure_ (i := 4) (N := some 30) (v := ?_) (a' := ?_) #[true, true, true, true, true, false, false, false, false, false, false, false, false, false, false, false, false, false, false, false, false, false, false, false, false, false] rfl rfl (by kernel_rfl) (fun _ _ _ h => h) (Or.inl ⟨by rfl, ?_⟩) ?_ ?_
  rotate_left
  · intro w'
    go_simp
    with_reducible rfl
  rotate_left
  · simp only [Act.put, List.setIfInBounds_toArray, List.set_cons_zero, List.set_cons_succ, i64_w, i32_w]
    rfl
  refine pure_ (i := 5) (N := some 31) (v := ?_) (a' := ?_) #[true, true, true, true, true, true, false, false, false, false, false, false, false, false, false, false, false, false, false, false, false, false, false, false, false, false] rfl rfl (by kernel_rfl) (fun _ _ _ h => h) (Or.inl ⟨by rfl, ?_⟩) ?_ ?_
  rotate_left
  · intro w'
    go_simp
    with_reducible rfl
  rotate_left
  · simp only [Act.put, List.setIfInBounds_toArray, List.set_cons_zero, List.set_cons_succ, i64_w, i32_w]
    rfl
  refine pure_ (i := 6) (N := some 32) (v := ?_) (a' := ?_) #[true, true, true, true, true, true, true, false, false, false, false, false, false, false, false, false, false, false, false, false, false, false, false, false, false, false] rfl rfl (by kernel_rfl) (fun _ _ _ h => h) (Or.inl ⟨by rfl, ?_⟩) ?_ ?_
  rotate_left
  · intro w'
    go_simp
    with_reducible rfl
  rotate_left
  · simp only [Act.put, List.setIfInBounds_toArray, List.set_cons_zero, List.set_cons_succ, i64_w, i32_w]
    rfl
  refine pure_ (i := 7) (N := some 33) (v := undef) (a' := ?_) #[true, true, true, true, true, true, true, true, false, false, false, false, false, false, false, false, false, false, false, false, false, false, false, false, false, false] rfl rfl (by kernel_rfl) (fun _ _ _ h => h) (Or.inr ⟨by rfl, rfl⟩) ?_ ?_
  rotate_left
  · simp only [Act.put, List.setIfInBounds_toArray, List.set_cons_zero, List.set_cons_succ, i64_w, i32_w]
    rfl
  refine pure_ (i := 8) (N := some 34) (v := undef) (a' := ?_) #[true, true, true, true, true, true, true, true, true, false, false, false, false, false, false, false, false, false, false, false, false, false, false, false, false, false] rfl rfl (by kernel_rfl) (fun _ _ _ h => h) (Or.inr ⟨by rfl, rfl⟩) ?_ ?_
  rotate_left
  · simp only [Act.put, List.setIfInBounds_toArray, List.set_cons_zero, List.set_cons_succ, i64_w, i32_w]
    rfl
  refine pure_ (i := 9) (N := some 35) (v := undef) (a' := ?_) #[true, true, true, true, true, true, true, true, true, true, false, false, false, false, false, false, false, false, false, false, false, false, false, false, false, false] rfl rfl (by kernel_rfl) (fun _ _ _ h => h) (Or.inr ⟨by rfl, rfl⟩) ?_ ?_
  rotate_left
  · simp only [Act.put, List.setIfInBounds_toArray, List.set_cons_zero, List.set_cons_succ, i64_w, i32_w]
    rfl
  refine pure_ (i := 10) (N := some 36) (v := ?_) (a' := ?_) #[true, true, true, true, true, true, true, true, true, true, true, false, false, false, false, false, false, false, false, false, false, false, false, false, false, false] rfl rfl (by kernel_rfl) (fun _ _ _ h => h) (Or.inl ⟨by rfl, ?_⟩) ?_ ?_
  rotate_left
  · intro w'
    go_simp
    with_reducible rfl
  rotate_left
  · simp only [Act.put, List.setIfInBounds_toArray, List.set_cons_zero, List.set_cons_succ, i64_w, i32_w]
    rfl
  refine pure_ (i := 11) (N := some 37) (v := ?_) (a' := ?_) #[true, true, true, true, true, true, true, true, true, true, true, true, false, false, false, false, false, false, false, false, false, false, false, false, false, false] rfl rfl (by kernel_rfl) (fun _ _ _ h => h) (Or.inl ⟨by rfl, ?_⟩) ?_ ?_
  rotate_left
  · intro w'
    go_simp
    with_reducible rfl
  rotate_left
  · simp only [Act.put, List.setIfInBounds_toArray, List.set_cons_zero, List.set_cons_succ, i64_w, i32_w]
    rfl
  refine pure_ (i := 12) (N := some 38) (v := ?_) (a' := ?_) #[true, true, true, true, true, true, true, true, true, true, true, true, true, false, false, false, false, false, false, false, false, false, false, false, false, false] rfl rfl (by kernel_rfl) (fun _ _ _ h => h) (Or.inl ⟨by rfl, ?_⟩) ?_ ?_
  rotate_left
  · intro w'
    go_simp
    with_reducible rfl
  rotate_left
  · simp only [Act.put, List.setIfInBounds_toArray, List.set_cons_zero, List.set_cons_succ, i64_w, i32_w]
    rfl
  refine pure_ (i := 13) (N := some 39) (v := ?_) (a' := ?_) #[true, true, true, true, true, true, true, true, true, true, true, true, true, true, false, false, false, false, false, false, false, false, false, false, false, false] rfl rfl (by kernel_rfl) (fun _ _ _ h => h) (Or.inl ⟨by rfl, ?_⟩) ?_ ?_
  rotate_left
  · intro w'
    go_simp
    with_reducible rfl
  rotate_left
  · simp only [Act.put, List.setIfInBounds_toArray, List.set_cons_zero, List.set_cons_succ, i64_w, i32_w]
    rfl
  refine pure_ (i := 14) (N := some 40) (v := ?_) (a' := ?_) #[true, true, true, true, true, true, true, true, true, true, true, true, true, true, true, false, false, false, false, false, false, false, false, false, false, false] rfl rfl (by kernel_rfl) (fun _ _ _ h => h) (Or.inl ⟨by rfl, ?_⟩) ?_ ?_
  rotate_left
  · intro w'
    go_simp
    with_reducible rfl
  rotate_left
  · simp only [Act.put, List.setIfInBounds_toArray, List.set_cons_zero, List.set_cons_succ, i64_w, i32_w]
    rfl
  refine take_ (i := 15) (N := some 41) (v := .agg (#[.int .i64 a, .int .i64 b, .int .i64 d])) (a' := ?_) #[true, true, true, true, true, true, true, true, true, true, true, true, true, true, true, true, false, false, false, false, false, false, false, false, false, false] rfl rfl (by kernel_rfl) (fun _ _ _ h => h) (Or.inl ⟨by rfl, fun w' s0 => Row.load_row_run (g := gc) (t := 25) (cells := #[.int .i64 a, .int .i64 b, .int .i64 d]) rfl rfl (s0.blk 2 rfl) Try.underlying25 rfl (by kernel_rfl)⟩) hHw8_ ?_ ?_
  rotate_left
  · simp only [Act.put, List.setIfInBounds_toArray, List.set_cons_zero, List.set_cons_succ, i64_w, i32_w]
    rfl
  refine one_ (i := 16) (N := some 42) #[true, true, true, true, true, true, true, true, true, true, true, true, true, true, true, true, true, false, false, false, false, false, false, false, false, false] rfl rfl (by kernel_rfl) (by decide) (fun K hK => ?_)
  refine goes_ Try.func32 (by kernel_rfl) rfl #[.agg #[.int .i64 a, .int .i64 b, .int .i64 d]] (by rfl) rfl rfl (by (try simp only [List.map_toArray, List.map_cons, List.map_nil]); first | done | rfl) ?_
  refine (impl_PlatSize.calls a b d 0 _ (psizes_no HNO.out).1).mono ?_
  rintro e w9 ⟨rfl, hb⟩
  have hHw9_ := hHw8_.call hb
  refine ⟨_, rfl, hK.out _ _ hHw9_ (fun hX_ => ?_)⟩
  clear hK K hX_
  refine norm_ (a' := ?_) ?_ ?_
  rotate_left
  · show Act.put _ (some 42) _ = _
    simp only [Act.put, List.setIfInBounds_toArray, List.set_cons_zero, List.set_cons_succ, i64_w, i32_w]
    rfl
  clear hb
  refine pure_ (i := 17) (N := some 43) (v := ?_) (a' := ?_) #[true, true, true, true, true, true, true, true, true, true, true, true, true, true, true, true, true, true, false, false, false, false, false, false, false, false] rfl rfl (by kernel_rfl) (fun _ _ _ h => h) (Or.inl ⟨by rfl, ?_⟩) ?_ ?_
  rotate_left
  · intro w'
    go_simp
    with_reducible rfl
  rotate_left
  · simp only [Act.put, List.setIfInBounds_toArray, List.set_cons_zero, List.set_cons_succ, i64_w, i32_w]
    rfl
  refine pure_ (i := 18) (N := some 44) (v := ?_) (a' := ?_) #[true, true, true, true, true, true, true, true, true, true, true, true, true, true, true, true, true, true, true, false, false, false, false, false, false, false] rfl rfl (by kernel_rfl) (fun _ _ _ h => h) (Or.inl ⟨by rfl, ?_⟩) ?_ ?_
  rotate_left
  · intro w'
    go_simp
    with_reducible rfl
  rotate_left
  · simp only [Act.put, List.setIfInBounds_toArray, List.set_cons_zero, List.set_cons_succ, i64_w, i32_w]
    rfl
  refine pure_ (i := 19) (N := some 45) (v := ?_) (a' := ?_) #[true, true, true, true, true, true, true, true, true, true, true, true, true, true, true, true, true, true, true, true, false, false, false, false, false, false] rfl rfl (by kernel_rfl) (fun _ _ _ h => h) (Or.inl ⟨by rfl, ?_⟩) ?_ ?_
  rotate_left
  · intro w'
    go_simp
    with_reducible rfl
  rotate_left
  · simp only [Act.put, List.setIfInBounds_toArray, List.set_cons_zero, List.set_cons_succ, i64_w, i32_w]
    rfl
  refine take_ (i := 20) (N := some 46) (v := .agg (#[.int .i64 a, .int .i64 b, .int .i64 d])) (a' := ?_) #[true, true, true, true, true, true, true, true, true, true, true, true, true, true, true, true, true, true, true, true, true, false, false, false, false, false] rfl rfl (by kernel_rfl) (fun _ _ _ h => h) (Or.inl ⟨by rfl, fun w' s0 => Row.load_row_run (g := gc) (t := 25) (cells := #[.int .i64 a, .int .i64 b, .int .i64 d]) rfl rfl (s0.blk 2 rfl) Try.underlying25 rfl (by kernel_rfl)⟩) hHw9_ ?_ ?_
  rotate_left
  · simp only [Act.put, List.setIfInBounds_toArray, List.set_cons_zero, List.set_cons_succ, i64_w, i32_w]
    rfl
  refine take_ (i := 22) (N := some 48) (v := .agg (#[.int .i64 a, .int .i64 b, .int .i64 d])) (a' := ?_) #[true, true, true, true, true, true, true, true, true, true, true, true, true, true, true, true, true, true, true, true, true, false, true, false, false, false] rfl rfl (by kernel_rfl) (fun _ _ _ h => h) (Or.inl ⟨by rfl, fun w' s0 => Row.load_row_run (g := gc) (t := 25) (cells := #[.int .i64 a, .int .i64 b, .int .i64 d]) rfl rfl (s0.blk 2 rfl) Try.underlying25 rfl (by kernel_rfl)⟩) hHw9_ ?_ ?_
  rotate_left
  · simp only [Act.put, List.setIfInBounds_toArray, List.set_cons_zero, List.set_cons_succ, i64_w, i32_w]
    rfl
  refine one_ (i := 21) (N := some 47) #[true, true, true, true, true, true, true, true, true, true, true, true, true, true, true, true, true, true, true, true, true, true, true, false, false, false] rfl rfl (by kernel_rfl) (by decide) (fun K hK => ?_)
  refine goes_ Try.func32 (by kernel_rfl) rfl #[.agg #[.int .i64 a, .int .i64 b, .int .i64 d]] (by rfl) rfl rfl (by (try simp only [List.map_toArray, List.map_cons, List.map_nil]); first | done | rfl) ?_
  refine (impl_PlatSize.calls a b d 0 _ (psizes_no HNO.out).1).mono ?_
  rintro e w10 ⟨rfl, hb⟩
  have hHw10_ := hHw9_.call hb
  refine ⟨_, rfl, hK.out _ _ hHw10_ (fun hX_ => ?_)⟩
  clear hK K hX_
  refine norm_ (a' := ?_) ?_ ?_
  rotate_left
  · show Act.put _ (some 47) _ = _
    simp only [Act.put, List.setIfInBounds_toArray, List.set_cons_zero, List.set_cons_succ, i64_w, i32_w]
    rfl
  clear hb
  refine one_ (i := 23) (N := some 49) #[true, true, true, true, true, true, true, true, true, true, true, true, true, true, true, true, true, true, true, true, true, true, true, true, false, false] rfl rfl (by kernel_rfl) (by decide) (fun K hK => ?_)
  refine goes_ Try.func33 (by kernel_rfl) rfl #[.agg #[.int .i64 a, .int .i64 b, .int .i64 d]] (by rfl) rfl rfl (by (try simp only [List.map_toArray, List.map_cons, List.map_nil]); first | done | rfl) ?_
  refine (spec_PlatSize.calls a b d 0 _ (psizes_no HNO.out).2).mono ?_
  rintro e w11 ⟨rfl, hb⟩
  have hHw11_ := hHw10_.call hb
  refine ⟨_, rfl, hK.out _ _ hHw11_ (fun hX_ => ?_)⟩
  clear hK K hX_
  refine norm_ (a' := ?_) ?_ ?_
  rotate_left
  · show Act.put _ (some 49) _ = _
    simp only [Act.put, List.setIfInBounds_toArray, List.set_cons_zero, List.set_cons_succ, i64_w, i32_w]
    rfl
  clear hb
  refine pure_ (i := 24) (N := some 50) (v := ?_) (a' := ?_) #[true, true, true, true, true, true, true, true, true, true, true, true, true, true, true, true, true, true, true, true, true, true, true, true, true, false] rfl rfl (by kernel_rfl) (fun _ _ _ h => h) (Or.inl ⟨by rfl, ?_⟩) ?_ ?_
  rotate_left
  · intro w'
    go_simp
    with_reducible rfl
  rotate_left
  · simp only [Act.put, List.setIfInBounds_toArray, List.set_cons_zero, List.set_cons_succ, i64_w, i32_w]
    rfl
  refine pure_ (i := 25) (N := some 51) (v := ?_) (a' := ?_) #[true, true, true, true, true, true, true, true, true, true, true, true, true, true, true, true, true, true, true, true, true, true, true, true, true, true] rfl rfl (by kernel_rfl) (fun _ _ _ h => h) (Or.inl ⟨by rfl, ?_⟩) ?_ ?_
  rotate_left
  · intro w'
    go_simp
    with_reducible rfl
  rotate_left
  · simp only [Act.put, List.setIfInBounds_toArray, List.set_cons_zero, List.set_cons_succ, i64_w, i32_w]
    rfl
  refine done_ (by kernel_rfl) ?_
  have Sn_ := Aside0.mk (hHw11_)
  clear S
  have S := Sn_
  clear Sn_
  clear hH_ hHw8_ hHw9_ hHw10_ hHw11_
  go_wp2_with (first | ((with_reducible refine gate_dst (N := 54) rfl ?_); refine Kd.event_run rfl (Row.load_row_run (g := gc) (t := 25) (cells := #[.int .i64 a, .int .i64 b, .int .i64 d]) rfl rfl (S.out.blk 2 rfl) Try.underlying25 rfl (by kernel_rfl)) ?_))
  refine (impl_PlatReg.calls a b d 0 0 _ (PlatReg_no HNO.out)).mono ?_
  rintro e w12 ⟨rfl, hb⟩
  have Sn_ := Aside0.mk (S.out.call hb)
  clear S hb
  have S := Sn_
  clear Sn_
  go_wp2_with (first | ((with_reducible refine gate_dst (N := 58) rfl ?_); refine gate_guard (by rfl) ?_; refine Kd.event_run rfl (Row.load_row_run (g := gc) (t := 25) (cells := #[.int .i64 a, .int .i64 b, .int .i64 d]) rfl rfl (S.out.blk 2 rfl) Try.underlying25 rfl (by kernel_rfl)) ?_))
  refine (impl_PlatDesk.calls a b d 0 0 _ (PlatDesk_no HNO.out)).mono ?_
  rintro e w13 ⟨rfl, hb⟩
  have Sn_ := Aside0.mk (S.out.call hb)
  clear S hb
  have S := Sn_
  clear Sn_
  go_wp2
  go_ret
  exact ⟨rfl, S.out.base⟩
set_option maxHeartbeats 8000000 in
set_option maxRecDepth 100000 in
theorem plat_yes (A0 : Option Addr) (c0 : Nat) (l0 : List Int) (w : World) (hr0 : Kd.C (Kd.int .u8) w A0 l0.length l0) (hc0 : l0.length ≤ c0) (a b d : Nat) (e1 : spec_DrawPlatOk.f 15 l0 = some ((a : Int), (b : Int), (d : Int))) (hok : pok a b d) (hbig : ¬ (l0.length : Int) > 1048576) :
    Calls Try.prog 9 #[.slice A0 l0.length c0] w fun e w' => e = .returned (.bool true) ∧ Below w.heap.size w w' := by
  have HR := Aside0.mk hr0
  have HC := Aside0.mk hc0
  clear hr0 hc0
  have E1 := Aside0.mk e1
  have HOK := Aside0.mk hok
  obtain ⟨rl, hrl⟩ : ∃ rl, fmt a b d = rl := ⟨_, rfl⟩
  have HRL := Aside0.mk hrl
  have hle : (1 ≤ a ∧ a ≤ 4) ∧ 1 ≤ b ∧ b ≤ 6 := by unfold pok at hok; omega
  have HLE := Aside0.mk hle
  have HCK : Aside0 (chk rl = ((a : Int), (b : Int), (d : Int), true)) := ⟨by rw [← hrl]; exact fmt_chk hok⟩
  have HRG : Aside0 (∀ x ∈ rl, 0 ≤ x ∧ x ≤ 18446744073709551615) := ⟨by rw [← hrl]; exact fmt_rng a b d⟩
  have hlen : rl.length = 7 + 23 * a + 17 * b := by have := fmt_len hok; rw [hrl] at this; unfold hsize at this; omega
  have HLN := Aside0.mk hlen
  obtain ⟨sz, hsz⟩ : ∃ sz : Int, sz = hsize a b := ⟨_, rfl⟩
  have HSZ := Aside0.mk hsz
  have hnz : ((rl.length : Int) != sz) = false := by rw [hsz, hlen]; unfold hsize; rw [bne_eq_false_iff_eq]; omega
  have hss : (sz != sz) = false := bne_self_eq_false _
  have haa : ((a : Int) == (a : Int)) = true := beq_self_eq_true _
  have hbb : ((b : Int) == (b : Int)) = true := beq_self_eq_true _
  have hdd : ((d : Int) == (d : Int)) = true := beq_self_eq_true _
  clear e1 hok hrl hlen hsz hle
  have S := Aside0.mk (St.start w)
  go_enter Try.func9, Try.ntmps9
  go_wp2_with fail
  refine (spec_DrawPlatOk.calls 15 A0 c0 l0 a b d _ (Kd.C_below HR.out S.out.base) HC.out E1.out).mono ?_
  rintro e w1 ⟨rfl, hb⟩
  have Sn_ := Aside0.mk (S.out.call hb)
  clear S hb
  have S := Sn_
  clear Sn_
  go_wp2_with (first | ((with_reducible refine gate_dst (N := 3) rfl ?_); refine box_event rfl (N := 3) rfl (cs := #[.int .i64 0, .int .i64 0, .int .i64 0]) (t := 25) (by first | (go_simp; done) | (go_simp; rfl)) ?_; intro gc hg_ w2 hbox_ hb_; have Sn_ := Aside0.mk (S.out.box hg_ hbox_ hb_); clear hbox_ hb_ hg_ S; have S := Sn_; clear Sn_) | ((with_reducible refine gate_store (t := 25) (p := 3) rfl ?_); refine store_event (t := 25) (p := 3) (v := ?vo_3) (w1 := w2.setRow gc (#[.int .i64 (a : Int), .int .i64 (b : Int), .int .i64 (d : Int)])) ?hg ?ho ?hn ?hr ?_; (case ho => rfl); (case hg => rfl); (case hn => rfl); (case hr => exact (Row.store_row_run (g := gc) (cells := #[.int .i64 (a : Int), .int .i64 (b : Int), .int .i64 (d : Int)]) (t := 25) (old := #[.int .i64 0, .int .i64 0, .int .i64 0]) rfl (by rfl) (by rfl) (S.out.blk 0 rfl) (by kernel_rfl) rfl (by simp [Value.oneCell']))); intro w3 hw_; have Sn_ := Aside0.mk ((S.out.setRow (cs' := #[.int .i64 (a : Int), .int .i64 (b : Int), .int .i64 (d : Int)]) 0 rfl rfl).of hw_); clear S hw_; have S := Sn_; clear Sn_) | ((with_reducible refine gate_dst (N := 19) rfl ?_); refine Kd.event_run rfl (Row.load_row_run (g := gc) (t := 25) (cells := #[.int .i64 (a : Int), .int .i64 (b : Int), .int .i64 (d : Int)]) rfl rfl (S.out.blk 0 rfl) Try.underlying25 rfl (by kernel_rfl)) ?_))
  refine (impl_PlatFormat.calls a b d rl _ (by rw [ifmt_eq, HRL.out])).mono ?_
  rintro e w4 ⟨v4, rfl, ho, hb⟩
  have Sn_ := Aside0.mk (S.out.new (P := fun w_ => Rw (Kd.int .u64) 40 w3.heap.size w4.heap.size v4 rl w_) hb (Rw.of ho) (Rw.stable _ _ _ _ _ _))
  clear S hb ho
  have S := Sn_
  clear Sn_
  obtain ⟨A4, c4, e4⟩ := Rw.slice (S.out.get 0 rfl)
  subst e4
  go_wp2_with fail
  refine (impl_PlatCheck.calls 15 A4 c4 rl a b d true _ (Rw.c (S.out.get 0 rfl)).1 (by have := (Rw.c (S.out.get 0 rfl)).2.2; exact this) (by rw [icheck_eq _ HRG.out _ (by omega), HCK.out])).mono ?_
  rintro e w5 ⟨rfl, hb⟩
  have Sn_ := Aside0.mk (S.out.call hb)
  clear S hb
  have S := Sn_
  clear Sn_
  go_wp2_with (first | ((with_reducible refine gate_dst (N := 5) rfl ?_); refine box_event rfl (N := 5) rfl (cs := #[.int .i64 0, .int .i64 0, .int .i64 0]) (t := 25) (by first | (go_simp; done) | (go_simp; rfl)) ?_; intro g5 hg_ w6 hbox_ hb_; have Sn_ := Aside0.mk (S.out.box hg_ hbox_ hb_); clear hbox_ hb_ hg_ S; have S := Sn_; clear Sn_) | ((with_reducible refine gate_store (t := 25) (p := 5) rfl ?_); refine store_event (t := 25) (p := 5) (v := ?vo_4) (w1 := w6.setRow g5 (#[.int .i64 (a : Int), .int .i64 (b : Int), .int .i64 (d : Int)])) ?hg ?ho ?hn ?hr ?_; (case ho => rfl); (case hg => rfl); (case hn => rfl); (case hr => exact (Row.store_row_run (g := g5) (cells := #[.int .i64 (a : Int), .int .i64 (b : Int), .int .i64 (d : Int)]) (t := 25) (old := #[.int .i64 0, .int .i64 0, .int .i64 0]) rfl (by rfl) (by rfl) (S.out.blk 0 rfl) (by kernel_rfl) rfl (by simp [Value.oneCell']))); intro w7 hw_; have Sn_ := Aside0.mk ((S.out.setRow (cs' := #[.int .i64 (a : Int), .int .i64 (b : Int), .int .i64 (d : Int)]) 0 rfl rfl).of hw_); clear S hw_; have S := Sn_; clear Sn_))
  refine start_ (n := 26) (S := fun w_ => St w w_ [Blk g5 (#[.int .i64 (a : Int), .int .i64 (b : Int), .int .i64 (d : Int)]) 25, ⟨w3.heap.size, w4.heap.size, fun w_ => Rw (Kd.int .u64) 40 w3.heap.size w4.heap.size (.slice A4 rl.length c4) rl w_⟩, Blk gc (#[.int .i64 (a : Int), .int .i64 (b : Int), .int .i64 (d : Int)]) 25]) (ds := []) #[false, false, false, false, false, false, false, false, false, false, false, false, false, false, false, false, false, false, false, false, false, false, false, false, false, false] (by kernel_rfl) rfl rfl S.out.drew (fun hH_ => ?_)
  refine pure_ (i := 0) (N := some 26) (v := ?_) (a' := ?_) #[true, false, false, false, false, false, false, false, false, false, false, false, false, false, false, false, false, false, false, false, false, false, false, false, false, false] rfl rfl (by kernel_rfl) (fun _ _ _ h => h) (Or.inl ⟨by rfl, ?_⟩) ?_ ?_
  rotate_left
  · intro w'
    go_simp
    with_reducible rfl
  rotate_left
  · simp only [Act.put, List.setIfInBounds_toArray, List.set_cons_zero, List.set_cons_succ, i64_w, i32_w]
    rfl
  refine take_ (i := 1) (N := some 27) (v := .agg (#[.int .i64 (a : Int), .int .i64 (b : Int), .int .i64 (d : Int)])) (a' := ?_) #[true, true, false, false, false, false, false, false, false, false, false, false, false, false, false, false, false, false, false, false, false, false, false, false, false, false] rfl rfl (by kernel_rfl) (fun _ _ _ h => h) (Or.inl ⟨by rfl, fun w' s0 => Row.load_row_run (g := gc) (t := 25) (cells := #[.int .i64 (a : Int), .int .i64 (b : Int), .int .i64 (d : Int)]) rfl rfl (s0.blk 2 rfl) Try.underlying25 rfl (by kernel_rfl)⟩) hH_ ?_ ?_
  rotate_left
  · simp only [Act.put, List.setIfInBounds_toArray, List.set_cons_zero, List.set_cons_succ, i64_w, i32_w]
    rfl
  refine one_ (i := 2) (N := some 28) #[true, true, true, false, false, false, false, false, false, false, false, false, false, false, false, false, false, false, false, false, false, false, false, false, false, false] rfl rfl (by kernel_rfl) (by decide) (fun K hK => ?_)
  refine goes_ Try.func31 (by kernel_rfl) rfl #[.agg #[.int .i64 (a : Int), .int .i64 (b : Int), .int .i64 (d : Int)]] (by rfl) rfl rfl (by (try simp only [List.map_toArray, List.map_cons, List.map_nil]); first | done | rfl) ?_
  refine (spec_PlatOk.calls a b d true _ (by rw [splatok_eq, decide_eq_true HOK.out])).mono ?_
  rintro e w8 ⟨rfl, hb⟩
  have hHw8_ := hH_.call hb
  refine ⟨_, rfl, hK.out _ _ hHw8_ (fun hX_ => ?_)⟩
  clear hK K hX_
  refine norm_ (a' := ?_) ?_ ?_
  rotate_left
  · show Act.put _ (some 28) _ = _
    simp only [Act.put, List.setIfInBounds_toArray, List.set_cons_zero, List.set_cons_succ, i64_w, i32_w]
    rfl
  clear hb
  refine pure_ (i := 3) (N := some 29) (v := ?_) (a' := ?_) #[true, true, true, true, false, false, false, false, false, false, false, false, false, false, false, false, false, false, false, false, false, false, false, false, false, false] rfl rfl (by kernel_rfl) (fun _ _ _ h => h) (Or.inl ⟨by rfl, ?_⟩) ?_ ?_
  rotate_left
  · intro w'
    go_simp
    with_reducible rfl
  rotate_left
  · simp only [Act.put, List.setIfInBounds_toArray, List.set_cons_zero, List.set_cons_succ, i64_w, i32_w]
    rfl
  refine pure_ (i := 4) (N := some 30) (v := ?_) (a' := ?_) #[true, true, true, true, true, false, false, false, false, false, false, false, false, false, false, false, false, false, false, false, false, false, false, false, false, false] rfl rfl (by kernel_rfl) (fun _ _ _ h => h) (Or.inl ⟨by rfl, ?_⟩) ?_ ?_
  rotate_left
  · intro w'
    go_simp
    with_reducible rfl
  rotate_left
  · simp only [Act.put, List.setIfInBounds_toArray, List.set_cons_zero, List.set_cons_succ, i64_w, i32_w]
    rfl
  refine pure_ (i := 5) (N := some 31) (v := ?_) (a' := ?_) #[true, true, true, true, true, true, false, false, false, false, false, false, false, false, false, false, false, false, false, false, false, false, false, false, false, false] rfl rfl (by kernel_rfl) (fun _ _ _ h => h) (Or.inl ⟨by rfl, ?_⟩) ?_ ?_
  rotate_left
  · intro w'
    go_simp
    with_reducible rfl
  rotate_left
  · simp only [Act.put, List.setIfInBounds_toArray, List.set_cons_zero, List.set_cons_succ, i64_w, i32_w]
    rfl
  refine pure_ (i := 6) (N := some 32) (v := ?_) (a' := ?_) #[true, true, true, true, true, true, true, false, false, false, false, false, false, false, false, false, false, false, false, false, false, false, false, false, false, false] rfl rfl (by kernel_rfl) (fun _ _ _ h => h) (Or.inl ⟨by rfl, ?_⟩) ?_ ?_
  rotate_left
  · intro w'
    go_simp
    with_reducible rfl
  rotate_left
  · simp only [Act.put, List.setIfInBounds_toArray, List.set_cons_zero, List.set_cons_succ, i64_w, i32_w]
    rfl
  refine take_ (i := 7) (N := some 33) (v := .agg (#[.int .i64 (a : Int), .int .i64 (b : Int), .int .i64 (d : Int)])) (a' := ?_) #[true, true, true, true, true, true, true, true, false, false, false, false, false, false, false, false, false, false, false, false, false, false, false, false, false, false] rfl rfl (by kernel_rfl) (fun _ _ _ h => h) (Or.inl ⟨by rfl, fun w' s0 => Row.load_row_run (g := g5) (t := 25) (cells := #[.int .i64 (a : Int), .int .i64 (b : Int), .int .i64 (d : Int)]) rfl rfl (s0.blk 0 rfl) Try.underlying25 rfl (by kernel_rfl)⟩) hHw8_ ?_ ?_
  rotate_left
  · simp only [Act.put, List.setIfInBounds_toArray, List.set_cons_zero, List.set_cons_succ, i64_w, i32_w]
    rfl
  refine take_ (i := 8) (N := some 34) (v := .agg (#[.int .i64 (a : Int), .int .i64 (b : Int), .int .i64 (d : Int)])) (a' := ?_) #[true, true, true, true, true, true, true, true, true, false, false, false, false, false, false, false, false, false, false, false, false, false, false, false, false, false] rfl rfl (by kernel_rfl) (fun _ _ _ h => h) (Or.inl ⟨by rfl, fun w' s0 => Row.load_row_run (g := gc) (t := 25) (cells := #[.int .i64 (a : Int), .int .i64 (b : Int), .int .i64 (d : Int)]) rfl rfl (s0.blk 2 rfl) Try.underlying25 rfl (by kernel_rfl)⟩) hHw8_ ?_ ?_
  rotate_left
  · simp only [Act.put, List.setIfInBounds_toArray, List.set_cons_zero, List.set_cons_succ, i64_w, i32_w]
    rfl
  refine pure_ (i := 9) (N := some 35) (v := ?_) (a' := ?_) #[true, true, true, true, true, true, true, true, true, true, false, false, false, false, false, false, false, false, false, false, false, false, false, false, false, false] rfl rfl (by kernel_rfl) (fun _ _ _ h => h) (Or.inl ⟨by rfl, ?_⟩) ?_ ?_
  rotate_left
  · intro w'
    go_simp
    with_reducible rfl
  rotate_left
  · simp only [Act.put, List.setIfInBounds_toArray, List.set_cons_zero, List.set_cons_succ, i64_w, i32_w]
    rfl
  refine pure_ (i := 10) (N := some 36) (v := ?_) (a' := ?_) #[true, true, true, true, true, true, true, true, true, true, true, false, false, false, false, false, false, false, false, false, false, false, false, false, false, false] rfl rfl (by kernel_rfl) (fun _ _ _ h => h) (Or.inl ⟨by rfl, ?_⟩) ?_ ?_
  rotate_left
  · intro w'
    go_simp
    with_reducible rfl
  rotate_left
  · simp only [Act.put, List.setIfInBounds_toArray, List.set_cons_zero, List.set_cons_succ, i64_w, i32_w]
    rfl
  refine pure_ (i := 11) (N := some 37) (v := ?_) (a' := ?_) #[true, true, true, true, true, true, true, true, true, true, true, true, false, false, false, false, false, false, false, false, false, false, false, false, false, false] rfl rfl (by kernel_rfl) (fun _ _ _ h => h) (Or.inl ⟨by rfl, ?_⟩) ?_ ?_
  rotate_left
  · intro w'
    go_simp
    with_reducible rfl
  rotate_left
  · simp only [Act.put, List.setIfInBounds_toArray, List.set_cons_zero, List.set_cons_succ, i64_w, i32_w]
    rfl
  refine pure_ (i := 12) (N := some 38) (v := ?_) (a' := ?_) #[true, true, true, true, true, true, true, true, true, true, true, true, true, false, false, false, false, false, false, false, false, false, false, false, false, false] rfl rfl (by kernel_rfl) (fun _ _ _ h => h) (Or.inl ⟨by rfl, ?_⟩) ?_ ?_
  rotate_left
  · intro w'
    go_simp
    with_reducible rfl
  rotate_left
  · simp only [Act.put, List.setIfInBounds_toArray, List.set_cons_zero, List.set_cons_succ, i64_w, i32_w]
    rfl
  refine pure_ (i := 13) (N := some 39) (v := ?_) (a' := ?_) #[true, true, true, true, true, true, true, true, true, true, true, true, true, true, false, false, false, false, false, false, false, false, false, false, false, false] rfl rfl (by kernel_rfl) (fun _ _ _ h => h) (Or.inl ⟨by rfl, ?_⟩) ?_ ?_
  rotate_left
  · intro w'
    go_simp
    with_reducible rfl
  rotate_left
  · simp only [Act.put, List.setIfInBounds_toArray, List.set_cons_zero, List.set_cons_succ, i64_w, i32_w]
    rfl
  refine pure_ (i := 14) (N := some 40) (v := ?_) (a' := ?_) #[true, true, true, true, true, true, true, true, true, true, true, true, true, true, true, false, false, false, false, false, false, false, false, false, false, false] rfl rfl (by kernel_rfl) (fun _ _ _ h => h) (Or.inl ⟨by rfl, ?_⟩) ?_ ?_
  rotate_left
  · intro w'
    go_simp
    with_reducible rfl
  rotate_left
  · simp only [Act.put, List.setIfInBounds_toArray, List.set_cons_zero, List.set_cons_succ, i64_w, i32_w]
    rfl
  refine take_ (i := 15) (N := some 41) (v := .agg (#[.int .i64 (a : Int), .int .i64 (b : Int), .int .i64 (d : Int)])) (a' := ?_) #[true, true, true, true, true, true, true, true, true, true, true, true, true, true, true, true, false, false, false, false, false, false, false, false, false, false] rfl rfl (by kernel_rfl) (fun _ _ _ h => h) (Or.inl ⟨by rfl, fun w' s0 => Row.load_row_run (g := gc) (t := 25) (cells := #[.int .i64 (a : Int), .int .i64 (b : Int), .int .i64 (d : Int)]) rfl rfl (s0.blk 2 rfl) Try.underlying25 rfl (by kernel_rfl)⟩) hHw8_ ?_ ?_
  rotate_left
  · simp only [Act.put, List.setIfInBounds_toArray, List.set_cons_zero, List.set_cons_succ, i64_w, i32_w]
    rfl
  refine one_ (i := 16) (N := some 42) #[true, true, true, true, true, true, true, true, true, true, true, true, true, true, true, true, true, false, false, false, false, false, false, false, false, false] rfl rfl (by kernel_rfl) (by decide) (fun K hK => ?_)
  refine goes_ Try.func32 (by kernel_rfl) rfl #[.agg #[.int .i64 (a : Int), .int .i64 (b : Int), .int .i64 (d : Int)]] (by rfl) rfl rfl (by (try simp only [List.map_toArray, List.map_cons, List.map_nil]); first | done | rfl) ?_
  refine (impl_PlatSize.calls a b d sz _ (by rw [HSZ.out]; exact (psizes_eq HOK.out).1)).mono ?_
  rintro e w9 ⟨rfl, hb⟩
  have hHw9_ := hHw8_.call hb
  refine ⟨_, rfl, hK.out _ _ hHw9_ (fun hX_ => ?_)⟩
  clear hK K hX_
  refine norm_ (a' := ?_) ?_ ?_
  rotate_left
  · show Act.put _ (some 42) _ = _
    simp only [Act.put, List.setIfInBounds_toArray, List.set_cons_zero, List.set_cons_succ, i64_w, i32_w]
    rfl
  clear hb
  refine pure_ (i := 17) (N := some 43) (v := ?_) (a' := ?_) #[true, true, true, true, true, true, true, true, true, true, true, true, true, true, true, true, true, true, false, false, false, false, false, false, false, false] rfl rfl (by kernel_rfl) (fun _ _ _ h => h) (Or.inl ⟨by rfl, ?_⟩) ?_ ?_
  rotate_left
  · intro w'
    go_simp
    with_reducible rfl
  rotate_left
  · simp only [Act.put, List.setIfInBounds_toArray, List.set_cons_zero, List.set_cons_succ, i64_w, i32_w]
    rfl
  refine pure_ (i := 18) (N := some 44) (v := ?_) (a' := ?_) #[true, true, true, true, true, true, true, true, true, true, true, true, true, true, true, true, true, true, true, false, false, false, false, false, false, false] rfl rfl (by kernel_rfl) (fun _ _ _ h => h) (Or.inl ⟨by rfl, ?_⟩) ?_ ?_
  rotate_left
  · intro w'
    go_simp
    with_reducible rfl
  rotate_left
  · simp only [Act.put, List.setIfInBounds_toArray, List.set_cons_zero, List.set_cons_succ, i64_w, i32_w]
    rfl
  refine pure_ (i := 19) (N := some 45) (v := ?_) (a' := ?_) #[true, true, true, true, true, true, true, true, true, true, true, true, true, true, true, true, true, true, true, true, false, false, false, false, false, false] rfl rfl (by kernel_rfl) (fun _ _ _ h => h) (Or.inl ⟨by rfl, ?_⟩) ?_ ?_
  rotate_left
  · intro w'
    go_simp
    with_reducible rfl
  rotate_left
  · simp only [Act.put, List.setIfInBounds_toArray, List.set_cons_zero, List.set_cons_succ, i64_w, i32_w]
    rfl
  refine take_ (i := 20) (N := some 46) (v := .agg (#[.int .i64 (a : Int), .int .i64 (b : Int), .int .i64 (d : Int)])) (a' := ?_) #[true, true, true, true, true, true, true, true, true, true, true, true, true, true, true, true, true, true, true, true, true, false, false, false, false, false] rfl rfl (by kernel_rfl) (fun _ _ _ h => h) (Or.inl ⟨by rfl, fun w' s0 => Row.load_row_run (g := gc) (t := 25) (cells := #[.int .i64 (a : Int), .int .i64 (b : Int), .int .i64 (d : Int)]) rfl rfl (s0.blk 2 rfl) Try.underlying25 rfl (by kernel_rfl)⟩) hHw9_ ?_ ?_
  rotate_left
  · simp only [Act.put, List.setIfInBounds_toArray, List.set_cons_zero, List.set_cons_succ, i64_w, i32_w]
    rfl
  refine take_ (i := 22) (N := some 48) (v := .agg (#[.int .i64 (a : Int), .int .i64 (b : Int), .int .i64 (d : Int)])) (a' := ?_) #[true, true, true, true, true, true, true, true, true, true, true, true, true, true, true, true, true, true, true, true, true, false, true, false, false, false] rfl rfl (by kernel_rfl) (fun _ _ _ h => h) (Or.inl ⟨by rfl, fun w' s0 => Row.load_row_run (g := gc) (t := 25) (cells := #[.int .i64 (a : Int), .int .i64 (b : Int), .int .i64 (d : Int)]) rfl rfl (s0.blk 2 rfl) Try.underlying25 rfl (by kernel_rfl)⟩) hHw9_ ?_ ?_
  rotate_left
  · simp only [Act.put, List.setIfInBounds_toArray, List.set_cons_zero, List.set_cons_succ, i64_w, i32_w]
    rfl
  refine one_ (i := 21) (N := some 47) #[true, true, true, true, true, true, true, true, true, true, true, true, true, true, true, true, true, true, true, true, true, true, true, false, false, false] rfl rfl (by kernel_rfl) (by decide) (fun K hK => ?_)
  refine goes_ Try.func32 (by kernel_rfl) rfl #[.agg #[.int .i64 (a : Int), .int .i64 (b : Int), .int .i64 (d : Int)]] (by rfl) rfl rfl (by (try simp only [List.map_toArray, List.map_cons, List.map_nil]); first | done | rfl) ?_
  refine (impl_PlatSize.calls a b d sz _ (by rw [HSZ.out]; exact (psizes_eq HOK.out).1)).mono ?_
  rintro e w10 ⟨rfl, hb⟩
  have hHw10_ := hHw9_.call hb
  refine ⟨_, rfl, hK.out _ _ hHw10_ (fun hX_ => ?_)⟩
  clear hK K hX_
  refine norm_ (a' := ?_) ?_ ?_
  rotate_left
  · show Act.put _ (some 47) _ = _
    simp only [Act.put, List.setIfInBounds_toArray, List.set_cons_zero, List.set_cons_succ, i64_w, i32_w]
    rfl
  clear hb
  refine one_ (i := 23) (N := some 49) #[true, true, true, true, true, true, true, true, true, true, true, true, true, true, true, true, true, true, true, true, true, true, true, true, false, false] rfl rfl (by kernel_rfl) (by decide) (fun K hK => ?_)
  refine goes_ Try.func33 (by kernel_rfl) rfl #[.agg #[.int .i64 (a : Int), .int .i64 (b : Int), .int .i64 (d : Int)]] (by rfl) rfl rfl (by (try simp only [List.map_toArray, List.map_cons, List.map_nil]); first | done | rfl) ?_
  refine (spec_PlatSize.calls a b d sz _ (by rw [HSZ.out]; exact (psizes_eq HOK.out).2)).mono ?_
  rintro e w11 ⟨rfl, hb⟩
  have hHw11_ := hHw10_.call hb
  refine ⟨_, rfl, hK.out _ _ hHw11_ (fun hX_ => ?_)⟩
  clear hK K hX_
  refine norm_ (a' := ?_) ?_ ?_
  rotate_left
  · show Act.put _ (some 49) _ = _
    simp only [Act.put, List.setIfInBounds_toArray, List.set_cons_zero, List.set_cons_succ, i64_w, i32_w]
    rfl
  clear hb
  refine pure_ (i := 24) (N := some 50) (v := ?_) (a' := ?_) #[true, true, true, true, true, true, true, true, true, true, true, true, true, true, true, true, true, true, true, true, true, true, true, true, true, false] rfl rfl (by kernel_rfl) (fun _ _ _ h => h) (Or.inl ⟨by rfl, ?_⟩) ?_ ?_
  rotate_left
  · intro w'
    go_simp
    with_reducible rfl
  rotate_left
  · simp only [Act.put, List.setIfInBounds_toArray, List.set_cons_zero, List.set_cons_succ, i64_w, i32_w]
    rfl
  refine pure_ (i := 25) (N := some 51) (v := ?_) (a' := ?_) #[true, true, true, true, true, true, true, true, true, true, true, true, true, true, true, true, true, true, true, true, true, true, true, true, true, true] rfl rfl (by kernel_rfl) (fun _ _ _ h => h) (Or.inl ⟨by rfl, ?_⟩) ?_ ?_
  rotate_left
  · intro w'
    go_simp
    with_reducible rfl
  rotate_left
  · simp only [Act.put, List.setIfInBounds_toArray, List.set_cons_zero, List.set_cons_succ, i64_w, i32_w]
    rfl
  refine done_ (by kernel_rfl) ?_
  have Sn_ := Aside0.mk (hHw11_)
  clear S
  have S := Sn_
  clear Sn_
  clear hH_ hHw8_ hHw9_ hHw10_ hHw11_
  clear hss hnz haa hbb hdd
  have hwo_ : wrap64 1 = 1 := by unfold wrap64; omega
  have Sn_ := Aside0.mk (S.out.drop 0 rfl)
  clear S
  have S := Sn_
  clear Sn_
  go_wp2_with (first | ((with_reducible refine gate_dst (N := 64) rfl ?_); refine Kd.R_make (Kd.int .i64) _ 3 rfl (N := 64) rfl 36 _ _ rfl (rl.length : Int) rfl rfl Try.underlying36 (.int .i64 0) 8 info3 rfl (by decide) (by omega) 0 (ok := fun _ => True) (okp := fun _ => True) rfl (fun _ hk => hk) trivial (by omega) (by have := HLN.out; have := HLE.out; omega) (Below.refl _ _) (Nat.le_refl _) ?_; intro v1 w12 ho hb hg_ hnew_; clear hg_ hnew_; obtain ⟨go, co, eo, hgo, gl, cl⟩ := Kd.R_form ho (by rw [List.length_replicate]; have := HLN.out; have := HLE.out; omega); subst eo; obtain ⟨N, hN⟩ : ∃ N, (List.replicate ((rl.length : Nat) : Int).toNat (0 : Int)).length = N := ⟨_, rfl⟩; have HN : Aside0 (N = 7 + 23 * a + 17 * b) := ⟨by rw [← hN, List.length_replicate, Int.toNat_natCast]; exact HLN.out⟩; have HNN : Aside0 (List.replicate ((rl.length : Nat) : Int).toNat (0 : Int) = lst N (fun x => x < 0)) := ⟨by rw [← hN, List.length_replicate]; exact lst_zero _ (fun x => by omega)⟩; rw [hN] at ho; rw [hN]; rw [HNN.out] at ho; have Sn_ := Aside0.mk (S.out.new (P := Rw (Kd.int .i64) 3 w11.heap.size w12.heap.size (.slice (some ⟨go, 0, none⟩) N co) (lst N (fun x => x < 0))) hb (Rw.of ho) (Rw.stable _ _ _ _ _ _)); clear S ho hb hgo gl cl hN; have S := Sn_; clear Sn_; have n0_ : (0 : Int) < (N : Int) := (by have := HN.out; omega); have n1_ : (1 : Int) < (N : Int) := (by have := HN.out; omega); have n2_ : (2 : Int) < (N : Int) := (by have := HN.out; omega); have c_0 : w12.cell? ⟨go, 0, none⟩ = some (.int .i64 ((lst N (fun x => x < 0)).getD 0 0)) := S.out.rwcell 0 0 rfl 0 (by have := HN.out; omega); have z_0 := S.out.rwfrozen 0 rfl 0 0 (by have := HN.out; omega)) | ((with_reducible refine gate_store (t := 3) (p := 66) rfl ?_); refine store_event (t := 3) (p := 66) (v := ?vo_5) (w1 := w12.setCell ⟨go, 0, none⟩ (.int .i64 1)) ?hg ?ho ?hn ?hr ?_; (case ho => rfl); (case hg => rfl); (case hn => rfl); (case hr => first | (go_simp; done) | (go_simp; rfl)); intro w13 hw_; have Sn_ := Aside0.mk ((S.out.setRw (rs' := [⟨w11.heap.size, w12.heap.size, Rw (Kd.int .i64) 3 w11.heap.size w12.heap.size (.slice (some ⟨go, 0, none⟩) N co) (lst N (fun x => x < 1))⟩, ⟨w3.heap.size, w4.heap.size, fun w_ => Rw (Kd.int .u64) 40 w3.heap.size w4.heap.size (.slice A4 rl.length c4) rl w_⟩, Blk gc (#[.int .i64 (a : Int), .int .i64 (b : Int), .int .i64 (d : Int)]) 25]) 0 rfl 0 1 (lst_set (Q := fun x => x < 1) (fun x _ => by omega)) rfl).of hw_); clear S hw_ c_0 z_0; have S := Sn_; clear Sn_; have c_1 : w13.cell? ⟨go, 1, none⟩ = some (.int .i64 ((lst N (fun x => x < 1)).getD 1 0)) := S.out.rwcell 0 0 rfl 1 (by have := HN.out; omega); have z_1 := S.out.rwfrozen 0 rfl 0 1 (by have := HN.out; omega)) | ((with_reducible refine gate_store (t := 3) (p := 68) rfl ?_); refine store_event (t := 3) (p := 68) (v := ?vo_6) (w1 := w13.setCell ⟨go, 1, none⟩ (.int .i64 1)) ?hg ?ho ?hn ?hr ?_; (case ho => rfl); (case hg => rfl); (case hn => rfl); (case hr => first | (go_simp; done) | (go_simp; rfl)); intro w14 hw_; have Sn_ := Aside0.mk ((S.out.setRw (rs' := [⟨w11.heap.size, w12.heap.size, Rw (Kd.int .i64) 3 w11.heap.size w12.heap.size (.slice (some ⟨go, 0, none⟩) N co) (lst N (fun x => x < 2))⟩, ⟨w3.heap.size, w4.heap.size, fun w_ => Rw (Kd.int .u64) 40 w3.heap.size w4.heap.size (.slice A4 rl.length c4) rl w_⟩, Blk gc (#[.int .i64 (a : Int), .int .i64 (b : Int), .int .i64 (d : Int)]) 25]) 0 rfl 1 1 (lst_set (Q := fun x => x < 2) (fun x _ => by omega)) rfl).of hw_); clear S hw_ c_1 z_1; have S := Sn_; clear Sn_; have c_2 : w14.cell? ⟨go, 2, none⟩ = some (.int .i64 ((lst N (fun x => x < 2)).getD 2 0)) := S.out.rwcell 0 0 rfl 2 (by have := HN.out; omega); have z_2 := S.out.rwfrozen 0 rfl 0 2 (by have := HN.out; omega)) | ((with_reducible refine gate_store (t := 3) (p := 70) rfl ?_); refine store_event (t := 3) (p := 70) (v := ?vo_7) (w1 := w14.setCell ⟨go, 2, none⟩ (.int .i64 1)) ?hg ?ho ?hn ?hr ?_; (case ho => rfl); (case hg => rfl); (case hn => rfl); (case hr => first | (go_simp; done) | (go_simp; rfl)); intro w15 hw_; have Sn_ := Aside0.mk ((S.out.setRw (rs' := [⟨w11.heap.size, w12.heap.size, Rw (Kd.int .i64) 3 w11.heap.size w12.heap.size (.slice (some ⟨go, 0, none⟩) N co) (lst N (fun x => x < 3))⟩, ⟨w3.heap.size, w4.heap.size, fun w_ => Rw (Kd.int .u64) 40 w3.heap.size w4.heap.size (.slice A4 rl.length c4) rl w_⟩, Blk gc (#[.int .i64 (a : Int), .int .i64 (b : Int), .int .i64 (d : Int)]) 25]) 0 rfl 2 1 (lst_set (Q := fun x => x < 3) (fun x _ => by omega)) rfl).of hw_); clear S hw_ c_2 z_2; have S := Sn_; clear Sn_))
  clear n0_ n1_ n2_
  go_wp2_with fail
  have Sn_ : Aside0 (St w w15 [⟨w11.heap.size, w12.heap.size, Rw (Kd.int .i64) 3 w11.heap.size w12.heap.size (.slice (some ⟨go, 0, none⟩) N co) (lst N (fun x => x < 3 ∨ (3 ≤ x ∧ x < 3 + 0) ∨ (3 + a ≤ x ∧ x < 3 + a + 0) ∨ (7 + 2 * a + 17 * b ≤ x ∧ x < 7 + 2 * a + 17 * b + 21 * 0)))⟩, ⟨w3.heap.size, w4.heap.size, fun w_ => Rw (Kd.int .u64) 40 w3.heap.size w4.heap.size (.slice A4 rl.length c4) rl w_⟩, Blk gc (#[.int .i64 (a : Int), .int .i64 (b : Int), .int .i64 (d : Int)]) 25]) := ⟨by have e_ : lst N (fun x => x < 3 ∨ (3 ≤ x ∧ x < 3 + 0) ∨ (3 + a ≤ x ∧ x < 3 + a + 0) ∨ (7 + 2 * a + 17 * b ≤ x ∧ x < 7 + 2 * a + 17 * b + 21 * 0)) = lst N (fun x => x < 3) := lst_congr (fun x hx_ => by have := HN.out; omega); rw [e_]; exact S.out⟩
  clear S
  have S := Sn_
  clear Sn_
  go_loopg [8] (a + 1) (fun kq v_ w' => ∃ k : Nat, k ≤ a ∧ kq = a + 1 - k ∧ v_ = .int .i64 k ∧ Aside0 (St w w' [⟨w11.heap.size, w12.heap.size, Rw (Kd.int .i64) 3 w11.heap.size w12.heap.size (.slice (some ⟨go, 0, none⟩) N co) (lst N (fun x => x < 3 ∨ (3 ≤ x ∧ x < 3 + k) ∨ (3 + a ≤ x ∧ x < 3 + a + k) ∨ (7 + 2 * a + 17 * b ≤ x ∧ x < 7 + 2 * a + 17 * b + 21 * k)))⟩, ⟨w3.heap.size, w4.heap.size, fun w_ => Rw (Kd.int .u64) 40 w3.heap.size w4.heap.size (.slice A4 rl.length c4) rl w_⟩, Blk gc (#[.int .i64 (a : Int), .int .i64 (b : Int), .int .i64 (d : Int)]) 25]))
  case atStart => exact ⟨0, by omega, by omega, rfl, S⟩
  case round =>
    clear S
    obtain ⟨k, hk, rfl, rfl, S⟩ := hrel
    by_cases hlt : k < a
    · have hlI : (k : Int) < (a : Int) := by omega
      have f_gc_0 : wr.cell? ⟨gc, 0, none⟩ = some (.int .i64 (a : Int)) := (S.out.cell 2 rfl 0).trans rfl
      have z_gc_0 := S.out.frozen 2 rfl 0
      have f_gc_1 : wr.cell? ⟨gc, 1, none⟩ = some (.int .i64 (b : Int)) := (S.out.cell 2 rfl 1).trans rfl
      have z_gc_1 := S.out.frozen 2 rfl 1
      go_wp2_with fail
      clear f_gc_0 z_gc_0 f_gc_1 z_gc_1
      have ha4 : a ≤ 4 := HLE.out.1.2
      have hA0 : (0 : Int) ≤ 3 + (k : Int) := by omega
      have hA1 : 3 + (k : Int) < (N : Int) := by have := HN.out; have := HLE.out; omega
      have hAt : (3 + (k : Int)).toNat = 3 + k := by omega
      have hz_ : Aside0 ((lst N (fun x => x < 3 ∨ (3 ≤ x ∧ x < 3 + k) ∨ (3 + a ≤ x ∧ x < 3 + a + k) ∨ (7 + 2 * a + 17 * b ≤ x ∧ x < 7 + 2 * a + 17 * b + 21 * k))).getD (3 + k) 0 = 0) := ⟨by rw [lst_at (by have := HN.out; have := HLE.out; omega), if_neg (by have := HLE.out; omega)]⟩
      go_wp2_with fail
      refine start_ (n := 13) (S := fun w_ => St w w_ [⟨w11.heap.size, w12.heap.size, Rw (Kd.int .i64) 3 w11.heap.size w12.heap.size (.slice (some ⟨go, 0, none⟩) N co) (lst N (fun x => x < 3 ∨ (3 ≤ x ∧ x < 3 + k) ∨ (3 + a ≤ x ∧ x < 3 + a + k) ∨ (7 + 2 * a + 17 * b ≤ x ∧ x < 7 + 2 * a + 17 * b + 21 * k)))⟩, ⟨w3.heap.size, w4.heap.size, fun w_ => Rw (Kd.int .u64) 40 w3.heap.size w4.heap.size (.slice A4 rl.length c4) rl w_⟩, Blk gc (#[.int .i64 (a : Int), .int .i64 (b : Int), .int .i64 (d : Int)]) 25]) (ds := [12]) #[false, false, false, false, false, false, false, false, false, false, false, false, false] (by kernel_rfl) rfl rfl S.out.drew (fun hH_ => ?_)
      refine pure_ (i := 0) (N := some 77) (v := ?_) (a' := ?_) #[true, false, false, false, false, false, false, false, false, false, false, false, false] rfl rfl (by kernel_rfl) (fun _ _ _ h => h) (Or.inl ⟨by rfl, ?_⟩) ?_ ?_
      rotate_left
      · intro w'
        go_simp
        with_reducible rfl
      rotate_left
      · simp only [Act.put, List.setIfInBounds_toArray, List.set_cons_zero, List.set_cons_succ, i64_w, i32_w]
        rfl
      refine take_ (i := 1) (N := some 78) (v := .agg (#[.int .i64 (a : Int), .int .i64 (b : Int), .int .i64 (d : Int)])) (a' := ?_) #[true, true, false, false, false, false, false, false, false, false, false, false, false] rfl rfl (by kernel_rfl) (fun _ _ _ h => h) (Or.inl ⟨by rfl, fun w' s0 => Row.load_row_run (g := gc) (t := 25) (cells := #[.int .i64 (a : Int), .int .i64 (b : Int), .int .i64 (d : Int)]) rfl rfl (s0.blk 2 rfl) Try.underlying25 rfl (by kernel_rfl)⟩) hH_ ?_ ?_
      rotate_left
      · simp only [Act.put, List.setIfInBounds_toArray, List.set_cons_zero, List.set_cons_succ, i64_w, i32_w]
        rfl
      refine pure_ (i := 2) (N := some 79) (v := ?_) (a' := ?_) #[true, true, true, false, false, false, false, false, false, false, false, false, false] rfl rfl (by kernel_rfl) (fun _ _ _ h => h) (Or.inl ⟨by rfl, ?_⟩) ?_ ?_
      rotate_left
      · intro w'
        go_simp
        with_reducible rfl
      rotate_left
      · simp only [Act.put, List.setIfInBounds_toArray, List.set_cons_zero, List.set_cons_succ, i64_w, i32_w]
        rfl
      refine pure_ (i := 4) (N := some 81) (v := ?_) (a' := ?_) #[true, true, true, false, true, false, false, false, false, false, false, false, false] rfl rfl (by kernel_rfl) (fun _ _ _ h => h) (Or.inl ⟨by rfl, ?_⟩) ?_ ?_
      rotate_left
      · intro w'
        go_simp
        with_reducible rfl
      rotate_left
      · simp only [Act.put, List.setIfInBounds_toArray, List.set_cons_zero, List.set_cons_succ, i64_w, i32_w]
        rfl
      refine take_ (i := 5) (N := some 82) (v := .agg (#[.int .i64 (a : Int), .int .i64 (b : Int), .int .i64 (d : Int)])) (a' := ?_) #[true, true, true, false, true, true, false, false, false, false, false, false, false] rfl rfl (by kernel_rfl) (fun _ _ _ h => h) (Or.inl ⟨by rfl, fun w' s0 => Row.load_row_run (g := gc) (t := 25) (cells := #[.int .i64 (a : Int), .int .i64 (b : Int), .int .i64 (d : Int)]) rfl rfl (s0.blk 2 rfl) Try.underlying25 rfl (by kernel_rfl)⟩) hH_ ?_ ?_
      rotate_left
      · simp only [Act.put, List.setIfInBounds_toArray, List.set_cons_zero, List.set_cons_succ, i64_w, i32_w]
        rfl
      refine pure_ (i := 6) (N := some 83) (v := ?_) (a' := ?_) #[true, true, true, false, true, true, true, false, false, false, false, false, false] rfl rfl (by kernel_rfl) (fun _ _ _ h => h) (Or.inl ⟨by rfl, ?_⟩) ?_ ?_
      rotate_left
      · intro w'
        go_simp
        with_reducible rfl
      rotate_left
      · simp only [Act.put, List.setIfInBounds_toArray, List.set_cons_zero, List.set_cons_succ, i64_w, i32_w]
        rfl
      refine one_ (i := 3) (N := some 80) #[true, true, true, true, true, true, true, false, false, false, false, false, false] rfl rfl (by kernel_rfl) (by decide) (fun K hK => ?_)
      refine goes_ Try.func17 (by kernel_rfl) rfl #[.agg #[.int .i64 (a : Int), .int .i64 (b : Int), .int .i64 (d : Int)], .int .i64 (k : Int)] (by rfl) rfl rfl (by (try simp only [List.map_toArray, List.map_cons, List.map_nil]); first | done | rfl) ?_
      refine (impl_PlatReg.calls _ _ _ _ (3 + (k : Int)) _ (PlatReg_in HOK.out (by omega) (by omega))).mono ?_
      rintro e w16 ⟨rfl, hb⟩
      have hHw16_ := hH_.call hb
      refine ⟨_, rfl, hK.out _ _ hHw16_ (fun hX_ => ?_)⟩
      clear hK K hX_
      refine norm_ (a' := ?_) ?_ ?_
      rotate_left
      · show Act.put _ (some 80) _ = _
        simp only [Act.put, List.setIfInBounds_toArray, List.set_cons_zero, List.set_cons_succ, i64_w, i32_w]
        rfl
      clear hb
      refine one_ (i := 7) (N := some 84) #[true, true, true, true, true, true, true, true, false, false, false, false, false] rfl rfl (by kernel_rfl) (by decide) (fun K hK => ?_)
      refine goes_ Try.func17 (by kernel_rfl) rfl #[.agg #[.int .i64 (a : Int), .int .i64 (b : Int), .int .i64 (d : Int)], .int .i64 (k : Int)] (by rfl) rfl rfl (by (try simp only [List.map_toArray, List.map_cons, List.map_nil]); first | done | rfl) ?_
      refine (impl_PlatReg.calls _ _ _ _ (3 + (k : Int)) _ (PlatReg_in HOK.out (by omega) (by omega))).mono ?_
      rintro e w17 ⟨rfl, hb⟩
      have hHw17_ := hHw16_.call hb
      refine ⟨_, rfl, hK.out _ _ hHw17_ (fun hX_ => ?_)⟩
      clear hK K hX_
      refine norm_ (a' := ?_) ?_ ?_
      rotate_left
      · show Act.put _ (some 84) _ = _
        simp only [Act.put, List.setIfInBounds_toArray, List.set_cons_zero, List.set_cons_succ, i64_w, i32_w]
        rfl
      clear hb
      refine pure_ (i := 8) (N := some 85) (v := ?_) (a' := ?_) #[true, true, true, true, true, true, true, true, true, false, false, false, false] rfl rfl (by kernel_rfl) (fun _ _ _ h => h) (Or.inl ⟨by rfl, ?_⟩) ?_ ?_
      rotate_left
      · intro w'
        go_simp
        with_reducible rfl
      rotate_left
      · simp only [Act.put, List.setIfInBounds_toArray, List.set_cons_zero, List.set_cons_succ, i64_w, i32_w]
        rfl
      refine take_ (i := 9) (N := some 86) (v := ?_) (a' := ?_) #[true, true, true, true, true, true, true, true, true, true, false, false, false] rfl rfl (by kernel_rfl) (fun _ _ _ h => h) (Or.inl ⟨by rfl, ?_⟩) hHw17_ ?_ ?_
      rotate_left
      · intro w' s0
        have f_ := s0.rwcell 0 0 rfl (3 + k) (by have := HN.out; have := HLE.out; omega)
        rw [hz_.out] at f_
        clear s0
        go_simp
        with_reducible rfl
      rotate_left
      · simp only [Act.put, List.setIfInBounds_toArray, List.set_cons_zero, List.set_cons_succ, i64_w, i32_w]
        rfl
      refine pure_ (i := 10) (N := some 87) (v := ?_) (a' := ?_) #[true, true, true, true, true, true, true, true, true, true, true, false, false] rfl rfl (by kernel_rfl) (fun _ _ _ h => h) (Or.inl ⟨by rfl, ?_⟩) ?_ ?_
      rotate_left
      · intro w'
        go_simp
        with_reducible rfl
      rotate_left
      · simp only [Act.put, List.setIfInBounds_toArray, List.set_cons_zero, List.set_cons_succ, i64_w, i32_w]
        rfl
      refine pure_ (i := 11) (N := some 88) (v := ?_) (a' := ?_) #[true, true, true, true, true, true, true, true, true, true, true, true, false] rfl rfl (by kernel_rfl) (fun _ _ _ h => h) (Or.inl ⟨by rfl, ?_⟩) ?_ ?_
      rotate_left
      · intro w'
        go_simp
        with_reducible rfl
      rotate_left
      · simp only [Act.put, List.setIfInBounds_toArray, List.set_cons_zero, List.set_cons_succ, i64_w, i32_w]
        rfl
      have f_ := hHw17_.rwcell 0 0 rfl (3 + k) (by have := HN.out; have := HLE.out; omega)
      have z_ := hHw17_.rwfrozen 0 rfl 0 (3 + k) (by have := HN.out; have := HLE.out; omega)
      refine last_ (i := 12) (N := none) #[true, true, true, true, true, true, true, true, true, true, true, true, true] rfl rfl (by kernel_rfl) (by decide) (fun K hK => ?_)
      refine skip_ (w1 := w17.setCell ⟨go, 3 + k, none⟩ (.int .i64 1)) (by rfl) rfl (by first | (go_simp; done) | (go_simp; rfl)) ?_
      refine hK.out _ _ (done_ (by kernel_rfl) ?_)
      clear hK K
      have Sn_ := Aside0.mk (hHw17_.setRw (rs' := [⟨w11.heap.size, w12.heap.size, Rw (Kd.int .i64) 3 w11.heap.size w12.heap.size (.slice (some ⟨go, 0, none⟩) N co) (lst N (fun x => (x < 3 ∨ (3 ≤ x ∧ x < 3 + k) ∨ (3 + a ≤ x ∧ x < 3 + a + k) ∨ (7 + 2 * a + 17 * b ≤ x ∧ x < 7 + 2 * a + 17 * b + 21 * k)) ∨ x = 3 + k))⟩, ⟨w3.heap.size, w4.heap.size, fun w_ => Rw (Kd.int .u64) 40 w3.heap.size w4.heap.size (.slice A4 rl.length c4) rl w_⟩, Blk gc (#[.int .i64 (a : Int), .int .i64 (b : Int), .int .i64 (d : Int)]) 25]) 0 rfl (3 + k) 1 (lst_set (Q := fun x => (x < 3 ∨ (3 ≤ x ∧ x < 3 + k) ∨ (3 + a ≤ x ∧ x < 3 + a + k) ∨ (7 + 2 * a + 17 * b ≤ x ∧ x < 7 + 2 * a + 17 * b + 21 * k)) ∨ x = 3 + k) (fun x _ => by omega)) rfl)
      clear S
      have S := Sn_
      clear Sn_
      obtain ⟨w18, hw_⟩ : ∃ w_, w17.setCell ⟨go, 3 + k, none⟩ (.int .i64 1) = w_ := ⟨_, rfl⟩
      rw [hw_] at S
      rw [hw_]
      clear hw_
      clear hH_ hHw16_ hHw17_
      clear hA0 hA1 hAt hz_ f_ z_
      have hA0 : (0 : Int) ≤ 3 + (a : Int) + (k : Int) := by omega
      have hA1 : 3 + (a : Int) + (k : Int) < (N : Int) := by have := HN.out; have := HLE.out; omega
      have hAt : (3 + (a : Int) + (k : Int)).toNat = 3 + a + k := by omega
      have hz_ : Aside0 ((lst N (fun x => (x < 3 ∨ (3 ≤ x ∧ x < 3 + k) ∨ (3 + a ≤ x ∧ x < 3 + a + k) ∨ (7 + 2 * a + 17 * b ≤ x ∧ x < 7 + 2 * a + 17 * b + 21 * k)) ∨ x = 3 + k)).getD (3 + a + k) 0 = 0) := ⟨by rw [lst_at (by have := HN.out; have := HLE.out; omega), if_neg (by have := HLE.out; omega)]⟩
      go_wp2_with fail
      refine start_ (n := 13) (S := fun w_ => St w w_ [⟨w11.heap.size, w12.heap.size, Rw (Kd.int .i64) 3 w11.heap.size w12.heap.size (.slice (some ⟨go, 0, none⟩) N co) (lst N (fun x => (x < 3 ∨ (3 ≤ x ∧ x < 3 + k) ∨ (3 + a ≤ x ∧ x < 3 + a + k) ∨ (7 + 2 * a + 17 * b ≤ x ∧ x < 7 + 2 * a + 17 * b + 21 * k)) ∨ x = 3 + k))⟩, ⟨w3.heap.size, w4.heap.size, fun w_ => Rw (Kd.int .u64) 40 w3.heap.size w4.heap.size (.slice A4 rl.length c4) rl w_⟩, Blk gc (#[.int .i64 (a : Int), .int .i64 (b : Int), .int .i64 (d : Int)]) 25]) (ds := [12]) #[false, false, false, false, false, false, false, false, false, false, false, false, false] (by kernel_rfl) rfl rfl S.out.drew (fun hH_ => ?_)
      refine pure_ (i := 0) (N := some 89) (v := ?_) (a' := ?_) #[true, false, false, false, false, false, false, false, false, false, false, false, false] rfl rfl (by kernel_rfl) (fun _ _ _ h => h) (Or.inl ⟨by rfl, ?_⟩) ?_ ?_
      rotate_left
      · intro w'
        go_simp
        with_reducible rfl
      rotate_left
      · simp only [Act.put, List.setIfInBounds_toArray, List.set_cons_zero, List.set_cons_succ, i64_w, i32_w]
        rfl
      refine take_ (i := 1) (N := some 90) (v := .agg (#[.int .i64 (a : Int), .int .i64 (b : Int), .int .i64 (d : Int)])) (a' := ?_) #[true, true, false, false, false, false, false, false, false, false, false, false, false] rfl rfl (by kernel_rfl) (fun _ _ _ h => h) (Or.inl ⟨by rfl, fun w' s0 => Row.load_row_run (g := gc) (t := 25) (cells := #[.int .i64 (a : Int), .int .i64 (b : Int), .int .i64 (d : Int)]) rfl rfl (s0.blk 2 rfl) Try.underlying25 rfl (by kernel_rfl)⟩) hH_ ?_ ?_
      rotate_left
      · simp only [Act.put, List.setIfInBounds_toArray, List.set_cons_zero, List.set_cons_succ, i64_w, i32_w]
        rfl
      refine pure_ (i := 2) (N := some 91) (v := ?_) (a' := ?_) #[true, true, true, false, false, false, false, false, false, false, false, false, false] rfl rfl (by kernel_rfl) (fun _ _ _ h => h) (Or.inl ⟨by rfl, ?_⟩) ?_ ?_
      rotate_left
      · intro w'
        go_simp
        with_reducible rfl
      rotate_left
      · simp only [Act.put, List.setIfInBounds_toArray, List.set_cons_zero, List.set_cons_succ, i64_w, i32_w]
        rfl
      refine pure_ (i := 4) (N := some 93) (v := ?_) (a' := ?_) #[true, true, true, false, true, false, false, false, false, false, false, false, false] rfl rfl (by kernel_rfl) (fun _ _ _ h => h) (Or.inl ⟨by rfl, ?_⟩) ?_ ?_
      rotate_left
      · intro w'
        go_simp
        with_reducible rfl
      rotate_left
      · simp only [Act.put, List.setIfInBounds_toArray, List.set_cons_zero, List.set_cons_succ, i64_w, i32_w]
        rfl
      refine take_ (i := 5) (N := some 94) (v := .agg (#[.int .i64 (a : Int), .int .i64 (b : Int), .int .i64 (d : Int)])) (a' := ?_) #[true, true, true, false, true, true, false, false, false, false, false, false, false] rfl rfl (by kernel_rfl) (fun _ _ _ h => h) (Or.inl ⟨by rfl, fun w' s0 => Row.load_row_run (g := gc) (t := 25) (cells := #[.int .i64 (a : Int), .int .i64 (b : Int), .int .i64 (d : Int)]) rfl rfl (s0.blk 2 rfl) Try.underlying25 rfl (by kernel_rfl)⟩) hH_ ?_ ?_
      rotate_left
      · simp only [Act.put, List.setIfInBounds_toArray, List.set_cons_zero, List.set_cons_succ, i64_w, i32_w]
        rfl
      refine pure_ (i := 6) (N := some 95) (v := ?_) (a' := ?_) #[true, true, true, false, true, true, true, false, false, false, false, false, false] rfl rfl (by kernel_rfl) (fun _ _ _ h => h) (Or.inl ⟨by rfl, ?_⟩) ?_ ?_
      rotate_left
      · intro w'
        go_simp
        with_reducible rfl
      rotate_left
      · simp only [Act.put, List.setIfInBounds_toArray, List.set_cons_zero, List.set_cons_succ, i64_w, i32_w]
        rfl
      refine one_ (i := 3) (N := some 92) #[true, true, true, true, true, true, true, false, false, false, false, false, false] rfl rfl (by kernel_rfl) (by decide) (fun K hK => ?_)
      refine goes_ Try.func19 (by kernel_rfl) rfl #[.agg #[.int .i64 (a : Int), .int .i64 (b : Int), .int .i64 (d : Int)], .int .i64 (k : Int)] (by rfl) rfl rfl (by (try simp only [List.map_toArray, List.map_cons, List.map_nil]); first | done | rfl) ?_
      refine (impl_PlatBeat.calls _ _ _ _ (3 + (a : Int) + (k : Int)) _ (PlatBeat_in HOK.out (by omega) (by omega))).mono ?_
      rintro e w19 ⟨rfl, hb⟩
      have hHw19_ := hH_.call hb
      refine ⟨_, rfl, hK.out _ _ hHw19_ (fun hX_ => ?_)⟩
      clear hK K hX_
      refine norm_ (a' := ?_) ?_ ?_
      rotate_left
      · show Act.put _ (some 92) _ = _
        simp only [Act.put, List.setIfInBounds_toArray, List.set_cons_zero, List.set_cons_succ, i64_w, i32_w]
        rfl
      clear hb
      refine one_ (i := 7) (N := some 96) #[true, true, true, true, true, true, true, true, false, false, false, false, false] rfl rfl (by kernel_rfl) (by decide) (fun K hK => ?_)
      refine goes_ Try.func19 (by kernel_rfl) rfl #[.agg #[.int .i64 (a : Int), .int .i64 (b : Int), .int .i64 (d : Int)], .int .i64 (k : Int)] (by rfl) rfl rfl (by (try simp only [List.map_toArray, List.map_cons, List.map_nil]); first | done | rfl) ?_
      refine (impl_PlatBeat.calls _ _ _ _ (3 + (a : Int) + (k : Int)) _ (PlatBeat_in HOK.out (by omega) (by omega))).mono ?_
      rintro e w20 ⟨rfl, hb⟩
      have hHw20_ := hHw19_.call hb
      refine ⟨_, rfl, hK.out _ _ hHw20_ (fun hX_ => ?_)⟩
      clear hK K hX_
      refine norm_ (a' := ?_) ?_ ?_
      rotate_left
      · show Act.put _ (some 96) _ = _
        simp only [Act.put, List.setIfInBounds_toArray, List.set_cons_zero, List.set_cons_succ, i64_w, i32_w]
        rfl
      clear hb
      refine pure_ (i := 8) (N := some 97) (v := ?_) (a' := ?_) #[true, true, true, true, true, true, true, true, true, false, false, false, false] rfl rfl (by kernel_rfl) (fun _ _ _ h => h) (Or.inl ⟨by rfl, ?_⟩) ?_ ?_
      rotate_left
      · intro w'
        go_simp
        with_reducible rfl
      rotate_left
      · simp only [Act.put, List.setIfInBounds_toArray, List.set_cons_zero, List.set_cons_succ, i64_w, i32_w]
        rfl
      refine take_ (i := 9) (N := some 98) (v := ?_) (a' := ?_) #[true, true, true, true, true, true, true, true, true, true, false, false, false] rfl rfl (by kernel_rfl) (fun _ _ _ h => h) (Or.inl ⟨by rfl, ?_⟩) hHw20_ ?_ ?_
      rotate_left
      · intro w' s0
        have f_ := s0.rwcell 0 0 rfl (3 + a + k) (by have := HN.out; have := HLE.out; omega)
        rw [hz_.out] at f_
        clear s0
        go_simp
        with_reducible rfl
      rotate_left
      · simp only [Act.put, List.setIfInBounds_toArray, List.set_cons_zero, List.set_cons_succ, i64_w, i32_w]
        rfl
      refine pure_ (i := 10) (N := some 99) (v := ?_) (a' := ?_) #[true, true, true, true, true, true, true, true, true, true, true, false, false] rfl rfl (by kernel_rfl) (fun _ _ _ h => h) (Or.inl ⟨by rfl, ?_⟩) ?_ ?_
      rotate_left
      · intro w'
        go_simp
        with_reducible rfl
      rotate_left
      · simp only [Act.put, List.setIfInBounds_toArray, List.set_cons_zero, List.set_cons_succ, i64_w, i32_w]
        rfl
      refine pure_ (i := 11) (N := some 100) (v := ?_) (a' := ?_) #[true, true, true, true, true, true, true, true, true, true, true, true, false] rfl rfl (by kernel_rfl) (fun _ _ _ h => h) (Or.inl ⟨by rfl, ?_⟩) ?_ ?_
      rotate_left
      · intro w'
        go_simp
        with_reducible rfl
      rotate_left
      · simp only [Act.put, List.setIfInBounds_toArray, List.set_cons_zero, List.set_cons_succ, i64_w, i32_w]
        rfl
      have f_ := hHw20_.rwcell 0 0 rfl (3 + a + k) (by have := HN.out; have := HLE.out; omega)
      have z_ := hHw20_.rwfrozen 0 rfl 0 (3 + a + k) (by have := HN.out; have := HLE.out; omega)
      refine last_ (i := 12) (N := none) #[true, true, true, true, true, true, true, true, true, true, true, true, true] rfl rfl (by kernel_rfl) (by decide) (fun K hK => ?_)
      refine skip_ (w1 := w20.setCell ⟨go, 3 + a + k, none⟩ (.int .i64 1)) (by rfl) rfl (by first | (go_simp; done) | (go_simp; rfl)) ?_
      refine hK.out _ _ (done_ (by kernel_rfl) ?_)
      clear hK K
      have Sn_ := Aside0.mk (hHw20_.setRw (rs' := [⟨w11.heap.size, w12.heap.size, Rw (Kd.int .i64) 3 w11.heap.size w12.heap.size (.slice (some ⟨go, 0, none⟩) N co) (lst N (fun x => ((x < 3 ∨ (3 ≤ x ∧ x < 3 + k) ∨ (3 + a ≤ x ∧ x < 3 + a + k) ∨ (7 + 2 * a + 17 * b ≤ x ∧ x < 7 + 2 * a + 17 * b + 21 * k)) ∨ x = 3 + k) ∨ x = 3 + a + k))⟩, ⟨w3.heap.size, w4.heap.size, fun w_ => Rw (Kd.int .u64) 40 w3.heap.size w4.heap.size (.slice A4 rl.length c4) rl w_⟩, Blk gc (#[.int .i64 (a : Int), .int .i64 (b : Int), .int .i64 (d : Int)]) 25]) 0 rfl (3 + a + k) 1 (lst_set (Q := fun x => ((x < 3 ∨ (3 ≤ x ∧ x < 3 + k) ∨ (3 + a ≤ x ∧ x < 3 + a + k) ∨ (7 + 2 * a + 17 * b ≤ x ∧ x < 7 + 2 * a + 17 * b + 21 * k)) ∨ x = 3 + k) ∨ x = 3 + a + k) (fun x _ => by omega)) rfl)
      clear S
      have S := Sn_
      clear Sn_
      obtain ⟨w21, hw_⟩ : ∃ w_, w20.setCell ⟨go, 3 + a + k, none⟩ (.int .i64 1) = w_ := ⟨_, rfl⟩
      rw [hw_] at S
      rw [hw_]
      clear hw_
      clear hH_ hHw19_ hHw20_
      clear hA0 hA1 hAt hz_ f_ z_
      go_wp2_with fail
      have Sn_ : Aside0 (St w w21 [⟨w11.heap.size, w12.heap.size, Rw (Kd.int .i64) 3 w11.heap.size w12.heap.size (.slice (some ⟨go, 0, none⟩) N co) (lst N (fun x => x < 3 ∨ (3 ≤ x ∧ x < 3 + (k + 1)) ∨ (3 + a ≤ x ∧ x < 3 + a + (k + 1)) ∨ (7 + 2 * a + 17 * b ≤ x ∧ x < 7 + 2 * a + 17 * b + 21 * k) ∨ (7 + 2 * a + 17 * b + 21 * k ≤ x ∧ x < 7 + 2 * a + 17 * b + 21 * k + 0)))⟩, ⟨w3.heap.size, w4.heap.size, fun w_ => Rw (Kd.int .u64) 40 w3.heap.size w4.heap.size (.slice A4 rl.length c4) rl w_⟩, Blk gc (#[.int .i64 (a : Int), .int .i64 (b : Int), .int .i64 (d : Int)]) 25]) := ⟨by have e_ : lst N (fun x => x < 3 ∨ (3 ≤ x ∧ x < 3 + (k + 1)) ∨ (3 + a ≤ x ∧ x < 3 + a + (k + 1)) ∨ (7 + 2 * a + 17 * b ≤ x ∧ x < 7 + 2 * a + 17 * b + 21 * k) ∨ (7 + 2 * a + 17 * b + 21 * k ≤ x ∧ x < 7 + 2 * a + 17 * b + 21 * k + 0)) = lst N (fun x => ((x < 3 ∨ (3 ≤ x ∧ x < 3 + k) ∨ (3 + a ≤ x ∧ x < 3 + a + k) ∨ (7 + 2 * a + 17 * b ≤ x ∧ x < 7 + 2 * a + 17 * b + 21 * k)) ∨ x = 3 + k) ∨ x = 3 + a + k) := lst_congr (fun x hx_ => by have := HN.out; omega); rw [e_]; exact S.out⟩
      clear S
      have S := Sn_
      clear Sn_
      obtain ⟨wo, hwo⟩ : ∃ wo : World, wo = w21 := ⟨_, rfl⟩
      rw [← hwo] at S ⊢
      clear hwo
      go_loopg [9] 22 (fun kq v_ w' => ∃ j : Nat, j ≤ 21 ∧ kq = 22 - j ∧ v_ = .int .i64 j ∧ Aside0 (St w w' [⟨w11.heap.size, w12.heap.size, Rw (Kd.int .i64) 3 w11.heap.size w12.heap.size (.slice (some ⟨go, 0, none⟩) N co) (lst N (fun x => x < 3 ∨ (3 ≤ x ∧ x < 3 + (k + 1)) ∨ (3 + a ≤ x ∧ x < 3 + a + (k + 1)) ∨ (7 + 2 * a + 17 * b ≤ x ∧ x < 7 + 2 * a + 17 * b + 21 * k) ∨ (7 + 2 * a + 17 * b + 21 * k ≤ x ∧ x < 7 + 2 * a + 17 * b + 21 * k + j)))⟩, ⟨w3.heap.size, w4.heap.size, fun w_ => Rw (Kd.int .u64) 40 w3.heap.size w4.heap.size (.slice A4 rl.length c4) rl w_⟩, Blk gc (#[.int .i64 (a : Int), .int .i64 (b : Int), .int .i64 (d : Int)]) 25]))
      case atStart => exact ⟨0, by omega, by omega, rfl, S⟩
      case round =>
        clear S
        obtain ⟨j, hj, rfl, rfl, S⟩ := hrel
        by_cases hjt : j < 21
        · have hjI : (j : Int) ≤ 20 := by omega
          go_wp2_with fail
          have hw1 : wrap64 (house (a : Int) (b : Int) + (k : Int) * 21 + (j : Int)) = 7 + 2 * (a : Int) + 17 * (b : Int) + 21 * (k : Int) + (j : Int) := by have := HLE.out; unfold house wrap64; omega
          have hA0 : (0 : Int) ≤ 7 + 2 * (a : Int) + 17 * (b : Int) + 21 * (k : Int) + (j : Int) := by omega
          have hA1 : 7 + 2 * (a : Int) + 17 * (b : Int) + 21 * (k : Int) + (j : Int) < (N : Int) := by have := HN.out; have := HLE.out; omega
          have hAt : (7 + 2 * (a : Int) + 17 * (b : Int) + 21 * (k : Int) + (j : Int)).toNat = 7 + 2 * a + 17 * b + 21 * k + j := by omega
          have hz_ : Aside0 ((lst N (fun x => x < 3 ∨ (3 ≤ x ∧ x < 3 + (k + 1)) ∨ (3 + a ≤ x ∧ x < 3 + a + (k + 1)) ∨ (7 + 2 * a + 17 * b ≤ x ∧ x < 7 + 2 * a + 17 * b + 21 * k) ∨ (7 + 2 * a + 17 * b + 21 * k ≤ x ∧ x < 7 + 2 * a + 17 * b + 21 * k + j))).getD (7 + 2 * a + 17 * b + 21 * k + j) 0 = 0) := ⟨by rw [lst_at (by have := HN.out; have := HLE.out; omega), if_neg (by have := HLE.out; omega)]⟩
          go_wp2_with fail
          refine start_ (n := 17) (S := fun w_ => St w w_ [⟨w11.heap.size, w12.heap.size, Rw (Kd.int .i64) 3 w11.heap.size w12.heap.size (.slice (some ⟨go, 0, none⟩) N co) (lst N (fun x => x < 3 ∨ (3 ≤ x ∧ x < 3 + (k + 1)) ∨ (3 + a ≤ x ∧ x < 3 + a + (k + 1)) ∨ (7 + 2 * a + 17 * b ≤ x ∧ x < 7 + 2 * a + 17 * b + 21 * k) ∨ (7 + 2 * a + 17 * b + 21 * k ≤ x ∧ x < 7 + 2 * a + 17 * b + 21 * k + j)))⟩, ⟨w3.heap.size, w4.heap.size, fun w_ => Rw (Kd.int .u64) 40 w3.heap.size w4.heap.size (.slice A4 rl.length c4) rl w_⟩, Blk gc (#[.int .i64 (a : Int), .int .i64 (b : Int), .int .i64 (d : Int)]) 25]) (ds := [16]) #[false, false, false, false, false, false, false, false, false, false, false, false, false, false, false, false, false] (by kernel_rfl) rfl rfl S.out.drew (fun hH_ => ?_)
          refine pure_ (i := 0) (N := some 105) (v := ?_) (a' := ?_) #[true, false, false, false, false, false, false, false, false, false, false, false, false, false, false, false, false] rfl rfl (by kernel_rfl) (fun _ _ _ h => h) (Or.inl ⟨by rfl, ?_⟩) ?_ ?_
          rotate_left
          · intro w'
            go_simp
            with_reducible rfl
          rotate_left
          · simp only [Act.put, List.setIfInBounds_toArray, List.set_cons_zero, List.set_cons_succ, i64_w, i32_w]
            rfl
          refine take_ (i := 1) (N := some 106) (v := .agg (#[.int .i64 (a : Int), .int .i64 (b : Int), .int .i64 (d : Int)])) (a' := ?_) #[true, true, false, false, false, false, false, false, false, false, false, false, false, false, false, false, false] rfl rfl (by kernel_rfl) (fun _ _ _ h => h) (Or.inl ⟨by rfl, fun w' s0 => Row.load_row_run (g := gc) (t := 25) (cells := #[.int .i64 (a : Int), .int .i64 (b : Int), .int .i64 (d : Int)]) rfl rfl (s0.blk 2 rfl) Try.underlying25 rfl (by kernel_rfl)⟩) hH_ ?_ ?_
          rotate_left
          · simp only [Act.put, List.setIfInBounds_toArray, List.set_cons_zero, List.set_cons_succ, i64_w, i32_w]
            rfl
          refine pure_ (i := 2) (N := some 107) (v := ?_) (a' := ?_) #[true, true, true, false, false, false, false, false, false, false, false, false, false, false, false, false, false] rfl rfl (by kernel_rfl) (fun _ _ _ h => h) (Or.inl ⟨by rfl, ?_⟩) ?_ ?_
          rotate_left
          · intro w'
            go_simp
            with_reducible rfl
          rotate_left
          · simp only [Act.put, List.setIfInBounds_toArray, List.set_cons_zero, List.set_cons_succ, i64_w, i32_w]
            rfl
          refine pure_ (i := 4) (N := some 109) (v := ?_) (a' := ?_) #[true, true, true, false, true, false, false, false, false, false, false, false, false, false, false, false, false] rfl rfl (by kernel_rfl) (fun _ _ _ h => h) (Or.inl ⟨by rfl, ?_⟩) ?_ ?_
          rotate_left
          · intro w'
            go_simp
            with_reducible rfl
          rotate_left
          · simp only [Act.put, List.setIfInBounds_toArray, List.set_cons_zero, List.set_cons_succ, i64_w, i32_w]
            rfl
          refine pure_ (i := 6) (N := some 111) (v := ?_) (a' := ?_) #[true, true, true, false, true, false, true, false, false, false, false, false, false, false, false, false, false] rfl rfl (by kernel_rfl) (fun _ _ _ h => h) (Or.inl ⟨by rfl, ?_⟩) ?_ ?_
          rotate_left
          · intro w'
            go_simp
            with_reducible rfl
          rotate_left
          · simp only [Act.put, List.setIfInBounds_toArray, List.set_cons_zero, List.set_cons_succ, i64_w, i32_w]
            rfl
          refine take_ (i := 7) (N := some 112) (v := .agg (#[.int .i64 (a : Int), .int .i64 (b : Int), .int .i64 (d : Int)])) (a' := ?_) #[true, true, true, false, true, false, true, true, false, false, false, false, false, false, false, false, false] rfl rfl (by kernel_rfl) (fun _ _ _ h => h) (Or.inl ⟨by rfl, fun w' s0 => Row.load_row_run (g := gc) (t := 25) (cells := #[.int .i64 (a : Int), .int .i64 (b : Int), .int .i64 (d : Int)]) rfl rfl (s0.blk 2 rfl) Try.underlying25 rfl (by kernel_rfl)⟩) hH_ ?_ ?_
          rotate_left
          · simp only [Act.put, List.setIfInBounds_toArray, List.set_cons_zero, List.set_cons_succ, i64_w, i32_w]
            rfl
          refine pure_ (i := 8) (N := some 113) (v := ?_) (a' := ?_) #[true, true, true, false, true, false, true, true, true, false, false, false, false, false, false, false, false] rfl rfl (by kernel_rfl) (fun _ _ _ h => h) (Or.inl ⟨by rfl, ?_⟩) ?_ ?_
          rotate_left
          · intro w'
            go_simp
            with_reducible rfl
          rotate_left
          · simp only [Act.put, List.setIfInBounds_toArray, List.set_cons_zero, List.set_cons_succ, i64_w, i32_w]
            rfl
          refine pure_ (i := 10) (N := some 115) (v := ?_) (a' := ?_) #[true, true, true, false, true, false, true, true, true, false, true, false, false, false, false, false, false] rfl rfl (by kernel_rfl) (fun _ _ _ h => h) (Or.inl ⟨by rfl, ?_⟩) ?_ ?_
          rotate_left
          · intro w'
            go_simp
            with_reducible rfl
          rotate_left
          · simp only [Act.put, List.setIfInBounds_toArray, List.set_cons_zero, List.set_cons_succ, i64_w, i32_w]
            rfl
          refine one_ (i := 3) (N := some 108) #[true, true, true, true, true, false, true, true, true, false, true, false, false, false, false, false, false] rfl rfl (by kernel_rfl) (by decide) (fun K hK => ?_)
          refine goes_ Try.func34 (by kernel_rfl) rfl #[.agg #[.int .i64 (a : Int), .int .i64 (b : Int), .int .i64 (d : Int)], .int .i64 (k : Int)] (by rfl) rfl rfl (by (try simp only [List.map_toArray, List.map_cons, List.map_nil]); first | done | rfl) ?_
          refine (impl_PlatDesk.calls _ _ _ _ (house (a : Int) (b : Int) + (k : Int) * 21) _ (PlatDesk_in HOK.out (by omega) (by omega))).mono ?_
          rintro e w22 ⟨rfl, hb⟩
          have hHw22_ := hH_.call hb
          refine ⟨_, rfl, hK.out _ _ hHw22_ (fun hX_ => ?_)⟩
          clear hK K hX_
          refine norm_ (a' := ?_) ?_ ?_
          rotate_left
          · show Act.put _ (some 108) _ = _
            simp only [Act.put, List.setIfInBounds_toArray, List.set_cons_zero, List.set_cons_succ, i64_w, i32_w]
            rfl
          clear hb
          refine pure_ (i := 5) (N := some 110) (v := ?_) (a' := ?_) #[true, true, true, true, true, true, true, true, true, false, true, false, false, false, false, false, false] rfl rfl (by kernel_rfl) (fun _ _ _ h => h) (Or.inl ⟨by rfl, ?_⟩) ?_ ?_
          rotate_left
          · intro w'
            go_simp
            with_reducible rfl
          rotate_left
          · simp only [Act.put, List.setIfInBounds_toArray, List.set_cons_zero, List.set_cons_succ, i64_w, i32_w]
            rfl
          refine one_ (i := 9) (N := some 114) #[true, true, true, true, true, true, true, true, true, true, true, false, false, false, false, false, false] rfl rfl (by kernel_rfl) (by decide) (fun K hK => ?_)
          refine goes_ Try.func34 (by kernel_rfl) rfl #[.agg #[.int .i64 (a : Int), .int .i64 (b : Int), .int .i64 (d : Int)], .int .i64 (k : Int)] (by rfl) rfl rfl (by (try simp only [List.map_toArray, List.map_cons, List.map_nil]); first | done | rfl) ?_
          refine (impl_PlatDesk.calls _ _ _ _ (house (a : Int) (b : Int) + (k : Int) * 21) _ (PlatDesk_in HOK.out (by omega) (by omega))).mono ?_
          rintro e w23 ⟨rfl, hb⟩
          have hHw23_ := hHw22_.call hb
          refine ⟨_, rfl, hK.out _ _ hHw23_ (fun hX_ => ?_)⟩
          clear hK K hX_
          refine norm_ (a' := ?_) ?_ ?_
          rotate_left
          · show Act.put _ (some 114) _ = _
            simp only [Act.put, List.setIfInBounds_toArray, List.set_cons_zero, List.set_cons_succ, i64_w, i32_w]
            rfl
          clear hb
          refine pure_ (i := 11) (N := some 116) (v := ?_) (a' := ?_) #[true, true, true, true, true, true, true, true, true, true, true, true, false, false, false, false, false] rfl rfl (by kernel_rfl) (fun _ _ _ h => h) (Or.inl ⟨by rfl, ?_⟩) ?_ ?_
          rotate_left
          · intro w'
            go_simp
            with_reducible rfl
          rotate_left
          · simp only [Act.put, List.setIfInBounds_toArray, List.set_cons_zero, List.set_cons_succ, i64_w, i32_w]
            rfl
          refine pure_ (i := 12) (N := some 117) (v := ?_) (a' := ?_) #[true, true, true, true, true, true, true, true, true, true, true, true, true, false, false, false, false] rfl rfl (by kernel_rfl) (fun _ _ _ h => h) (Or.inl ⟨by rfl, ?_⟩) ?_ ?_
          rotate_left
          · intro w'
            go_simp
            with_reducible rfl
          rotate_left
          · simp only [Act.put, List.setIfInBounds_toArray, List.set_cons_zero, List.set_cons_succ, i64_w, i32_w]
            rfl
          refine take_ (i := 13) (N := some 118) (v := ?_) (a' := ?_) #[true, true, true, true, true, true, true, true, true, true, true, true, true, true, false, false, false] rfl rfl (by kernel_rfl) (fun _ _ _ h => h) (Or.inl ⟨by rfl, ?_⟩) hHw23_ ?_ ?_
          rotate_left
          · intro w' s0
            have f_ := s0.rwcell 0 0 rfl (7 + 2 * a + 17 * b + 21 * k + j) (by have := HN.out; have := HLE.out; omega)
            rw [hz_.out] at f_
            clear s0
            go_simp
            with_reducible rfl
          rotate_left
          · simp only [Act.put, List.setIfInBounds_toArray, List.set_cons_zero, List.set_cons_succ, i64_w, i32_w]
            rfl
          refine pure_ (i := 14) (N := some 119) (v := ?_) (a' := ?_) #[true, true, true, true, true, true, true, true, true, true, true, true, true, true, true, false, false] rfl rfl (by kernel_rfl) (fun _ _ _ h => h) (Or.inl ⟨by rfl, ?_⟩) ?_ ?_
          rotate_left
          · intro w'
            go_simp
            with_reducible rfl
          rotate_left
          · simp only [Act.put, List.setIfInBounds_toArray, List.set_cons_zero, List.set_cons_succ, i64_w, i32_w]
            rfl
          refine pure_ (i := 15) (N := some 120) (v := ?_) (a' := ?_) #[true, true, true, true, true, true, true, true, true, true, true, true, true, true, true, true, false] rfl rfl (by kernel_rfl) (fun _ _ _ h => h) (Or.inl ⟨by rfl, ?_⟩) ?_ ?_
          rotate_left
          · intro w'
            go_simp
            with_reducible rfl
          rotate_left
          · simp only [Act.put, List.setIfInBounds_toArray, List.set_cons_zero, List.set_cons_succ, i64_w, i32_w]
            rfl
          have f_ := hHw23_.rwcell 0 0 rfl (7 + 2 * a + 17 * b + 21 * k + j) (by have := HN.out; have := HLE.out; omega)
          have z_ := hHw23_.rwfrozen 0 rfl 0 (7 + 2 * a + 17 * b + 21 * k + j) (by have := HN.out; have := HLE.out; omega)
          refine last_ (i := 16) (N := none) #[true, true, true, true, true, true, true, true, true, true, true, true, true, true, true, true, true] rfl rfl (by kernel_rfl) (by decide) (fun K hK => ?_)
          refine skip_ (w1 := w23.setCell ⟨go, 7 + 2 * a + 17 * b + 21 * k + j, none⟩ (.int .i64 1)) (by rfl) rfl (by first | (go_simp; done) | (go_simp; rfl)) ?_
          refine hK.out _ _ (done_ (by kernel_rfl) ?_)
          clear hK K
          have Sn_ := Aside0.mk (hHw23_.setRw (rs' := [⟨w11.heap.size, w12.heap.size, Rw (Kd.int .i64) 3 w11.heap.size w12.heap.size (.slice (some ⟨go, 0, none⟩) N co) (lst N (fun x => (x < 3 ∨ (3 ≤ x ∧ x < 3 + (k + 1)) ∨ (3 + a ≤ x ∧ x < 3 + a + (k + 1)) ∨ (7 + 2 * a + 17 * b ≤ x ∧ x < 7 + 2 * a + 17 * b + 21 * k) ∨ (7 + 2 * a + 17 * b + 21 * k ≤ x ∧ x < 7 + 2 * a + 17 * b + 21 * k + j)) ∨ x = 7 + 2 * a + 17 * b + 21 * k + j))⟩, ⟨w3.heap.size, w4.heap.size, fun w_ => Rw (Kd.int .u64) 40 w3.heap.size w4.heap.size (.slice A4 rl.length c4) rl w_⟩, Blk gc (#[.int .i64 (a : Int), .int .i64 (b : Int), .int .i64 (d : Int)]) 25]) 0 rfl (7 + 2 * a + 17 * b + 21 * k + j) 1 (lst_set (Q := fun x => (x < 3 ∨ (3 ≤ x ∧ x < 3 + (k + 1)) ∨ (3 + a ≤ x ∧ x < 3 + a + (k + 1)) ∨ (7 + 2 * a + 17 * b ≤ x ∧ x < 7 + 2 * a + 17 * b + 21 * k) ∨ (7 + 2 * a + 17 * b + 21 * k ≤ x ∧ x < 7 + 2 * a + 17 * b + 21 * k + j)) ∨ x = 7 + 2 * a + 17 * b + 21 * k + j) (fun x _ => by omega)) rfl)
          clear S
          have S := Sn_
          clear Sn_
          obtain ⟨w24, hw_⟩ : ∃ w_, w23.setCell ⟨go, 7 + 2 * a + 17 * b + 21 * k + j, none⟩ (.int .i64 1) = w_ := ⟨_, rfl⟩
          rw [hw_] at S
          rw [hw_]
          clear hw_
          clear hH_ hHw22_ hHw23_
          clear hA0 hA1 hAt hz_ f_ z_
          have Sn_ : Aside0 (St w w24 [⟨w11.heap.size, w12.heap.size, Rw (Kd.int .i64) 3 w11.heap.size w12.heap.size (.slice (some ⟨go, 0, none⟩) N co) (lst N (fun x => x < 3 ∨ (3 ≤ x ∧ x < 3 + (k + 1)) ∨ (3 + a ≤ x ∧ x < 3 + a + (k + 1)) ∨ (7 + 2 * a + 17 * b ≤ x ∧ x < 7 + 2 * a + 17 * b + 21 * k) ∨ (7 + 2 * a + 17 * b + 21 * k ≤ x ∧ x < 7 + 2 * a + 17 * b + 21 * k + (j + 1))))⟩, ⟨w3.heap.size, w4.heap.size, fun w_ => Rw (Kd.int .u64) 40 w3.heap.size w4.heap.size (.slice A4 rl.length c4) rl w_⟩, Blk gc (#[.int .i64 (a : Int), .int .i64 (b : Int), .int .i64 (d : Int)]) 25]) := ⟨by have e_ : lst N (fun x => x < 3 ∨ (3 ≤ x ∧ x < 3 + (k + 1)) ∨ (3 + a ≤ x ∧ x < 3 + a + (k + 1)) ∨ (7 + 2 * a + 17 * b ≤ x ∧ x < 7 + 2 * a + 17 * b + 21 * k) ∨ (7 + 2 * a + 17 * b + 21 * k ≤ x ∧ x < 7 + 2 * a + 17 * b + 21 * k + (j + 1))) = lst N (fun x => (x < 3 ∨ (3 ≤ x ∧ x < 3 + (k + 1)) ∨ (3 + a ≤ x ∧ x < 3 + a + (k + 1)) ∨ (7 + 2 * a + 17 * b ≤ x ∧ x < 7 + 2 * a + 17 * b + 21 * k) ∨ (7 + 2 * a + 17 * b + 21 * k ≤ x ∧ x < 7 + 2 * a + 17 * b + 21 * k + j)) ∨ x = 7 + 2 * a + 17 * b + 21 * k + j) := lst_congr (fun x hx_ => by have := HN.out; omega); rw [e_]; exact S.out⟩
          clear S
          have S := Sn_
          clear Sn_
          clear hw1
          go_wp2
          go_roundg (22 - (j + 1))
          case measure => omega
          case rel => exact ⟨j + 1, by omega, rfl, by go_num, S⟩
        · have hj21 : j = 21 := by omega
          subst hj21
          clear hjt hj
          have Sn_ : Aside0 (St w wr [⟨w11.heap.size, w12.heap.size, Rw (Kd.int .i64) 3 w11.heap.size w12.heap.size (.slice (some ⟨go, 0, none⟩) N co) (lst N (fun x => x < 3 ∨ (3 ≤ x ∧ x < 3 + (k + 1)) ∨ (3 + a ≤ x ∧ x < 3 + a + (k + 1)) ∨ (7 + 2 * a + 17 * b ≤ x ∧ x < 7 + 2 * a + 17 * b + 21 * (k + 1))))⟩, ⟨w3.heap.size, w4.heap.size, fun w_ => Rw (Kd.int .u64) 40 w3.heap.size w4.heap.size (.slice A4 rl.length c4) rl w_⟩, Blk gc (#[.int .i64 (a : Int), .int .i64 (b : Int), .int .i64 (d : Int)]) 25]) := ⟨by have e_ : lst N (fun x => x < 3 ∨ (3 ≤ x ∧ x < 3 + (k + 1)) ∨ (3 + a ≤ x ∧ x < 3 + a + (k + 1)) ∨ (7 + 2 * a + 17 * b ≤ x ∧ x < 7 + 2 * a + 17 * b + 21 * (k + 1))) = lst N (fun x => x < 3 ∨ (3 ≤ x ∧ x < 3 + (k + 1)) ∨ (3 + a ≤ x ∧ x < 3 + a + (k + 1)) ∨ (7 + 2 * a + 17 * b ≤ x ∧ x < 7 + 2 * a + 17 * b + 21 * k) ∨ (7 + 2 * a + 17 * b + 21 * k ≤ x ∧ x < 7 + 2 * a + 17 * b + 21 * k + 21)) := lst_congr (fun x hx_ => by have := HN.out; omega); rw [e_]; exact S.out⟩
          clear S
          have S := Sn_
          clear Sn_
          go_wp2
          go_roundg (a + 1 - (k + 1))
          case measure => omega
          case rel => exact ⟨k + 1, by omega, rfl, congrArg (Value.int .i64) (by have := HLE.out; (try unfold wrap64); omega), S⟩
    · have hkb : a = k := by omega
      subst hkb
      clear hlt hk
      have f_gc_0 : wr.cell? ⟨gc, 0, none⟩ = some (.int .i64 (a : Int)) := (S.out.cell 2 rfl 0).trans rfl
      have z_gc_0 := S.out.frozen 2 rfl 0
      have f_gc_1 : wr.cell? ⟨gc, 1, none⟩ = some (.int .i64 (b : Int)) := (S.out.cell 2 rfl 1).trans rfl
      have z_gc_1 := S.out.frozen 2 rfl 1
      go_wp2_with fail
      clear f_gc_0 z_gc_0 f_gc_1 z_gc_1
      have Sn_ : Aside0 (St w wr [⟨w11.heap.size, w12.heap.size, Rw (Kd.int .i64) 3 w11.heap.size w12.heap.size (.slice (some ⟨go, 0, none⟩) N co) (lst N (fun x => (x < 3 ∨ (3 ≤ x ∧ x < 3 + a) ∨ (3 + a ≤ x ∧ x < 3 + a + a) ∨ (7 + 2 * a + 17 * b ≤ x ∧ x < 7 + 2 * a + 17 * b + 21 * a)) ∨ (3 + 2 * a ≤ x ∧ x < 3 + 2 * a + 0)))⟩, ⟨w3.heap.size, w4.heap.size, fun w_ => Rw (Kd.int .u64) 40 w3.heap.size w4.heap.size (.slice A4 rl.length c4) rl w_⟩, Blk gc (#[.int .i64 (a : Int), .int .i64 (b : Int), .int .i64 (d : Int)]) 25]) := ⟨by have e_ : lst N (fun x => (x < 3 ∨ (3 ≤ x ∧ x < 3 + a) ∨ (3 + a ≤ x ∧ x < 3 + a + a) ∨ (7 + 2 * a + 17 * b ≤ x ∧ x < 7 + 2 * a + 17 * b + 21 * a)) ∨ (3 + 2 * a ≤ x ∧ x < 3 + 2 * a + 0)) = lst N (fun x => x < 3 ∨ (3 ≤ x ∧ x < 3 + a) ∨ (3 + a ≤ x ∧ x < 3 + a + a) ∨ (7 + 2 * a + 17 * b ≤ x ∧ x < 7 + 2 * a + 17 * b + 21 * a)) := lst_congr (fun x hx_ => by have := HN.out; omega); rw [e_]; exact S.out⟩
      clear S
      have S := Sn_
      clear Sn_
      go_loopg [10] (4 + 1) (fun kq v_ w' => ∃ k : Nat, k ≤ 4 ∧ kq = 4 + 1 - k ∧ v_ = .int .i64 k ∧ Aside0 (St w w' [⟨w11.heap.size, w12.heap.size, Rw (Kd.int .i64) 3 w11.heap.size w12.heap.size (.slice (some ⟨go, 0, none⟩) N co) (lst N (fun x => (x < 3 ∨ (3 ≤ x ∧ x < 3 + a) ∨ (3 + a ≤ x ∧ x < 3 + a + a) ∨ (7 + 2 * a + 17 * b ≤ x ∧ x < 7 + 2 * a + 17 * b + 21 * a)) ∨ (3 + 2 * a ≤ x ∧ x < 3 + 2 * a + k)))⟩, ⟨w3.heap.size, w4.heap.size, fun w_ => Rw (Kd.int .u64) 40 w3.heap.size w4.heap.size (.slice A4 rl.length c4) rl w_⟩, Blk gc (#[.int .i64 (a : Int), .int .i64 (b : Int), .int .i64 (d : Int)]) 25]))
      case atStart => exact ⟨0, by omega, by omega, rfl, S⟩
      case round =>
        clear S
        obtain ⟨k, hk, rfl, rfl, S⟩ := hrel
        by_cases hlt : k < 4
        · have hlI : (k : Int) < 4 := by omega
          go_wp2_with fail
          have hb6 := HLE.out
          have hA0 : (0 : Int) ≤ 3 + 2 * (a : Int) + (k : Int) := by omega
          have hA1 : 3 + 2 * (a : Int) + (k : Int) < (N : Int) := by have := HN.out; have := HLE.out; omega
          have hAt : (3 + 2 * (a : Int) + (k : Int)).toNat = 3 + 2 * a + k := by omega
          have hz_ : Aside0 ((lst N (fun x => (x < 3 ∨ (3 ≤ x ∧ x < 3 + a) ∨ (3 + a ≤ x ∧ x < 3 + a + a) ∨ (7 + 2 * a + 17 * b ≤ x ∧ x < 7 + 2 * a + 17 * b + 21 * a)) ∨ (3 + 2 * a ≤ x ∧ x < 3 + 2 * a + k))).getD (3 + 2 * a + k) 0 = 0) := ⟨by rw [lst_at (by have := HN.out; have := HLE.out; omega), if_neg (by have := HLE.out; omega)]⟩
          go_wp2_with fail
          refine start_ (n := 13) (S := fun w_ => St w w_ [⟨w11.heap.size, w12.heap.size, Rw (Kd.int .i64) 3 w11.heap.size w12.heap.size (.slice (some ⟨go, 0, none⟩) N co) (lst N (fun x => (x < 3 ∨ (3 ≤ x ∧ x < 3 + a) ∨ (3 + a ≤ x ∧ x < 3 + a + a) ∨ (7 + 2 * a + 17 * b ≤ x ∧ x < 7 + 2 * a + 17 * b + 21 * a)) ∨ (3 + 2 * a ≤ x ∧ x < 3 + 2 * a + k)))⟩, ⟨w3.heap.size, w4.heap.size, fun w_ => Rw (Kd.int .u64) 40 w3.heap.size w4.heap.size (.slice A4 rl.length c4) rl w_⟩, Blk gc (#[.int .i64 (a : Int), .int .i64 (b : Int), .int .i64 (d : Int)]) 25]) (ds := [12]) #[false, false, false, false, false, false, false, false, false, false, false, false, false] (by kernel_rfl) rfl rfl S.out.drew (fun hH_ => ?_)
          refine pure_ (i := 0) (N := some 125) (v := ?_) (a' := ?_) #[true, false, false, false, false, false, false, false, false, false, false, false, false] rfl rfl (by kernel_rfl) (fun _ _ _ h => h) (Or.inl ⟨by rfl, ?_⟩) ?_ ?_
          rotate_left
          · intro w'
            go_simp
            with_reducible rfl
          rotate_left
          · simp only [Act.put, List.setIfInBounds_toArray, List.set_cons_zero, List.set_cons_succ, i64_w, i32_w]
            rfl
          refine take_ (i := 1) (N := some 126) (v := .agg (#[.int .i64 (a : Int), .int .i64 (b : Int), .int .i64 (d : Int)])) (a' := ?_) #[true, true, false, false, false, false, false, false, false, false, false, false, false] rfl rfl (by kernel_rfl) (fun _ _ _ h => h) (Or.inl ⟨by rfl, fun w' s0 => Row.load_row_run (g := gc) (t := 25) (cells := #[.int .i64 (a : Int), .int .i64 (b : Int), .int .i64 (d : Int)]) rfl rfl (s0.blk 2 rfl) Try.underlying25 rfl (by kernel_rfl)⟩) hH_ ?_ ?_
          rotate_left
          · simp only [Act.put, List.setIfInBounds_toArray, List.set_cons_zero, List.set_cons_succ, i64_w, i32_w]
            rfl
          refine pure_ (i := 2) (N := some 127) (v := ?_) (a' := ?_) #[true, true, true, false, false, false, false, false, false, false, false, false, false] rfl rfl (by kernel_rfl) (fun _ _ _ h => h) (Or.inl ⟨by rfl, ?_⟩) ?_ ?_
          rotate_left
          · intro w'
            go_simp
            with_reducible rfl
          rotate_left
          · simp only [Act.put, List.setIfInBounds_toArray, List.set_cons_zero, List.set_cons_succ, i64_w, i32_w]
            rfl
          refine pure_ (i := 4) (N := some 129) (v := ?_) (a' := ?_) #[true, true, true, false, true, false, false, false, false, false, false, false, false] rfl rfl (by kernel_rfl) (fun _ _ _ h => h) (Or.inl ⟨by rfl, ?_⟩) ?_ ?_
          rotate_left
          · intro w'
            go_simp
            with_reducible rfl
          rotate_left
          · simp only [Act.put, List.setIfInBounds_toArray, List.set_cons_zero, List.set_cons_succ, i64_w, i32_w]
            rfl
          refine take_ (i := 5) (N := some 130) (v := .agg (#[.int .i64 (a : Int), .int .i64 (b : Int), .int .i64 (d : Int)])) (a' := ?_) #[true, true, true, false, true, true, false, false, false, false, false, false, false] rfl rfl (by kernel_rfl) (fun _ _ _ h => h) (Or.inl ⟨by rfl, fun w' s0 => Row.load_row_run (g := gc) (t := 25) (cells := #[.int .i64 (a : Int), .int .i64 (b : Int), .int .i64 (d : Int)]) rfl rfl (s0.blk 2 rfl) Try.underlying25 rfl (by kernel_rfl)⟩) hH_ ?_ ?_
          rotate_left
          · simp only [Act.put, List.setIfInBounds_toArray, List.set_cons_zero, List.set_cons_succ, i64_w, i32_w]
            rfl
          refine pure_ (i := 6) (N := some 131) (v := ?_) (a' := ?_) #[true, true, true, false, true, true, true, false, false, false, false, false, false] rfl rfl (by kernel_rfl) (fun _ _ _ h => h) (Or.inl ⟨by rfl, ?_⟩) ?_ ?_
          rotate_left
          · intro w'
            go_simp
            with_reducible rfl
          rotate_left
          · simp only [Act.put, List.setIfInBounds_toArray, List.set_cons_zero, List.set_cons_succ, i64_w, i32_w]
            rfl
          refine one_ (i := 3) (N := some 128) #[true, true, true, true, true, true, true, false, false, false, false, false, false] rfl rfl (by kernel_rfl) (by decide) (fun K hK => ?_)
          refine goes_ Try.func21 (by kernel_rfl) rfl #[.agg #[.int .i64 (a : Int), .int .i64 (b : Int), .int .i64 (d : Int)], .int .i64 (k : Int)] (by rfl) rfl rfl (by (try simp only [List.map_toArray, List.map_cons, List.map_nil]); first | done | rfl) ?_
          refine (impl_PlatHead.calls _ _ _ _ (3 + 2 * (a : Int) + (k : Int)) _ (PlatHead_in HOK.out (by omega) (by omega))).mono ?_
          rintro e w25 ⟨rfl, hb⟩
          have hHw25_ := hH_.call hb
          refine ⟨_, rfl, hK.out _ _ hHw25_ (fun hX_ => ?_)⟩
          clear hK K hX_
          refine norm_ (a' := ?_) ?_ ?_
          rotate_left
          · show Act.put _ (some 128) _ = _
            simp only [Act.put, List.setIfInBounds_toArray, List.set_cons_zero, List.set_cons_succ, i64_w, i32_w]
            rfl
          clear hb
          refine one_ (i := 7) (N := some 132) #[true, true, true, true, true, true, true, true, false, false, false, false, false] rfl rfl (by kernel_rfl) (by decide) (fun K hK => ?_)
          refine goes_ Try.func21 (by kernel_rfl) rfl #[.agg #[.int .i64 (a : Int), .int .i64 (b : Int), .int .i64 (d : Int)], .int .i64 (k : Int)] (by rfl) rfl rfl (by (try simp only [List.map_toArray, List.map_cons, List.map_nil]); first | done | rfl) ?_
          refine (impl_PlatHead.calls _ _ _ _ (3 + 2 * (a : Int) + (k : Int)) _ (PlatHead_in HOK.out (by omega) (by omega))).mono ?_
          rintro e w26 ⟨rfl, hb⟩
          have hHw26_ := hHw25_.call hb
          refine ⟨_, rfl, hK.out _ _ hHw26_ (fun hX_ => ?_)⟩
          clear hK K hX_
          refine norm_ (a' := ?_) ?_ ?_
          rotate_left
          · show Act.put _ (some 132) _ = _
            simp only [Act.put, List.setIfInBounds_toArray, List.set_cons_zero, List.set_cons_succ, i64_w, i32_w]
            rfl
          clear hb
          refine pure_ (i := 8) (N := some 133) (v := ?_) (a' := ?_) #[true, true, true, true, true, true, true, true, true, false, false, false, false] rfl rfl (by kernel_rfl) (fun _ _ _ h => h) (Or.inl ⟨by rfl, ?_⟩) ?_ ?_
          rotate_left
          · intro w'
            go_simp
            with_reducible rfl
          rotate_left
          · simp only [Act.put, List.setIfInBounds_toArray, List.set_cons_zero, List.set_cons_succ, i64_w, i32_w]
            rfl
          refine take_ (i := 9) (N := some 134) (v := ?_) (a' := ?_) #[true, true, true, true, true, true, true, true, true, true, false, false, false] rfl rfl (by kernel_rfl) (fun _ _ _ h => h) (Or.inl ⟨by rfl, ?_⟩) hHw26_ ?_ ?_
          rotate_left
          · intro w' s0
            have f_ := s0.rwcell 0 0 rfl (3 + 2 * a + k) (by have := HN.out; have := HLE.out; omega)
            rw [hz_.out] at f_
            clear s0
            go_simp
            with_reducible rfl
          rotate_left
          · simp only [Act.put, List.setIfInBounds_toArray, List.set_cons_zero, List.set_cons_succ, i64_w, i32_w]
            rfl
          refine pure_ (i := 10) (N := some 135) (v := ?_) (a' := ?_) #[true, true, true, true, true, true, true, true, true, true, true, false, false] rfl rfl (by kernel_rfl) (fun _ _ _ h => h) (Or.inl ⟨by rfl, ?_⟩) ?_ ?_
          rotate_left
          · intro w'
            go_simp
            with_reducible rfl
          rotate_left
          · simp only [Act.put, List.setIfInBounds_toArray, List.set_cons_zero, List.set_cons_succ, i64_w, i32_w]
            rfl
          refine pure_ (i := 11) (N := some 136) (v := ?_) (a' := ?_) #[true, true, true, true, true, true, true, true, true, true, true, true, false] rfl rfl (by kernel_rfl) (fun _ _ _ h => h) (Or.inl ⟨by rfl, ?_⟩) ?_ ?_
          rotate_left
          · intro w'
            go_simp
            with_reducible rfl
          rotate_left
          · simp only [Act.put, List.setIfInBounds_toArray, List.set_cons_zero, List.set_cons_succ, i64_w, i32_w]
            rfl
          have f_ := hHw26_.rwcell 0 0 rfl (3 + 2 * a + k) (by have := HN.out; have := HLE.out; omega)
          have z_ := hHw26_.rwfrozen 0 rfl 0 (3 + 2 * a + k) (by have := HN.out; have := HLE.out; omega)
          refine last_ (i := 12) (N := none) #[true, true, true, true, true, true, true, true, true, true, true, true, true] rfl rfl (by kernel_rfl) (by decide) (fun K hK => ?_)
          refine skip_ (w1 := w26.setCell ⟨go, 3 + 2 * a + k, none⟩ (.int .i64 1)) (by rfl) rfl (by first | (go_simp; done) | (go_simp; rfl)) ?_
          refine hK.out _ _ (done_ (by kernel_rfl) ?_)
          clear hK K
          have Sn_ := Aside0.mk (hHw26_.setRw (rs' := [⟨w11.heap.size, w12.heap.size, Rw (Kd.int .i64) 3 w11.heap.size w12.heap.size (.slice (some ⟨go, 0, none⟩) N co) (lst N (fun x => ((x < 3 ∨ (3 ≤ x ∧ x < 3 + a) ∨ (3 + a ≤ x ∧ x < 3 + a + a) ∨ (7 + 2 * a + 17 * b ≤ x ∧ x < 7 + 2 * a + 17 * b + 21 * a)) ∨ (3 + 2 * a ≤ x ∧ x < 3 + 2 * a + k)) ∨ x = 3 + 2 * a + k))⟩, ⟨w3.heap.size, w4.heap.size, fun w_ => Rw (Kd.int .u64) 40 w3.heap.size w4.heap.size (.slice A4 rl.length c4) rl w_⟩, Blk gc (#[.int .i64 (a : Int), .int .i64 (b : Int), .int .i64 (d : Int)]) 25]) 0 rfl (3 + 2 * a + k) 1 (lst_set (Q := fun x => ((x < 3 ∨ (3 ≤ x ∧ x < 3 + a) ∨ (3 + a ≤ x ∧ x < 3 + a + a) ∨ (7 + 2 * a + 17 * b ≤ x ∧ x < 7 + 2 * a + 17 * b + 21 * a)) ∨ (3 + 2 * a ≤ x ∧ x < 3 + 2 * a + k)) ∨ x = 3 + 2 * a + k) (fun x _ => by omega)) rfl)
          clear S
          have S := Sn_
          clear Sn_
          obtain ⟨w27, hw_⟩ : ∃ w_, w26.setCell ⟨go, 3 + 2 * a + k, none⟩ (.int .i64 1) = w_ := ⟨_, rfl⟩
          rw [hw_] at S
          rw [hw_]
          clear hw_
          clear hH_ hHw25_ hHw26_
          clear hA0 hA1 hAt hz_ f_ z_
          have Sn_ : Aside0 (St w w27 [⟨w11.heap.size, w12.heap.size, Rw (Kd.int .i64) 3 w11.heap.size w12.heap.size (.slice (some ⟨go, 0, none⟩) N co) (lst N (fun x => (x < 3 ∨ (3 ≤ x ∧ x < 3 + a) ∨ (3 + a ≤ x ∧ x < 3 + a + a) ∨ (7 + 2 * a + 17 * b ≤ x ∧ x < 7 + 2 * a + 17 * b + 21 * a)) ∨ (3 + 2 * a ≤ x ∧ x < 3 + 2 * a + (k + 1))))⟩, ⟨w3.heap.size, w4.heap.size, fun w_ => Rw (Kd.int .u64) 40 w3.heap.size w4.heap.size (.slice A4 rl.length c4) rl w_⟩, Blk gc (#[.int .i64 (a : Int), .int .i64 (b : Int), .int .i64 (d : Int)]) 25]) := ⟨by have e_ : lst N (fun x => (x < 3 ∨ (3 ≤ x ∧ x < 3 + a) ∨ (3 + a ≤ x ∧ x < 3 + a + a) ∨ (7 + 2 * a + 17 * b ≤ x ∧ x < 7 + 2 * a + 17 * b + 21 * a)) ∨ (3 + 2 * a ≤ x ∧ x < 3 + 2 * a + (k + 1))) = lst N (fun x => ((x < 3 ∨ (3 ≤ x ∧ x < 3 + a) ∨ (3 + a ≤ x ∧ x < 3 + a + a) ∨ (7 + 2 * a + 17 * b ≤ x ∧ x < 7 + 2 * a + 17 * b + 21 * a)) ∨ (3 + 2 * a ≤ x ∧ x < 3 + 2 * a + k)) ∨ x = 3 + 2 * a + k) := lst_congr (fun x hx_ => by have := HN.out; omega); rw [e_]; exact S.out⟩
          clear S
          have S := Sn_
          clear Sn_
          go_wp2
          go_roundg (4 + 1 - (k + 1))
          case measure => omega
          case rel => exact ⟨k + 1, by omega, rfl, congrArg (Value.int .i64) (by have := HLE.out; (try unfold wrap64); omega), S⟩
        · have hkb : 4 = k := by omega
          subst hkb
          clear hlt hk
          go_wp2_with fail
          have Sn_ : Aside0 (St w wr [⟨w11.heap.size, w12.heap.size, Rw (Kd.int .i64) 3 w11.heap.size w12.heap.size (.slice (some ⟨go, 0, none⟩) N co) (lst N (fun x => ((x < 3 ∨ (3 ≤ x ∧ x < 3 + a) ∨ (3 + a ≤ x ∧ x < 3 + a + a) ∨ (7 + 2 * a + 17 * b ≤ x ∧ x < 7 + 2 * a + 17 * b + 21 * a)) ∨ (3 + 2 * a ≤ x ∧ x < 3 + 2 * a + 4)) ∨ (7 + 2 * a ≤ x ∧ x < 7 + 2 * a + 0)))⟩, ⟨w3.heap.size, w4.heap.size, fun w_ => Rw (Kd.int .u64) 40 w3.heap.size w4.heap.size (.slice A4 rl.length c4) rl w_⟩, Blk gc (#[.int .i64 (a : Int), .int .i64 (b : Int), .int .i64 (d : Int)]) 25]) := ⟨by have e_ : lst N (fun x => ((x < 3 ∨ (3 ≤ x ∧ x < 3 + a) ∨ (3 + a ≤ x ∧ x < 3 + a + a) ∨ (7 + 2 * a + 17 * b ≤ x ∧ x < 7 + 2 * a + 17 * b + 21 * a)) ∨ (3 + 2 * a ≤ x ∧ x < 3 + 2 * a + 4)) ∨ (7 + 2 * a ≤ x ∧ x < 7 + 2 * a + 0)) = lst N (fun x => (x < 3 ∨ (3 ≤ x ∧ x < 3 + a) ∨ (3 + a ≤ x ∧ x < 3 + a + a) ∨ (7 + 2 * a + 17 * b ≤ x ∧ x < 7 + 2 * a + 17 * b + 21 * a)) ∨ (3 + 2 * a ≤ x ∧ x < 3 + 2 * a + 4)) := lst_congr (fun x hx_ => by have := HN.out; omega); rw [e_]; exact S.out⟩
          clear S
          have S := Sn_
          clear Sn_
          go_loopg [11] (b + 1) (fun kq v_ w' => ∃ k : Nat, k ≤ b ∧ kq = b + 1 - k ∧ v_ = .int .i64 k ∧ Aside0 (St w w' [⟨w11.heap.size, w12.heap.size, Rw (Kd.int .i64) 3 w11.heap.size w12.heap.size (.slice (some ⟨go, 0, none⟩) N co) (lst N (fun x => ((x < 3 ∨ (3 ≤ x ∧ x < 3 + a) ∨ (3 + a ≤ x ∧ x < 3 + a + a) ∨ (7 + 2 * a + 17 * b ≤ x ∧ x < 7 + 2 * a + 17 * b + 21 * a)) ∨ (3 + 2 * a ≤ x ∧ x < 3 + 2 * a + 4)) ∨ (7 + 2 * a ≤ x ∧ x < 7 + 2 * a + k)))⟩, ⟨w3.heap.size, w4.heap.size, fun w_ => Rw (Kd.int .u64) 40 w3.heap.size w4.heap.size (.slice A4 rl.length c4) rl w_⟩, Blk gc (#[.int .i64 (a : Int), .int .i64 (b : Int), .int .i64 (d : Int)]) 25]))
          case atStart => exact ⟨0, by omega, by omega, rfl, S⟩
          case round =>
            clear S
            obtain ⟨k, hk, rfl, rfl, S⟩ := hrel
            by_cases hlt : k < b
            · have hlI : (k : Int) < (b : Int) := by omega
              have f_gc_0 : wr.cell? ⟨gc, 0, none⟩ = some (.int .i64 (a : Int)) := (S.out.cell 2 rfl 0).trans rfl
              have z_gc_0 := S.out.frozen 2 rfl 0
              have f_gc_1 : wr.cell? ⟨gc, 1, none⟩ = some (.int .i64 (b : Int)) := (S.out.cell 2 rfl 1).trans rfl
              have z_gc_1 := S.out.frozen 2 rfl 1
              go_wp2_with fail
              clear f_gc_0 z_gc_0 f_gc_1 z_gc_1
              have hA0 : (0 : Int) ≤ 7 + 2 * (a : Int) + (k : Int) := by omega
              have hA1 : 7 + 2 * (a : Int) + (k : Int) < (N : Int) := by have := HN.out; have := HLE.out; omega
              have hAt : (7 + 2 * (a : Int) + (k : Int)).toNat = 7 + 2 * a + k := by omega
              have hz_ : Aside0 ((lst N (fun x => ((x < 3 ∨ (3 ≤ x ∧ x < 3 + a) ∨ (3 + a ≤ x ∧ x < 3 + a + a) ∨ (7 + 2 * a + 17 * b ≤ x ∧ x < 7 + 2 * a + 17 * b + 21 * a)) ∨ (3 + 2 * a ≤ x ∧ x < 3 + 2 * a + 4)) ∨ (7 + 2 * a ≤ x ∧ x < 7 + 2 * a + k))).getD (7 + 2 * a + k) 0 = 0) := ⟨by rw [lst_at (by have := HN.out; have := HLE.out; omega), if_neg (by have := HLE.out; omega)]⟩
              go_wp2_with fail
              refine start_ (n := 13) (S := fun w_ => St w w_ [⟨w11.heap.size, w12.heap.size, Rw (Kd.int .i64) 3 w11.heap.size w12.heap.size (.slice (some ⟨go, 0, none⟩) N co) (lst N (fun x => ((x < 3 ∨ (3 ≤ x ∧ x < 3 + a) ∨ (3 + a ≤ x ∧ x < 3 + a + a) ∨ (7 + 2 * a + 17 * b ≤ x ∧ x < 7 + 2 * a + 17 * b + 21 * a)) ∨ (3 + 2 * a ≤ x ∧ x < 3 + 2 * a + 4)) ∨ (7 + 2 * a ≤ x ∧ x < 7 + 2 * a + k)))⟩, ⟨w3.heap.size, w4.heap.size, fun w_ => Rw (Kd.int .u64) 40 w3.heap.size w4.heap.size (.slice A4 rl.length c4) rl w_⟩, Blk gc (#[.int .i64 (a : Int), .int .i64 (b : Int), .int .i64 (d : Int)]) 25]) (ds := [12]) #[false, false, false, false, false, false, false, false, false, false, false, false, false] (by kernel_rfl) rfl rfl S.out.drew (fun hH_ => ?_)
              refine pure_ (i := 0) (N := some 143) (v := ?_) (a' := ?_) #[true, false, false, false, false, false, false, false, false, false, false, false, false] rfl rfl (by kernel_rfl) (fun _ _ _ h => h) (Or.inl ⟨by rfl, ?_⟩) ?_ ?_
              rotate_left
              · intro w'
                go_simp
                with_reducible rfl
              rotate_left
              · simp only [Act.put, List.setIfInBounds_toArray, List.set_cons_zero, List.set_cons_succ, i64_w, i32_w]
                rfl
              refine take_ (i := 1) (N := some 144) (v := .agg (#[.int .i64 (a : Int), .int .i64 (b : Int), .int .i64 (d : Int)])) (a' := ?_) #[true, true, false, false, false, false, false, false, false, false, false, false, false] rfl rfl (by kernel_rfl) (fun _ _ _ h => h) (Or.inl ⟨by rfl, fun w' s0 => Row.load_row_run (g := gc) (t := 25) (cells := #[.int .i64 (a : Int), .int .i64 (b : Int), .int .i64 (d : Int)]) rfl rfl (s0.blk 2 rfl) Try.underlying25 rfl (by kernel_rfl)⟩) hH_ ?_ ?_
              rotate_left
              · simp only [Act.put, List.setIfInBounds_toArray, List.set_cons_zero, List.set_cons_succ, i64_w, i32_w]
                rfl
              refine pure_ (i := 2) (N := some 145) (v := ?_) (a' := ?_) #[true, true, true, false, false, false, false, false, false, false, false, false, false] rfl rfl (by kernel_rfl) (fun _ _ _ h => h) (Or.inl ⟨by rfl, ?_⟩) ?_ ?_
              rotate_left
              · intro w'
                go_simp
                with_reducible rfl
              rotate_left
              · simp only [Act.put, List.setIfInBounds_toArray, List.set_cons_zero, List.set_cons_succ, i64_w, i32_w]
                rfl
              refine pure_ (i := 4) (N := some 147) (v := ?_) (a' := ?_) #[true, true, true, false, true, false, false, false, false, false, false, false, false] rfl rfl (by kernel_rfl) (fun _ _ _ h => h) (Or.inl ⟨by rfl, ?_⟩) ?_ ?_
              rotate_left
              · intro w'
                go_simp
                with_reducible rfl
              rotate_left
              · simp only [Act.put, List.setIfInBounds_toArray, List.set_cons_zero, List.set_cons_succ, i64_w, i32_w]
                rfl
              refine take_ (i := 5) (N := some 148) (v := .agg (#[.int .i64 (a : Int), .int .i64 (b : Int), .int .i64 (d : Int)])) (a' := ?_) #[true, true, true, false, true, true, false, false, false, false, false, false, false] rfl rfl (by kernel_rfl) (fun _ _ _ h => h) (Or.inl ⟨by rfl, fun w' s0 => Row.load_row_run (g := gc) (t := 25) (cells := #[.int .i64 (a : Int), .int .i64 (b : Int), .int .i64 (d : Int)]) rfl rfl (s0.blk 2 rfl) Try.underlying25 rfl (by kernel_rfl)⟩) hH_ ?_ ?_
              rotate_left
              · simp only [Act.put, List.setIfInBounds_toArray, List.set_cons_zero, List.set_cons_succ, i64_w, i32_w]
                rfl
              refine pure_ (i := 6) (N := some 149) (v := ?_) (a' := ?_) #[true, true, true, false, true, true, true, false, false, false, false, false, false] rfl rfl (by kernel_rfl) (fun _ _ _ h => h) (Or.inl ⟨by rfl, ?_⟩) ?_ ?_
              rotate_left
              · intro w'
                go_simp
                with_reducible rfl
              rotate_left
              · simp only [Act.put, List.setIfInBounds_toArray, List.set_cons_zero, List.set_cons_succ, i64_w, i32_w]
                rfl
              refine one_ (i := 3) (N := some 146) #[true, true, true, true, true, true, true, false, false, false, false, false, false] rfl rfl (by kernel_rfl) (by decide) (fun K hK => ?_)
              refine goes_ Try.func23 (by kernel_rfl) rfl #[.agg #[.int .i64 (a : Int), .int .i64 (b : Int), .int .i64 (d : Int)], .int .i64 (k : Int)] (by rfl) rfl rfl (by (try simp only [List.map_toArray, List.map_cons, List.map_nil]); first | done | rfl) ?_
              refine (impl_PlatPage.calls _ _ _ _ (7 + 2 * (a : Int) + (k : Int)) _ (PlatPage_in HOK.out (by omega) (by omega))).mono ?_
              rintro e w28 ⟨rfl, hb⟩
              have hHw28_ := hH_.call hb
              refine ⟨_, rfl, hK.out _ _ hHw28_ (fun hX_ => ?_)⟩
              clear hK K hX_
              refine norm_ (a' := ?_) ?_ ?_
              rotate_left
              · show Act.put _ (some 146) _ = _
                simp only [Act.put, List.setIfInBounds_toArray, List.set_cons_zero, List.set_cons_succ, i64_w, i32_w]
                rfl
              clear hb
              refine one_ (i := 7) (N := some 150) #[true, true, true, true, true, true, true, true, false, false, false, false, false] rfl rfl (by kernel_rfl) (by decide) (fun K hK => ?_)
              refine goes_ Try.func23 (by kernel_rfl) rfl #[.agg #[.int .i64 (a : Int), .int .i64 (b : Int), .int .i64 (d : Int)], .int .i64 (k : Int)] (by rfl) rfl rfl (by (try simp only [List.map_toArray, List.map_cons, List.map_nil]); first | done | rfl) ?_
              refine (impl_PlatPage.calls _ _ _ _ (7 + 2 * (a : Int) + (k : Int)) _ (PlatPage_in HOK.out (by omega) (by omega))).mono ?_
              rintro e w29 ⟨rfl, hb⟩
              have hHw29_ := hHw28_.call hb
              refine ⟨_, rfl, hK.out _ _ hHw29_ (fun hX_ => ?_)⟩
              clear hK K hX_
              refine norm_ (a' := ?_) ?_ ?_
              rotate_left
              · show Act.put _ (some 150) _ = _
                simp only [Act.put, List.setIfInBounds_toArray, List.set_cons_zero, List.set_cons_succ, i64_w, i32_w]
                rfl
              clear hb
              refine pure_ (i := 8) (N := some 151) (v := ?_) (a' := ?_) #[true, true, true, true, true, true, true, true, true, false, false, false, false] rfl rfl (by kernel_rfl) (fun _ _ _ h => h) (Or.inl ⟨by rfl, ?_⟩) ?_ ?_
              rotate_left
              · intro w'
                go_simp
                with_reducible rfl
              rotate_left
              · simp only [Act.put, List.setIfInBounds_toArray, List.set_cons_zero, List.set_cons_succ, i64_w, i32_w]
                rfl
              refine take_ (i := 9) (N := some 152) (v := ?_) (a' := ?_) #[true, true, true, true, true, true, true, true, true, true, false, false, false] rfl rfl (by kernel_rfl) (fun _ _ _ h => h) (Or.inl ⟨by rfl, ?_⟩) hHw29_ ?_ ?_
              rotate_left
              · intro w' s0
                have f_ := s0.rwcell 0 0 rfl (7 + 2 * a + k) (by have := HN.out; have := HLE.out; omega)
                rw [hz_.out] at f_
                clear s0
                go_simp
                with_reducible rfl
              rotate_left
              · simp only [Act.put, List.setIfInBounds_toArray, List.set_cons_zero, List.set_cons_succ, i64_w, i32_w]
                rfl
              refine pure_ (i := 10) (N := some 153) (v := ?_) (a' := ?_) #[true, true, true, true, true, true, true, true, true, true, true, false, false] rfl rfl (by kernel_rfl) (fun _ _ _ h => h) (Or.inl ⟨by rfl, ?_⟩) ?_ ?_
              rotate_left
              · intro w'
                go_simp
                with_reducible rfl
              rotate_left
              · simp only [Act.put, List.setIfInBounds_toArray, List.set_cons_zero, List.set_cons_succ, i64_w, i32_w]
                rfl
              refine pure_ (i := 11) (N := some 154) (v := ?_) (a' := ?_) #[true, true, true, true, true, true, true, true, true, true, true, true, false] rfl rfl (by kernel_rfl) (fun _ _ _ h => h) (Or.inl ⟨by rfl, ?_⟩) ?_ ?_
              rotate_left
              · intro w'
                go_simp
                with_reducible rfl
              rotate_left
              · simp only [Act.put, List.setIfInBounds_toArray, List.set_cons_zero, List.set_cons_succ, i64_w, i32_w]
                rfl
              have f_ := hHw29_.rwcell 0 0 rfl (7 + 2 * a + k) (by have := HN.out; have := HLE.out; omega)
              have z_ := hHw29_.rwfrozen 0 rfl 0 (7 + 2 * a + k) (by have := HN.out; have := HLE.out; omega)
              refine last_ (i := 12) (N := none) #[true, true, true, true, true, true, true, true, true, true, true, true, true] rfl rfl (by kernel_rfl) (by decide) (fun K hK => ?_)
              refine skip_ (w1 := w29.setCell ⟨go, 7 + 2 * a + k, none⟩ (.int .i64 1)) (by rfl) rfl (by first | (go_simp; done) | (go_simp; rfl)) ?_
              refine hK.out _ _ (done_ (by kernel_rfl) ?_)
              clear hK K
              have Sn_ := Aside0.mk (hHw29_.setRw (rs' := [⟨w11.heap.size, w12.heap.size, Rw (Kd.int .i64) 3 w11.heap.size w12.heap.size (.slice (some ⟨go, 0, none⟩) N co) (lst N (fun x => (((x < 3 ∨ (3 ≤ x ∧ x < 3 + a) ∨ (3 + a ≤ x ∧ x < 3 + a + a) ∨ (7 + 2 * a + 17 * b ≤ x ∧ x < 7 + 2 * a + 17 * b + 21 * a)) ∨ (3 + 2 * a ≤ x ∧ x < 3 + 2 * a + 4)) ∨ (7 + 2 * a ≤ x ∧ x < 7 + 2 * a + k)) ∨ x = 7 + 2 * a + k))⟩, ⟨w3.heap.size, w4.heap.size, fun w_ => Rw (Kd.int .u64) 40 w3.heap.size w4.heap.size (.slice A4 rl.length c4) rl w_⟩, Blk gc (#[.int .i64 (a : Int), .int .i64 (b : Int), .int .i64 (d : Int)]) 25]) 0 rfl (7 + 2 * a + k) 1 (lst_set (Q := fun x => (((x < 3 ∨ (3 ≤ x ∧ x < 3 + a) ∨ (3 + a ≤ x ∧ x < 3 + a + a) ∨ (7 + 2 * a + 17 * b ≤ x ∧ x < 7 + 2 * a + 17 * b + 21 * a)) ∨ (3 + 2 * a ≤ x ∧ x < 3 + 2 * a + 4)) ∨ (7 + 2 * a ≤ x ∧ x < 7 + 2 * a + k)) ∨ x = 7 + 2 * a + k) (fun x _ => by omega)) rfl)
              clear S
              have S := Sn_
              clear Sn_
              obtain ⟨w30, hw_⟩ : ∃ w_, w29.setCell ⟨go, 7 + 2 * a + k, none⟩ (.int .i64 1) = w_ := ⟨_, rfl⟩
              rw [hw_] at S
              rw [hw_]
              clear hw_
              clear hH_ hHw28_ hHw29_
              clear hA0 hA1 hAt hz_ f_ z_
              have Sn_ : Aside0 (St w w30 [⟨w11.heap.size, w12.heap.size, Rw (Kd.int .i64) 3 w11.heap.size w12.heap.size (.slice (some ⟨go, 0, none⟩) N co) (lst N (fun x => ((x < 3 ∨ (3 ≤ x ∧ x < 3 + a) ∨ (3 + a ≤ x ∧ x < 3 + a + a) ∨ (7 + 2 * a + 17 * b ≤ x ∧ x < 7 + 2 * a + 17 * b + 21 * a)) ∨ (3 + 2 * a ≤ x ∧ x < 3 + 2 * a + 4)) ∨ (7 + 2 * a ≤ x ∧ x < 7 + 2 * a + (k + 1))))⟩, ⟨w3.heap.size, w4.heap.size, fun w_ => Rw (Kd.int .u64) 40 w3.heap.size w4.heap.size (.slice A4 rl.length c4) rl w_⟩, Blk gc (#[.int .i64 (a : Int), .int .i64 (b : Int), .int .i64 (d : Int)]) 25]) := ⟨by have e_ : lst N (fun x => ((x < 3 ∨ (3 ≤ x ∧ x < 3 + a) ∨ (3 + a ≤ x ∧ x < 3 + a + a) ∨ (7 + 2 * a + 17 * b ≤ x ∧ x < 7 + 2 * a + 17 * b + 21 * a)) ∨ (3 + 2 * a ≤ x ∧ x < 3 + 2 * a + 4)) ∨ (7 + 2 * a ≤ x ∧ x < 7 + 2 * a + (k + 1))) = lst N (fun x => (((x < 3 ∨ (3 ≤ x ∧ x < 3 + a) ∨ (3 + a ≤ x ∧ x < 3 + a + a) ∨ (7 + 2 * a + 17 * b ≤ x ∧ x < 7 + 2 * a + 17 * b + 21 * a)) ∨ (3 + 2 * a ≤ x ∧ x < 3 + 2 * a + 4)) ∨ (7 + 2 * a ≤ x ∧ x < 7 + 2 * a + k)) ∨ x = 7 + 2 * a + k) := lst_congr (fun x hx_ => by have := HN.out; omega); rw [e_]; exact S.out⟩
              clear S
              have S := Sn_
              clear Sn_
              go_wp2
              go_roundg (b + 1 - (k + 1))
              case measure => omega
              case rel => exact ⟨k + 1, by omega, rfl, congrArg (Value.int .i64) (by have := HLE.out; (try unfold wrap64); omega), S⟩
            · have hkb : b = k := by omega
              subst hkb
              clear hlt hk
              have f_gc_0 : wr.cell? ⟨gc, 0, none⟩ = some (.int .i64 (a : Int)) := (S.out.cell 2 rfl 0).trans rfl
              have z_gc_0 := S.out.frozen 2 rfl 0
              have f_gc_1 : wr.cell? ⟨gc, 1, none⟩ = some (.int .i64 (b : Int)) := (S.out.cell 2 rfl 1).trans rfl
              have z_gc_1 := S.out.frozen 2 rfl 1
              go_wp2_with fail
              clear f_gc_0 z_gc_0 f_gc_1 z_gc_1
              have Sn_ : Aside0 (St w wr [⟨w11.heap.size, w12.heap.size, Rw (Kd.int .i64) 3 w11.heap.size w12.heap.size (.slice (some ⟨go, 0, none⟩) N co) (lst N (fun x => (((x < 3 ∨ (3 ≤ x ∧ x < 3 + a) ∨ (3 + a ≤ x ∧ x < 3 + a + a) ∨ (7 + 2 * a + 17 * b ≤ x ∧ x < 7 + 2 * a + 17 * b + 21 * a)) ∨ (3 + 2 * a ≤ x ∧ x < 3 + 2 * a + 4)) ∨ (7 + 2 * a ≤ x ∧ x < 7 + 2 * a + b)) ∨ (7 + 2 * a + b ≤ x ∧ x < 7 + 2 * a + b + 0) ∨ (7 + 2 * a + 9 * b ≤ x ∧ x < 7 + 2 * a + 9 * b + 0)))⟩, ⟨w3.heap.size, w4.heap.size, fun w_ => Rw (Kd.int .u64) 40 w3.heap.size w4.heap.size (.slice A4 rl.length c4) rl w_⟩, Blk gc (#[.int .i64 (a : Int), .int .i64 (b : Int), .int .i64 (d : Int)]) 25]) := ⟨by have e_ : lst N (fun x => (((x < 3 ∨ (3 ≤ x ∧ x < 3 + a) ∨ (3 + a ≤ x ∧ x < 3 + a + a) ∨ (7 + 2 * a + 17 * b ≤ x ∧ x < 7 + 2 * a + 17 * b + 21 * a)) ∨ (3 + 2 * a ≤ x ∧ x < 3 + 2 * a + 4)) ∨ (7 + 2 * a ≤ x ∧ x < 7 + 2 * a + b)) ∨ (7 + 2 * a + b ≤ x ∧ x < 7 + 2 * a + b + 0) ∨ (7 + 2 * a + 9 * b ≤ x ∧ x < 7 + 2 * a + 9 * b + 0)) = lst N (fun x => ((x < 3 ∨ (3 ≤ x ∧ x < 3 + a) ∨ (3 + a ≤ x ∧ x < 3 + a + a) ∨ (7 + 2 * a + 17 * b ≤ x ∧ x < 7 + 2 * a + 17 * b + 21 * a)) ∨ (3 + 2 * a ≤ x ∧ x < 3 + 2 * a + 4)) ∨ (7 + 2 * a ≤ x ∧ x < 7 + 2 * a + b)) := lst_congr (fun x hx_ => by have := HN.out; omega); rw [e_]; exact S.out⟩
              clear S
              have S := Sn_
              clear Sn_
              have hw8 : wrap64 ((b : Int) * 8) = (b : Int) * 8 := by have := HLE.out; unfold wrap64; omega
              go_loopg [12] ((8 * b) + 1) (fun kq v_ w' => ∃ k : Nat, k ≤ (8 * b) ∧ kq = (8 * b) + 1 - k ∧ v_ = .int .i64 k ∧ Aside0 (St w w' [⟨w11.heap.size, w12.heap.size, Rw (Kd.int .i64) 3 w11.heap.size w12.heap.size (.slice (some ⟨go, 0, none⟩) N co) (lst N (fun x => (((x < 3 ∨ (3 ≤ x ∧ x < 3 + a) ∨ (3 + a ≤ x ∧ x < 3 + a + a) ∨ (7 + 2 * a + 17 * b ≤ x ∧ x < 7 + 2 * a + 17 * b + 21 * a)) ∨ (3 + 2 * a ≤ x ∧ x < 3 + 2 * a + 4)) ∨ (7 + 2 * a ≤ x ∧ x < 7 + 2 * a + b)) ∨ (7 + 2 * a + b ≤ x ∧ x < 7 + 2 * a + b + k) ∨ (7 + 2 * a + 9 * b ≤ x ∧ x < 7 + 2 * a + 9 * b + k)))⟩, ⟨w3.heap.size, w4.heap.size, fun w_ => Rw (Kd.int .u64) 40 w3.heap.size w4.heap.size (.slice A4 rl.length c4) rl w_⟩, Blk gc (#[.int .i64 (a : Int), .int .i64 (b : Int), .int .i64 (d : Int)]) 25]))
              case atStart => exact ⟨0, by omega, by omega, rfl, S⟩
              case round =>
                clear S
                obtain ⟨k, hk, rfl, rfl, S⟩ := hrel
                by_cases hlt : k < (8 * b)
                · have hlI : (k : Int) < ((b : Int) * 8) := by omega
                  have f_gc_0 : wr.cell? ⟨gc, 0, none⟩ = some (.int .i64 (a : Int)) := (S.out.cell 2 rfl 0).trans rfl
                  have z_gc_0 := S.out.frozen 2 rfl 0
                  have f_gc_1 : wr.cell? ⟨gc, 1, none⟩ = some (.int .i64 (b : Int)) := (S.out.cell 2 rfl 1).trans rfl
                  have z_gc_1 := S.out.frozen 2 rfl 1
                  go_wp2_with fail
                  clear f_gc_0 z_gc_0 f_gc_1 z_gc_1
                  have hA0 : (0 : Int) ≤ 7 + 2 * (a : Int) + (b : Int) + (k : Int) := by omega
                  have hA1 : 7 + 2 * (a : Int) + (b : Int) + (k : Int) < (N : Int) := by have := HN.out; have := HLE.out; omega
                  have hAt : (7 + 2 * (a : Int) + (b : Int) + (k : Int)).toNat = 7 + 2 * a + b + k := by omega
                  have hz_ : Aside0 ((lst N (fun x => (((x < 3 ∨ (3 ≤ x ∧ x < 3 + a) ∨ (3 + a ≤ x ∧ x < 3 + a + a) ∨ (7 + 2 * a + 17 * b ≤ x ∧ x < 7 + 2 * a + 17 * b + 21 * a)) ∨ (3 + 2 * a ≤ x ∧ x < 3 + 2 * a + 4)) ∨ (7 + 2 * a ≤ x ∧ x < 7 + 2 * a + b)) ∨ (7 + 2 * a + b ≤ x ∧ x < 7 + 2 * a + b + k) ∨ (7 + 2 * a + 9 * b ≤ x ∧ x < 7 + 2 * a + 9 * b + k))).getD (7 + 2 * a + b + k) 0 = 0) := ⟨by rw [lst_at (by have := HN.out; have := HLE.out; omega), if_neg (by have := HLE.out; omega)]⟩
                  go_wp2_with fail
                  refine start_ (n := 13) (S := fun w_ => St w w_ [⟨w11.heap.size, w12.heap.size, Rw (Kd.int .i64) 3 w11.heap.size w12.heap.size (.slice (some ⟨go, 0, none⟩) N co) (lst N (fun x => (((x < 3 ∨ (3 ≤ x ∧ x < 3 + a) ∨ (3 + a ≤ x ∧ x < 3 + a + a) ∨ (7 + 2 * a + 17 * b ≤ x ∧ x < 7 + 2 * a + 17 * b + 21 * a)) ∨ (3 + 2 * a ≤ x ∧ x < 3 + 2 * a + 4)) ∨ (7 + 2 * a ≤ x ∧ x < 7 + 2 * a + b)) ∨ (7 + 2 * a + b ≤ x ∧ x < 7 + 2 * a + b + k) ∨ (7 + 2 * a + 9 * b ≤ x ∧ x < 7 + 2 * a + 9 * b + k)))⟩, ⟨w3.heap.size, w4.heap.size, fun w_ => Rw (Kd.int .u64) 40 w3.heap.size w4.heap.size (.slice A4 rl.length c4) rl w_⟩, Blk gc (#[.int .i64 (a : Int), .int .i64 (b : Int), .int .i64 (d : Int)]) 25]) (ds := [12]) #[false, false, false, false, false, false, false, false, false, false, false, false, false] (by kernel_rfl) rfl rfl S.out.drew (fun hH_ => ?_)
                  refine pure_ (i := 0) (N := some 162) (v := ?_) (a' := ?_) #[true, false, false, false, false, false, false, false, false, false, false, false, false] rfl rfl (by kernel_rfl) (fun _ _ _ h => h) (Or.inl ⟨by rfl, ?_⟩) ?_ ?_
                  rotate_left
                  · intro w'
                    go_simp
                    with_reducible rfl
                  rotate_left
                  · simp only [Act.put, List.setIfInBounds_toArray, List.set_cons_zero, List.set_cons_succ, i64_w, i32_w]
                    rfl
                  refine take_ (i := 1) (N := some 163) (v := .agg (#[.int .i64 (a : Int), .int .i64 (b : Int), .int .i64 (d : Int)])) (a' := ?_) #[true, true, false, false, false, false, false, false, false, false, false, false, false] rfl rfl (by kernel_rfl) (fun _ _ _ h => h) (Or.inl ⟨by rfl, fun w' s0 => Row.load_row_run (g := gc) (t := 25) (cells := #[.int .i64 (a : Int), .int .i64 (b : Int), .int .i64 (d : Int)]) rfl rfl (s0.blk 2 rfl) Try.underlying25 rfl (by kernel_rfl)⟩) hH_ ?_ ?_
                  rotate_left
                  · simp only [Act.put, List.setIfInBounds_toArray, List.set_cons_zero, List.set_cons_succ, i64_w, i32_w]
                    rfl
                  refine pure_ (i := 2) (N := some 164) (v := ?_) (a' := ?_) #[true, true, true, false, false, false, false, false, false, false, false, false, false] rfl rfl (by kernel_rfl) (fun _ _ _ h => h) (Or.inl ⟨by rfl, ?_⟩) ?_ ?_
                  rotate_left
                  · intro w'
                    go_simp
                    with_reducible rfl
                  rotate_left
                  · simp only [Act.put, List.setIfInBounds_toArray, List.set_cons_zero, List.set_cons_succ, i64_w, i32_w]
                    rfl
                  refine pure_ (i := 4) (N := some 166) (v := ?_) (a' := ?_) #[true, true, true, false, true, false, false, false, false, false, false, false, false] rfl rfl (by kernel_rfl) (fun _ _ _ h => h) (Or.inl ⟨by rfl, ?_⟩) ?_ ?_
                  rotate_left
                  · intro w'
                    go_simp
                    with_reducible rfl
                  rotate_left
                  · simp only [Act.put, List.setIfInBounds_toArray, List.set_cons_zero, List.set_cons_succ, i64_w, i32_w]
                    rfl
                  refine take_ (i := 5) (N := some 167) (v := .agg (#[.int .i64 (a : Int), .int .i64 (b : Int), .int .i64 (d : Int)])) (a' := ?_) #[true, true, true, false, true, true, false, false, false, false, false, false, false] rfl rfl (by kernel_rfl) (fun _ _ _ h => h) (Or.inl ⟨by rfl, fun w' s0 => Row.load_row_run (g := gc) (t := 25) (cells := #[.int .i64 (a : Int), .int .i64 (b : Int), .int .i64 (d : Int)]) rfl rfl (s0.blk 2 rfl) Try.underlying25 rfl (by kernel_rfl)⟩) hH_ ?_ ?_
                  rotate_left
                  · simp only [Act.put, List.setIfInBounds_toArray, List.set_cons_zero, List.set_cons_succ, i64_w, i32_w]
                    rfl
                  refine pure_ (i := 6) (N := some 168) (v := ?_) (a' := ?_) #[true, true, true, false, true, true, true, false, false, false, false, false, false] rfl rfl (by kernel_rfl) (fun _ _ _ h => h) (Or.inl ⟨by rfl, ?_⟩) ?_ ?_
                  rotate_left
                  · intro w'
                    go_simp
                    with_reducible rfl
                  rotate_left
                  · simp only [Act.put, List.setIfInBounds_toArray, List.set_cons_zero, List.set_cons_succ, i64_w, i32_w]
                    rfl
                  refine one_ (i := 3) (N := some 165) #[true, true, true, true, true, true, true, false, false, false, false, false, false] rfl rfl (by kernel_rfl) (by decide) (fun K hK => ?_)
                  refine goes_ Try.func25 (by kernel_rfl) rfl #[.agg #[.int .i64 (a : Int), .int .i64 (b : Int), .int .i64 (d : Int)], .int .i64 (k : Int)] (by rfl) rfl rfl (by (try simp only [List.map_toArray, List.map_cons, List.map_nil]); first | done | rfl) ?_
                  refine (impl_PlatTag.calls _ _ _ _ (7 + 2 * (a : Int) + (b : Int) + (k : Int)) _ (PlatTag_in HOK.out (by omega) (by omega))).mono ?_
                  rintro e w31 ⟨rfl, hb⟩
                  have hHw31_ := hH_.call hb
                  refine ⟨_, rfl, hK.out _ _ hHw31_ (fun hX_ => ?_)⟩
                  clear hK K hX_
                  refine norm_ (a' := ?_) ?_ ?_
                  rotate_left
                  · show Act.put _ (some 165) _ = _
                    simp only [Act.put, List.setIfInBounds_toArray, List.set_cons_zero, List.set_cons_succ, i64_w, i32_w]
                    rfl
                  clear hb
                  refine one_ (i := 7) (N := some 169) #[true, true, true, true, true, true, true, true, false, false, false, false, false] rfl rfl (by kernel_rfl) (by decide) (fun K hK => ?_)
                  refine goes_ Try.func25 (by kernel_rfl) rfl #[.agg #[.int .i64 (a : Int), .int .i64 (b : Int), .int .i64 (d : Int)], .int .i64 (k : Int)] (by rfl) rfl rfl (by (try simp only [List.map_toArray, List.map_cons, List.map_nil]); first | done | rfl) ?_
                  refine (impl_PlatTag.calls _ _ _ _ (7 + 2 * (a : Int) + (b : Int) + (k : Int)) _ (PlatTag_in HOK.out (by omega) (by omega))).mono ?_
                  rintro e w32 ⟨rfl, hb⟩
                  have hHw32_ := hHw31_.call hb
                  refine ⟨_, rfl, hK.out _ _ hHw32_ (fun hX_ => ?_)⟩
                  clear hK K hX_
                  refine norm_ (a' := ?_) ?_ ?_
                  rotate_left
                  · show Act.put _ (some 169) _ = _
                    simp only [Act.put, List.setIfInBounds_toArray, List.set_cons_zero, List.set_cons_succ, i64_w, i32_w]
                    rfl
                  clear hb
                  refine pure_ (i := 8) (N := some 170) (v := ?_) (a' := ?_) #[true, true, true, true, true, true, true, true, true, false, false, false, false] rfl rfl (by kernel_rfl) (fun _ _ _ h => h) (Or.inl ⟨by rfl, ?_⟩) ?_ ?_
                  rotate_left
                  · intro w'
                    go_simp
                    with_reducible rfl
                  rotate_left
                  · simp only [Act.put, List.setIfInBounds_toArray, List.set_cons_zero, List.set_cons_succ, i64_w, i32_w]
                    rfl
                  refine take_ (i := 9) (N := some 171) (v := ?_) (a' := ?_) #[true, true, true, true, true, true, true, true, true, true, false, false, false] rfl rfl (by kernel_rfl) (fun _ _ _ h => h) (Or.inl ⟨by rfl, ?_⟩) hHw32_ ?_ ?_
                  rotate_left
                  · intro w' s0
                    have f_ := s0.rwcell 0 0 rfl (7 + 2 * a + b + k) (by have := HN.out; have := HLE.out; omega)
                    rw [hz_.out] at f_
                    clear s0
                    go_simp
                    with_reducible rfl
                  rotate_left
                  · simp only [Act.put, List.setIfInBounds_toArray, List.set_cons_zero, List.set_cons_succ, i64_w, i32_w]
                    rfl
                  refine pure_ (i := 10) (N := some 172) (v := ?_) (a' := ?_) #[true, true, true, true, true, true, true, true, true, true, true, false, false] rfl rfl (by kernel_rfl) (fun _ _ _ h => h) (Or.inl ⟨by rfl, ?_⟩) ?_ ?_
                  rotate_left
                  · intro w'
                    go_simp
                    with_reducible rfl
                  rotate_left
                  · simp only [Act.put, List.setIfInBounds_toArray, List.set_cons_zero, List.set_cons_succ, i64_w, i32_w]
                    rfl
                  refine pure_ (i := 11) (N := some 173) (v := ?_) (a' := ?_) #[true, true, true, true, true, true, true, true, true, true, true, true, false] rfl rfl (by kernel_rfl) (fun _ _ _ h => h) (Or.inl ⟨by rfl, ?_⟩) ?_ ?_
                  rotate_left
                  · intro w'
                    go_simp
                    with_reducible rfl
                  rotate_left
                  · simp only [Act.put, List.setIfInBounds_toArray, List.set_cons_zero, List.set_cons_succ, i64_w, i32_w]
                    rfl
                  have f_ := hHw32_.rwcell 0 0 rfl (7 + 2 * a + b + k) (by have := HN.out; have := HLE.out; omega)
                  have z_ := hHw32_.rwfrozen 0 rfl 0 (7 + 2 * a + b + k) (by have := HN.out; have := HLE.out; omega)
                  refine last_ (i := 12) (N := none) #[true, true, true, true, true, true, true, true, true, true, true, true, true] rfl rfl (by kernel_rfl) (by decide) (fun K hK => ?_)
                  refine skip_ (w1 := w32.setCell ⟨go, 7 + 2 * a + b + k, none⟩ (.int .i64 1)) (by rfl) rfl (by first | (go_simp; done) | (go_simp; rfl)) ?_
                  refine hK.out _ _ (done_ (by kernel_rfl) ?_)
                  clear hK K
                  have Sn_ := Aside0.mk (hHw32_.setRw (rs' := [⟨w11.heap.size, w12.heap.size, Rw (Kd.int .i64) 3 w11.heap.size w12.heap.size (.slice (some ⟨go, 0, none⟩) N co) (lst N (fun x => ((((x < 3 ∨ (3 ≤ x ∧ x < 3 + a) ∨ (3 + a ≤ x ∧ x < 3 + a + a) ∨ (7 + 2 * a + 17 * b ≤ x ∧ x < 7 + 2 * a + 17 * b + 21 * a)) ∨ (3 + 2 * a ≤ x ∧ x < 3 + 2 * a + 4)) ∨ (7 + 2 * a ≤ x ∧ x < 7 + 2 * a + b)) ∨ (7 + 2 * a + b ≤ x ∧ x < 7 + 2 * a + b + k) ∨ (7 + 2 * a + 9 * b ≤ x ∧ x < 7 + 2 * a + 9 * b + k)) ∨ x = 7 + 2 * a + b + k))⟩, ⟨w3.heap.size, w4.heap.size, fun w_ => Rw (Kd.int .u64) 40 w3.heap.size w4.heap.size (.slice A4 rl.length c4) rl w_⟩, Blk gc (#[.int .i64 (a : Int), .int .i64 (b : Int), .int .i64 (d : Int)]) 25]) 0 rfl (7 + 2 * a + b + k) 1 (lst_set (Q := fun x => ((((x < 3 ∨ (3 ≤ x ∧ x < 3 + a) ∨ (3 + a ≤ x ∧ x < 3 + a + a) ∨ (7 + 2 * a + 17 * b ≤ x ∧ x < 7 + 2 * a + 17 * b + 21 * a)) ∨ (3 + 2 * a ≤ x ∧ x < 3 + 2 * a + 4)) ∨ (7 + 2 * a ≤ x ∧ x < 7 + 2 * a + b)) ∨ (7 + 2 * a + b ≤ x ∧ x < 7 + 2 * a + b + k) ∨ (7 + 2 * a + 9 * b ≤ x ∧ x < 7 + 2 * a + 9 * b + k)) ∨ x = 7 + 2 * a + b + k) (fun x _ => by omega)) rfl)
                  clear S
                  have S := Sn_
                  clear Sn_
                  obtain ⟨w33, hw_⟩ : ∃ w_, w32.setCell ⟨go, 7 + 2 * a + b + k, none⟩ (.int .i64 1) = w_ := ⟨_, rfl⟩
                  rw [hw_] at S
                  rw [hw_]
                  clear hw_
                  clear hH_ hHw31_ hHw32_
                  clear hA0 hA1 hAt hz_ f_ z_
                  have hA0 : (0 : Int) ≤ 7 + 2 * (a : Int) + 9 * (b : Int) + (k : Int) := by omega
                  have hA1 : 7 + 2 * (a : Int) + 9 * (b : Int) + (k : Int) < (N : Int) := by have := HN.out; have := HLE.out; omega
                  have hAt : (7 + 2 * (a : Int) + 9 * (b : Int) + (k : Int)).toNat = 7 + 2 * a + 9 * b + k := by omega
                  have hz_ : Aside0 ((lst N (fun x => ((((x < 3 ∨ (3 ≤ x ∧ x < 3 + a) ∨ (3 + a ≤ x ∧ x < 3 + a + a) ∨ (7 + 2 * a + 17 * b ≤ x ∧ x < 7 + 2 * a + 17 * b + 21 * a)) ∨ (3 + 2 * a ≤ x ∧ x < 3 + 2 * a + 4)) ∨ (7 + 2 * a ≤ x ∧ x < 7 + 2 * a + b)) ∨ (7 + 2 * a + b ≤ x ∧ x < 7 + 2 * a + b + k) ∨ (7 + 2 * a + 9 * b ≤ x ∧ x < 7 + 2 * a + 9 * b + k)) ∨ x = 7 + 2 * a + b + k)).getD (7 + 2 * a + 9 * b + k) 0 = 0) := ⟨by rw [lst_at (by have := HN.out; have := HLE.out; omega), if_neg (by have := HLE.out; omega)]⟩
                  go_wp2_with fail
                  refine start_ (n := 13) (S := fun w_ => St w w_ [⟨w11.heap.size, w12.heap.size, Rw (Kd.int .i64) 3 w11.heap.size w12.heap.size (.slice (some ⟨go, 0, none⟩) N co) (lst N (fun x => ((((x < 3 ∨ (3 ≤ x ∧ x < 3 + a) ∨ (3 + a ≤ x ∧ x < 3 + a + a) ∨ (7 + 2 * a + 17 * b ≤ x ∧ x < 7 + 2 * a + 17 * b + 21 * a)) ∨ (3 + 2 * a ≤ x ∧ x < 3 + 2 * a + 4)) ∨ (7 + 2 * a ≤ x ∧ x < 7 + 2 * a + b)) ∨ (7 + 2 * a + b ≤ x ∧ x < 7 + 2 * a + b + k) ∨ (7 + 2 * a + 9 * b ≤ x ∧ x < 7 + 2 * a + 9 * b + k)) ∨ x = 7 + 2 * a + b + k))⟩, ⟨w3.heap.size, w4.heap.size, fun w_ => Rw (Kd.int .u64) 40 w3.heap.size w4.heap.size (.slice A4 rl.length c4) rl w_⟩, Blk gc (#[.int .i64 (a : Int), .int .i64 (b : Int), .int .i64 (d : Int)]) 25]) (ds := [12]) #[false, false, false, false, false, false, false, false, false, false, false, false, false] (by kernel_rfl) rfl rfl S.out.drew (fun hH_ => ?_)
                  refine pure_ (i := 0) (N := some 174) (v := ?_) (a' := ?_) #[true, false, false, false, false, false, false, false, false, false, false, false, false] rfl rfl (by kernel_rfl) (fun _ _ _ h => h) (Or.inl ⟨by rfl, ?_⟩) ?_ ?_
                  rotate_left
                  · intro w'
                    go_simp
                    with_reducible rfl
                  rotate_left
                  · simp only [Act.put, List.setIfInBounds_toArray, List.set_cons_zero, List.set_cons_succ, i64_w, i32_w]
                    rfl
                  refine take_ (i := 1) (N := some 175) (v := .agg (#[.int .i64 (a : Int), .int .i64 (b : Int), .int .i64 (d : Int)])) (a' := ?_) #[true, true, false, false, false, false, false, false, false, false, false, false, false] rfl rfl (by kernel_rfl) (fun _ _ _ h => h) (Or.inl ⟨by rfl, fun w' s0 => Row.load_row_run (g := gc) (t := 25) (cells := #[.int .i64 (a : Int), .int .i64 (b : Int), .int .i64 (d : Int)]) rfl rfl (s0.blk 2 rfl) Try.underlying25 rfl (by kernel_rfl)⟩) hH_ ?_ ?_
                  rotate_left
                  · simp only [Act.put, List.setIfInBounds_toArray, List.set_cons_zero, List.set_cons_succ, i64_w, i32_w]
                    rfl
                  refine pure_ (i := 2) (N := some 176) (v := ?_) (a' := ?_) #[true, true, true, false, false, false, false, false, false, false, false, false, false] rfl rfl (by kernel_rfl) (fun _ _ _ h => h) (Or.inl ⟨by rfl, ?_⟩) ?_ ?_
                  rotate_left
                  · intro w'
                    go_simp
                    with_reducible rfl
                  rotate_left
                  · simp only [Act.put, List.setIfInBounds_toArray, List.set_cons_zero, List.set_cons_succ, i64_w, i32_w]
                    rfl
                  refine pure_ (i := 4) (N := some 178) (v := ?_) (a' := ?_) #[true, true, true, false, true, false, false, false, false, false, false, false, false] rfl rfl (by kernel_rfl) (fun _ _ _ h => h) (Or.inl ⟨by rfl, ?_⟩) ?_ ?_
                  rotate_left
                  · intro w'
                    go_simp
                    with_reducible rfl
                  rotate_left
                  · simp only [Act.put, List.setIfInBounds_toArray, List.set_cons_zero, List.set_cons_succ, i64_w, i32_w]
                    rfl
                  refine take_ (i := 5) (N := some 179) (v := .agg (#[.int .i64 (a : Int), .int .i64 (b : Int), .int .i64 (d : Int)])) (a' := ?_) #[true, true, true, false, true, true, false, false, false, false, false, false, false] rfl rfl (by kernel_rfl) (fun _ _ _ h => h) (Or.inl ⟨by rfl, fun w' s0 => Row.load_row_run (g := gc) (t := 25) (cells := #[.int .i64 (a : Int), .int .i64 (b : Int), .int .i64 (d : Int)]) rfl rfl (s0.blk 2 rfl) Try.underlying25 rfl (by kernel_rfl)⟩) hH_ ?_ ?_
                  rotate_left
                  · simp only [Act.put, List.setIfInBounds_toArray, List.set_cons_zero, List.set_cons_succ, i64_w, i32_w]
                    rfl
                  refine pure_ (i := 6) (N := some 180) (v := ?_) (a' := ?_) #[true, true, true, false, true, true, true, false, false, false, false, false, false] rfl rfl (by kernel_rfl) (fun _ _ _ h => h) (Or.inl ⟨by rfl, ?_⟩) ?_ ?_
                  rotate_left
                  · intro w'
                    go_simp
                    with_reducible rfl
                  rotate_left
                  · simp only [Act.put, List.setIfInBounds_toArray, List.set_cons_zero, List.set_cons_succ, i64_w, i32_w]
                    rfl
                  refine one_ (i := 3) (N := some 177) #[true, true, true, true, true, true, true, false, false, false, false, false, false] rfl rfl (by kernel_rfl) (by decide) (fun K hK => ?_)
                  refine goes_ Try.func27 (by kernel_rfl) rfl #[.agg #[.int .i64 (a : Int), .int .i64 (b : Int), .int .i64 (d : Int)], .int .i64 (k : Int)] (by rfl) rfl rfl (by (try simp only [List.map_toArray, List.map_cons, List.map_nil]); first | done | rfl) ?_
                  refine (impl_PlatLink.calls _ _ _ _ (7 + 2 * (a : Int) + 9 * (b : Int) + (k : Int)) _ (PlatLink_in HOK.out (by omega) (by omega))).mono ?_
                  rintro e w34 ⟨rfl, hb⟩
                  have hHw34_ := hH_.call hb
                  refine ⟨_, rfl, hK.out _ _ hHw34_ (fun hX_ => ?_)⟩
                  clear hK K hX_
                  refine norm_ (a' := ?_) ?_ ?_
                  rotate_left
                  · show Act.put _ (some 177) _ = _
                    simp only [Act.put, List.setIfInBounds_toArray, List.set_cons_zero, List.set_cons_succ, i64_w, i32_w]
                    rfl
                  clear hb
                  refine one_ (i := 7) (N := some 181) #[true, true, true, true, true, true, true, true, false, false, false, false, false] rfl rfl (by kernel_rfl) (by decide) (fun K hK => ?_)
                  refine goes_ Try.func27 (by kernel_rfl) rfl #[.agg #[.int .i64 (a : Int), .int .i64 (b : Int), .int .i64 (d : Int)], .int .i64 (k : Int)] (by rfl) rfl rfl (by (try simp only [List.map_toArray, List.map_cons, List.map_nil]); first | done | rfl) ?_
                  refine (impl_PlatLink.calls _ _ _ _ (7 + 2 * (a : Int) + 9 * (b : Int) + (k : Int)) _ (PlatLink_in HOK.out (by omega) (by omega))).mono ?_
                  rintro e w35 ⟨rfl, hb⟩
                  have hHw35_ := hHw34_.call hb
                  refine ⟨_, rfl, hK.out _ _ hHw35_ (fun hX_ => ?_)⟩
                  clear hK K hX_
                  refine norm_ (a' := ?_) ?_ ?_
                  rotate_left
                  · show Act.put _ (some 181) _ = _
                    simp only [Act.put, List.setIfInBounds_toArray, List.set_cons_zero, List.set_cons_succ, i64_w, i32_w]
                    rfl
                  clear hb
                  refine pure_ (i := 8) (N := some 182) (v := ?_) (a' := ?_) #[true, true, true, true, true, true, true, true, true, false, false, false, false] rfl rfl (by kernel_rfl) (fun _ _ _ h => h) (Or.inl ⟨by rfl, ?_⟩) ?_ ?_
                  rotate_left
                  · intro w'
                    go_simp
                    with_reducible rfl
                  rotate_left
                  · simp only [Act.put, List.setIfInBounds_toArray, List.set_cons_zero, List.set_cons_succ, i64_w, i32_w]
                    rfl
                  refine take_ (i := 9) (N := some 183) (v := ?_) (a' := ?_) #[true, true, true, true, true, true, true, true, true, true, false, false, false] rfl rfl (by kernel_rfl) (fun _ _ _ h => h) (Or.inl ⟨by rfl, ?_⟩) hHw35_ ?_ ?_
                  rotate_left
                  · intro w' s0
                    have f_ := s0.rwcell 0 0 rfl (7 + 2 * a + 9 * b + k) (by have := HN.out; have := HLE.out; omega)
                    rw [hz_.out] at f_
                    clear s0
                    go_simp
                    with_reducible rfl
                  rotate_left
                  · simp only [Act.put, List.setIfInBounds_toArray, List.set_cons_zero, List.set_cons_succ, i64_w, i32_w]
                    rfl
                  refine pure_ (i := 10) (N := some 184) (v := ?_) (a' := ?_) #[true, true, true, true, true, true, true, true, true, true, true, false, false] rfl rfl (by kernel_rfl) (fun _ _ _ h => h) (Or.inl ⟨by rfl, ?_⟩) ?_ ?_
                  rotate_left
                  · intro w'
                    go_simp
                    with_reducible rfl
                  rotate_left
                  · simp only [Act.put, List.setIfInBounds_toArray, List.set_cons_zero, List.set_cons_succ, i64_w, i32_w]
                    rfl
                  refine pure_ (i := 11) (N := some 185) (v := ?_) (a' := ?_) #[true, true, true, true, true, true, true, true, true, true, true, true, false] rfl rfl (by kernel_rfl) (fun _ _ _ h => h) (Or.inl ⟨by rfl, ?_⟩) ?_ ?_
                  rotate_left
                  · intro w'
                    go_simp
                    with_reducible rfl
                  rotate_left
                  · simp only [Act.put, List.setIfInBounds_toArray, List.set_cons_zero, List.set_cons_succ, i64_w, i32_w]
                    rfl
                  have f_ := hHw35_.rwcell 0 0 rfl (7 + 2 * a + 9 * b + k) (by have := HN.out; have := HLE.out; omega)
                  have z_ := hHw35_.rwfrozen 0 rfl 0 (7 + 2 * a + 9 * b + k) (by have := HN.out; have := HLE.out; omega)
                  refine last_ (i := 12) (N := none) #[true, true, true, true, true, true, true, true, true, true, true, true, true] rfl rfl (by kernel_rfl) (by decide) (fun K hK => ?_)
                  refine skip_ (w1 := w35.setCell ⟨go, 7 + 2 * a + 9 * b + k, none⟩ (.int .i64 1)) (by rfl) rfl (by first | (go_simp; done) | (go_simp; rfl)) ?_
                  refine hK.out _ _ (done_ (by kernel_rfl) ?_)
                  clear hK K
                  have Sn_ := Aside0.mk (hHw35_.setRw (rs' := [⟨w11.heap.size, w12.heap.size, Rw (Kd.int .i64) 3 w11.heap.size w12.heap.size (.slice (some ⟨go, 0, none⟩) N co) (lst N (fun x => (((((x < 3 ∨ (3 ≤ x ∧ x < 3 + a) ∨ (3 + a ≤ x ∧ x < 3 + a + a) ∨ (7 + 2 * a + 17 * b ≤ x ∧ x < 7 + 2 * a + 17 * b + 21 * a)) ∨ (3 + 2 * a ≤ x ∧ x < 3 + 2 * a + 4)) ∨ (7 + 2 * a ≤ x ∧ x < 7 + 2 * a + b)) ∨ (7 + 2 * a + b ≤ x ∧ x < 7 + 2 * a + b + k) ∨ (7 + 2 * a + 9 * b ≤ x ∧ x < 7 + 2 * a + 9 * b + k)) ∨ x = 7 + 2 * a + b + k) ∨ x = 7 + 2 * a + 9 * b + k))⟩, ⟨w3.heap.size, w4.heap.size, fun w_ => Rw (Kd.int .u64) 40 w3.heap.size w4.heap.size (.slice A4 rl.length c4) rl w_⟩, Blk gc (#[.int .i64 (a : Int), .int .i64 (b : Int), .int .i64 (d : Int)]) 25]) 0 rfl (7 + 2 * a + 9 * b + k) 1 (lst_set (Q := fun x => (((((x < 3 ∨ (3 ≤ x ∧ x < 3 + a) ∨ (3 + a ≤ x ∧ x < 3 + a + a) ∨ (7 + 2 * a + 17 * b ≤ x ∧ x < 7 + 2 * a + 17 * b + 21 * a)) ∨ (3 + 2 * a ≤ x ∧ x < 3 + 2 * a + 4)) ∨ (7 + 2 * a ≤ x ∧ x < 7 + 2 * a + b)) ∨ (7 + 2 * a + b ≤ x ∧ x < 7 + 2 * a + b + k) ∨ (7 + 2 * a + 9 * b ≤ x ∧ x < 7 + 2 * a + 9 * b + k)) ∨ x = 7 + 2 * a + b + k) ∨ x = 7 + 2 * a + 9 * b + k) (fun x _ => by omega)) rfl)
                  clear S
                  have S := Sn_
                  clear Sn_
                  obtain ⟨w36, hw_⟩ : ∃ w_, w35.setCell ⟨go, 7 + 2 * a + 9 * b + k, none⟩ (.int .i64 1) = w_ := ⟨_, rfl⟩
                  rw [hw_] at S
                  rw [hw_]
                  clear hw_
                  clear hH_ hHw34_ hHw35_
                  clear hA0 hA1 hAt hz_ f_ z_
                  have Sn_ : Aside0 (St w w36 [⟨w11.heap.size, w12.heap.size, Rw (Kd.int .i64) 3 w11.heap.size w12.heap.size (.slice (some ⟨go, 0, none⟩) N co) (lst N (fun x => (((x < 3 ∨ (3 ≤ x ∧ x < 3 + a) ∨ (3 + a ≤ x ∧ x < 3 + a + a) ∨ (7 + 2 * a + 17 * b ≤ x ∧ x < 7 + 2 * a + 17 * b + 21 * a)) ∨ (3 + 2 * a ≤ x ∧ x < 3 + 2 * a + 4)) ∨ (7 + 2 * a ≤ x ∧ x < 7 + 2 * a + b)) ∨ (7 + 2 * a + b ≤ x ∧ x < 7 + 2 * a + b + (k + 1)) ∨ (7 + 2 * a + 9 * b ≤ x ∧ x < 7 + 2 * a + 9 * b + (k + 1))))⟩, ⟨w3.heap.size, w4.heap.size, fun w_ => Rw (Kd.int .u64) 40 w3.heap.size w4.heap.size (.slice A4 rl.length c4) rl w_⟩, Blk gc (#[.int .i64 (a : Int), .int .i64 (b : Int), .int .i64 (d : Int)]) 25]) := ⟨by have e_ : lst N (fun x => (((x < 3 ∨ (3 ≤ x ∧ x < 3 + a) ∨ (3 + a ≤ x ∧ x < 3 + a + a) ∨ (7 + 2 * a + 17 * b ≤ x ∧ x < 7 + 2 * a + 17 * b + 21 * a)) ∨ (3 + 2 * a ≤ x ∧ x < 3 + 2 * a + 4)) ∨ (7 + 2 * a ≤ x ∧ x < 7 + 2 * a + b)) ∨ (7 + 2 * a + b ≤ x ∧ x < 7 + 2 * a + b + (k + 1)) ∨ (7 + 2 * a + 9 * b ≤ x ∧ x < 7 + 2 * a + 9 * b + (k + 1))) = lst N (fun x => (((((x < 3 ∨ (3 ≤ x ∧ x < 3 + a) ∨ (3 + a ≤ x ∧ x < 3 + a + a) ∨ (7 + 2 * a + 17 * b ≤ x ∧ x < 7 + 2 * a + 17 * b + 21 * a)) ∨ (3 + 2 * a ≤ x ∧ x < 3 + 2 * a + 4)) ∨ (7 + 2 * a ≤ x ∧ x < 7 + 2 * a + b)) ∨ (7 + 2 * a + b ≤ x ∧ x < 7 + 2 * a + b + k) ∨ (7 + 2 * a + 9 * b ≤ x ∧ x < 7 + 2 * a + 9 * b + k)) ∨ x = 7 + 2 * a + b + k) ∨ x = 7 + 2 * a + 9 * b + k) := lst_congr (fun x hx_ => by have := HN.out; omega); rw [e_]; exact S.out⟩
                  clear S
                  have S := Sn_
                  clear Sn_
                  go_wp2
                  go_roundg ((8 * b) + 1 - (k + 1))
                  case measure => omega
                  case rel => exact ⟨k + 1, by omega, rfl, congrArg (Value.int .i64) (by have := HLE.out; (try unfold wrap64); omega), S⟩
                · have hkb : (8 * b) = k := by omega
                  subst hkb
                  clear hlt hk
                  have f_gc_0 : wr.cell? ⟨gc, 0, none⟩ = some (.int .i64 (a : Int)) := (S.out.cell 2 rfl 0).trans rfl
                  have z_gc_0 := S.out.frozen 2 rfl 0
                  have f_gc_1 : wr.cell? ⟨gc, 1, none⟩ = some (.int .i64 (b : Int)) := (S.out.cell 2 rfl 1).trans rfl
                  have z_gc_1 := S.out.frozen 2 rfl 1
                  go_wp2_with fail
                  clear f_gc_0 z_gc_0 f_gc_1 z_gc_1
                  go_loopg [13] (N + 1) (fun kq v_ w' => ∃ k : Nat, k ≤ N ∧ kq = N + 1 - k ∧ v_ = .int .i64 k ∧ Aside0 (St w w' [⟨w11.heap.size, w12.heap.size, Rw (Kd.int .i64) 3 w11.heap.size w12.heap.size (.slice (some ⟨go, 0, none⟩) N co) (lst N (fun x => (((x < 3 ∨ (3 ≤ x ∧ x < 3 + a) ∨ (3 + a ≤ x ∧ x < 3 + a + a) ∨ (7 + 2 * a + 17 * b ≤ x ∧ x < 7 + 2 * a + 17 * b + 21 * a)) ∨ (3 + 2 * a ≤ x ∧ x < 3 + 2 * a + 4)) ∨ (7 + 2 * a ≤ x ∧ x < 7 + 2 * a + b)) ∨ (7 + 2 * a + b ≤ x ∧ x < 7 + 2 * a + b + (8 * b)) ∨ (7 + 2 * a + 9 * b ≤ x ∧ x < 7 + 2 * a + 9 * b + (8 * b))))⟩, ⟨w3.heap.size, w4.heap.size, fun w_ => Rw (Kd.int .u64) 40 w3.heap.size w4.heap.size (.slice A4 rl.length c4) rl w_⟩, Blk gc (#[.int .i64 (a : Int), .int .i64 (b : Int), .int .i64 (d : Int)]) 25]))
                  case atStart => exact ⟨0, by omega, by omega, rfl, S⟩
                  case round =>
                    clear S
                    obtain ⟨k, hk, rfl, rfl, S⟩ := hrel
                    have hN1 : (N : Int) ≤ 1000 := by have := HN.out; have := HLE.out; omega
                    by_cases hlt : k < N
                    · have hlI : (k : Int) < (N : Int) := by omega
                      have f_ := S.out.rwcell 0 0 rfl k hlt
                      have z_ := S.out.rwfrozen 0 rfl 0 k hlt
                      rw [lst_at hlt, if_pos (by have := HN.out; have := HLE.out; omega)] at f_
                      go_wp2
                      go_roundg (N + 1 - (k + 1))
                      case measure => omega
                      case rel => exact ⟨k + 1, by omega, rfl, by go_num, S⟩
                    · have hkb : N = k := by omega
                      subst hkb
                      clear hlt hk
                      have f_gc_0 : wr.cell? ⟨gc, 0, none⟩ = some (.int .i64 (a : Int)) := (S.out.cell 2 rfl 0).trans rfl
                      have z_gc_0 := S.out.frozen 2 rfl 0
                      have f_gc_1 : wr.cell? ⟨gc, 1, none⟩ = some (.int .i64 (b : Int)) := (S.out.cell 2 rfl 1).trans rfl
                      have z_gc_1 := S.out.frozen 2 rfl 1
                      go_wp2_with (first | ((with_reducible refine gate_dst (N := 197) rfl ?_); refine Kd.event_run rfl (Row.load_row_run (g := gc) (t := 25) (cells := #[.int .i64 (a : Int), .int .i64 (b : Int), .int .i64 (d : Int)]) rfl rfl (S.out.blk 2 rfl) Try.underlying25 rfl (by kernel_rfl)) ?_))
                      refine (impl_PlatTag.calls _ _ _ _ 0 _ (PlatTag_out HOK.out (by omega))).mono ?_
                      rintro e w37 ⟨rfl, hb⟩
                      clear f_gc_0 z_gc_0 f_gc_1 z_gc_1
                      have Sn_ := Aside0.mk (S.out.call hb)
                      clear S hb
                      have S := Sn_
                      clear Sn_
                      go_wp2_with (first | ((with_reducible refine gate_dst (N := 204) rfl ?_); refine gate_guard (by rfl) ?_; refine Kd.event_run rfl (Row.load_row_run (g := gc) (t := 25) (cells := #[.int .i64 (a : Int), .int .i64 (b : Int), .int .i64 (d : Int)]) rfl rfl (S.out.blk 2 rfl) Try.underlying25 rfl (by kernel_rfl)) ?_))
                      refine (impl_PlatReg.calls _ _ _ _ 0 _ (PlatReg_out HOK.out (by omega))).mono ?_
                      rintro e w38 ⟨rfl, hb⟩
                      have Sn_ := Aside0.mk (S.out.call hb)
                      clear S hb
                      have S := Sn_
                      clear Sn_
                      go_wp2
                      go_ret
                      exact ⟨rfl, S.out.base⟩
theorem laws_FnPlat.calls (k : Nat) (A0 : Option Addr) (c0 : Nat) (l0 : List Int) (r : Bool) (w : World) (hr0 : Kd.C (Kd.int .u8) w A0 l0.length l0) (hc0 : l0.length ≤ c0) (h : laws_FnPlat.f k l0 = some r) :
    Calls Try.prog 9 #[.slice A0 l0.length c0] w fun e w' => e = .returned (.bool r) ∧ Below w.heap.size w w' := by
  unfold laws_FnPlat.f at h
  by_cases q : isB l0 = true
  · rw [if_pos q] at h
    obtain rfl := Option.some.inj h
    unfold isB at q
    rw [Bool.and_eq_true] at q
    by_cases hbig : (l0.length : Int) > 1048576
    · exact plat_big A0 c0 l0 w hr0 hc0 hbig
    · obtain ⟨a, b, d, e1⟩ := drawplat_ok l0 (by omega) (fun x hx => List.all_eq_true.mp q.2 x hx) 15 (by omega)
      by_cases hok : pok a b d
      · have h' := hok
        unfold pok at h'
        obtain ⟨a', rfl⟩ := Int.eq_ofNat_of_zero_le (show 0 ≤ a by omega)
        obtain ⟨b', rfl⟩ := Int.eq_ofNat_of_zero_le (show 0 ≤ b by omega)
        obtain ⟨d', rfl⟩ := Int.eq_ofNat_of_zero_le (show 0 ≤ d by omega)
        exact plat_yes A0 c0 l0 w hr0 hc0 a' b' d' e1 hok hbig
      · exact plat_no A0 c0 l0 w hr0 hc0 a b d e1 hok hbig
  · rw [if_neg q] at h
    cases h
end Go.Proofs.Ytbcpkbbdmkmpkaa.PFnPlat

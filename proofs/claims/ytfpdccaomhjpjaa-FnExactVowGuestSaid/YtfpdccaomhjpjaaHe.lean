/- VowGuest: the law's walk, over what the two functions answer. -/
import Derived.Test.YtfpdccaomhjpjaaGy
set_option linter.unusedVariables false
set_option linter.unusedSimpArgs false
namespace Go.Proofs.Ytfpdccaomhjpjaa.Gu
open Go.RowKit Go.Proofs.YtfpdccaomhjpjaaW.PrintWords Go.Proofs.YtfpdccaomhjpjaaW.PrintLast Go.Proofs.YtfpdccaomhjpjaaW.PrintMore Go.Proofs.Ytfpdccaomhjpjaa.St0

set_option maxHeartbeats 4000000 in
set_option maxRecDepth 100000 in
theorem lawVG_calls (i : Int) (l : List Int) (gs : List Gu) (A : Option Addr) (c : Nat) (B : Option Addr) (e : Nat) (w : World) (hu : UC w A c l) (h : GsC w B e gs)
    (hl : l.length ≤ 9223372036854775807) (hg : gs.length ≤ 9223372036854775807) (hls : ∀ g ∈ gs, g.snap.length ≤ 9223372036854775807 ∧ g.plan.length ≤ 9223372036854775807) (r : Bool)
    (hs : ∀ (A : Option Addr) (c : Nat) (B : Option Addr) (e : Nat) (w : World), UC w A c l → GsC w B e gs → gs.length ≤ 1048576 → Calls Try.prog 18 #[.agg #[.slice A l.length c, .slice B gs.length e], .int .i64 i] w fun x w' => x = .returned (.bool r) ∧ Below w.heap.size w w')
    (hi : ∀ (A : Option Addr) (c : Nat) (B : Option Addr) (e : Nat) (w : World), UC w A c l → GsC w B e gs → gs.length ≤ 1048576 → Calls Try.prog 19 #[.agg #[.slice A l.length c, .slice B gs.length e], .int .i64 i] w fun x w' => x = .returned (.bool r) ∧ Below w.heap.size w w') :
    Calls Try.prog 5 #[.agg #[.slice A l.length c, .slice B gs.length e], .int .i64 i] w fun e w' => e = .returned (.bool true) ∧ Below w.heap.size w w' := by
  have HR := Aside0.mk h
  have HU := Aside0.mk hu
  have HS := Aside0.mk hs
  have HI := Aside0.mk hi
  clear h hu hs hi
  have HZ := Aside0.mk (fun w_ h_ => szW_calls A c l B e gs w_ h_ hl hg hls)
  have HN : Aside0 (0 ≤ szW l gs 1048576 → l.length ≤ 1048576 ∧ gs.length ≤ 1048576 ∧ ∀ g ∈ gs, g.snap.length ≤ 1048576 ∧ g.plan.length ≤ 1048576) := ⟨szW_nn⟩
  obtain ⟨z, hz⟩ : ∃ z, szW l gs 1048576 = z := ⟨_, rfl⟩
  rw [hz] at HZ HN
  clear hz hls
  have S := Aside0.mk (St.start w)
  go_enter Try.func5, Try.ntmps5
  go_wp2_with (first | ((with_reducible refine gate_dst (N := 2) rfl ?_); refine box_event rfl (N := 2) rfl (cs := #[.slice A l.length c, .slice B gs.length e]) (t := 29) (by first | (go_simp; done) | (go_simp; rfl)) ?_; intro gb hg_ w1 hbox_ hb_; have Sn_ := Aside0.mk (S.out.box hg_ hbox_ hb_); clear hbox_ hb_ hg_ S; have S := Sn_; clear Sn_) | ((with_reducible refine gate_dst (N := 9) rfl ?_); refine Kd.event_run rfl (Row.load_row_run (g := gb) (t := 29) (cells := #[.slice A l.length c, .slice B gs.length e]) rfl rfl (S.out.blk 0 rfl) Try.underlying29 rfl (by kernel_rfl)) ?_))
  refine (HZ.out _ (HR.out.below S.out.base)).mono ?_
  rintro e w2 ⟨rfl, hb⟩
  have Sn_ := Aside0.mk (S.out.call hb)
  clear S hb
  have S := Sn_
  clear Sn_
  by_cases hn : z < 0
  · go_wp2
    go_ret
    exact ⟨rfl, S.out.base⟩
  have hN := Aside0.mk (HN.out (by omega))
  clear HN HZ
  go_wp2_with (first | ((with_reducible refine gate_dst (N := 14) rfl ?_); refine Kd.event_run rfl (Row.load_row_run (g := gb) (t := 29) (cells := #[.slice A l.length c, .slice B gs.length e]) rfl rfl (S.out.blk 0 rfl) Try.underlying29 rfl (by kernel_rfl)) ?_))
  refine (toW_calls A c l B e gs _ (HU.out.below S.out.base) (HR.out.below S.out.base) hN.out.1 hN.out.2.1 hN.out.2.2).mono ?_
  rintro e w3 ⟨A1, c1, B1, d1, rfl, ho, hb⟩
  have Sn_ := Aside0.mk (S.out.new (P := fun w_ => WO w2.heap.size w3.heap.size A1 c1 l B1 d1 gs w_) hb ho (WO.stable _ _ _ _ _ _ _ _))
  clear S hb ho
  have S := Sn_
  clear Sn_
  go_wp2_with fail
  refine (HS.out A1 c1 B1 d1 _ (S.out.get 0 rfl).1.c (S.out.get 0 rfl).2.c hN.out.2.1).mono ?_
  rintro e w4 ⟨rfl, hb⟩
  have Sn_ := Aside0.mk (S.out.call hb)
  clear S hb
  have S := Sn_
  clear Sn_
  have Sn_ := Aside0.mk (S.out.drop (rs' := [Blk gb (#[.slice A l.length c, .slice B gs.length e]) 29]) 0 rfl)
  clear S
  have S := Sn_
  clear Sn_
  go_wp2_with (first | ((with_reducible refine gate_dst (N := 18) rfl ?_); refine Kd.event_run rfl (Row.load_row_run (g := gb) (t := 29) (cells := #[.slice A l.length c, .slice B gs.length e]) rfl rfl (S.out.blk 0 rfl) Try.underlying29 rfl (by kernel_rfl)) ?_))
  refine (toW_calls A c l B e gs _ (HU.out.below S.out.base) (HR.out.below S.out.base) hN.out.1 hN.out.2.1 hN.out.2.2).mono ?_
  rintro e w5 ⟨A2, c2, B2, d2, rfl, ho, hb⟩
  have Sn_ := Aside0.mk (S.out.new (P := fun w_ => WO w4.heap.size w5.heap.size A2 c2 l B2 d2 gs w_) hb ho (WO.stable _ _ _ _ _ _ _ _))
  clear S hb ho
  have S := Sn_
  clear Sn_
  go_wp2_with (first | ((with_reducible refine gate_dst (N := 7) rfl ?_); refine box_event rfl (N := 7) rfl (cs := #[.slice none 0 0, .slice none 0 0]) (t := 34) (by first | (go_simp; done) | (go_simp; rfl)) ?_; intro gx hg_ w6 hbox_ hb_; have Sn_ := Aside0.mk (S.out.box hg_ hbox_ hb_); clear hbox_ hb_ hg_ S; have S := Sn_; clear Sn_) | ((with_reducible refine gate_store (t := 34) (p := 7) rfl ?_); refine store_event (t := 34) (p := 7) (v := ?vo_1) (w1 := w6.setRow gx (#[.slice A2 l.length c2, .slice B2 gs.length d2])) ?hg ?ho ?hn ?hr ?_; (case ho => rfl); (case hg => rfl); (case hn => rfl); (case hr => exact (Row.store_row_run (g := gx) (cells := #[.slice A2 l.length c2, .slice B2 gs.length d2]) (t := 34) (old := #[.slice none 0 0, .slice none 0 0]) rfl (by rfl) (by rfl) (S.out.blk 0 rfl) (by kernel_rfl) rfl (by simp [Value.oneCell']))); intro w7 hw_; have Sn_ := Aside0.mk ((S.out.setRow (cs' := #[.slice A2 l.length c2, .slice B2 gs.length d2]) (rs' := [Blk gx (#[.slice A2 l.length c2, .slice B2 gs.length d2]) 34, ⟨w4.heap.size, w5.heap.size, fun w_ => WO w4.heap.size w5.heap.size A2 c2 l B2 d2 gs w_⟩, Blk gb (#[.slice A l.length c, .slice B gs.length e]) 29]) 0 rfl rfl).of hw_); clear S hw_; have S := Sn_; clear Sn_) | ((with_reducible refine gate_dst (N := 20) rfl ?_); refine Kd.event_run rfl (Row.load_row_run (g := gx) (t := 34) (cells := #[.slice A2 l.length c2, .slice B2 gs.length d2]) rfl rfl (S.out.blk 0 rfl) Try.underlying34 rfl (by kernel_rfl)) ?_))
  refine (HI.out A2 c2 B2 d2 _ (S.out.get 1 rfl).1.c (S.out.get 1 rfl).2.c hN.out.2.1).mono ?_
  rintro e w8 ⟨rfl, hb⟩
  have Sn_ := Aside0.mk (S.out.call hb)
  clear S hb
  have S := Sn_
  clear Sn_
  have hr1 : (r != r) = false := bne_self_eq_false _
  go_wp2_with fail
  refine start_ (n := 5) (S := fun w_ => St w w_ [Blk gx (#[.slice A2 l.length c2, .slice B2 gs.length d2]) 34, ⟨w4.heap.size, w5.heap.size, fun w_ => WO w4.heap.size w5.heap.size A2 c2 l B2 d2 gs w_⟩, Blk gb (#[.slice A l.length c, .slice B gs.length e]) 29]) (ds := []) #[false, false, false, false, false] (by kernel_rfl) rfl rfl (S.out.drew) (fun hH_ => ?_)
  refine take_ (i := 0) (N := some 26) (v := .agg (#[.slice A2 l.length c2, .slice B2 gs.length d2])) (a' := ?_) #[true, false, false, false, false] rfl rfl (by kernel_rfl) (fun _ _ _ h => h) (Or.inl ⟨by rfl, fun w' s0 => Row.load_row_run (g := gx) (t := 34) (cells := #[.slice A2 l.length c2, .slice B2 gs.length d2]) rfl rfl (s0.blk 0 rfl) Try.underlying34 rfl (by kernel_rfl)⟩) hH_ ?_ ?_
  rotate_left
  · simp only [Act.put, List.setIfInBounds_toArray, List.set_cons_zero, List.set_cons_succ, i64_w, i32_w]
    rfl
  refine take_ (i := 1) (N := some 27) (v := .agg (#[.slice A l.length c, .slice B gs.length e])) (a' := ?_) #[true, true, false, false, false] rfl rfl (by kernel_rfl) (fun _ _ _ h => h) (Or.inl ⟨by rfl, fun w' s0 => Row.load_row_run (g := gb) (t := 29) (cells := #[.slice A l.length c, .slice B gs.length e]) rfl rfl (s0.blk 2 rfl) Try.underlying29 rfl (by kernel_rfl)⟩) hH_ ?_ ?_
  rotate_left
  · simp only [Act.put, List.setIfInBounds_toArray, List.set_cons_zero, List.set_cons_succ, i64_w, i32_w]
    rfl
  refine one_ (i := 2) (N := some 28) #[true, true, true, false, false] rfl rfl (by kernel_rfl) (by decide) (fun K hK => ?_)
  refine goes_ Try.func15 (by kernel_rfl) rfl #[.agg #[.slice A l.length c, .slice B gs.length e]] (by rfl) rfl rfl (by (try simp only [List.map_toArray, List.map_cons, List.map_nil]); first | done | rfl) ?_
  refine (toW_calls A c l B e gs _ (HU.out.below hH_.base) (HR.out.below hH_.base) hN.out.1 hN.out.2.1 hN.out.2.2).mono ?_
  rintro e w9 ⟨A3, c3, B3, d3, rfl, ho, hb⟩
  have HW3 := Aside0.mk ho
  clear ho
  have hHw9_ := hH_.call hb
  refine ⟨_, rfl, hK.out _ _ hHw9_ (fun hX_ => ?_)⟩
  clear hK K hX_
  refine norm_ (a' := ?_) ?_ ?_
  rotate_left
  · show Act.put _ (some 28) _ = _
    simp only [Act.put, List.setIfInBounds_toArray, List.set_cons_zero, List.set_cons_succ, i64_w, i32_w]
    rfl
  clear hb
  refine one_ (i := 3) (N := some 29) #[true, true, true, true, false] rfl rfl (by kernel_rfl) (by decide) (fun K hK => ?_)
  refine goes_ Try.func17 (by kernel_rfl) rfl #[.agg #[.slice A2 l.length c2, .slice B2 gs.length d2], .agg #[.slice A3 l.length c3, .slice B3 gs.length d3]] (by rfl) rfl rfl (by (try simp only [List.map_toArray, List.map_cons, List.map_nil]); first | done | rfl) ?_
  refine (eqW_same A2 c2 B2 d2 A3 c3 B3 d3 l gs _ (hHw9_.get 1 rfl).1.c HW3.out.1.c (hHw9_.get 1 rfl).2.c HW3.out.2.c hN.out.1 hN.out.2.1 hN.out.2.2).mono ?_
  rintro e w10 ⟨rfl, hb⟩
  have hHw10_ := hHw9_.call hb
  refine ⟨_, rfl, hK.out _ _ hHw10_ (fun hX_ => ?_)⟩
  clear hK K hX_
  refine norm_ (a' := ?_) ?_ ?_
  rotate_left
  · show Act.put _ (some 29) _ = _
    simp only [Act.put, List.setIfInBounds_toArray, List.set_cons_zero, List.set_cons_succ, i64_w, i32_w]
    rfl
  clear hb
  refine pure_ (i := 4) (N := some 30) (v := ?_) (a' := ?_) #[true, true, true, true, true] rfl rfl (by kernel_rfl) (fun _ _ _ h => h) (Or.inl ⟨by rfl, ?_⟩) ?_ ?_
  rotate_left
  · intro w'
    go_simp
    with_reducible rfl
  rotate_left
  · simp only [Act.put, List.setIfInBounds_toArray, List.set_cons_zero, List.set_cons_succ, i64_w, i32_w]
    rfl
  refine done_ (by kernel_rfl) ?_
  have Sn_ := Aside0.mk (hHw10_)
  clear S
  have S := Sn_
  clear Sn_
  clear hH_ hHw9_ hHw10_
  go_wp2
  go_ret
  exact ⟨rfl, S.out.base⟩
end Go.Proofs.Ytfpdccaomhjpjaa.Gu

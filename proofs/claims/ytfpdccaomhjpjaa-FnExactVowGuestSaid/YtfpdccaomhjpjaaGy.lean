/- Worlds: their size, laid anew, compared. -/
import Derived.Test.YtfpdccaomhjpjaaGx
set_option linter.unusedVariables false
set_option linter.unusedSimpArgs false
namespace Go.Proofs.Ytfpdccaomhjpjaa.Gu
open Go.RowKit Go.Proofs.YtfpdccaomhjpjaaW.PrintWords Go.Proofs.YtfpdccaomhjpjaaW.PrintLast Go.Proofs.YtfpdccaomhjpjaaW.PrintMore Go.Proofs.Ytfpdccaomhjpjaa.St0

def szW (l : List Int) (gs : List Gu) (left : Int) : Int := if szR l left < 0 then -1 else szGs gs (szR l left)
theorem szW_nn {l : List Int} {gs : List Gu} (h : 0 ≤ szW l gs 1048576) : l.length ≤ 1048576 ∧ gs.length ≤ 1048576 ∧ ∀ g ∈ gs, g.snap.length ≤ 1048576 ∧ g.plan.length ≤ 1048576 := by
  unfold szW at h
  split at h
  · omega
  · have hz := szR_le l 1048576 (by omega) (by omega)
    exact ⟨szR_nn (left := 1048576) (Int.le_refl _) (by omega), szGs_nn hz.1 hz.2 h⟩
set_option maxRecDepth 100000 in
theorem szW_calls (A : Option Addr) (c : Nat) (l : List Int) (B : Option Addr) (d : Nat) (gs : List Gu) (w : World) (h : GsC w B d gs) (hl : l.length ≤ 9223372036854775807) (hg : gs.length ≤ 9223372036854775807) (hls : ∀ g ∈ gs, g.snap.length ≤ 9223372036854775807 ∧ g.plan.length ≤ 9223372036854775807) :
    Calls Try.prog 13 #[.agg #[.slice A l.length c, .slice B gs.length d], .int .i64 1048576] w fun e w' => e = .returned (.int .i64 (szW l gs 1048576)) ∧ Below w.heap.size w w' := by
  have HR := Aside0.mk h
  have HL := Aside0.mk hls
  clear h hls
  have hz := szR_le l 1048576 (by omega) (by omega)
  have HY := Aside0.mk (szU_calls A c l 1048576 · (by omega) (by omega) hl)
  obtain ⟨y, hy⟩ : ∃ y, szR l 1048576 = y := ⟨_, rfl⟩
  have HW : Aside0 (szW l gs 1048576 = if y < 0 then -1 else szGs gs y) := ⟨by rw [← hy]; rfl⟩
  rw [hy] at hz HY
  clear hy
  obtain ⟨hz0, hz1⟩ := hz
  have S := Aside0.mk (St.start w)
  go_enter Try.func13, Try.ntmps13
  go_wp2_with (first | ((with_reducible refine gate_dst (N := 2) rfl ?_); refine box_event rfl (N := 2) rfl (cs := #[.slice A l.length c, .slice B gs.length d]) (t := 29) (by first | (go_simp; done) | (go_simp; rfl)) ?_; intro gb hg_ w1 hbox_ hb_; have Sn_ := Aside0.mk (S.out.box hg_ hbox_ hb_); clear hbox_ hb_ hg_ S; have S := Sn_; clear Sn_; have f_gb_0 : w1.cell? ⟨gb, 0, none⟩ = some (.slice A l.length c) := (S.out.cell 0 rfl 0).trans rfl; have z_gb_0 := S.out.frozen 0 rfl 0; have f_gb_1 : w1.cell? ⟨gb, 1, none⟩ = some (.slice B gs.length d) := (S.out.cell 0 rfl 1).trans rfl; have z_gb_1 := S.out.frozen 0 rfl 1))
  refine (HY.out _).mono ?_
  rintro e w2 ⟨rfl, rfl⟩
  by_cases hn : y < 0
  · have HV : Aside0 (szW l gs 1048576 = -1) := ⟨by rw [HW.out]; exact if_pos hn⟩
    go_wp2
    go_ret
    exact ⟨by rw [HV.out]; rfl, S.out.base⟩
  · have HV : Aside0 (szW l gs 1048576 = szGs gs y) := ⟨by rw [HW.out]; exact if_neg hn⟩
    go_wp2_with fail
    refine (szGs_calls B d gs y _ (HR.out.below S.out.base) hz0 hz1 hg HL.out).mono ?_
    rintro e w3 ⟨rfl, hb⟩
    have S2 := Aside0.mk (S.out.call hb)
    clear hb S
    obtain ⟨x, hx⟩ : ∃ x, szGs gs y = x := ⟨_, rfl⟩
    have HX : -1 ≤ x := by rw [← hx]; exact (szGs_le gs y hz0 hz1).1
    rw [hx] at HV ⊢
    clear hx
    by_cases hn2 : x < 0
    · have hx1 : x = -1 := by omega
      subst hx1
      go_wp2
      go_ret
      exact ⟨by rw [HV.out]; rfl, S2.out.base⟩
    · go_wp2
      go_ret
      exact ⟨by rw [HV.out]; rfl, S2.out.base⟩
set_option maxRecDepth 100000 in
theorem toW_calls (A : Option Addr) (c : Nat) (l : List Int) (B : Option Addr) (d : Nat) (gs : List Gu) (w : World) (h0 : UC w A c l) (h : GsC w B d gs) (hl : l.length ≤ 1048576) (hg : gs.length ≤ 1048576) (hls : ∀ g ∈ gs, g.snap.length ≤ 1048576 ∧ g.plan.length ≤ 1048576) :
    Calls Try.prog 15 #[.agg #[.slice A l.length c, .slice B gs.length d]] w fun e w' => ∃ A' c' B' d', e = .returned (.agg #[.slice A' l.length c', .slice B' gs.length d']) ∧ WO w.heap.size w'.heap.size A' c' l B' d' gs w' ∧ Below w.heap.size w w' := by
  have HR := Aside0.mk h
  have HU := Aside0.mk h0
  have HL := Aside0.mk hls
  clear h h0 hls
  have S := Aside0.mk (St.start w)
  go_enter Try.func15, Try.ntmps15
  go_wp2_with (first | ((with_reducible refine gate_dst (N := 1) rfl ?_); refine box_event rfl (N := 1) rfl (cs := #[.slice A l.length c, .slice B gs.length d]) (t := 29) (by first | (go_simp; done) | (go_simp; rfl)) ?_; intro g1 hg_ w1 hbox_ hb_; have Sn_ := Aside0.mk (S.out.box hg_ hbox_ hb_); clear hbox_ hb_ hg_ S; have S := Sn_; clear Sn_; have f_g1_0 : w1.cell? ⟨g1, 0, none⟩ = some (.slice A l.length c) := (S.out.cell 0 rfl 0).trans rfl; have z_g1_0 := S.out.frozen 0 rfl 0) | ((with_reducible refine gate_dst (N := 2) rfl ?_); refine box_event rfl (N := 2) rfl (cs := #[.slice none 0 0, .slice none 0 0]) (t := 34) (by first | (go_simp; done) | (go_simp; rfl)) ?_; intro g2 hg_ w2 hbox_ hb_; have Sn_ := Aside0.mk (S.out.box hg_ hbox_ hb_); clear hbox_ hb_ hg_ S; have S := Sn_; clear Sn_; have f_g1_0 : w2.cell? ⟨g1, 0, none⟩ = some (.slice A l.length c) := (S.out.cell 1 rfl 0).trans rfl; have z_g1_0 := S.out.frozen 1 rfl 0) | ((with_reducible refine gate_dst (N := 3) rfl ?_); refine box_event rfl (N := 3) rfl (cs := #[.slice none 0 0, .slice none 0 0]) (t := 34) (by first | (go_simp; done) | (go_simp; rfl)) ?_; intro g3 hg_ w3 hbox_ hb_; have Sn_ := Aside0.mk (S.out.box hg_ hbox_ hb_); clear hbox_ hb_ hg_ S; have S := Sn_; clear Sn_; have f_g1_0 : w3.cell? ⟨g1, 0, none⟩ = some (.slice A l.length c) := (S.out.cell 2 rfl 0).trans rfl; have z_g1_0 := S.out.frozen 2 rfl 0; have f_g3_0 : w3.cell? ⟨g3, 0, none⟩ = some (.slice none 0 0) := (S.out.cell 0 rfl 0).trans rfl; have z_g3_0 := S.out.frozen 0 rfl 0))
  refine (toU_calls A c l _ (HU.out.below S.out.base) hl).mono ?_
  rintro e w4 ⟨A1, c1, rfl, ho, hb⟩
  clear f_g1_0 z_g1_0 f_g3_0 z_g3_0
  have Sn_ := Aside0.mk (S.out.new (P := fun w_ => UO w3.heap.size w4.heap.size A1 c1 l w_) hb ho (UO.stable _ _ _ _ _))
  clear S hb ho
  have S := Sn_
  clear Sn_
  have f_g3_0 : w4.cell? ⟨g3, 0, none⟩ = some (.slice none 0 0) := (S.out.cell 1 rfl 0).trans rfl
  have z_g3_0 := S.out.frozen 1 rfl 0
  go_wp2_with (first | ((with_reducible refine gate_store (t := 22) (p := 7) rfl ?_); refine store_event (t := 22) (p := 7) (v := ?vo_1) (w1 := w4.setCell ⟨g3, 0, none⟩ (.slice A1 l.length c1)) ?hg ?ho ?hn ?hr ?_; (case ho => rfl); (case hg => rfl); (case hn => rfl); (case hr => first | (go_simp; done) | (go_simp; rfl)); intro w5 hw_; have Sn_ := Aside0.mk ((S.out.setCell (cs' := #[.slice A1 l.length c1, .slice none 0 0]) (rs' := [⟨w3.heap.size, w4.heap.size, fun w_ => UO w3.heap.size w4.heap.size A1 c1 l w_⟩, Blk g3 (#[.slice A1 l.length c1, .slice none 0 0]) 34, Blk g2 (#[.slice none 0 0, .slice none 0 0]) 34, Blk g1 (#[.slice A l.length c, .slice B gs.length d]) 29]) 1 rfl 0 (.slice A1 l.length c1) (by simp only [List.setIfInBounds_toArray, List.set_cons_zero, List.set_cons_succ]) rfl).of hw_); clear S hw_; have S := Sn_; clear Sn_; have f_g1_1 : w5.cell? ⟨g1, 1, none⟩ = some (.slice B gs.length d) := (S.out.cell 3 rfl 1).trans rfl; have z_g1_1 := S.out.frozen 3 rfl 1; have f_g3_1 : w5.cell? ⟨g3, 1, none⟩ = some (.slice none 0 0) := (S.out.cell 1 rfl 1).trans rfl; have z_g3_1 := S.out.frozen 1 rfl 1))
  refine (toGs_calls B d gs _ (HR.out.below S.out.base) hg HL.out).mono ?_
  rintro e w6 ⟨B1, d1, rfl, ho, hb⟩
  clear f_g1_1 z_g1_1 f_g3_1 z_g3_1
  have Sn_ := Aside0.mk (S.out.new (P := fun w_ => GsO w5.heap.size w6.heap.size B1 d1 gs w_) hb ho (GsO.stable _ _ _ _ _))
  clear S hb ho
  have S := Sn_
  clear Sn_
  have f_g3_1 : w6.cell? ⟨g3, 1, none⟩ = some (.slice none 0 0) := (S.out.cell 2 rfl 1).trans rfl
  have z_g3_1 := S.out.frozen 2 rfl 1
  go_wp2_with (first | ((with_reducible refine gate_store (t := 32) (p := 11) rfl ?_); refine store_event (t := 32) (p := 11) (v := ?vo_2) (w1 := w6.setCell ⟨g3, 1, none⟩ (.slice B1 gs.length d1)) ?hg ?ho ?hn ?hr ?_; (case ho => rfl); (case hg => rfl); (case hn => rfl); (case hr => first | (go_simp; done) | (go_simp; rfl)); intro w7 hw_; have Sn_ := Aside0.mk ((S.out.setCell (cs' := #[.slice A1 l.length c1, .slice B1 gs.length d1]) (rs' := [⟨w5.heap.size, w6.heap.size, fun w_ => GsO w5.heap.size w6.heap.size B1 d1 gs w_⟩, ⟨w3.heap.size, w4.heap.size, fun w_ => UO w3.heap.size w4.heap.size A1 c1 l w_⟩, Blk g3 (#[.slice A1 l.length c1, .slice B1 gs.length d1]) 34, Blk g2 (#[.slice none 0 0, .slice none 0 0]) 34, Blk g1 (#[.slice A l.length c, .slice B gs.length d]) 29]) 2 rfl 1 (.slice B1 gs.length d1) (by simp only [List.setIfInBounds_toArray, List.set_cons_zero, List.set_cons_succ]) rfl).of hw_); clear S hw_; have S := Sn_; clear Sn_) | ((with_reducible refine gate_dst (N := 12) rfl ?_); refine Kd.event_run rfl (Row.load_row_run (g := g3) (t := 34) (cells := #[.slice A1 l.length c1, .slice B1 gs.length d1]) rfl rfl (S.out.blk 2 rfl) Try.underlying34 rfl (by kernel_rfl)) ?_) | ((with_reducible refine gate_store (t := 34) (p := 2) rfl ?_); refine store_event (t := 34) (p := 2) (v := ?vo_3) (w1 := w7.setRow g2 (#[.slice A1 l.length c1, .slice B1 gs.length d1])) ?hg ?ho ?hn ?hr ?_; (case ho => rfl); (case hg => rfl); (case hn => rfl); (case hr => exact (Row.store_row_run (g := g2) (cells := #[.slice A1 l.length c1, .slice B1 gs.length d1]) (t := 34) (old := #[.slice none 0 0, .slice none 0 0]) rfl (by rfl) (by rfl) (S.out.blk 3 rfl) (by kernel_rfl) rfl (by simp [Value.oneCell']))); intro w8 hw_; have Sn_ := Aside0.mk ((S.out.setRow (cs' := #[.slice A1 l.length c1, .slice B1 gs.length d1]) (rs' := [⟨w5.heap.size, w6.heap.size, fun w_ => GsO w5.heap.size w6.heap.size B1 d1 gs w_⟩, ⟨w3.heap.size, w4.heap.size, fun w_ => UO w3.heap.size w4.heap.size A1 c1 l w_⟩, Blk g3 (#[.slice A1 l.length c1, .slice B1 gs.length d1]) 34, Blk g2 (#[.slice A1 l.length c1, .slice B1 gs.length d1]) 34, Blk g1 (#[.slice A l.length c, .slice B gs.length d]) 29]) 3 rfl rfl).of hw_); clear S hw_; have S := Sn_; clear Sn_))
  refine bodyPost_ret (results_cell_row rfl _ _ g2 34 (#[.slice A1 l.length c1, .slice B1 gs.length d1]) (0, 0) _ rfl (S.out.blk 3 rfl) Try.underlying34 rfl (by kernel_rfl)) rfl ?_
  exact ⟨A1, c1, B1, d1, rfl, ⟨UO.wide (S.out.get 1 rfl) (S.out.ge 1 rfl) (S.out.le 1 rfl), GsO.wide (S.out.get 0 rfl) (S.out.ge 0 rfl) (S.out.le 0 rfl)⟩, S.out.base⟩
set_option maxHeartbeats 4000000 in
set_option maxRecDepth 100000 in
theorem eqGs_same (A : Option Addr) (c : Nat) (B : Option Addr) (d : Nat) (gs : List Gu) (w : World) (h : GsC w A c gs) (h' : GsC w B d gs) (hl : gs.length ≤ 1048576) (hls : ∀ g ∈ gs, g.snap.length ≤ 1048576 ∧ g.plan.length ≤ 1048576) :
    Calls Try.prog 39 #[.slice A gs.length c, .slice B gs.length d] w fun e w' => e = .returned (.bool true) ∧ Below w.heap.size w w' := by
  have HR := Aside0.mk h
  have HQ := Aside0.mk h'
  have HL := Aside0.mk hls
  clear h h' hls
  have n0 : ((gs.length : Int) != (gs.length : Int)) = false := bne_self_eq_false _
  go_enter Try.func39, Try.ntmps39
  go_wp2
  go_loopg [5] (gs.length + 1) (fun kq v5 w' => ∃ k : Nat, k ≤ gs.length ∧ kq = gs.length + 1 - k ∧ v5 = .int .i64 k ∧ Aside0 (St w w' []))
  case atStart => exact ⟨0, by omega, by omega, rfl, ⟨St.start w⟩⟩
  case round =>
    obtain ⟨k, hk, rfl, rfl, S⟩ := hrel
    by_cases hlt : k < gs.length
    · obtain ⟨ad, A1, c1, B1, d1, rfl, hg, hc⟩ := elemG HR.out k hlt
      obtain ⟨ad', A2, c2, B2, d2, rfl, hg', hc'⟩ := elemG HQ.out k hlt
      have HG := Aside0.mk hg
      have HC := Aside0.mk hc
      have HG' := Aside0.mk hg'
      have HC' := Aside0.mk hc'
      have HM := Aside0.mk (HL.out _ (mem_getD hlt))
      clear hg hc hg' hc'
      obtain ⟨g, hgd⟩ : ∃ g, gs.getD k zG = g := ⟨_, rfl⟩
      rw [hgd] at HG HC HG' HC' HM
      clear hgd
      have HI := Aside0.mk (show (Try.prog.info? 59).map (·.size) = some (gC g A1 c1 B1 d1).size by kernel_rfl)
      have HI' := Aside0.mk (show (Try.prog.info? 59).map (·.size) = some (gC g A2 c2 B2 d2).size by kernel_rfl)
      have HZC := Aside0.mk (fun w_ h_ h2_ => eqG_same g A1 c1 B1 d1 A2 c2 B2 d2 w_ h_ h2_ ⟨by have := HM.out.1; omega, by have := HM.out.2; omega⟩)
      obtain ⟨cs, hcs⟩ : ∃ cs, gC g A1 c1 B1 d1 = cs := ⟨_, rfl⟩
      rw [hcs] at HC HI HZC
      clear hcs
      obtain ⟨cs', hcs'⟩ : ∃ cs, gC g A2 c2 B2 d2 = cs := ⟨_, rfl⟩
      rw [hcs'] at HC' HI' HZC
      clear hcs'
      have hi : (k : Int) < (gs.length : Int) := by omega
      have hi0 : (0 : Int) ≤ (k : Int) := by omega
      go_wp2_with fail
      refine start_ (n := 10) (S := fun w_ => St w w_ []) (ds := []) #[false, false, false, false, false, false, false, false, false, false] (by kernel_rfl) rfl rfl (S.out.drew) (fun hH_ => ?_)
      refine pure_ (i := 0) (N := some 17) (v := ?_) (a' := ?_) #[true, false, false, false, false, false, false, false, false, false] rfl rfl (by kernel_rfl) (fun _ _ _ h => h) (Or.inl ⟨by rfl, ?_⟩) ?_ ?_
      rotate_left
      · intro w'
        go_simp
        with_reducible rfl
      rotate_left
      · simp only [Act.put, List.setIfInBounds_toArray, List.set_cons_zero, List.set_cons_succ, i64_w, i32_w]
        rfl
      refine pure_ (i := 1) (N := some 18) (v := ?_) (a' := ?_) #[true, true, false, false, false, false, false, false, false, false] rfl rfl (by kernel_rfl) (fun _ _ _ h => h) (Or.inl ⟨by rfl, ?_⟩) ?_ ?_
      rotate_left
      · intro w'
        go_simp
        with_reducible rfl
      rotate_left
      · simp only [Act.put, List.setIfInBounds_toArray, List.set_cons_zero, List.set_cons_succ, i64_w, i32_w]
        rfl
      refine pure_ (i := 2) (N := some 19) (v := ?_) (a' := ?_) #[true, true, true, false, false, false, false, false, false, false] rfl rfl (by kernel_rfl) (fun _ _ _ h => h) (Or.inl ⟨by rfl, ?_⟩) ?_ ?_
      rotate_left
      · intro w'
        go_simp
        with_reducible rfl
      rotate_left
      · simp only [Act.put, List.setIfInBounds_toArray, List.set_cons_zero, List.set_cons_succ, i64_w, i32_w]
        rfl
      refine take_ (i := 3) (N := some 20) (v := .agg cs) (a' := ?_) #[true, true, true, true, false, false, false, false, false, false] rfl rfl (by kernel_rfl) (fun _ _ _ h => h) (Or.inl ⟨by rfl, fun w' s0 => load_elem_run (ad := ad.add (k * 26)) (cs := cs) rfl (by first | (go_simp; done) | (go_simp; rfl)) (fun j v hv => (s0.base.cell (World.block_lt_of_cell? w _ (HC.out j v hv))).trans (HC.out j v hv)) Try.underlying59 rfl HI.out⟩) hH_ ?_ ?_
      rotate_left
      · simp only [Act.put, List.setIfInBounds_toArray, List.set_cons_zero, List.set_cons_succ, i64_w, i32_w]
        rfl
      refine pure_ (i := 4) (N := some 21) (v := ?_) (a' := ?_) #[true, true, true, true, true, false, false, false, false, false] rfl rfl (by kernel_rfl) (fun _ _ _ h => h) (Or.inl ⟨by rfl, ?_⟩) ?_ ?_
      rotate_left
      · intro w'
        go_simp
        with_reducible rfl
      rotate_left
      · simp only [Act.put, List.setIfInBounds_toArray, List.set_cons_zero, List.set_cons_succ, i64_w, i32_w]
        rfl
      refine pure_ (i := 5) (N := some 22) (v := ?_) (a' := ?_) #[true, true, true, true, true, true, false, false, false, false] rfl rfl (by kernel_rfl) (fun _ _ _ h => h) (Or.inl ⟨by rfl, ?_⟩) ?_ ?_
      rotate_left
      · intro w'
        go_simp
        with_reducible rfl
      rotate_left
      · simp only [Act.put, List.setIfInBounds_toArray, List.set_cons_zero, List.set_cons_succ, i64_w, i32_w]
        rfl
      refine pure_ (i := 6) (N := some 23) (v := ?_) (a' := ?_) #[true, true, true, true, true, true, true, false, false, false] rfl rfl (by kernel_rfl) (fun _ _ _ h => h) (Or.inl ⟨by rfl, ?_⟩) ?_ ?_
      rotate_left
      · intro w'
        go_simp
        with_reducible rfl
      rotate_left
      · simp only [Act.put, List.setIfInBounds_toArray, List.set_cons_zero, List.set_cons_succ, i64_w, i32_w]
        rfl
      refine take_ (i := 7) (N := some 24) (v := .agg cs') (a' := ?_) #[true, true, true, true, true, true, true, true, false, false] rfl rfl (by kernel_rfl) (fun _ _ _ h => h) (Or.inl ⟨by rfl, fun w' s0 => load_elem_run (ad := ad'.add (k * 26)) (cs := cs') rfl (by first | (go_simp; done) | (go_simp; rfl)) (fun j v hv => (s0.base.cell (World.block_lt_of_cell? w _ (HC'.out j v hv))).trans (HC'.out j v hv)) Try.underlying59 rfl HI'.out⟩) hH_ ?_ ?_
      rotate_left
      · simp only [Act.put, List.setIfInBounds_toArray, List.set_cons_zero, List.set_cons_succ, i64_w, i32_w]
        rfl
      refine one_ (i := 8) (N := some 25) #[true, true, true, true, true, true, true, true, true, false] rfl rfl (by kernel_rfl) (by decide) (fun K hK => ?_)
      refine goes_ Try.func68 (by kernel_rfl) rfl #[.agg cs, .agg cs'] (by rfl) rfl rfl (by (try simp only [List.map_toArray, List.map_cons, List.map_nil]); first | done | rfl) ?_
      refine (HZC.out _ (HG.out.below hH_.base) (HG'.out.below hH_.base)).mono ?_
      rintro e w1 ⟨rfl, hb⟩
      have hHw1_ := hH_.call hb
      refine ⟨_, rfl, hK.out _ _ hHw1_ (fun hX_ => ?_)⟩
      clear hK K hX_
      refine norm_ (a' := ?_) ?_ ?_
      rotate_left
      · show Act.put _ (some 25) _ = _
        simp only [Act.put, List.setIfInBounds_toArray, List.set_cons_zero, List.set_cons_succ, i64_w, i32_w]
        rfl
      clear hb
      refine pure_ (i := 9) (N := some 26) (v := ?_) (a' := ?_) #[true, true, true, true, true, true, true, true, true, true] rfl rfl (by kernel_rfl) (fun _ _ _ h => h) (Or.inl ⟨by rfl, ?_⟩) ?_ ?_
      rotate_left
      · intro w'
        go_simp
        with_reducible rfl
      rotate_left
      · simp only [Act.put, List.setIfInBounds_toArray, List.set_cons_zero, List.set_cons_succ, i64_w, i32_w]
        rfl
      refine done_ (by kernel_rfl) ?_
      have Sn_ := Aside0.mk (hHw1_)
      clear S
      have S := Sn_
      clear Sn_
      clear hH_ hHw1_
      go_wp2
      go_roundg (gs.length + 1 - (k + 1))
      case measure => omega
      case rel => exact ⟨k + 1, by omega, rfl, by go_num, S⟩
    · go_wp2
      go_ret
      exact ⟨rfl, S.out.base⟩
set_option maxRecDepth 100000 in
theorem eqW_same (A : Option Addr) (c : Nat) (B : Option Addr) (d : Nat) (A2 : Option Addr) (c2 : Nat) (B2 : Option Addr) (d2 : Nat) (l : List Int) (gs : List Gu) (w : World) (hu : UC w A c l) (hu2 : UC w A2 c2 l) (h : GsC w B d gs) (h2 : GsC w B2 d2 gs) (hl : l.length ≤ 1048576) (hg : gs.length ≤ 1048576) (hls : ∀ g ∈ gs, g.snap.length ≤ 1048576 ∧ g.plan.length ≤ 1048576) :
    Calls Try.prog 17 #[.agg #[.slice A l.length c, .slice B gs.length d], .agg #[.slice A2 l.length c2, .slice B2 gs.length d2]] w fun e w' => e = .returned (.bool true) ∧ Below w.heap.size w w' := by
  have HR := Aside0.mk h
  have HQ := Aside0.mk h2
  have HU := Aside0.mk hu
  have HV := Aside0.mk hu2
  have HL := Aside0.mk hls
  clear h h2 hu hu2 hls
  have S := Aside0.mk (St.start w)
  go_enter Try.func17, Try.ntmps17
  go_wp2_with (first | ((with_reducible refine gate_dst (N := 2) rfl ?_); refine box_event rfl (N := 2) rfl (cs := #[.slice A l.length c, .slice B gs.length d]) (t := 34) (by first | (go_simp; done) | (go_simp; rfl)) ?_; intro g2 hg_ w1 hbox_ hb_; have Sn_ := Aside0.mk (S.out.box hg_ hbox_ hb_); clear hbox_ hb_ hg_ S; have S := Sn_; clear Sn_; have f_g2_0 : w1.cell? ⟨g2, 0, none⟩ = some (.slice A l.length c) := (S.out.cell 0 rfl 0).trans rfl; have z_g2_0 := S.out.frozen 0 rfl 0) | ((with_reducible refine gate_dst (N := 3) rfl ?_); refine box_event rfl (N := 3) rfl (cs := #[.slice A2 l.length c2, .slice B2 gs.length d2]) (t := 34) (by first | (go_simp; done) | (go_simp; rfl)) ?_; intro g3 hg_ w2 hbox_ hb_; have Sn_ := Aside0.mk (S.out.box hg_ hbox_ hb_); clear hbox_ hb_ hg_ S; have S := Sn_; clear Sn_; have f_g2_0 : w2.cell? ⟨g2, 0, none⟩ = some (.slice A l.length c) := (S.out.cell 1 rfl 0).trans rfl; have z_g2_0 := S.out.frozen 1 rfl 0; have f_g3_0 : w2.cell? ⟨g3, 0, none⟩ = some (.slice A2 l.length c2) := (S.out.cell 0 rfl 0).trans rfl; have z_g3_0 := S.out.frozen 0 rfl 0))
  refine (eqU_same A c A2 c2 l _ (HU.out.below S.out.base) (HV.out.below S.out.base) (by omega)).mono ?_
  rintro e w3 ⟨rfl, hd⟩
  have hb := hd.below
  clear hd
  clear f_g2_0 z_g2_0 f_g3_0 z_g3_0
  have Sn_ := Aside0.mk (S.out.call hb)
  clear S hb
  have S := Sn_
  clear Sn_
  have f_g2_1 : w3.cell? ⟨g2, 1, none⟩ = some (.slice B gs.length d) := (S.out.cell 1 rfl 1).trans rfl
  have z_g2_1 := S.out.frozen 1 rfl 1
  have f_g3_1 : w3.cell? ⟨g3, 1, none⟩ = some (.slice B2 gs.length d2) := (S.out.cell 0 rfl 1).trans rfl
  have z_g3_1 := S.out.frozen 0 rfl 1
  go_wp2_with fail
  refine (eqGs_same B d B2 d2 gs _ (HR.out.below S.out.base) (HQ.out.below S.out.base) hg HL.out).mono ?_
  rintro e w4 ⟨rfl, hb⟩
  clear f_g2_1 z_g2_1 f_g3_1 z_g3_1
  have Sn_ := Aside0.mk (S.out.call hb)
  clear S hb
  have S := Sn_
  clear Sn_
  go_wp2
  go_ret
  exact ⟨rfl, S.out.base⟩
end Go.Proofs.Ytfpdccaomhjpjaa.Gu

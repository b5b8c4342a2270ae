/- Walks and plain laws that this claim's texts name, part 3. -/
import Derived.Test.YtekneicikmaplaaBx1
import Derived.Test.YtekneicikmaplaaBx2
set_option linter.unusedVariables false
set_option linter.unusedSimpArgs false
namespace Go.Proofs.Ytekneicikmaplaa.Bk
open Go.RowKit Go.Proofs.Ytekneicikmaplaa.PFnBookOf Go.Proofs.YtekneicikmaplaaW.PrintWords Go.Proofs.YtekneicikmaplaaW.PrintLast Go.Proofs.YtekneicikmaplaaW.PrintMore
theorem Sx.read {ar : Nat → Prop} {w0 w1 w w' : World} {rs : List Rx} {g : Nat} {bs : List Int} {p p' : Int} (h : Sx ar w1 w rs) (i : Nat) (hi : rs[i]? = some (Rr w0 g bs p)) (hI : IsS74 w0 w' g bs p') (hf : Fr (fun k => k = g) w w')
    {rs' : List Rx} (e : rs.set i (Rr w0 g bs p') = rs') : Sx ar w1 w' rs' :=
  h.put (r' := Rr w0 g bs p') i hi hf hI (Rr.stable _ _ _ _) (fun k hk => ⟨.inl hk, by have hk : k = g := hk; rw [hk]; exact hI.lt⟩) e
theorem Sx.perm {ar : Nat → Prop} {w1 w : World} {rs rs' : List Rx} (h : Sx ar w1 w rs) (e : rs.Perm rs') : Sx ar w1 w rs' :=
  ⟨h.base, fun r hr => h.has r (e.mem_iff.2 hr), e.pairwise h.apart (fun {a b} q k hb ha => q k ha hb)⟩
theorem BoV.fr {V : Nat → Value} {L : Nat → List Int} {w w' : World} {own : Nat → Prop} (h : BoV V L w) (hf : Fr own w w') (ha : ∀ k, ownV V k → ¬ own k) : BoV V L w' :=
  Rb.stable V L w w' h hf.size (fun k hk => hf.block k (h.lt hk) (ha k hk))
theorem BoV.rowCell {V : Nat → Value} {L : Nat → List Int} {w : World} (h : BoV V L w) {i : Nat} (hi : i < 8) {g o m cap : Nat} (hv : V i = .slice (some ⟨g, o, none⟩) m cap) (k : Nat) (hk : k < (L i).length) :
    w.cell? ⟨g, o + k, none⟩ = some (.int .i64 ((L i).getD k 0)) ∧ w.frozen? ⟨g, o + k, none⟩ = false := by
  obtain ⟨g', o', cap', e, h1, h2⟩ := (h.1 i hi).at k hk
  rw [hv] at e
  injection e with e1 e2 e3
  injection e1 with e1
  injection e1 with e4 e5 e6
  subst e4 e5
  exact ⟨h1, h2⟩
theorem wrapl {n : Nat} (h1 : n ≤ 48) : 1 ≤ wrap64 ((n : Int) + 2) ∧ wrap64 ((n : Int) + 2) ≤ 50 := by unfold wrap64; omega
set_option maxHeartbeats 16000000 in
set_option maxRecDepth 100000 in
theorem l3Op_calls {w0 : World} {g : Nat} {bs : List Int} {p : Int} (hs : BsOk bs) (p0 : 0 ≤ p) (p1 : p ≤ 1000000) (s : Int) (V : Nat → Value) (L : Nat → List Int) (hW : Wd s L) (w : World) (hI : IsS74 w0 w g bs p) (hB : Below w0.heap.size w0 w) (h : BoV V L w) (hap : ∀ k, ownV V k → ¬ k = g) :
    Calls Try.prog 93 #[.pointer (some ⟨g, 0, none⟩), .agg (bkV s V)] w fun e w' => ∃ kd x A B p' : Int, e = .returned (.agg #[.int .i64 kd, .int .i64 x, .int .i64 A, .int .i64 B]) ∧ (-1000 ≤ x ∧ x ≤ 1000) ∧ (-1000 ≤ A ∧ A ≤ 1000) ∧ (-1000 ≤ B ∧ B ≤ 1000) ∧ IsS74 w0 w' g bs p' ∧ p ≤ p' ∧ p' ≤ p + 10 ∧ Fr (fun k => k = g) w w' := by
  obtain ⟨hl6, hl1, hl5, hl48, hlI, hlE, hs1, hs4⟩ := hW.rows
  have HW := Aside0.mk hW
  have HBS := Aside0.mk hs
  have S : Aside0 (Sx (fun k => k = g) w w [Rr w0 g bs p]) := ⟨Sx.one (r := Rr w0 g bs p) hI (Rr.stable _ _ _ _) (fun k hk => by have hk : k = g := hk; rw [hk]; exact hI.lt)⟩
  have HBW : Aside0 (∀ w', Fr (fun k => k = g) w w' → Below w0.heap.size w0 w') := ⟨fun w' hf => below_fr hB hf (fun k hk => by have hk : k = g := hk; rw [hk]; exact hI.ge)⟩
  have HBV : Aside0 (∀ w', Fr (fun k => k = g) w w' → BoV V L w') := ⟨fun w' hf => h.fr hf hap⟩
  obtain ⟨g5, o5, cap5, hv5, _, _⟩ := (h.1 5 (by omega)).at 0 (by omega)
  clear hW h hI hB hs hap hl5 hl6
  go_enter Try.func93, Try.ntmps93
  go_upto_region 1 with (first | ((with_reducible refine gate_dst (N := 3) rfl ?_); refine box_event rfl (N := 3) rfl (cs := bkV s V) (t := 27) (by first | (go_simp; done) | (go_simp; rfl)) ?_; intro gb hg_ w1 hbox_ hb_; have Sn_ := Aside0.mk (S.out.box hg_ hbox_ hb_); clear hbox_ hb_ hg_ S; have S := Sn_; clear Sn_) | ((with_reducible refine gate_dst (N := 4) rfl ?_); refine box_event rfl (N := 4) rfl (cs := #[.int .i64 0, .int .i64 0, .int .i64 0, .int .i64 0]) (t := 80) (by first | (go_simp; done) | (go_simp; rfl)) ?_; intro gr hg_ w2 hbox_ hb_; have Sn_ := Aside0.mk (S.out.box hg_ hbox_ hb_); clear hbox_ hb_ hg_ S; have S := Sn_; clear Sn_))
  go_wp2_with fail
  refine (numL HBS.out (S.out.get 2 rfl) (HBW.out _ S.out.base) (by omega) (by omega) [1, 2, 2, 2, 2, 3, 3, 3, 4, 5, 6, 6] (by decide) (by decide)).mono ?_
  rintro e w3 ⟨kd, rfl, hm_kd, hI_, hf_⟩
  have Sn_ := Aside0.mk (S.out.read (rs' := [Bx gr (#[.int .i64 0, .int .i64 0, .int .i64 0, .int .i64 0]) 80, Bx gb (bkV s V) 27, Rr w0 g bs (p + 1)]) 2 rfl hI_ hf_ rfl)
  clear S hI_ hf_
  have S := Sn_
  clear Sn_
  go_wp2_with fail
  refine (pickS HBS.out (S.out.get 2 rfl) (HBW.out _ S.out.base) (by omega) (by omega) (3) (by omega)).mono ?_
  rintro e w4 ⟨x, rfl, x0, x1, hI_, hf_⟩
  have Sn_ := Aside0.mk (S.out.read (rs' := [Bx gr (#[.int .i64 0, .int .i64 0, .int .i64 0, .int .i64 0]) 80, Bx gb (bkV s V) 27, Rr w0 g bs ((p + 1) + 1)]) 2 rfl hI_ hf_ rfl)
  clear S hI_ hf_
  have S := Sn_
  clear Sn_
  clear hm_kd
  go_upto_region 2 with (first | ((with_reducible refine gate_dst (N := 5) rfl ?_); refine box_event rfl (N := 5) rfl (cs := #[.int .i64 0, .int .i64 0, .int .i64 0, .int .i64 0]) (t := 80) (by first | (go_simp; done) | (go_simp; rfl)) ?_; intro go hg_ w5 hbox_ hb_; have Sn_ := Aside0.mk (S.out.box hg_ hbox_ hb_); clear hbox_ hb_ hg_ S; have S := Sn_; clear Sn_) | ((with_reducible refine gate_store (t := 80) (p := 5) rfl ?_); refine store_event (t := 80) (p := 5) (v := ?vo_1) (w1 := w5.setRow go (#[.int .i64 kd, .int .i64 x, .int .i64 0, .int .i64 0])) ?hg ?ho ?hn ?hr ?_; (case ho => rfl); (case hg => rfl); (case hn => rfl); (case hr => exact (Row.store_row_run (g := go) (cells := #[.int .i64 kd, .int .i64 x, .int .i64 0, .int .i64 0]) (t := 80) (old := #[.int .i64 0, .int .i64 0, .int .i64 0, .int .i64 0]) rfl (by rfl) (by rfl) (S.out.blk 0 rfl) (by kernel_rfl) rfl (by simp [Value.oneCell']))); intro w6 hw_; have Sn_ := Aside0.mk ((S.out.setRow (cs' := #[.int .i64 kd, .int .i64 x, .int .i64 0, .int .i64 0]) (rs' := [Bx go (#[.int .i64 kd, .int .i64 x, .int .i64 0, .int .i64 0]) 80, Bx gr (#[.int .i64 0, .int .i64 0, .int .i64 0, .int .i64 0]) 80, Bx gb (bkV s V) 27, Rr w0 g bs ((p + 1) + 1)]) 0 rfl rfl).of hw_); clear S hw_; have S := Sn_; clear Sn_))
  have f_go_0 : w6.cell? ⟨go, 0, none⟩ = some (.int .i64 kd) := (S.out.cell 0 rfl 0).trans rfl
  by_cases k2 : kd = 2
  · have b2 : (kd == 2) = true := beq_iff_eq.mpr k2
    clear k2
    go_wp2_with fail
    refine (numL HBS.out (S.out.get 3 rfl) (HBW.out _ S.out.base) (by omega) (by omega) [1, 1, 2, 2, 3, 4, 5, 8, 9, 16, 17, 24, 32, 33, 0] (by decide) (by decide)).mono ?_
    rintro e w7 ⟨A, rfl, hm_A, hI_, hf_⟩
    have Sn_ := Aside0.mk (S.out.read (rs' := [Bx go (#[.int .i64 kd, .int .i64 x, .int .i64 0, .int .i64 0]) 80, Bx gr (#[.int .i64 0, .int .i64 0, .int .i64 0, .int .i64 0]) 80, Bx gb (bkV s V) 27, Rr w0 g bs (((p + 1) + 1) + 1)]) 3 rfl hI_ hf_ rfl)
    clear S hI_ hf_
    have S := Sn_
    clear Sn_
    have hA : 0 ≤ A ∧ A ≤ 33 := by
      simp only [List.mem_cons, List.not_mem_nil, or_false] at hm_A
      omega
    clear hm_A
    obtain ⟨hA0, hA1⟩ := hA
    have f_go_2 : w7.cell? ⟨go, 2, none⟩ = some (.int .i64 0) := (S.out.cell 0 rfl 2).trans rfl
    have z_go_2 := S.out.frozen 0 rfl 2
    go_upto_region 20 with (first | ((with_reducible refine gate_store (t := 3) (p := 21) rfl ?_); refine store_event (t := 3) (p := 21) (v := ?vo_2) (w1 := w7.setCell ⟨go, 2, none⟩ (.int .i64 (A))) ?hg ?ho ?hn ?hr ?_; (case ho => rfl); (case hg => rfl); (case hn => rfl); (case hr => first | (go_simp; done) | (go_simp; rfl)); intro w8 hw_; have Sn_ := Aside0.mk ((S.out.setCell (cs' := #[.int .i64 kd, .int .i64 x, .int .i64 (A), .int .i64 0]) (rs' := [Bx go (#[.int .i64 kd, .int .i64 x, .int .i64 (A), .int .i64 0]) 80, Bx gr (#[.int .i64 0, .int .i64 0, .int .i64 0, .int .i64 0]) 80, Bx gb (bkV s V) 27, Rr w0 g bs (((p + 1) + 1) + 1)]) 0 rfl 2 (.int .i64 (A)) (by simp only [List.setIfInBounds_toArray, List.set_cons_zero, List.set_cons_succ]) rfl).of hw_); clear S hw_; have S := Sn_; clear Sn_))
    go_wp2_with fail
    refine (pickS HBS.out (S.out.get 3 rfl) (HBW.out _ S.out.base) (by omega) (by omega) (20) (by omega)).mono ?_
    rintro e w9 ⟨ze, rfl, ze0, ze1, hI_, hf_⟩
    have Sn_ := Aside0.mk (S.out.read (rs' := [Bx go (#[.int .i64 kd, .int .i64 x, .int .i64 (A), .int .i64 0]) 80, Bx gr (#[.int .i64 0, .int .i64 0, .int .i64 0, .int .i64 0]) 80, Bx gb (bkV s V) 27, Rr w0 g bs ((((p + 1) + 1) + 1) + 1)]) 3 rfl hI_ hf_ rfl)
    clear S hI_ hf_
    have S := Sn_
    clear Sn_
    by_cases hz : ze = 0
    · have bz : (ze == 0) = true := beq_iff_eq.mpr hz
      clear hz
      go_wp2_with fail
      refine (numL HBS.out (S.out.get 3 rfl) (HBW.out _ S.out.base) (by omega) (by omega) [0, 7, -1] (by decide) (by decide)).mono ?_
      rintro e w10 ⟨zk, rfl, hm_zk, hI_, hf_⟩
      have Sn_ := Aside0.mk (S.out.read (rs' := [Bx go (#[.int .i64 kd, .int .i64 x, .int .i64 (A), .int .i64 0]) 80, Bx gr (#[.int .i64 0, .int .i64 0, .int .i64 0, .int .i64 0]) 80, Bx gb (bkV s V) 27, Rr w0 g bs (((((p + 1) + 1) + 1) + 1) + 1)]) 3 rfl hI_ hf_ rfl)
      clear S hI_ hf_
      have S := Sn_
      clear Sn_
      have f_go_0 : w10.cell? ⟨go, 0, none⟩ = some (.int .i64 kd) := (S.out.cell 0 rfl 0).trans rfl
      have z_go_0 := S.out.frozen 0 rfl 0
      go_wp2_with (first | ((with_reducible refine gate_store (t := 3) (p := 91) rfl ?_); refine store_event (t := 3) (p := 91) (v := ?vo_3) (w1 := w10.setCell ⟨go, 0, none⟩ (.int .i64 (zk))) ?hg ?ho ?hn ?hr ?_; (case ho => rfl); (case hg => rfl); (case hn => rfl); (case hr => first | (go_simp; done) | (go_simp; rfl)); intro w11 hw_; have Sn_ := Aside0.mk ((S.out.setCell (cs' := #[.int .i64 (zk), .int .i64 x, .int .i64 (A), .int .i64 0]) (rs' := [Bx go (#[.int .i64 (zk), .int .i64 x, .int .i64 (A), .int .i64 0]) 80, Bx gr (#[.int .i64 0, .int .i64 0, .int .i64 0, .int .i64 0]) 80, Bx gb (bkV s V) 27, Rr w0 g bs (((((p + 1) + 1) + 1) + 1) + 1)]) 0 rfl 0 (.int .i64 (zk)) (by simp only [List.setIfInBounds_toArray, List.set_cons_zero, List.set_cons_succ]) rfl).of hw_); clear S hw_; have S := Sn_; clear Sn_) | ((with_reducible refine gate_dst (N := 92) rfl ?_); refine Kd.event_run rfl (Row.load_row_run (g := go) (t := 80) (cells := #[.int .i64 (zk), .int .i64 x, .int .i64 (A), .int .i64 0]) rfl rfl (S.out.blk 0 rfl) Try.underlying80 rfl (by kernel_rfl)) ?_) | ((with_reducible refine gate_store (t := 80) (p := 4) rfl ?_); refine store_event (t := 80) (p := 4) (v := ?vo_4) (w1 := w11.setRow gr (#[.int .i64 (zk), .int .i64 x, .int .i64 (A), .int .i64 0])) ?hg ?ho ?hn ?hr ?_; (case ho => rfl); (case hg => rfl); (case hn => rfl); (case hr => exact (Row.store_row_run (g := gr) (cells := #[.int .i64 (zk), .int .i64 x, .int .i64 (A), .int .i64 0]) (t := 80) (old := #[.int .i64 0, .int .i64 0, .int .i64 0, .int .i64 0]) rfl (by rfl) (by rfl) (S.out.blk 1 rfl) (by kernel_rfl) rfl (by simp [Value.oneCell']))); intro w12 hw_; have Sn_ := Aside0.mk ((S.out.setRow (cs' := #[.int .i64 (zk), .int .i64 x, .int .i64 (A), .int .i64 0]) (rs' := [Bx go (#[.int .i64 (zk), .int .i64 x, .int .i64 (A), .int .i64 0]) 80, Bx gr (#[.int .i64 (zk), .int .i64 x, .int .i64 (A), .int .i64 0]) 80, Bx gb (bkV s V) 27, Rr w0 g bs (((((p + 1) + 1) + 1) + 1) + 1)]) 1 rfl rfl).of hw_); clear S hw_; have S := Sn_; clear Sn_))
      refine bodyPost_ret (results_cell_row rfl _ _ gr 80 (#[.int .i64 (zk), .int .i64 x, .int .i64 (A), .int .i64 0]) (0, 0) _ rfl (S.out.blk 1 rfl) Try.underlying80 rfl (by kernel_rfl)) rfl ?_
      exact ⟨_, _, _, _, (((((p + 1) + 1) + 1) + 1) + 1), rfl, ⟨by omega, by omega⟩, ⟨by omega, by omega⟩, ⟨by omega, by omega⟩, S.out.get 3 rfl, by omega, by omega, S.out.base⟩
    · have bz : (ze == 0) = false := beq_eq_false_iff_ne.mpr hz
      clear hz
      go_wp2_with (first | ((with_reducible refine gate_dst (N := 92) rfl ?_); refine Kd.event_run rfl (Row.load_row_run (g := go) (t := 80) (cells := #[.int .i64 kd, .int .i64 x, .int .i64 (A), .int .i64 0]) rfl rfl (S.out.blk 0 rfl) Try.underlying80 rfl (by kernel_rfl)) ?_) | ((with_reducible refine gate_store (t := 80) (p := 4) rfl ?_); refine store_event (t := 80) (p := 4) (v := ?vo_5) (w1 := w9.setRow gr (#[.int .i64 kd, .int .i64 x, .int .i64 (A), .int .i64 0])) ?hg ?ho ?hn ?hr ?_; (case ho => rfl); (case hg => rfl); (case hn => rfl); (case hr => exact (Row.store_row_run (g := gr) (cells := #[.int .i64 kd, .int .i64 x, .int .i64 (A), .int .i64 0]) (t := 80) (old := #[.int .i64 0, .int .i64 0, .int .i64 0, .int .i64 0]) rfl (by rfl) (by rfl) (S.out.blk 1 rfl) (by kernel_rfl) rfl (by simp [Value.oneCell']))); intro w13 hw_; have Sn_ := Aside0.mk ((S.out.setRow (cs' := #[.int .i64 kd, .int .i64 x, .int .i64 (A), .int .i64 0]) (rs' := [Bx go (#[.int .i64 kd, .int .i64 x, .int .i64 (A), .int .i64 0]) 80, Bx gr (#[.int .i64 kd, .int .i64 x, .int .i64 (A), .int .i64 0]) 80, Bx gb (bkV s V) 27, Rr w0 g bs ((((p + 1) + 1) + 1) + 1)]) 1 rfl rfl).of hw_); clear S hw_; have S := Sn_; clear Sn_))
      refine bodyPost_ret (results_cell_row rfl _ _ gr 80 (#[.int .i64 kd, .int .i64 x, .int .i64 (A), .int .i64 0]) (0, 0) _ rfl (S.out.blk 1 rfl) Try.underlying80 rfl (by kernel_rfl)) rfl ?_
      exact ⟨_, _, _, _, ((((p + 1) + 1) + 1) + 1), rfl, ⟨by omega, by omega⟩, ⟨by omega, by omega⟩, ⟨by omega, by omega⟩, S.out.get 3 rfl, by omega, by omega, S.out.base⟩
  have b2 : (kd == 2) = false := beq_eq_false_iff_ne.mpr k2
  clear k2
  by_cases k3 : kd = 3
  · have b3 : (kd == 3) = true := beq_iff_eq.mpr k3
    clear k3
    have f_gb_6 : w6.cell? ⟨gb, 6, none⟩ = some (.slice (some ⟨g5, o5, none⟩) (L 5).length cap5) := (S.out.cell 2 rfl 6).trans (by rw [← hv5]; rfl)
    go_wp2_with fail
    have hwl := wrapl hl48
    refine (pickS HBS.out (S.out.get 3 rfl) (HBW.out _ S.out.base) (by omega) (by omega) (_) (by first | exact hwl.1 | omega)).mono ?_
    rintro e w14 ⟨ra, rfl, ra0, ra1, hI_, hf_⟩
    have Sn_ := Aside0.mk (S.out.read (rs' := [Bx go (#[.int .i64 kd, .int .i64 x, .int .i64 0, .int .i64 0]) 80, Bx gr (#[.int .i64 0, .int .i64 0, .int .i64 0, .int .i64 0]) 80, Bx gb (bkV s V) 27, Rr w0 g bs (((p + 1) + 1) + 1)]) 3 rfl hI_ hf_ rfl)
    clear S hI_ hf_
    have S := Sn_
    clear Sn_
    have hra : ra ≤ 50 := by omega
    clear ra1 hwl
    have f_go_2 : w14.cell? ⟨go, 2, none⟩ = some (.int .i64 0) := (S.out.cell 0 rfl 2).trans rfl
    have z_go_2 := S.out.frozen 0 rfl 2
    go_upto_region 9 with (first | ((with_reducible refine gate_store (t := 3) (p := 32) rfl ?_); refine store_event (t := 3) (p := 32) (v := ?vo_6) (w1 := w14.setCell ⟨go, 2, none⟩ (.int .i64 (ra - 1))) ?hg ?ho ?hn ?hr ?_; (case ho => rfl); (case hg => rfl); (case hn => rfl); (case hr => first | (go_simp; done) | (go_simp; rfl)); intro w15 hw_; have Sn_ := Aside0.mk ((S.out.setCell (cs' := #[.int .i64 kd, .int .i64 x, .int .i64 (ra - 1), .int .i64 0]) (rs' := [Bx go (#[.int .i64 kd, .int .i64 x, .int .i64 (ra - 1), .int .i64 0]) 80, Bx gr (#[.int .i64 0, .int .i64 0, .int .i64 0, .int .i64 0]) 80, Bx gb (bkV s V) 27, Rr w0 g bs (((p + 1) + 1) + 1)]) 0 rfl 2 (.int .i64 (ra - 1)) (by simp only [List.setIfInBounds_toArray, List.set_cons_zero, List.set_cons_succ]) rfl).of hw_); clear S hw_; have S := Sn_; clear Sn_))
    have S1 : Aside0 (Sx (fun k => k = g) w (w15.alloc (.cells #[] 3)) (Rl (.slice (some ⟨w15.heap.size, 0, none⟩) 0 0) ([]) :: [Bx go (#[.int .i64 kd, .int .i64 x, .int .i64 (ra - 1), .int .i64 0]) 80, Bx gr (#[.int .i64 0, .int .i64 0, .int .i64 0, .int .i64 0]) 80, Bx gb (bkV s V) 27, Rr w0 g bs (((p + 1) + 1) + 1)])) := ⟨S.out.new (below_alloc (Below.refl _ _) _) (.inr ⟨w15.heap.size, 0, 0, #[], rfl, heap_alloc_new _ _, Nat.le_refl _, by omega, by simp, fun j hj => by simp at hj⟩) (Rl.stable _ _) (fun j hj => by obtain rfl := Option.some.inj hj; exact ⟨Nat.le_refl _, by simp⟩)⟩
    clear S
    go_wp2_with fail
    go_loopg [6, 7] ((L 5).length + 1) (fun kq x6 v7 w' => ∃ (i : Nat) (u6 : Value) (T : List Int), i ≤ (L 5).length ∧ kq = (L 5).length + 1 - i ∧ x6 = u6 ∧ v7 = .int .i64 i ∧ Aside0 (T.length ≤ i ∧ ∀ y ∈ T, 0 ≤ y ∧ y < ((L 5).length : Int)) ∧ Aside0 (Sx (fun k => k = g) w w' (Rl u6 (T) :: [Bx go (#[.int .i64 kd, .int .i64 x, .int .i64 (ra - 1), .int .i64 0]) 80, Bx gr (#[.int .i64 0, .int .i64 0, .int .i64 0, .int .i64 0]) 80, Bx gb (bkV s V) 27, Rr w0 g bs (((p + 1) + 1) + 1)])))
    case atStart => exact ⟨0, _, [], by omega, by omega, rfl, rfl, ⟨⟨Nat.le_refl _, fun y hy => by cases hy⟩⟩, S1⟩
    case round =>
      clear S1
      obtain ⟨i, u6, T, hi, rfl, rfl, rfl, HT, S⟩ := hrel
      by_cases hlt : i < (L 5).length
      · skip
        obtain ⟨A6, c6, e6⟩ := (S.out.get 0 rfl).form
        subst e6
        have hi2 : (i : Int) < ((L 5).length : Int) := by omega
        have hT48 : T.length ≤ 48 := by have := HT.out.1; omega
        obtain ⟨hci, hzi⟩ := (HBV.out _ S.out.base).rowCell (i := 5) (by omega) hv5 i hlt
        obtain ⟨y, hy⟩ : ∃ y, (L 5).getD i 0 = y := ⟨_, rfl⟩
        rw [hy] at hci
        clear hy
        have f_gb_6 : wr.cell? ⟨gb, 6, none⟩ = some (.slice (some ⟨g5, o5, none⟩) (L 5).length cap5) := (S.out.cell 3 rfl 6).trans (by rw [← hv5]; rfl)
        by_cases hy : y > 0
        · have by_ : decide (0 < y) = true := decide_eq_true hy
          clear hy
          go_wp2_with (first | ((with_reducible refine gate_builtin (b := .append) (xs := #[.tmp 47, .tmp 49]) rfl ?_); at_builtin; refine ir_append rfl (.tmp 47) (.tmp 49) 24 rfl Try.underlying24 info3 (.slice A6 T.length c6) T (i : Int) (by first | rfl | (go_simp; done)) (by first | rfl | (go_simp; done)) (S.out.get 0 rfl) (by omega) ?_; intro v1 wa ho_ hf_ hown_; have Sn_ := Aside0.mk (S.out.put 0 rfl (r' := Rl v1 (T ++ [(i : Int)])) (rs' := [Rl v1 (T ++ [(i : Int)]), Bx go (#[.int .i64 kd, .int .i64 x, .int .i64 (ra - 1), .int .i64 0]) 80, Bx gr (#[.int .i64 0, .int .i64 0, .int .i64 0, .int .i64 0]) 80, Bx gb (bkV s V) 27, Rr w0 g bs (((p + 1) + 1) + 1)]) hf_ ho_ (Rl.stable _ _) hown_ rfl); clear ho_ hf_ hown_ S; have S := Sn_; clear Sn_))
          go_roundg ((L 5).length + 1 - (i + 1))
          case measure => omega
          case rel =>
            refine ⟨i + 1, _, T ++ [(i : Int)], by omega, rfl, rfl, by go_num, ⟨?_⟩, S⟩
            have h1 := HT.out.1
            refine ⟨by simp; omega, fun z hz => ?_⟩
            rcases List.mem_append.1 hz with hz | hz
            · exact HT.out.2 z hz
            · obtain rfl := List.mem_singleton.1 hz
              exact ⟨by omega, by omega⟩
        · have by_ : decide (0 < y) = false := decide_eq_false hy
          clear hy
          go_wp2
          go_roundg ((L 5).length + 1 - (i + 1))
          case measure => omega
          case rel => exact ⟨i + 1, _, T, by omega, rfl, rfl, by go_num, ⟨⟨by have := HT.out.1; omega, HT.out.2⟩⟩, S⟩
      · skip
        have hT48 : T.length ≤ 48 := by have := HT.out.1; omega
        have hie : i = (L 5).length := by omega
        subst hie
        clear hlt
        by_cases hT0 : T = []
        · subst hT0
          obtain ⟨A6, c6, e6⟩ := (S.out.get 0 rfl).form
          subst e6
          have f_gb_6 : wr.cell? ⟨gb, 6, none⟩ = some (.slice (some ⟨g5, o5, none⟩) (L 5).length cap5) := (S.out.cell 3 rfl 6).trans (by rw [← hv5]; rfl)
          have Sn_ := Aside0.mk (S.out.drop (rs' := [Bx go (#[.int .i64 kd, .int .i64 x, .int .i64 (ra - 1), .int .i64 0]) 80, Bx gr (#[.int .i64 0, .int .i64 0, .int .i64 0, .int .i64 0]) 80, Bx gb (bkV s V) 27, Rr w0 g bs (((p + 1) + 1) + 1)]) 0 rfl)
          clear S
          have S := Sn_
          clear Sn_
          go_wp2_with fail
          refine (pickS HBS.out (S.out.get 3 rfl) (HBW.out _ S.out.base) (by omega) (by omega) (4) (by omega)).mono ?_
          rintro e w16 ⟨rb, rfl, rb0, rb1, hI_, hf_⟩
          have Sn_ := Aside0.mk (S.out.read (rs' := [Bx go (#[.int .i64 kd, .int .i64 x, .int .i64 (ra - 1), .int .i64 0]) 80, Bx gr (#[.int .i64 0, .int .i64 0, .int .i64 0, .int .i64 0]) 80, Bx gb (bkV s V) 27, Rr w0 g bs ((((p + 1) + 1) + 1) + 1)]) 3 rfl hI_ hf_ rfl)
          clear S hI_ hf_
          have S := Sn_
          clear Sn_
          have f_go_3 : w16.cell? ⟨go, 3, none⟩ = some (.int .i64 0) := (S.out.cell 0 rfl 3).trans rfl
          have z_go_3 := S.out.frozen 0 rfl 3
          go_upto_region 20 with (first | ((with_reducible refine gate_store (t := 3) (p := 78) rfl ?_); refine store_event (t := 3) (p := 78) (v := ?vo_7) (w1 := w16.setCell ⟨go, 3, none⟩ (.int .i64 (rb - 1))) ?hg ?ho ?hn ?hr ?_; (case ho => rfl); (case hg => rfl); (case hn => rfl); (case hr => first | (go_simp; done) | (go_simp; rfl)); intro w17 hw_; have Sn_ := Aside0.mk ((S.out.setCell (cs' := #[.int .i64 kd, .int .i64 x, .int .i64 (ra - 1), .int .i64 (rb - 1)]) (rs' := [Bx go (#[.int .i64 kd, .int .i64 x, .int .i64 (ra - 1), .int .i64 (rb - 1)]) 80, Bx gr (#[.int .i64 0, .int .i64 0, .int .i64 0, .int .i64 0]) 80, Bx gb (bkV s V) 27, Rr w0 g bs ((((p + 1) + 1) + 1) + 1)]) 0 rfl 3 (.int .i64 (rb - 1)) (by simp only [List.setIfInBounds_toArray, List.set_cons_zero, List.set_cons_succ]) rfl).of hw_); clear S hw_; have S := Sn_; clear Sn_))
          go_wp2_with fail
          refine (pickS HBS.out (S.out.get 3 rfl) (HBW.out _ S.out.base) (by omega) (by omega) (20) (by omega)).mono ?_
          rintro e w18 ⟨ze, rfl, ze0, ze1, hI_, hf_⟩
          have Sn_ := Aside0.mk (S.out.read (rs' := [Bx go (#[.int .i64 kd, .int .i64 x, .int .i64 (ra - 1), .int .i64 (rb - 1)]) 80, Bx gr (#[.int .i64 0, .int .i64 0, .int .i64 0, .int .i64 0]) 80, Bx gb (bkV s V) 27, Rr w0 g bs (((((p + 1) + 1) + 1) + 1) + 1)]) 3 rfl hI_ hf_ rfl)
          clear S hI_ hf_
          have S := Sn_
          clear Sn_
          by_cases hz : ze = 0
          · have bz : (ze == 0) = true := beq_iff_eq.mpr hz
            clear hz
            go_wp2_with fail
            refine (numL HBS.out (S.out.get 3 rfl) (HBW.out _ S.out.base) (by omega) (by omega) [0, 7, -1] (by decide) (by decide)).mono ?_
            rintro e w19 ⟨zk, rfl, hm_zk, hI_, hf_⟩
            have Sn_ := Aside0.mk (S.out.read (rs' := [Bx go (#[.int .i64 kd, .int .i64 x, .int .i64 (ra - 1), .int .i64 (rb - 1)]) 80, Bx gr (#[.int .i64 0, .int .i64 0, .int .i64 0, .int .i64 0]) 80, Bx gb (bkV s V) 27, Rr w0 g bs ((((((p + 1) + 1) + 1) + 1) + 1) + 1)]) 3 rfl hI_ hf_ rfl)
            clear S hI_ hf_
            have S := Sn_
            clear Sn_
            have f_go_0 : w19.cell? ⟨go, 0, none⟩ = some (.int .i64 kd) := (S.out.cell 0 rfl 0).trans rfl
            have z_go_0 := S.out.frozen 0 rfl 0
            go_wp2_with (first | ((with_reducible refine gate_store (t := 3) (p := 91) rfl ?_); refine store_event (t := 3) (p := 91) (v := ?vo_8) (w1 := w19.setCell ⟨go, 0, none⟩ (.int .i64 (zk))) ?hg ?ho ?hn ?hr ?_; (case ho => rfl); (case hg => rfl); (case hn => rfl); (case hr => first | (go_simp; done) | (go_simp; rfl)); intro w20 hw_; have Sn_ := Aside0.mk ((S.out.setCell (cs' := #[.int .i64 (zk), .int .i64 x, .int .i64 (ra - 1), .int .i64 (rb - 1)]) (rs' := [Bx go (#[.int .i64 (zk), .int .i64 x, .int .i64 (ra - 1), .int .i64 (rb - 1)]) 80, Bx gr (#[.int .i64 0, .int .i64 0, .int .i64 0, .int .i64 0]) 80, Bx gb (bkV s V) 27, Rr w0 g bs ((((((p + 1) + 1) + 1) + 1) + 1) + 1)]) 0 rfl 0 (.int .i64 (zk)) (by simp only [List.setIfInBounds_toArray, List.set_cons_zero, List.set_cons_succ]) rfl).of hw_); clear S hw_; have S := Sn_; clear Sn_) | ((with_reducible refine gate_dst (N := 92) rfl ?_); refine Kd.event_run rfl (Row.load_row_run (g := go) (t := 80) (cells := #[.int .i64 (zk), .int .i64 x, .int .i64 (ra - 1), .int .i64 (rb - 1)]) rfl rfl (S.out.blk 0 rfl) Try.underlying80 rfl (by kernel_rfl)) ?_) | ((with_reducible refine gate_store (t := 80) (p := 4) rfl ?_); refine store_event (t := 80) (p := 4) (v := ?vo_9) (w1 := w20.setRow gr (#[.int .i64 (zk), .int .i64 x, .int .i64 (ra - 1), .int .i64 (rb - 1)])) ?hg ?ho ?hn ?hr ?_; (case ho => rfl); (case hg => rfl); (case hn => rfl); (case hr => exact (Row.store_row_run (g := gr) (cells := #[.int .i64 (zk), .int .i64 x, .int .i64 (ra - 1), .int .i64 (rb - 1)]) (t := 80) (old := #[.int .i64 0, .int .i64 0, .int .i64 0, .int .i64 0]) rfl (by rfl) (by rfl) (S.out.blk 1 rfl) (by kernel_rfl) rfl (by simp [Value.oneCell']))); intro w21 hw_; have Sn_ := Aside0.mk ((S.out.setRow (cs' := #[.int .i64 (zk), .int .i64 x, .int .i64 (ra - 1), .int .i64 (rb - 1)]) (rs' := [Bx go (#[.int .i64 (zk), .int .i64 x, .int .i64 (ra - 1), .int .i64 (rb - 1)]) 80, Bx gr (#[.int .i64 (zk), .int .i64 x, .int .i64 (ra - 1), .int .i64 (rb - 1)]) 80, Bx gb (bkV s V) 27, Rr w0 g bs ((((((p + 1) + 1) + 1) + 1) + 1) + 1)]) 1 rfl rfl).of hw_); clear S hw_; have S := Sn_; clear Sn_))
            refine bodyPost_ret (results_cell_row rfl _ _ gr 80 (#[.int .i64 (zk), .int .i64 x, .int .i64 (ra - 1), .int .i64 (rb - 1)]) (0, 0) _ rfl (S.out.blk 1 rfl) Try.underlying80 rfl (by kernel_rfl)) rfl ?_
            exact ⟨_, _, _, _, ((((((p + 1) + 1) + 1) + 1) + 1) + 1), rfl, ⟨by omega, by omega⟩, ⟨by omega, by omega⟩, ⟨by omega, by omega⟩, S.out.get 3 rfl, by omega, by omega, S.out.base⟩
          · have bz : (ze == 0) = false := beq_eq_false_iff_ne.mpr hz
            clear hz
            go_wp2_with (first | ((with_reducible refine gate_dst (N := 92) rfl ?_); refine Kd.event_run rfl (Row.load_row_run (g := go) (t := 80) (cells := #[.int .i64 kd, .int .i64 x, .int .i64 (ra - 1), .int .i64 (rb - 1)]) rfl rfl (S.out.blk 0 rfl) Try.underlying80 rfl (by kernel_rfl)) ?_) | ((with_reducible refine gate_store (t := 80) (p := 4) rfl ?_); refine store_event (t := 80) (p := 4) (v := ?vo_10) (w1 := w18.setRow gr (#[.int .i64 kd, .int .i64 x, .int .i64 (ra - 1), .int .i64 (rb - 1)])) ?hg ?ho ?hn ?hr ?_; (case ho => rfl); (case hg => rfl); (case hn => rfl); (case hr => exact (Row.store_row_run (g := gr) (cells := #[.int .i64 kd, .int .i64 x, .int .i64 (ra - 1), .int .i64 (rb - 1)]) (t := 80) (old := #[.int .i64 0, .int .i64 0, .int .i64 0, .int .i64 0]) rfl (by rfl) (by rfl) (S.out.blk 1 rfl) (by kernel_rfl) rfl (by simp [Value.oneCell']))); intro w22 hw_; have Sn_ := Aside0.mk ((S.out.setRow (cs' := #[.int .i64 kd, .int .i64 x, .int .i64 (ra - 1), .int .i64 (rb - 1)]) (rs' := [Bx go (#[.int .i64 kd, .int .i64 x, .int .i64 (ra - 1), .int .i64 (rb - 1)]) 80, Bx gr (#[.int .i64 kd, .int .i64 x, .int .i64 (ra - 1), .int .i64 (rb - 1)]) 80, Bx gb (bkV s V) 27, Rr w0 g bs (((((p + 1) + 1) + 1) + 1) + 1)]) 1 rfl rfl).of hw_); clear S hw_; have S := Sn_; clear Sn_))
            refine bodyPost_ret (results_cell_row rfl _ _ gr 80 (#[.int .i64 kd, .int .i64 x, .int .i64 (ra - 1), .int .i64 (rb - 1)]) (0, 0) _ rfl (S.out.blk 1 rfl) Try.underlying80 rfl (by kernel_rfl)) rfl ?_
            exact ⟨_, _, _, _, (((((p + 1) + 1) + 1) + 1) + 1), rfl, ⟨by omega, by omega⟩, ⟨by omega, by omega⟩, ⟨by omega, by omega⟩, S.out.get 3 rfl, by omega, by omega, S.out.base⟩
        have hT1 : 1 ≤ T.length := by
          rcases T with _ | ⟨t, ts⟩
          · exact absurd rfl hT0
          · simp
        have hTi : (0 : Int) < (T.length : Int) := by omega
        clear hT0
        obtain ⟨g6, o6, cap6, hv6, _, _⟩ := (S.out.get 0 rfl).at 0 (by omega)
        subst hv6
        have f_gb_6 : wr.cell? ⟨gb, 6, none⟩ = some (.slice (some ⟨g5, o5, none⟩) (L 5).length cap5) := (S.out.cell 3 rfl 6).trans (by rw [← hv5]; rfl)
        go_wp2_with fail
        refine (pickS HBS.out (S.out.get 4 rfl) (HBW.out _ S.out.base) (by omega) (by omega) (5) (by omega)).mono ?_
        rintro e w23 ⟨rc, rfl, rc0, rc1, hI_, hf_⟩
        have Sn_ := Aside0.mk (S.out.read (rs' := [Rl (.slice (some ⟨g6, o6, none⟩) T.length cap6) (T), Bx go (#[.int .i64 kd, .int .i64 x, .int .i64 (ra - 1), .int .i64 0]) 80, Bx gr (#[.int .i64 0, .int .i64 0, .int .i64 0, .int .i64 0]) 80, Bx gb (bkV s V) 27, Rr w0 g bs ((((p + 1) + 1) + 1) + 1)]) 4 rfl hI_ hf_ rfl)
        clear S hI_ hf_
        have S := Sn_
        clear Sn_
        clear rc1
        by_cases hrc : rc > 0
        rotate_left
        · have bc : decide (0 < rc) = false := decide_eq_false hrc
          clear hrc
          have Sn_ := Aside0.mk (S.out.drop (rs' := [Bx go (#[.int .i64 kd, .int .i64 x, .int .i64 (ra - 1), .int .i64 0]) 80, Bx gr (#[.int .i64 0, .int .i64 0, .int .i64 0, .int .i64 0]) 80, Bx gb (bkV s V) 27, Rr w0 g bs ((((p + 1) + 1) + 1) + 1)]) 0 rfl)
          clear S
          have S := Sn_
          clear Sn_
          go_wp2_with fail
          refine (pickS HBS.out (S.out.get 3 rfl) (HBW.out _ S.out.base) (by omega) (by omega) (4) (by omega)).mono ?_
          rintro e w24 ⟨rb, rfl, rb0, rb1, hI_, hf_⟩
          have Sn_ := Aside0.mk (S.out.read (rs' := [Bx go (#[.int .i64 kd, .int .i64 x, .int .i64 (ra - 1), .int .i64 0]) 80, Bx gr (#[.int .i64 0, .int .i64 0, .int .i64 0, .int .i64 0]) 80, Bx gb (bkV s V) 27, Rr w0 g bs (((((p + 1) + 1) + 1) + 1) + 1)]) 3 rfl hI_ hf_ rfl)
          clear S hI_ hf_
          have S := Sn_
          clear Sn_
          have f_go_3 : w24.cell? ⟨go, 3, none⟩ = some (.int .i64 0) := (S.out.cell 0 rfl 3).trans rfl
          have z_go_3 := S.out.frozen 0 rfl 3
          go_upto_region 20 with (first | ((with_reducible refine gate_store (t := 3) (p := 78) rfl ?_); refine store_event (t := 3) (p := 78) (v := ?vo_11) (w1 := w24.setCell ⟨go, 3, none⟩ (.int .i64 (rb - 1))) ?hg ?ho ?hn ?hr ?_; (case ho => rfl); (case hg => rfl); (case hn => rfl); (case hr => first | (go_simp; done) | (go_simp; rfl)); intro w25 hw_; have Sn_ := Aside0.mk ((S.out.setCell (cs' := #[.int .i64 kd, .int .i64 x, .int .i64 (ra - 1), .int .i64 (rb - 1)]) (rs' := [Bx go (#[.int .i64 kd, .int .i64 x, .int .i64 (ra - 1), .int .i64 (rb - 1)]) 80, Bx gr (#[.int .i64 0, .int .i64 0, .int .i64 0, .int .i64 0]) 80, Bx gb (bkV s V) 27, Rr w0 g bs (((((p + 1) + 1) + 1) + 1) + 1)]) 0 rfl 3 (.int .i64 (rb - 1)) (by simp only [List.setIfInBounds_toArray, List.set_cons_zero, List.set_cons_succ]) rfl).of hw_); clear S hw_; have S := Sn_; clear Sn_))
          go_wp2_with fail
          refine (pickS HBS.out (S.out.get 3 rfl) (HBW.out _ S.out.base) (by omega) (by omega) (20) (by omega)).mono ?_
          rintro e w26 ⟨ze, rfl, ze0, ze1, hI_, hf_⟩
          have Sn_ := Aside0.mk (S.out.read (rs' := [Bx go (#[.int .i64 kd, .int .i64 x, .int .i64 (ra - 1), .int .i64 (rb - 1)]) 80, Bx gr (#[.int .i64 0, .int .i64 0, .int .i64 0, .int .i64 0]) 80, Bx gb (bkV s V) 27, Rr w0 g bs ((((((p + 1) + 1) + 1) + 1) + 1) + 1)]) 3 rfl hI_ hf_ rfl)
          clear S hI_ hf_
          have S := Sn_
          clear Sn_
          by_cases hz : ze = 0
          · have bz : (ze == 0) = true := beq_iff_eq.mpr hz
            clear hz
            go_wp2_with fail
            refine (numL HBS.out (S.out.get 3 rfl) (HBW.out _ S.out.base) (by omega) (by omega) [0, 7, -1] (by decide) (by decide)).mono ?_
            rintro e w27 ⟨zk, rfl, hm_zk, hI_, hf_⟩
            have Sn_ := Aside0.mk (S.out.read (rs' := [Bx go (#[.int .i64 kd, .int .i64 x, .int .i64 (ra - 1), .int .i64 (rb - 1)]) 80, Bx gr (#[.int .i64 0, .int .i64 0, .int .i64 0, .int .i64 0]) 80, Bx gb (bkV s V) 27, Rr w0 g bs (((((((p + 1) + 1) + 1) + 1) + 1) + 1) + 1)]) 3 rfl hI_ hf_ rfl)
            clear S hI_ hf_
            have S := Sn_
            clear Sn_
            have f_go_0 : w27.cell? ⟨go, 0, none⟩ = some (.int .i64 kd) := (S.out.cell 0 rfl 0).trans rfl
            have z_go_0 := S.out.frozen 0 rfl 0
            go_wp2_with (first | ((with_reducible refine gate_store (t := 3) (p := 91) rfl ?_); refine store_event (t := 3) (p := 91) (v := ?vo_12) (w1 := w27.setCell ⟨go, 0, none⟩ (.int .i64 (zk))) ?hg ?ho ?hn ?hr ?_; (case ho => rfl); (case hg => rfl); (case hn => rfl); (case hr => first | (go_simp; done) | (go_simp; rfl)); intro w28 hw_; have Sn_ := Aside0.mk ((S.out.setCell (cs' := #[.int .i64 (zk), .int .i64 x, .int .i64 (ra - 1), .int .i64 (rb - 1)]) (rs' := [Bx go (#[.int .i64 (zk), .int .i64 x, .int .i64 (ra - 1), .int .i64 (rb - 1)]) 80, Bx gr (#[.int .i64 0, .int .i64 0, .int .i64 0, .int .i64 0]) 80, Bx gb (bkV s V) 27, Rr w0 g bs (((((((p + 1) + 1) + 1) + 1) + 1) + 1) + 1)]) 0 rfl 0 (.int .i64 (zk)) (by simp only [List.setIfInBounds_toArray, List.set_cons_zero, List.set_cons_succ]) rfl).of hw_); clear S hw_; have S := Sn_; clear Sn_) | ((with_reducible refine gate_dst (N := 92) rfl ?_); refine Kd.event_run rfl (Row.load_row_run (g := go) (t := 80) (cells := #[.int .i64 (zk), .int .i64 x, .int .i64 (ra - 1), .int .i64 (rb - 1)]) rfl rfl (S.out.blk 0 rfl) Try.underlying80 rfl (by kernel_rfl)) ?_) | ((with_reducible refine gate_store (t := 80) (p := 4) rfl ?_); refine store_event (t := 80) (p := 4) (v := ?vo_13) (w1 := w28.setRow gr (#[.int .i64 (zk), .int .i64 x, .int .i64 (ra - 1), .int .i64 (rb - 1)])) ?hg ?ho ?hn ?hr ?_; (case ho => rfl); (case hg => rfl); (case hn => rfl); (case hr => exact (Row.store_row_run (g := gr) (cells := #[.int .i64 (zk), .int .i64 x, .int .i64 (ra - 1), .int .i64 (rb - 1)]) (t := 80) (old := #[.int .i64 0, .int .i64 0, .int .i64 0, .int .i64 0]) rfl (by rfl) (by rfl) (S.out.blk 1 rfl) (by kernel_rfl) rfl (by simp [Value.oneCell']))); intro w29 hw_; have Sn_ := Aside0.mk ((S.out.setRow (cs' := #[.int .i64 (zk), .int .i64 x, .int .i64 (ra - 1), .int .i64 (rb - 1)]) (rs' := [Bx go (#[.int .i64 (zk), .int .i64 x, .int .i64 (ra - 1), .int .i64 (rb - 1)]) 80, Bx gr (#[.int .i64 (zk), .int .i64 x, .int .i64 (ra - 1), .int .i64 (rb - 1)]) 80, Bx gb (bkV s V) 27, Rr w0 g bs (((((((p + 1) + 1) + 1) + 1) + 1) + 1) + 1)]) 1 rfl rfl).of hw_); clear S hw_; have S := Sn_; clear Sn_))
            refine bodyPost_ret (results_cell_row rfl _ _ gr 80 (#[.int .i64 (zk), .int .i64 x, .int .i64 (ra - 1), .int .i64 (rb - 1)]) (0, 0) _ rfl (S.out.blk 1 rfl) Try.underlying80 rfl (by kernel_rfl)) rfl ?_
            exact ⟨_, _, _, _, (((((((p + 1) + 1) + 1) + 1) + 1) + 1) + 1), rfl, ⟨by omega, by omega⟩, ⟨by omega, by omega⟩, ⟨by omega, by omega⟩, S.out.get 3 rfl, by omega, by omega, S.out.base⟩
          · have bz : (ze == 0) = false := beq_eq_false_iff_ne.mpr hz
            clear hz
            go_wp2_with (first | ((with_reducible refine gate_dst (N := 92) rfl ?_); refine Kd.event_run rfl (Row.load_row_run (g := go) (t := 80) (cells := #[.int .i64 kd, .int .i64 x, .int .i64 (ra - 1), .int .i64 (rb - 1)]) rfl rfl (S.out.blk 0 rfl) Try.underlying80 rfl (by kernel_rfl)) ?_) | ((with_reducible refine gate_store (t := 80) (p := 4) rfl ?_); refine store_event (t := 80) (p := 4) (v := ?vo_14) (w1 := w26.setRow gr (#[.int .i64 kd, .int .i64 x, .int .i64 (ra - 1), .int .i64 (rb - 1)])) ?hg ?ho ?hn ?hr ?_; (case ho => rfl); (case hg => rfl); (case hn => rfl); (case hr => exact (Row.store_row_run (g := gr) (cells := #[.int .i64 kd, .int .i64 x, .int .i64 (ra - 1), .int .i64 (rb - 1)]) (t := 80) (old := #[.int .i64 0, .int .i64 0, .int .i64 0, .int .i64 0]) rfl (by rfl) (by rfl) (S.out.blk 1 rfl) (by kernel_rfl) rfl (by simp [Value.oneCell']))); intro w30 hw_; have Sn_ := Aside0.mk ((S.out.setRow (cs' := #[.int .i64 kd, .int .i64 x, .int .i64 (ra - 1), .int .i64 (rb - 1)]) (rs' := [Bx go (#[.int .i64 kd, .int .i64 x, .int .i64 (ra - 1), .int .i64 (rb - 1)]) 80, Bx gr (#[.int .i64 kd, .int .i64 x, .int .i64 (ra - 1), .int .i64 (rb - 1)]) 80, Bx gb (bkV s V) 27, Rr w0 g bs ((((((p + 1) + 1) + 1) + 1) + 1) + 1)]) 1 rfl rfl).of hw_); clear S hw_; have S := Sn_; clear Sn_))
            refine bodyPost_ret (results_cell_row rfl _ _ gr 80 (#[.int .i64 kd, .int .i64 x, .int .i64 (ra - 1), .int .i64 (rb - 1)]) (0, 0) _ rfl (S.out.blk 1 rfl) Try.underlying80 rfl (by kernel_rfl)) rfl ?_
            exact ⟨_, _, _, _, ((((((p + 1) + 1) + 1) + 1) + 1) + 1), rfl, ⟨by omega, by omega⟩, ⟨by omega, by omega⟩, ⟨by omega, by omega⟩, S.out.get 3 rfl, by omega, by omega, S.out.base⟩
        have bc : decide (0 < rc) = true := decide_eq_true hrc
        clear hrc
        go_wp2_with fail
        refine (pickS HBS.out (S.out.get 4 rfl) (HBW.out _ S.out.base) (by omega) (by omega) ((T.length : Int)) (by omega)).mono ?_
        rintro e w31 ⟨rt, rfl, rt0, rt1, hI_, hf_⟩
        have Sn_ := Aside0.mk (S.out.read (rs' := [Rl (.slice (some ⟨g6, o6, none⟩) T.length cap6) (T), Bx go (#[.int .i64 kd, .int .i64 x, .int .i64 (ra - 1), .int .i64 0]) 80, Bx gr (#[.int .i64 0, .int .i64 0, .int .i64 0, .int .i64 0]) 80, Bx gb (bkV s V) 27, Rr w0 g bs (((((p + 1) + 1) + 1) + 1) + 1)]) 4 rfl hI_ hf_ rfl)
        clear S hI_ hf_
        have S := Sn_
        clear Sn_
        obtain ⟨m, rfl⟩ := Int.eq_ofNat_of_zero_le rt0
        have hm : m < T.length := by omega
        obtain ⟨ga, oa, ca, ea, hct, hzt⟩ := (S.out.get 0 rfl).at m hm
        injection ea with ea1 ea2 ea3
        injection ea1 with ea1
        injection ea1 with ea4 ea5 ea6
        subst ea4 ea5
        clear ea2 ea3 ea6
        obtain ⟨y, hy⟩ : ∃ y, T.getD m 0 = y := ⟨_, rfl⟩
        have hyT : y ∈ T := by rw [← hy, List.getD_eq_getElem?_getD, List.getElem?_eq_getElem hm]; exact List.getElem_mem _
        rw [hy] at hct
        clear hy
        obtain ⟨hy0, hy1⟩ := HT.out.2 y hyT
        clear hyT
        obtain ⟨j, rfl⟩ := Int.eq_ofNat_of_zero_le hy0
        have hjl : j < (L 5).length := by omega
        obtain ⟨z, hz⟩ : ∃ z, (L 5).getD j 0 = z := ⟨_, rfl⟩
        have hzb : 0 ≤ z ∧ z ≤ 4 := by
          have h1 := Bv.W.unit HW.out j hjl
          have h2 : 0 ≤ (L 5).getD j 0 := h1.1
          have h3 : (L 5).getD j 0 ≤ s := h1.2.1
          omega
        obtain ⟨hz0, hz4⟩ := hzb
        have f_go_2 : w31.cell? ⟨go, 2, none⟩ = some (.int .i64 (ra - 1)) := (S.out.cell 1 rfl 2).trans rfl
        have z_go_2 := S.out.frozen 1 rfl 2
        go_upto_region 16 with (first | ((with_reducible refine gate_store (t := 3) (p := 66) rfl ?_); refine store_event (t := 3) (p := 66) (v := ?vo_15) (w1 := w31.setCell ⟨go, 2, none⟩ (.int .i64 ((j : Int)))) ?hg ?ho ?hn ?hr ?_; (case ho => rfl); (case hg => rfl); (case hn => rfl); (case hr => first | (go_simp; done) | (go_simp; rfl)); intro w32 hw_; have Sn_ := Aside0.mk ((S.out.setCell (cs' := #[.int .i64 kd, .int .i64 x, .int .i64 ((j : Int)), .int .i64 0]) (rs' := [Rl (.slice (some ⟨g6, o6, none⟩) T.length cap6) (T), Bx go (#[.int .i64 kd, .int .i64 x, .int .i64 ((j : Int)), .int .i64 0]) 80, Bx gr (#[.int .i64 0, .int .i64 0, .int .i64 0, .int .i64 0]) 80, Bx gb (bkV s V) 27, Rr w0 g bs (((((p + 1) + 1) + 1) + 1) + 1)]) 1 rfl 2 (.int .i64 ((j : Int))) (by simp only [List.setIfInBounds_toArray, List.set_cons_zero, List.set_cons_succ]) rfl).of hw_); clear S hw_; have S := Sn_; clear Sn_))
        obtain ⟨hcj, hzj⟩ := (HBV.out _ S.out.base).rowCell (i := 5) (by omega) hv5 j hjl
        rw [hz] at hcj
        clear hz
        have f_gb_6 : w32.cell? ⟨gb, 6, none⟩ = some (.slice (some ⟨g5, o5, none⟩) (L 5).length cap5) := (S.out.cell 3 rfl 6).trans (by rw [← hv5]; rfl)
        have f_go_2 : w32.cell? ⟨go, 2, none⟩ = some (.int .i64 ((j : Int))) := (S.out.cell 1 rfl 2).trans rfl
        have f_go_1 : w32.cell? ⟨go, 1, none⟩ = some (.int .i64 x) := (S.out.cell 1 rfl 1).trans rfl
        have z_go_1 := S.out.frozen 1 rfl 1
        go_upto_region 17 with (first | ((with_reducible refine gate_store (t := 3) (p := 74) rfl ?_); refine store_event (t := 3) (p := 74) (v := ?vo_16) (w1 := w32.setCell ⟨go, 1, none⟩ (.int .i64 (z - 1))) ?hg ?ho ?hn ?hr ?_; (case ho => rfl); (case hg => rfl); (case hn => rfl); (case hr => first | (go_simp; done) | (go_simp; rfl)); intro w33 hw_; have Sn_ := Aside0.mk ((S.out.setCell (cs' := #[.int .i64 kd, .int .i64 (z - 1), .int .i64 ((j : Int)), .int .i64 0]) (rs' := [Rl (.slice (some ⟨g6, o6, none⟩) T.length cap6) (T), Bx go (#[.int .i64 kd, .int .i64 (z - 1), .int .i64 ((j : Int)), .int .i64 0]) 80, Bx gr (#[.int .i64 0, .int .i64 0, .int .i64 0, .int .i64 0]) 80, Bx gb (bkV s V) 27, Rr w0 g bs (((((p + 1) + 1) + 1) + 1) + 1)]) 1 rfl 1 (.int .i64 (z - 1)) (by simp only [List.setIfInBounds_toArray, List.set_cons_zero, List.set_cons_succ]) rfl).of hw_); clear S hw_; have S := Sn_; clear Sn_))
        have Sn_ := Aside0.mk (S.out.drop (rs' := [Bx go (#[.int .i64 kd, .int .i64 (z - 1), .int .i64 ((j : Int)), .int .i64 0]) 80, Bx gr (#[.int .i64 0, .int .i64 0, .int .i64 0, .int .i64 0]) 80, Bx gb (bkV s V) 27, Rr w0 g bs (((((p + 1) + 1) + 1) + 1) + 1)]) 0 rfl)
        clear S
        have S := Sn_
        clear Sn_
        go_wp2_with fail
        refine (pickS HBS.out (S.out.get 3 rfl) (HBW.out _ S.out.base) (by omega) (by omega) (4) (by omega)).mono ?_
        rintro e w34 ⟨rb, rfl, rb0, rb1, hI_, hf_⟩
        have Sn_ := Aside0.mk (S.out.read (rs' := [Bx go (#[.int .i64 kd, .int .i64 (z - 1), .int .i64 ((j : Int)), .int .i64 0]) 80, Bx gr (#[.int .i64 0, .int .i64 0, .int .i64 0, .int .i64 0]) 80, Bx gb (bkV s V) 27, Rr w0 g bs ((((((p + 1) + 1) + 1) + 1) + 1) + 1)]) 3 rfl hI_ hf_ rfl)
        clear S hI_ hf_
        have S := Sn_
        clear Sn_
        have f_go_3 : w34.cell? ⟨go, 3, none⟩ = some (.int .i64 0) := (S.out.cell 0 rfl 3).trans rfl
        have z_go_3 := S.out.frozen 0 rfl 3
        go_upto_region 20 with (first | ((with_reducible refine gate_store (t := 3) (p := 78) rfl ?_); refine store_event (t := 3) (p := 78) (v := ?vo_17) (w1 := w34.setCell ⟨go, 3, none⟩ (.int .i64 (rb - 1))) ?hg ?ho ?hn ?hr ?_; (case ho => rfl); (case hg => rfl); (case hn => rfl); (case hr => first | (go_simp; done) | (go_simp; rfl)); intro w35 hw_; have Sn_ := Aside0.mk ((S.out.setCell (cs' := #[.int .i64 kd, .int .i64 (z - 1), .int .i64 ((j : Int)), .int .i64 (rb - 1)]) (rs' := [Bx go (#[.int .i64 kd, .int .i64 (z - 1), .int .i64 ((j : Int)), .int .i64 (rb - 1)]) 80, Bx gr (#[.int .i64 0, .int .i64 0, .int .i64 0, .int .i64 0]) 80, Bx gb (bkV s V) 27, Rr w0 g bs ((((((p + 1) + 1) + 1) + 1) + 1) + 1)]) 0 rfl 3 (.int .i64 (rb - 1)) (by simp only [List.setIfInBounds_toArray, List.set_cons_zero, List.set_cons_succ]) rfl).of hw_); clear S hw_; have S := Sn_; clear Sn_))
        go_wp2_with fail
        refine (pickS HBS.out (S.out.get 3 rfl) (HBW.out _ S.out.base) (by omega) (by omega) (20) (by omega)).mono ?_
        rintro e w36 ⟨ze, rfl, ze0, ze1, hI_, hf_⟩
        have Sn_ := Aside0.mk (S.out.read (rs' := [Bx go (#[.int .i64 kd, .int .i64 (z - 1), .int .i64 ((j : Int)), .int .i64 (rb - 1)]) 80, Bx gr (#[.int .i64 0, .int .i64 0, .int .i64 0, .int .i64 0]) 80, Bx gb (bkV s V) 27, Rr w0 g bs (((((((p + 1) + 1) + 1) + 1) + 1) + 1) + 1)]) 3 rfl hI_ hf_ rfl)
        clear S hI_ hf_
        have S := Sn_
        clear Sn_
        by_cases hz : ze = 0
        · have bz : (ze == 0) = true := beq_iff_eq.mpr hz
          clear hz
          go_wp2_with fail
          refine (numL HBS.out (S.out.get 3 rfl) (HBW.out _ S.out.base) (by omega) (by omega) [0, 7, -1] (by decide) (by decide)).mono ?_
          rintro e w37 ⟨zk, rfl, hm_zk, hI_, hf_⟩
          have Sn_ := Aside0.mk (S.out.read (rs' := [Bx go (#[.int .i64 kd, .int .i64 (z - 1), .int .i64 ((j : Int)), .int .i64 (rb - 1)]) 80, Bx gr (#[.int .i64 0, .int .i64 0, .int .i64 0, .int .i64 0]) 80, Bx gb (bkV s V) 27, Rr w0 g bs ((((((((p + 1) + 1) + 1) + 1) + 1) + 1) + 1) + 1)]) 3 rfl hI_ hf_ rfl)
          clear S hI_ hf_
          have S := Sn_
          clear Sn_
          have f_go_0 : w37.cell? ⟨go, 0, none⟩ = some (.int .i64 kd) := (S.out.cell 0 rfl 0).trans rfl
          have z_go_0 := S.out.frozen 0 rfl 0
          go_wp2_with (first | ((with_reducible refine gate_store (t := 3) (p := 91) rfl ?_); refine store_event (t := 3) (p := 91) (v := ?vo_18) (w1 := w37.setCell ⟨go, 0, none⟩ (.int .i64 (zk))) ?hg ?ho ?hn ?hr ?_; (case ho => rfl); (case hg => rfl); (case hn => rfl); (case hr => first | (go_simp; done) | (go_simp; rfl)); intro w38 hw_; have Sn_ := Aside0.mk ((S.out.setCell (cs' := #[.int .i64 (zk), .int .i64 (z - 1), .int .i64 ((j : Int)), .int .i64 (rb - 1)]) (rs' := [Bx go (#[.int .i64 (zk), .int .i64 (z - 1), .int .i64 ((j : Int)), .int .i64 (rb - 1)]) 80, Bx gr (#[.int .i64 0, .int .i64 0, .int .i64 0, .int .i64 0]) 80, Bx gb (bkV s V) 27, Rr w0 g bs ((((((((p + 1) + 1) + 1) + 1) + 1) + 1) + 1) + 1)]) 0 rfl 0 (.int .i64 (zk)) (by simp only [List.setIfInBounds_toArray, List.set_cons_zero, List.set_cons_succ]) rfl).of hw_); clear S hw_; have S := Sn_; clear Sn_) | ((with_reducible refine gate_dst (N := 92) rfl ?_); refine Kd.event_run rfl (Row.load_row_run (g := go) (t := 80) (cells := #[.int .i64 (zk), .int .i64 (z - 1), .int .i64 ((j : Int)), .int .i64 (rb - 1)]) rfl rfl (S.out.blk 0 rfl) Try.underlying80 rfl (by kernel_rfl)) ?_) | ((with_reducible refine gate_store (t := 80) (p := 4) rfl ?_); refine store_event (t := 80) (p := 4) (v := ?vo_19) (w1 := w38.setRow gr (#[.int .i64 (zk), .int .i64 (z - 1), .int .i64 ((j : Int)), .int .i64 (rb - 1)])) ?hg ?ho ?hn ?hr ?_; (case ho => rfl); (case hg => rfl); (case hn => rfl); (case hr => exact (Row.store_row_run (g := gr) (cells := #[.int .i64 (zk), .int .i64 (z - 1), .int .i64 ((j : Int)), .int .i64 (rb - 1)]) (t := 80) (old := #[.int .i64 0, .int .i64 0, .int .i64 0, .int .i64 0]) rfl (by rfl) (by rfl) (S.out.blk 1 rfl) (by kernel_rfl) rfl (by simp [Value.oneCell']))); intro w39 hw_; have Sn_ := Aside0.mk ((S.out.setRow (cs' := #[.int .i64 (zk), .int .i64 (z - 1), .int .i64 ((j : Int)), .int .i64 (rb - 1)]) (rs' := [Bx go (#[.int .i64 (zk), .int .i64 (z - 1), .int .i64 ((j : Int)), .int .i64 (rb - 1)]) 80, Bx gr (#[.int .i64 (zk), .int .i64 (z - 1), .int .i64 ((j : Int)), .int .i64 (rb - 1)]) 80, Bx gb (bkV s V) 27, Rr w0 g bs ((((((((p + 1) + 1) + 1) + 1) + 1) + 1) + 1) + 1)]) 1 rfl rfl).of hw_); clear S hw_; have S := Sn_; clear Sn_))
          refine bodyPost_ret (results_cell_row rfl _ _ gr 80 (#[.int .i64 (zk), .int .i64 (z - 1), .int .i64 ((j : Int)), .int .i64 (rb - 1)]) (0, 0) _ rfl (S.out.blk 1 rfl) Try.underlying80 rfl (by kernel_rfl)) rfl ?_
          exact ⟨_, _, _, _, ((((((((p + 1) + 1) + 1) + 1) + 1) + 1) + 1) + 1), rfl, ⟨by omega, by omega⟩, ⟨by omega, by omega⟩, ⟨by omega, by omega⟩, S.out.get 3 rfl, by omega, by omega, S.out.base⟩
        · have bz : (ze == 0) = false := beq_eq_false_iff_ne.mpr hz
          clear hz
          go_wp2_with (first | ((with_reducible refine gate_dst (N := 92) rfl ?_); refine Kd.event_run rfl (Row.load_row_run (g := go) (t := 80) (cells := #[.int .i64 kd, .int .i64 (z - 1), .int .i64 ((j : Int)), .int .i64 (rb - 1)]) rfl rfl (S.out.blk 0 rfl) Try.underlying80 rfl (by kernel_rfl)) ?_) | ((with_reducible refine gate_store (t := 80) (p := 4) rfl ?_); refine store_event (t := 80) (p := 4) (v := ?vo_20) (w1 := w36.setRow gr (#[.int .i64 kd, .int .i64 (z - 1), .int .i64 ((j : Int)), .int .i64 (rb - 1)])) ?hg ?ho ?hn ?hr ?_; (case ho => rfl); (case hg => rfl); (case hn => rfl); (case hr => exact (Row.store_row_run (g := gr) (cells := #[.int .i64 kd, .int .i64 (z - 1), .int .i64 ((j : Int)), .int .i64 (rb - 1)]) (t := 80) (old := #[.int .i64 0, .int .i64 0, .int .i64 0, .int .i64 0]) rfl (by rfl) (by rfl) (S.out.blk 1 rfl) (by kernel_rfl) rfl (by simp [Value.oneCell']))); intro w40 hw_; have Sn_ := Aside0.mk ((S.out.setRow (cs' := #[.int .i64 kd, .int .i64 (z - 1), .int .i64 ((j : Int)), .int .i64 (rb - 1)]) (rs' := [Bx go (#[.int .i64 kd, .int .i64 (z - 1), .int .i64 ((j : Int)), .int .i64 (rb - 1)]) 80, Bx gr (#[.int .i64 kd, .int .i64 (z - 1), .int .i64 ((j : Int)), .int .i64 (rb - 1)]) 80, Bx gb (bkV s V) 27, Rr w0 g bs (((((((p + 1) + 1) + 1) + 1) + 1) + 1) + 1)]) 1 rfl rfl).of hw_); clear S hw_; have S := Sn_; clear Sn_))
          refine bodyPost_ret (results_cell_row rfl _ _ gr 80 (#[.int .i64 kd, .int .i64 (z - 1), .int .i64 ((j : Int)), .int .i64 (rb - 1)]) (0, 0) _ rfl (S.out.blk 1 rfl) Try.underlying80 rfl (by kernel_rfl)) rfl ?_
          exact ⟨_, _, _, _, (((((((p + 1) + 1) + 1) + 1) + 1) + 1) + 1), rfl, ⟨by omega, by omega⟩, ⟨by omega, by omega⟩, ⟨by omega, by omega⟩, S.out.get 3 rfl, by omega, by omega, S.out.base⟩
  have b3 : (kd == 3) = false := beq_eq_false_iff_ne.mpr k3
  clear k3
  by_cases k4 : kd = 4
  · have b4 : (kd == 4) = true := beq_iff_eq.mpr k4
    clear k4
    have f_gb_6 : w6.cell? ⟨gb, 6, none⟩ = some (.slice (some ⟨g5, o5, none⟩) (L 5).length cap5) := (S.out.cell 2 rfl 6).trans (by rw [← hv5]; rfl)
    go_wp2_with fail
    have hwl := wrapl hl48
    refine (pickS HBS.out (S.out.get 3 rfl) (HBW.out _ S.out.base) (by omega) (by omega) (_) (by first | exact hwl.1 | omega)).mono ?_
    rintro e w41 ⟨ra, rfl, ra0, ra1, hI_, hf_⟩
    have Sn_ := Aside0.mk (S.out.read (rs' := [Bx go (#[.int .i64 kd, .int .i64 x, .int .i64 0, .int .i64 0]) 80, Bx gr (#[.int .i64 0, .int .i64 0, .int .i64 0, .int .i64 0]) 80, Bx gb (bkV s V) 27, Rr w0 g bs (((p + 1) + 1) + 1)]) 3 rfl hI_ hf_ rfl)
    clear S hI_ hf_
    have S := Sn_
    clear Sn_
    have hra : ra ≤ 50 := by omega
    clear ra1 hwl
    have f_go_2 : w41.cell? ⟨go, 2, none⟩ = some (.int .i64 0) := (S.out.cell 0 rfl 2).trans rfl
    have z_go_2 := S.out.frozen 0 rfl 2
    go_upto_region 9 with (first | ((with_reducible refine gate_store (t := 3) (p := 32) rfl ?_); refine store_event (t := 3) (p := 32) (v := ?vo_21) (w1 := w41.setCell ⟨go, 2, none⟩ (.int .i64 (ra - 1))) ?hg ?ho ?hn ?hr ?_; (case ho => rfl); (case hg => rfl); (case hn => rfl); (case hr => first | (go_simp; done) | (go_simp; rfl)); intro w42 hw_; have Sn_ := Aside0.mk ((S.out.setCell (cs' := #[.int .i64 kd, .int .i64 x, .int .i64 (ra - 1), .int .i64 0]) (rs' := [Bx go (#[.int .i64 kd, .int .i64 x, .int .i64 (ra - 1), .int .i64 0]) 80, Bx gr (#[.int .i64 0, .int .i64 0, .int .i64 0, .int .i64 0]) 80, Bx gb (bkV s V) 27, Rr w0 g bs (((p + 1) + 1) + 1)]) 0 rfl 2 (.int .i64 (ra - 1)) (by simp only [List.setIfInBounds_toArray, List.set_cons_zero, List.set_cons_succ]) rfl).of hw_); clear S hw_; have S := Sn_; clear Sn_))
    have S1 : Aside0 (Sx (fun k => k = g) w (w42.alloc (.cells #[] 3)) (Rl (.slice (some ⟨w42.heap.size, 0, none⟩) 0 0) ([]) :: [Bx go (#[.int .i64 kd, .int .i64 x, .int .i64 (ra - 1), .int .i64 0]) 80, Bx gr (#[.int .i64 0, .int .i64 0, .int .i64 0, .int .i64 0]) 80, Bx gb (bkV s V) 27, Rr w0 g bs (((p + 1) + 1) + 1)])) := ⟨S.out.new (below_alloc (Below.refl _ _) _) (.inr ⟨w42.heap.size, 0, 0, #[], rfl, heap_alloc_new _ _, Nat.le_refl _, by omega, by simp, fun j hj => by simp at hj⟩) (Rl.stable _ _) (fun j hj => by obtain rfl := Option.some.inj hj; exact ⟨Nat.le_refl _, by simp⟩)⟩
    clear S
    go_wp2_with fail
    go_loopg [6, 7] ((L 5).length + 1) (fun kq x6 v7 w' => ∃ (i : Nat) (u6 : Value) (T : List Int), i ≤ (L 5).length ∧ kq = (L 5).length + 1 - i ∧ x6 = u6 ∧ v7 = .int .i64 i ∧ Aside0 (T.length ≤ i ∧ ∀ y ∈ T, 0 ≤ y ∧ y < ((L 5).length : Int)) ∧ Aside0 (Sx (fun k => k = g) w w' (Rl u6 (T) :: [Bx go (#[.int .i64 kd, .int .i64 x, .int .i64 (ra - 1), .int .i64 0]) 80, Bx gr (#[.int .i64 0, .int .i64 0, .int .i64 0, .int .i64 0]) 80, Bx gb (bkV s V) 27, Rr w0 g bs (((p + 1) + 1) + 1)])))
    case atStart => exact ⟨0, _, [], by omega, by omega, rfl, rfl, ⟨⟨Nat.le_refl _, fun y hy => by cases hy⟩⟩, S1⟩
    case round =>
      clear S1
      obtain ⟨i, u6, T, hi, rfl, rfl, rfl, HT, S⟩ := hrel
      by_cases hlt : i < (L 5).length
      · skip
        obtain ⟨A6, c6, e6⟩ := (S.out.get 0 rfl).form
        subst e6
        have hi2 : (i : Int) < ((L 5).length : Int) := by omega
        have hT48 : T.length ≤ 48 := by have := HT.out.1; omega
        obtain ⟨hci, hzi⟩ := (HBV.out _ S.out.base).rowCell (i := 5) (by omega) hv5 i hlt
        obtain ⟨y, hy⟩ : ∃ y, (L 5).getD i 0 = y := ⟨_, rfl⟩
        rw [hy] at hci
        clear hy
        have f_gb_6 : wr.cell? ⟨gb, 6, none⟩ = some (.slice (some ⟨g5, o5, none⟩) (L 5).length cap5) := (S.out.cell 3 rfl 6).trans (by rw [← hv5]; rfl)
        by_cases hy : y > 0
        · have by_ : decide (0 < y) = true := decide_eq_true hy
          clear hy
          go_wp2_with (first | ((with_reducible refine gate_builtin (b := .append) (xs := #[.tmp 47, .tmp 49]) rfl ?_); at_builtin; refine ir_append rfl (.tmp 47) (.tmp 49) 24 rfl Try.underlying24 info3 (.slice A6 T.length c6) T (i : Int) (by first | rfl | (go_simp; done)) (by first | rfl | (go_simp; done)) (S.out.get 0 rfl) (by omega) ?_; intro v1 wa ho_ hf_ hown_; have Sn_ := Aside0.mk (S.out.put 0 rfl (r' := Rl v1 (T ++ [(i : Int)])) (rs' := [Rl v1 (T ++ [(i : Int)]), Bx go (#[.int .i64 kd, .int .i64 x, .int .i64 (ra - 1), .int .i64 0]) 80, Bx gr (#[.int .i64 0, .int .i64 0, .int .i64 0, .int .i64 0]) 80, Bx gb (bkV s V) 27, Rr w0 g bs (((p + 1) + 1) + 1)]) hf_ ho_ (Rl.stable _ _) hown_ rfl); clear ho_ hf_ hown_ S; have S := Sn_; clear Sn_))
          go_roundg ((L 5).length + 1 - (i + 1))
          case measure => omega
          case rel =>
            refine ⟨i + 1, _, T ++ [(i : Int)], by omega, rfl, rfl, by go_num, ⟨?_⟩, S⟩
            have h1 := HT.out.1
            refine ⟨by simp; omega, fun z hz => ?_⟩
            rcases List.mem_append.1 hz with hz | hz
            · exact HT.out.2 z hz
            · obtain rfl := List.mem_singleton.1 hz
              exact ⟨by omega, by omega⟩
        · have by_ : decide (0 < y) = false := decide_eq_false hy
          clear hy
          go_wp2
          go_roundg ((L 5).length + 1 - (i + 1))
          case measure => omega
          case rel => exact ⟨i + 1, _, T, by omega, rfl, rfl, by go_num, ⟨⟨by have := HT.out.1; omega, HT.out.2⟩⟩, S⟩
      · skip
        have hT48 : T.length ≤ 48 := by have := HT.out.1; omega
        have hie : i = (L 5).length := by omega
        subst hie
        clear hlt
        by_cases hT0 : T = []
        · subst hT0
          obtain ⟨A6, c6, e6⟩ := (S.out.get 0 rfl).form
          subst e6
          have f_gb_6 : wr.cell? ⟨gb, 6, none⟩ = some (.slice (some ⟨g5, o5, none⟩) (L 5).length cap5) := (S.out.cell 3 rfl 6).trans (by rw [← hv5]; rfl)
          have Sn_ := Aside0.mk (S.out.drop (rs' := [Bx go (#[.int .i64 kd, .int .i64 x, .int .i64 (ra - 1), .int .i64 0]) 80, Bx gr (#[.int .i64 0, .int .i64 0, .int .i64 0, .int .i64 0]) 80, Bx gb (bkV s V) 27, Rr w0 g bs (((p + 1) + 1) + 1)]) 0 rfl)
          clear S
          have S := Sn_
          clear Sn_
          go_wp2_with fail
          refine (pickS HBS.out (S.out.get 3 rfl) (HBW.out _ S.out.base) (by omega) (by omega) (4) (by omega)).mono ?_
          rintro e w43 ⟨rb, rfl, rb0, rb1, hI_, hf_⟩
          have Sn_ := Aside0.mk (S.out.read (rs' := [Bx go (#[.int .i64 kd, .int .i64 x, .int .i64 (ra - 1), .int .i64 0]) 80, Bx gr (#[.int .i64 0, .int .i64 0, .int .i64 0, .int .i64 0]) 80, Bx gb (bkV s V) 27, Rr w0 g bs ((((p + 1) + 1) + 1) + 1)]) 3 rfl hI_ hf_ rfl)
          clear S hI_ hf_
          have S := Sn_
          clear Sn_
          have f_go_3 : w43.cell? ⟨go, 3, none⟩ = some (.int .i64 0) := (S.out.cell 0 rfl 3).trans rfl
          have z_go_3 := S.out.frozen 0 rfl 3
          go_upto_region 20 with (first | ((with_reducible refine gate_store (t := 3) (p := 78) rfl ?_); refine store_event (t := 3) (p := 78) (v := ?vo_22) (w1 := w43.setCell ⟨go, 3, none⟩ (.int .i64 (rb - 1))) ?hg ?ho ?hn ?hr ?_; (case ho => rfl); (case hg => rfl); (case hn => rfl); (case hr => first | (go_simp; done) | (go_simp; rfl)); intro w44 hw_; have Sn_ := Aside0.mk ((S.out.setCell (cs' := #[.int .i64 kd, .int .i64 x, .int .i64 (ra - 1), .int .i64 (rb - 1)]) (rs' := [Bx go (#[.int .i64 kd, .int .i64 x, .int .i64 (ra - 1), .int .i64 (rb - 1)]) 80, Bx gr (#[.int .i64 0, .int .i64 0, .int .i64 0, .int .i64 0]) 80, Bx gb (bkV s V) 27, Rr w0 g bs ((((p + 1) + 1) + 1) + 1)]) 0 rfl 3 (.int .i64 (rb - 1)) (by simp only [List.setIfInBounds_toArray, List.set_cons_zero, List.set_cons_succ]) rfl).of hw_); clear S hw_; have S := Sn_; clear Sn_))
          go_wp2_with fail
          refine (pickS HBS.out (S.out.get 3 rfl) (HBW.out _ S.out.base) (by omega) (by omega) (20) (by omega)).mono ?_
          rintro e w45 ⟨ze, rfl, ze0, ze1, hI_, hf_⟩
          have Sn_ := Aside0.mk (S.out.read (rs' := [Bx go (#[.int .i64 kd, .int .i64 x, .int .i64 (ra - 1), .int .i64 (rb - 1)]) 80, Bx gr (#[.int .i64 0, .int .i64 0, .int .i64 0, .int .i64 0]) 80, Bx gb (bkV s V) 27, Rr w0 g bs (((((p + 1) + 1) + 1) + 1) + 1)]) 3 rfl hI_ hf_ rfl)
          clear S hI_ hf_
          have S := Sn_
          clear Sn_
          by_cases hz : ze = 0
          · have bz : (ze == 0) = true := beq_iff_eq.mpr hz
            clear hz
            go_wp2_with fail
            refine (numL HBS.out (S.out.get 3 rfl) (HBW.out _ S.out.base) (by omega) (by omega) [0, 7, -1] (by decide) (by decide)).mono ?_
            rintro e w46 ⟨zk, rfl, hm_zk, hI_, hf_⟩
            have Sn_ := Aside0.mk (S.out.read (rs' := [Bx go (#[.int .i64 kd, .int .i64 x, .int .i64 (ra - 1), .int .i64 (rb - 1)]) 80, Bx gr (#[.int .i64 0, .int .i64 0, .int .i64 0, .int .i64 0]) 80, Bx gb (bkV s V) 27, Rr w0 g bs ((((((p + 1) + 1) + 1) + 1) + 1) + 1)]) 3 rfl hI_ hf_ rfl)
            clear S hI_ hf_
            have S := Sn_
            clear Sn_
            have f_go_0 : w46.cell? ⟨go, 0, none⟩ = some (.int .i64 kd) := (S.out.cell 0 rfl 0).trans rfl
            have z_go_0 := S.out.frozen 0 rfl 0
            go_wp2_with (first | ((with_reducible refine gate_store (t := 3) (p := 91) rfl ?_); refine store_event (t := 3) (p := 91) (v := ?vo_23) (w1 := w46.setCell ⟨go, 0, none⟩ (.int .i64 (zk))) ?hg ?ho ?hn ?hr ?_; (case ho => rfl); (case hg => rfl); (case hn => rfl); (case hr => first | (go_simp; done) | (go_simp; rfl)); intro w47 hw_; have Sn_ := Aside0.mk ((S.out.setCell (cs' := #[.int .i64 (zk), .int .i64 x, .int .i64 (ra - 1), .int .i64 (rb - 1)]) (rs' := [Bx go (#[.int .i64 (zk), .int .i64 x, .int .i64 (ra - 1), .int .i64 (rb - 1)]) 80, Bx gr (#[.int .i64 0, .int .i64 0, .int .i64 0, .int .i64 0]) 80, Bx gb (bkV s V) 27, Rr w0 g bs ((((((p + 1) + 1) + 1) + 1) + 1) + 1)]) 0 rfl 0 (.int .i64 (zk)) (by simp only [List.setIfInBounds_toArray, List.set_cons_zero, List.set_cons_succ]) rfl).of hw_); clear S hw_; have S := Sn_; clear Sn_) | ((with_reducible refine gate_dst (N := 92) rfl ?_); refine Kd.event_run rfl (Row.load_row_run (g := go) (t := 80) (cells := #[.int .i64 (zk), .int .i64 x, .int .i64 (ra - 1), .int .i64 (rb - 1)]) rfl rfl (S.out.blk 0 rfl) Try.underlying80 rfl (by kernel_rfl)) ?_) | ((with_reducible refine gate_store (t := 80) (p := 4) rfl ?_); refine store_event (t := 80) (p := 4) (v := ?vo_24) (w1 := w47.setRow gr (#[.int .i64 (zk), .int .i64 x, .int .i64 (ra - 1), .int .i64 (rb - 1)])) ?hg ?ho ?hn ?hr ?_; (case ho => rfl); (case hg => rfl); (case hn => rfl); (case hr => exact (Row.store_row_run (g := gr) (cells := #[.int .i64 (zk), .int .i64 x, .int .i64 (ra - 1), .int .i64 (rb - 1)]) (t := 80) (old := #[.int .i64 0, .int .i64 0, .int .i64 0, .int .i64 0]) rfl (by rfl) (by rfl) (S.out.blk 1 rfl) (by kernel_rfl) rfl (by simp [Value.oneCell']))); intro w48 hw_; have Sn_ := Aside0.mk ((S.out.setRow (cs' := #[.int .i64 (zk), .int .i64 x, .int .i64 (ra - 1), .int .i64 (rb - 1)]) (rs' := [Bx go (#[.int .i64 (zk), .int .i64 x, .int .i64 (ra - 1), .int .i64 (rb - 1)]) 80, Bx gr (#[.int .i64 (zk), .int .i64 x, .int .i64 (ra - 1), .int .i64 (rb - 1)]) 80, Bx gb (bkV s V) 27, Rr w0 g bs ((((((p + 1) + 1) + 1) + 1) + 1) + 1)]) 1 rfl rfl).of hw_); clear S hw_; have S := Sn_; clear Sn_))
            refine bodyPost_ret (results_cell_row rfl _ _ gr 80 (#[.int .i64 (zk), .int .i64 x, .int .i64 (ra - 1), .int .i64 (rb - 1)]) (0, 0) _ rfl (S.out.blk 1 rfl) Try.underlying80 rfl (by kernel_rfl)) rfl ?_
            exact ⟨_, _, _, _, ((((((p + 1) + 1) + 1) + 1) + 1) + 1), rfl, ⟨by omega, by omega⟩, ⟨by omega, by omega⟩, ⟨by omega, by omega⟩, S.out.get 3 rfl, by omega, by omega, S.out.base⟩
          · have bz : (ze == 0) = false := beq_eq_false_iff_ne.mpr hz
            clear hz
            go_wp2_with (first | ((with_reducible refine gate_dst (N := 92) rfl ?_); refine Kd.event_run rfl (Row.load_row_run (g := go) (t := 80) (cells := #[.int .i64 kd, .int .i64 x, .int .i64 (ra - 1), .int .i64 (rb - 1)]) rfl rfl (S.out.blk 0 rfl) Try.underlying80 rfl (by kernel_rfl)) ?_) | ((with_reducible refine gate_store (t := 80) (p := 4) rfl ?_); refine store_event (t := 80) (p := 4) (v := ?vo_25) (w1 := w45.setRow gr (#[.int .i64 kd, .int .i64 x, .int .i64 (ra - 1), .int .i64 (rb - 1)])) ?hg ?ho ?hn ?hr ?_; (case ho => rfl); (case hg => rfl); (case hn => rfl); (case hr => exact (Row.store_row_run (g := gr) (cells := #[.int .i64 kd, .int .i64 x, .int .i64 (ra - 1), .int .i64 (rb - 1)]) (t := 80) (old := #[.int .i64 0, .int .i64 0, .int .i64 0, .int .i64 0]) rfl (by rfl) (by rfl) (S.out.blk 1 rfl) (by kernel_rfl) rfl (by simp [Value.oneCell']))); intro w49 hw_; have Sn_ := Aside0.mk ((S.out.setRow (cs' := #[.int .i64 kd, .int .i64 x, .int .i64 (ra - 1), .int .i64 (rb - 1)]) (rs' := [Bx go (#[.int .i64 kd, .int .i64 x, .int .i64 (ra - 1), .int .i64 (rb - 1)]) 80, Bx gr (#[.int .i64 kd, .int .i64 x, .int .i64 (ra - 1), .int .i64 (rb - 1)]) 80, Bx gb (bkV s V) 27, Rr w0 g bs (((((p + 1) + 1) + 1) + 1) + 1)]) 1 rfl rfl).of hw_); clear S hw_; have S := Sn_; clear Sn_))
            refine bodyPost_ret (results_cell_row rfl _ _ gr 80 (#[.int .i64 kd, .int .i64 x, .int .i64 (ra - 1), .int .i64 (rb - 1)]) (0, 0) _ rfl (S.out.blk 1 rfl) Try.underlying80 rfl (by kernel_rfl)) rfl ?_
            exact ⟨_, _, _, _, (((((p + 1) + 1) + 1) + 1) + 1), rfl, ⟨by omega, by omega⟩, ⟨by omega, by omega⟩, ⟨by omega, by omega⟩, S.out.get 3 rfl, by omega, by omega, S.out.base⟩
        have hT1 : 1 ≤ T.length := by
          rcases T with _ | ⟨t, ts⟩
          · exact absurd rfl hT0
          · simp
        have hTi : (0 : Int) < (T.length : Int) := by omega
        clear hT0
        obtain ⟨g6, o6, cap6, hv6, _, _⟩ := (S.out.get 0 rfl).at 0 (by omega)
        subst hv6
        have f_gb_6 : wr.cell? ⟨gb, 6, none⟩ = some (.slice (some ⟨g5, o5, none⟩) (L 5).length cap5) := (S.out.cell 3 rfl 6).trans (by rw [← hv5]; rfl)
        go_wp2_with fail
        refine (pickS HBS.out (S.out.get 4 rfl) (HBW.out _ S.out.base) (by omega) (by omega) (5) (by omega)).mono ?_
        rintro e w50 ⟨rc, rfl, rc0, rc1, hI_, hf_⟩
        have Sn_ := Aside0.mk (S.out.read (rs' := [Rl (.slice (some ⟨g6, o6, none⟩) T.length cap6) (T), Bx go (#[.int .i64 kd, .int .i64 x, .int .i64 (ra - 1), .int .i64 0]) 80, Bx gr (#[.int .i64 0, .int .i64 0, .int .i64 0, .int .i64 0]) 80, Bx gb (bkV s V) 27, Rr w0 g bs ((((p + 1) + 1) + 1) + 1)]) 4 rfl hI_ hf_ rfl)
        clear S hI_ hf_
        have S := Sn_
        clear Sn_
        clear rc1
        by_cases hrc : rc > 0
        rotate_left
        · have bc : decide (0 < rc) = false := decide_eq_false hrc
          clear hrc
          have Sn_ := Aside0.mk (S.out.drop (rs' := [Bx go (#[.int .i64 kd, .int .i64 x, .int .i64 (ra - 1), .int .i64 0]) 80, Bx gr (#[.int .i64 0, .int .i64 0, .int .i64 0, .int .i64 0]) 80, Bx gb (bkV s V) 27, Rr w0 g bs ((((p + 1) + 1) + 1) + 1)]) 0 rfl)
          clear S
          have S := Sn_
          clear Sn_
          go_wp2_with fail
          refine (pickS HBS.out (S.out.get 3 rfl) (HBW.out _ S.out.base) (by omega) (by omega) (4) (by omega)).mono ?_
          rintro e w51 ⟨rb, rfl, rb0, rb1, hI_, hf_⟩
          have Sn_ := Aside0.mk (S.out.read (rs' := [Bx go (#[.int .i64 kd, .int .i64 x, .int .i64 (ra - 1), .int .i64 0]) 80, Bx gr (#[.int .i64 0, .int .i64 0, .int .i64 0, .int .i64 0]) 80, Bx gb (bkV s V) 27, Rr w0 g bs (((((p + 1) + 1) + 1) + 1) + 1)]) 3 rfl hI_ hf_ rfl)
          clear S hI_ hf_
          have S := Sn_
          clear Sn_
          have f_go_3 : w51.cell? ⟨go, 3, none⟩ = some (.int .i64 0) := (S.out.cell 0 rfl 3).trans rfl
          have z_go_3 := S.out.frozen 0 rfl 3
          go_upto_region 20 with (first | ((with_reducible refine gate_store (t := 3) (p := 78) rfl ?_); refine store_event (t := 3) (p := 78) (v := ?vo_26) (w1 := w51.setCell ⟨go, 3, none⟩ (.int .i64 (rb - 1))) ?hg ?ho ?hn ?hr ?_; (case ho => rfl); (case hg => rfl); (case hn => rfl); (case hr => first | (go_simp; done) | (go_simp; rfl)); intro w52 hw_; have Sn_ := Aside0.mk ((S.out.setCell (cs' := #[.int .i64 kd, .int .i64 x, .int .i64 (ra - 1), .int .i64 (rb - 1)]) (rs' := [Bx go (#[.int .i64 kd, .int .i64 x, .int .i64 (ra - 1), .int .i64 (rb - 1)]) 80, Bx gr (#[.int .i64 0, .int .i64 0, .int .i64 0, .int .i64 0]) 80, Bx gb (bkV s V) 27, Rr w0 g bs (((((p + 1) + 1) + 1) + 1) + 1)]) 0 rfl 3 (.int .i64 (rb - 1)) (by simp only [List.setIfInBounds_toArray, List.set_cons_zero, List.set_cons_succ]) rfl).of hw_); clear S hw_; have S := Sn_; clear Sn_))
          go_wp2_with fail
          refine (pickS HBS.out (S.out.get 3 rfl) (HBW.out _ S.out.base) (by omega) (by omega) (20) (by omega)).mono ?_
          rintro e w53 ⟨ze, rfl, ze0, ze1, hI_, hf_⟩
          have Sn_ := Aside0.mk (S.out.read (rs' := [Bx go (#[.int .i64 kd, .int .i64 x, .int .i64 (ra - 1), .int .i64 (rb - 1)]) 80, Bx gr (#[.int .i64 0, .int .i64 0, .int .i64 0, .int .i64 0]) 80, Bx gb (bkV s V) 27, Rr w0 g bs ((((((p + 1) + 1) + 1) + 1) + 1) + 1)]) 3 rfl hI_ hf_ rfl)
          clear S hI_ hf_
          have S := Sn_
          clear Sn_
          by_cases hz : ze = 0
          · have bz : (ze == 0) = true := beq_iff_eq.mpr hz
            clear hz
            go_wp2_with fail
            refine (numL HBS.out (S.out.get 3 rfl) (HBW.out _ S.out.base) (by omega) (by omega) [0, 7, -1] (by decide) (by decide)).mono ?_
            rintro e w54 ⟨zk, rfl, hm_zk, hI_, hf_⟩
            have Sn_ := Aside0.mk (S.out.read (rs' := [Bx go (#[.int .i64 kd, .int .i64 x, .int .i64 (ra - 1), .int .i64 (rb - 1)]) 80, Bx gr (#[.int .i64 0, .int .i64 0, .int .i64 0, .int .i64 0]) 80, Bx gb (bkV s V) 27, Rr w0 g bs (((((((p + 1) + 1) + 1) + 1) + 1) + 1) + 1)]) 3 rfl hI_ hf_ rfl)
            clear S hI_ hf_
            have S := Sn_
            clear Sn_
            have f_go_0 : w54.cell? ⟨go, 0, none⟩ = some (.int .i64 kd) := (S.out.cell 0 rfl 0).trans rfl
            have z_go_0 := S.out.frozen 0 rfl 0
            go_wp2_with (first | ((with_reducible refine gate_store (t := 3) (p := 91) rfl ?_); refine store_event (t := 3) (p := 91) (v := ?vo_27) (w1 := w54.setCell ⟨go, 0, none⟩ (.int .i64 (zk))) ?hg ?ho ?hn ?hr ?_; (case ho => rfl); (case hg => rfl); (case hn => rfl); (case hr => first | (go_simp; done) | (go_simp; rfl)); intro w55 hw_; have Sn_ := Aside0.mk ((S.out.setCell (cs' := #[.int .i64 (zk), .int .i64 x, .int .i64 (ra - 1), .int .i64 (rb - 1)]) (rs' := [Bx go (#[.int .i64 (zk), .int .i64 x, .int .i64 (ra - 1), .int .i64 (rb - 1)]) 80, Bx gr (#[.int .i64 0, .int .i64 0, .int .i64 0, .int .i64 0]) 80, Bx gb (bkV s V) 27, Rr w0 g bs (((((((p + 1) + 1) + 1) + 1) + 1) + 1) + 1)]) 0 rfl 0 (.int .i64 (zk)) (by simp only [List.setIfInBounds_toArray, List.set_cons_zero, List.set_cons_succ]) rfl).of hw_); clear S hw_; have S := Sn_; clear Sn_) | ((with_reducible refine gate_dst (N := 92) rfl ?_); refine Kd.event_run rfl (Row.load_row_run (g := go) (t := 80) (cells := #[.int .i64 (zk), .int .i64 x, .int .i64 (ra - 1), .int .i64 (rb - 1)]) rfl rfl (S.out.blk 0 rfl) Try.underlying80 rfl (by kernel_rfl)) ?_) | ((with_reducible refine gate_store (t := 80) (p := 4) rfl ?_); refine store_event (t := 80) (p := 4) (v := ?vo_28) (w1 := w55.setRow gr (#[.int .i64 (zk), .int .i64 x, .int .i64 (ra - 1), .int .i64 (rb - 1)])) ?hg ?ho ?hn ?hr ?_; (case ho => rfl); (case hg => rfl); (case hn => rfl); (case hr => exact (Row.store_row_run (g := gr) (cells := #[.int .i64 (zk), .int .i64 x, .int .i64 (ra - 1), .int .i64 (rb - 1)]) (t := 80) (old := #[.int .i64 0, .int .i64 0, .int .i64 0, .int .i64 0]) rfl (by rfl) (by rfl) (S.out.blk 1 rfl) (by kernel_rfl) rfl (by simp [Value.oneCell']))); intro w56 hw_; have Sn_ := Aside0.mk ((S.out.setRow (cs' := #[.int .i64 (zk), .int .i64 x, .int .i64 (ra - 1), .int .i64 (rb - 1)]) (rs' := [Bx go (#[.int .i64 (zk), .int .i64 x, .int .i64 (ra - 1), .int .i64 (rb - 1)]) 80, Bx gr (#[.int .i64 (zk), .int .i64 x, .int .i64 (ra - 1), .int .i64 (rb - 1)]) 80, Bx gb (bkV s V) 27, Rr w0 g bs (((((((p + 1) + 1) + 1) + 1) + 1) + 1) + 1)]) 1 rfl rfl).of hw_); clear S hw_; have S := Sn_; clear Sn_))
            refine bodyPost_ret (results_cell_row rfl _ _ gr 80 (#[.int .i64 (zk), .int .i64 x, .int .i64 (ra - 1), .int .i64 (rb - 1)]) (0, 0) _ rfl (S.out.blk 1 rfl) Try.underlying80 rfl (by kernel_rfl)) rfl ?_
            exact ⟨_, _, _, _, (((((((p + 1) + 1) + 1) + 1) + 1) + 1) + 1), rfl, ⟨by omega, by omega⟩, ⟨by omega, by omega⟩, ⟨by omega, by omega⟩, S.out.get 3 rfl, by omega, by omega, S.out.base⟩
          · have bz : (ze == 0) = false := beq_eq_false_iff_ne.mpr hz
            clear hz
            go_wp2_with (first | ((with_reducible refine gate_dst (N := 92) rfl ?_); refine Kd.event_run rfl (Row.load_row_run (g := go) (t := 80) (cells := #[.int .i64 kd, .int .i64 x, .int .i64 (ra - 1), .int .i64 (rb - 1)]) rfl rfl (S.out.blk 0 rfl) Try.underlying80 rfl (by kernel_rfl)) ?_) | ((with_reducible refine gate_store (t := 80) (p := 4) rfl ?_); refine store_event (t := 80) (p := 4) (v := ?vo_29) (w1 := w53.setRow gr (#[.int .i64 kd, .int .i64 x, .int .i64 (ra - 1), .int .i64 (rb - 1)])) ?hg ?ho ?hn ?hr ?_; (case ho => rfl); (case hg => rfl); (case hn => rfl); (case hr => exact (Row.store_row_run (g := gr) (cells := #[.int .i64 kd, .int .i64 x, .int .i64 (ra - 1), .int .i64 (rb - 1)]) (t := 80) (old := #[.int .i64 0, .int .i64 0, .int .i64 0, .int .i64 0]) rfl (by rfl) (by rfl) (S.out.blk 1 rfl) (by kernel_rfl) rfl (by simp [Value.oneCell']))); intro w57 hw_; have Sn_ := Aside0.mk ((S.out.setRow (cs' := #[.int .i64 kd, .int .i64 x, .int .i64 (ra - 1), .int .i64 (rb - 1)]) (rs' := [Bx go (#[.int .i64 kd, .int .i64 x, .int .i64 (ra - 1), .int .i64 (rb - 1)]) 80, Bx gr (#[.int .i64 kd, .int .i64 x, .int .i64 (ra - 1), .int .i64 (rb - 1)]) 80, Bx gb (bkV s V) 27, Rr w0 g bs ((((((p + 1) + 1) + 1) + 1) + 1) + 1)]) 1 rfl rfl).of hw_); clear S hw_; have S := Sn_; clear Sn_))
            refine bodyPost_ret (results_cell_row rfl _ _ gr 80 (#[.int .i64 kd, .int .i64 x, .int .i64 (ra - 1), .int .i64 (rb - 1)]) (0, 0) _ rfl (S.out.blk 1 rfl) Try.underlying80 rfl (by kernel_rfl)) rfl ?_
            exact ⟨_, _, _, _, ((((((p + 1) + 1) + 1) + 1) + 1) + 1), rfl, ⟨by omega, by omega⟩, ⟨by omega, by omega⟩, ⟨by omega, by omega⟩, S.out.get 3 rfl, by omega, by omega, S.out.base⟩
        have bc : decide (0 < rc) = true := decide_eq_true hrc
        clear hrc
        go_wp2_with fail
        refine (pickS HBS.out (S.out.get 4 rfl) (HBW.out _ S.out.base) (by omega) (by omega) ((T.length : Int)) (by omega)).mono ?_
        rintro e w58 ⟨rt, rfl, rt0, rt1, hI_, hf_⟩
        have Sn_ := Aside0.mk (S.out.read (rs' := [Rl (.slice (some ⟨g6, o6, none⟩) T.length cap6) (T), Bx go (#[.int .i64 kd, .int .i64 x, .int .i64 (ra - 1), .int .i64 0]) 80, Bx gr (#[.int .i64 0, .int .i64 0, .int .i64 0, .int .i64 0]) 80, Bx gb (bkV s V) 27, Rr w0 g bs (((((p + 1) + 1) + 1) + 1) + 1)]) 4 rfl hI_ hf_ rfl)
        clear S hI_ hf_
        have S := Sn_
        clear Sn_
        obtain ⟨m, rfl⟩ := Int.eq_ofNat_of_zero_le rt0
        have hm : m < T.length := by omega
        obtain ⟨ga, oa, ca, ea, hct, hzt⟩ := (S.out.get 0 rfl).at m hm
        injection ea with ea1 ea2 ea3
        injection ea1 with ea1
        injection ea1 with ea4 ea5 ea6
        subst ea4 ea5
        clear ea2 ea3 ea6
        obtain ⟨y, hy⟩ : ∃ y, T.getD m 0 = y := ⟨_, rfl⟩
        have hyT : y ∈ T := by rw [← hy, List.getD_eq_getElem?_getD, List.getElem?_eq_getElem hm]; exact List.getElem_mem _
        rw [hy] at hct
        clear hy
        obtain ⟨hy0, hy1⟩ := HT.out.2 y hyT
        clear hyT
        obtain ⟨j, rfl⟩ := Int.eq_ofNat_of_zero_le hy0
        have hjl : j < (L 5).length := by omega
        obtain ⟨z, hz⟩ : ∃ z, (L 5).getD j 0 = z := ⟨_, rfl⟩
        have hzb : 0 ≤ z ∧ z ≤ 4 := by
          have h1 := Bv.W.unit HW.out j hjl
          have h2 : 0 ≤ (L 5).getD j 0 := h1.1
          have h3 : (L 5).getD j 0 ≤ s := h1.2.1
          omega
        obtain ⟨hz0, hz4⟩ := hzb
        have f_go_2 : w58.cell? ⟨go, 2, none⟩ = some (.int .i64 (ra - 1)) := (S.out.cell 1 rfl 2).trans rfl
        have z_go_2 := S.out.frozen 1 rfl 2
        go_upto_region 16 with (first | ((with_reducible refine gate_store (t := 3) (p := 66) rfl ?_); refine store_event (t := 3) (p := 66) (v := ?vo_30) (w1 := w58.setCell ⟨go, 2, none⟩ (.int .i64 ((j : Int)))) ?hg ?ho ?hn ?hr ?_; (case ho => rfl); (case hg => rfl); (case hn => rfl); (case hr => first | (go_simp; done) | (go_simp; rfl)); intro w59 hw_; have Sn_ := Aside0.mk ((S.out.setCell (cs' := #[.int .i64 kd, .int .i64 x, .int .i64 ((j : Int)), .int .i64 0]) (rs' := [Rl (.slice (some ⟨g6, o6, none⟩) T.length cap6) (T), Bx go (#[.int .i64 kd, .int .i64 x, .int .i64 ((j : Int)), .int .i64 0]) 80, Bx gr (#[.int .i64 0, .int .i64 0, .int .i64 0, .int .i64 0]) 80, Bx gb (bkV s V) 27, Rr w0 g bs (((((p + 1) + 1) + 1) + 1) + 1)]) 1 rfl 2 (.int .i64 ((j : Int))) (by simp only [List.setIfInBounds_toArray, List.set_cons_zero, List.set_cons_succ]) rfl).of hw_); clear S hw_; have S := Sn_; clear Sn_))
        obtain ⟨hcj, hzj⟩ := (HBV.out _ S.out.base).rowCell (i := 5) (by omega) hv5 j hjl
        rw [hz] at hcj
        clear hz
        have f_gb_6 : w59.cell? ⟨gb, 6, none⟩ = some (.slice (some ⟨g5, o5, none⟩) (L 5).length cap5) := (S.out.cell 3 rfl 6).trans (by rw [← hv5]; rfl)
        have f_go_2 : w59.cell? ⟨go, 2, none⟩ = some (.int .i64 ((j : Int))) := (S.out.cell 1 rfl 2).trans rfl
        have f_go_1 : w59.cell? ⟨go, 1, none⟩ = some (.int .i64 x) := (S.out.cell 1 rfl 1).trans rfl
        have z_go_1 := S.out.frozen 1 rfl 1
        go_upto_region 17 with (first | ((with_reducible refine gate_store (t := 3) (p := 74) rfl ?_); refine store_event (t := 3) (p := 74) (v := ?vo_31) (w1 := w59.setCell ⟨go, 1, none⟩ (.int .i64 (z - 1))) ?hg ?ho ?hn ?hr ?_; (case ho => rfl); (case hg => rfl); (case hn => rfl); (case hr => first | (go_simp; done) | (go_simp; rfl)); intro w60 hw_; have Sn_ := Aside0.mk ((S.out.setCell (cs' := #[.int .i64 kd, .int .i64 (z - 1), .int .i64 ((j : Int)), .int .i64 0]) (rs' := [Rl (.slice (some ⟨g6, o6, none⟩) T.length cap6) (T), Bx go (#[.int .i64 kd, .int .i64 (z - 1), .int .i64 ((j : Int)), .int .i64 0]) 80, Bx gr (#[.int .i64 0, .int .i64 0, .int .i64 0, .int .i64 0]) 80, Bx gb (bkV s V) 27, Rr w0 g bs (((((p + 1) + 1) + 1) + 1) + 1)]) 1 rfl 1 (.int .i64 (z - 1)) (by simp only [List.setIfInBounds_toArray, List.set_cons_zero, List.set_cons_succ]) rfl).of hw_); clear S hw_; have S := Sn_; clear Sn_))
        have Sn_ := Aside0.mk (S.out.drop (rs' := [Bx go (#[.int .i64 kd, .int .i64 (z - 1), .int .i64 ((j : Int)), .int .i64 0]) 80, Bx gr (#[.int .i64 0, .int .i64 0, .int .i64 0, .int .i64 0]) 80, Bx gb (bkV s V) 27, Rr w0 g bs (((((p + 1) + 1) + 1) + 1) + 1)]) 0 rfl)
        clear S
        have S := Sn_
        clear Sn_
        go_wp2_with fail
        refine (pickS HBS.out (S.out.get 3 rfl) (HBW.out _ S.out.base) (by omega) (by omega) (4) (by omega)).mono ?_
        rintro e w61 ⟨rb, rfl, rb0, rb1, hI_, hf_⟩
        have Sn_ := Aside0.mk (S.out.read (rs' := [Bx go (#[.int .i64 kd, .int .i64 (z - 1), .int .i64 ((j : Int)), .int .i64 0]) 80, Bx gr (#[.int .i64 0, .int .i64 0, .int .i64 0, .int .i64 0]) 80, Bx gb (bkV s V) 27, Rr w0 g bs ((((((p + 1) + 1) + 1) + 1) + 1) + 1)]) 3 rfl hI_ hf_ rfl)
        clear S hI_ hf_
        have S := Sn_
        clear Sn_
        have f_go_3 : w61.cell? ⟨go, 3, none⟩ = some (.int .i64 0) := (S.out.cell 0 rfl 3).trans rfl
        have z_go_3 := S.out.frozen 0 rfl 3
        go_upto_region 20 with (first | ((with_reducible refine gate_store (t := 3) (p := 78) rfl ?_); refine store_event (t := 3) (p := 78) (v := ?vo_32) (w1 := w61.setCell ⟨go, 3, none⟩ (.int .i64 (rb - 1))) ?hg ?ho ?hn ?hr ?_; (case ho => rfl); (case hg => rfl); (case hn => rfl); (case hr => first | (go_simp; done) | (go_simp; rfl)); intro w62 hw_; have Sn_ := Aside0.mk ((S.out.setCell (cs' := #[.int .i64 kd, .int .i64 (z - 1), .int .i64 ((j : Int)), .int .i64 (rb - 1)]) (rs' := [Bx go (#[.int .i64 kd, .int .i64 (z - 1), .int .i64 ((j : Int)), .int .i64 (rb - 1)]) 80, Bx gr (#[.int .i64 0, .int .i64 0, .int .i64 0, .int .i64 0]) 80, Bx gb (bkV s V) 27, Rr w0 g bs ((((((p + 1) + 1) + 1) + 1) + 1) + 1)]) 0 rfl 3 (.int .i64 (rb - 1)) (by simp only [List.setIfInBounds_toArray, List.set_cons_zero, List.set_cons_succ]) rfl).of hw_); clear S hw_; have S := Sn_; clear Sn_))
        go_wp2_with fail
        refine (pickS HBS.out (S.out.get 3 rfl) (HBW.out _ S.out.base) (by omega) (by omega) (20) (by omega)).mono ?_
        rintro e w63 ⟨ze, rfl, ze0, ze1, hI_, hf_⟩
        have Sn_ := Aside0.mk (S.out.read (rs' := [Bx go (#[.int .i64 kd, .int .i64 (z - 1), .int .i64 ((j : Int)), .int .i64 (rb - 1)]) 80, Bx gr (#[.int .i64 0, .int .i64 0, .int .i64 0, .int .i64 0]) 80, Bx gb (bkV s V) 27, Rr w0 g bs (((((((p + 1) + 1) + 1) + 1) + 1) + 1) + 1)]) 3 rfl hI_ hf_ rfl)
        clear S hI_ hf_
        have S := Sn_
        clear Sn_
        by_cases hz : ze = 0
        · have bz : (ze == 0) = true := beq_iff_eq.mpr hz
          clear hz
          go_wp2_with fail
          refine (numL HBS.out (S.out.get 3 rfl) (HBW.out _ S.out.base) (by omega) (by omega) [0, 7, -1] (by decide) (by decide)).mono ?_
          rintro e w64 ⟨zk, rfl, hm_zk, hI_, hf_⟩
          have Sn_ := Aside0.mk (S.out.read (rs' := [Bx go (#[.int .i64 kd, .int .i64 (z - 1), .int .i64 ((j : Int)), .int .i64 (rb - 1)]) 80, Bx gr (#[.int .i64 0, .int .i64 0, .int .i64 0, .int .i64 0]) 80, Bx gb (bkV s V) 27, Rr w0 g bs ((((((((p + 1) + 1) + 1) + 1) + 1) + 1) + 1) + 1)]) 3 rfl hI_ hf_ rfl)
          clear S hI_ hf_
          have S := Sn_
          clear Sn_
          have f_go_0 : w64.cell? ⟨go, 0, none⟩ = some (.int .i64 kd) := (S.out.cell 0 rfl 0).trans rfl
          have z_go_0 := S.out.frozen 0 rfl 0
          go_wp2_with (first | ((with_reducible refine gate_store (t := 3) (p := 91) rfl ?_); refine store_event (t := 3) (p := 91) (v := ?vo_33) (w1 := w64.setCell ⟨go, 0, none⟩ (.int .i64 (zk))) ?hg ?ho ?hn ?hr ?_; (case ho => rfl); (case hg => rfl); (case hn => rfl); (case hr => first | (go_simp; done) | (go_simp; rfl)); intro w65 hw_; have Sn_ := Aside0.mk ((S.out.setCell (cs' := #[.int .i64 (zk), .int .i64 (z - 1), .int .i64 ((j : Int)), .int .i64 (rb - 1)]) (rs' := [Bx go (#[.int .i64 (zk), .int .i64 (z - 1), .int .i64 ((j : Int)), .int .i64 (rb - 1)]) 80, Bx gr (#[.int .i64 0, .int .i64 0, .int .i64 0, .int .i64 0]) 80, Bx gb (bkV s V) 27, Rr w0 g bs ((((((((p + 1) + 1) + 1) + 1) + 1) + 1) + 1) + 1)]) 0 rfl 0 (.int .i64 (zk)) (by simp only [List.setIfInBounds_toArray, List.set_cons_zero, List.set_cons_succ]) rfl).of hw_); clear S hw_; have S := Sn_; clear Sn_) | ((with_reducible refine gate_dst (N := 92) rfl ?_); refine Kd.event_run rfl (Row.load_row_run (g := go) (t := 80) (cells := #[.int .i64 (zk), .int .i64 (z - 1), .int .i64 ((j : Int)), .int .i64 (rb - 1)]) rfl rfl (S.out.blk 0 rfl) Try.underlying80 rfl (by kernel_rfl)) ?_) | ((with_reducible refine gate_store (t := 80) (p := 4) rfl ?_); refine store_event (t := 80) (p := 4) (v := ?vo_34) (w1 := w65.setRow gr (#[.int .i64 (zk), .int .i64 (z - 1), .int .i64 ((j : Int)), .int .i64 (rb - 1)])) ?hg ?ho ?hn ?hr ?_; (case ho => rfl); (case hg => rfl); (case hn => rfl); (case hr => exact (Row.store_row_run (g := gr) (cells := #[.int .i64 (zk), .int .i64 (z - 1), .int .i64 ((j : Int)), .int .i64 (rb - 1)]) (t := 80) (old := #[.int .i64 0, .int .i64 0, .int .i64 0, .int .i64 0]) rfl (by rfl) (by rfl) (S.out.blk 1 rfl) (by kernel_rfl) rfl (by simp [Value.oneCell']))); intro w66 hw_; have Sn_ := Aside0.mk ((S.out.setRow (cs' := #[.int .i64 (zk), .int .i64 (z - 1), .int .i64 ((j : Int)), .int .i64 (rb - 1)]) (rs' := [Bx go (#[.int .i64 (zk), .int .i64 (z - 1), .int .i64 ((j : Int)), .int .i64 (rb - 1)]) 80, Bx gr (#[.int .i64 (zk), .int .i64 (z - 1), .int .i64 ((j : Int)), .int .i64 (rb - 1)]) 80, Bx gb (bkV s V) 27, Rr w0 g bs ((((((((p + 1) + 1) + 1) + 1) + 1) + 1) + 1) + 1)]) 1 rfl rfl).of hw_); clear S hw_; have S := Sn_; clear Sn_))
          refine bodyPost_ret (results_cell_row rfl _ _ gr 80 (#[.int .i64 (zk), .int .i64 (z - 1), .int .i64 ((j : Int)), .int .i64 (rb - 1)]) (0, 0) _ rfl (S.out.blk 1 rfl) Try.underlying80 rfl (by kernel_rfl)) rfl ?_
          exact ⟨_, _, _, _, ((((((((p + 1) + 1) + 1) + 1) + 1) + 1) + 1) + 1), rfl, ⟨by omega, by omega⟩, ⟨by omega, by omega⟩, ⟨by omega, by omega⟩, S.out.get 3 rfl, by omega, by omega, S.out.base⟩
        · have bz : (ze == 0) = false := beq_eq_false_iff_ne.mpr hz
          clear hz
          go_wp2_with (first | ((with_reducible refine gate_dst (N := 92) rfl ?_); refine Kd.event_run rfl (Row.load_row_run (g := go) (t := 80) (cells := #[.int .i64 kd, .int .i64 (z - 1), .int .i64 ((j : Int)), .int .i64 (rb - 1)]) rfl rfl (S.out.blk 0 rfl) Try.underlying80 rfl (by kernel_rfl)) ?_) | ((with_reducible refine gate_store (t := 80) (p := 4) rfl ?_); refine store_event (t := 80) (p := 4) (v := ?vo_35) (w1 := w63.setRow gr (#[.int .i64 kd, .int .i64 (z - 1), .int .i64 ((j : Int)), .int .i64 (rb - 1)])) ?hg ?ho ?hn ?hr ?_; (case ho => rfl); (case hg => rfl); (case hn => rfl); (case hr => exact (Row.store_row_run (g := gr) (cells := #[.int .i64 kd, .int .i64 (z - 1), .int .i64 ((j : Int)), .int .i64 (rb - 1)]) (t := 80) (old := #[.int .i64 0, .int .i64 0, .int .i64 0, .int .i64 0]) rfl (by rfl) (by rfl) (S.out.blk 1 rfl) (by kernel_rfl) rfl (by simp [Value.oneCell']))); intro w67 hw_; have Sn_ := Aside0.mk ((S.out.setRow (cs' := #[.int .i64 kd, .int .i64 (z - 1), .int .i64 ((j : Int)), .int .i64 (rb - 1)]) (rs' := [Bx go (#[.int .i64 kd, .int .i64 (z - 1), .int .i64 ((j : Int)), .int .i64 (rb - 1)]) 80, Bx gr (#[.int .i64 kd, .int .i64 (z - 1), .int .i64 ((j : Int)), .int .i64 (rb - 1)]) 80, Bx gb (bkV s V) 27, Rr w0 g bs (((((((p + 1) + 1) + 1) + 1) + 1) + 1) + 1)]) 1 rfl rfl).of hw_); clear S hw_; have S := Sn_; clear Sn_))
          refine bodyPost_ret (results_cell_row rfl _ _ gr 80 (#[.int .i64 kd, .int .i64 (z - 1), .int .i64 ((j : Int)), .int .i64 (rb - 1)]) (0, 0) _ rfl (S.out.blk 1 rfl) Try.underlying80 rfl (by kernel_rfl)) rfl ?_
          exact ⟨_, _, _, _, (((((((p + 1) + 1) + 1) + 1) + 1) + 1) + 1), rfl, ⟨by omega, by omega⟩, ⟨by omega, by omega⟩, ⟨by omega, by omega⟩, S.out.get 3 rfl, by omega, by omega, S.out.base⟩
  have b4 : (kd == 4) = false := beq_eq_false_iff_ne.mpr k4
  clear k4
  by_cases k6 : kd = 6
  · have b6 : (kd == 6) = true := beq_iff_eq.mpr k6
    clear k6
    go_wp2_with fail
    refine (pickS HBS.out (S.out.get 3 rfl) (HBW.out _ S.out.base) (by omega) (by omega) (5) (by omega)).mono ?_
    rintro e w68 ⟨ra, rfl, ra0, ra1, hI_, hf_⟩
    have Sn_ := Aside0.mk (S.out.read (rs' := [Bx go (#[.int .i64 kd, .int .i64 x, .int .i64 0, .int .i64 0]) 80, Bx gr (#[.int .i64 0, .int .i64 0, .int .i64 0, .int .i64 0]) 80, Bx gb (bkV s V) 27, Rr w0 g bs (((p + 1) + 1) + 1)]) 3 rfl hI_ hf_ rfl)
    clear S hI_ hf_
    have S := Sn_
    clear Sn_
    have f_go_2 : w68.cell? ⟨go, 2, none⟩ = some (.int .i64 0) := (S.out.cell 0 rfl 2).trans rfl
    have z_go_2 := S.out.frozen 0 rfl 2
    go_upto_region 20 with (first | ((with_reducible refine gate_store (t := 3) (p := 84) rfl ?_); refine store_event (t := 3) (p := 84) (v := ?vo_36) (w1 := w68.setCell ⟨go, 2, none⟩ (.int .i64 (ra - 1))) ?hg ?ho ?hn ?hr ?_; (case ho => rfl); (case hg => rfl); (case hn => rfl); (case hr => first | (go_simp; done) | (go_simp; rfl)); intro w69 hw_; have Sn_ := Aside0.mk ((S.out.setCell (cs' := #[.int .i64 kd, .int .i64 x, .int .i64 (ra - 1), .int .i64 0]) (rs' := [Bx go (#[.int .i64 kd, .int .i64 x, .int .i64 (ra - 1), .int .i64 0]) 80, Bx gr (#[.int .i64 0, .int .i64 0, .int .i64 0, .int .i64 0]) 80, Bx gb (bkV s V) 27, Rr w0 g bs (((p + 1) + 1) + 1)]) 0 rfl 2 (.int .i64 (ra - 1)) (by simp only [List.setIfInBounds_toArray, List.set_cons_zero, List.set_cons_succ]) rfl).of hw_); clear S hw_; have S := Sn_; clear Sn_))
    go_wp2_with fail
    refine (pickS HBS.out (S.out.get 3 rfl) (HBW.out _ S.out.base) (by omega) (by omega) (20) (by omega)).mono ?_
    rintro e w70 ⟨ze, rfl, ze0, ze1, hI_, hf_⟩
    have Sn_ := Aside0.mk (S.out.read (rs' := [Bx go (#[.int .i64 kd, .int .i64 x, .int .i64 (ra - 1), .int .i64 0]) 80, Bx gr (#[.int .i64 0, .int .i64 0, .int .i64 0, .int .i64 0]) 80, Bx gb (bkV s V) 27, Rr w0 g bs ((((p + 1) + 1) + 1) + 1)]) 3 rfl hI_ hf_ rfl)
    clear S hI_ hf_
    have S := Sn_
    clear Sn_
    by_cases hz : ze = 0
    · have bz : (ze == 0) = true := beq_iff_eq.mpr hz
      clear hz
      go_wp2_with fail
      refine (numL HBS.out (S.out.get 3 rfl) (HBW.out _ S.out.base) (by omega) (by omega) [0, 7, -1] (by decide) (by decide)).mono ?_
      rintro e w71 ⟨zk, rfl, hm_zk, hI_, hf_⟩
      have Sn_ := Aside0.mk (S.out.read (rs' := [Bx go (#[.int .i64 kd, .int .i64 x, .int .i64 (ra - 1), .int .i64 0]) 80, Bx gr (#[.int .i64 0, .int .i64 0, .int .i64 0, .int .i64 0]) 80, Bx gb (bkV s V) 27, Rr w0 g bs (((((p + 1) + 1) + 1) + 1) + 1)]) 3 rfl hI_ hf_ rfl)
      clear S hI_ hf_
      have S := Sn_
      clear Sn_
      have f_go_0 : w71.cell? ⟨go, 0, none⟩ = some (.int .i64 kd) := (S.out.cell 0 rfl 0).trans rfl
      have z_go_0 := S.out.frozen 0 rfl 0
      go_wp2_with (first | ((with_reducible refine gate_store (t := 3) (p := 91) rfl ?_); refine store_event (t := 3) (p := 91) (v := ?vo_37) (w1 := w71.setCell ⟨go, 0, none⟩ (.int .i64 (zk))) ?hg ?ho ?hn ?hr ?_; (case ho => rfl); (case hg => rfl); (case hn => rfl); (case hr => first | (go_simp; done) | (go_simp; rfl)); intro w72 hw_; have Sn_ := Aside0.mk ((S.out.setCell (cs' := #[.int .i64 (zk), .int .i64 x, .int .i64 (ra - 1), .int .i64 0]) (rs' := [Bx go (#[.int .i64 (zk), .int .i64 x, .int .i64 (ra - 1), .int .i64 0]) 80, Bx gr (#[.int .i64 0, .int .i64 0, .int .i64 0, .int .i64 0]) 80, Bx gb (bkV s V) 27, Rr w0 g bs (((((p + 1) + 1) + 1) + 1) + 1)]) 0 rfl 0 (.int .i64 (zk)) (by simp only [List.setIfInBounds_toArray, List.set_cons_zero, List.set_cons_succ]) rfl).of hw_); clear S hw_; have S := Sn_; clear Sn_) | ((with_reducible refine gate_dst (N := 92) rfl ?_); refine Kd.event_run rfl (Row.load_row_run (g := go) (t := 80) (cells := #[.int .i64 (zk), .int .i64 x, .int .i64 (ra - 1), .int .i64 0]) rfl rfl (S.out.blk 0 rfl) Try.underlying80 rfl (by kernel_rfl)) ?_) | ((with_reducible refine gate_store (t := 80) (p := 4) rfl ?_); refine store_event (t := 80) (p := 4) (v := ?vo_38) (w1 := w72.setRow gr (#[.int .i64 (zk), .int .i64 x, .int .i64 (ra - 1), .int .i64 0])) ?hg ?ho ?hn ?hr ?_; (case ho => rfl); (case hg => rfl); (case hn => rfl); (case hr => exact (Row.store_row_run (g := gr) (cells := #[.int .i64 (zk), .int .i64 x, .int .i64 (ra - 1), .int .i64 0]) (t := 80) (old := #[.int .i64 0, .int .i64 0, .int .i64 0, .int .i64 0]) rfl (by rfl) (by rfl) (S.out.blk 1 rfl) (by kernel_rfl) rfl (by simp [Value.oneCell']))); intro w73 hw_; have Sn_ := Aside0.mk ((S.out.setRow (cs' := #[.int .i64 (zk), .int .i64 x, .int .i64 (ra - 1), .int .i64 0]) (rs' := [Bx go (#[.int .i64 (zk), .int .i64 x, .int .i64 (ra - 1), .int .i64 0]) 80, Bx gr (#[.int .i64 (zk), .int .i64 x, .int .i64 (ra - 1), .int .i64 0]) 80, Bx gb (bkV s V) 27, Rr w0 g bs (((((p + 1) + 1) + 1) + 1) + 1)]) 1 rfl rfl).of hw_); clear S hw_; have S := Sn_; clear Sn_))
      refine bodyPost_ret (results_cell_row rfl _ _ gr 80 (#[.int .i64 (zk), .int .i64 x, .int .i64 (ra - 1), .int .i64 0]) (0, 0) _ rfl (S.out.blk 1 rfl) Try.underlying80 rfl (by kernel_rfl)) rfl ?_
      exact ⟨_, _, _, _, (((((p + 1) + 1) + 1) + 1) + 1), rfl, ⟨by omega, by omega⟩, ⟨by omega, by omega⟩, ⟨by omega, by omega⟩, S.out.get 3 rfl, by omega, by omega, S.out.base⟩
    · have bz : (ze == 0) = false := beq_eq_false_iff_ne.mpr hz
      clear hz
      go_wp2_with (first | ((with_reducible refine gate_dst (N := 92) rfl ?_); refine Kd.event_run rfl (Row.load_row_run (g := go) (t := 80) (cells := #[.int .i64 kd, .int .i64 x, .int .i64 (ra - 1), .int .i64 0]) rfl rfl (S.out.blk 0 rfl) Try.underlying80 rfl (by kernel_rfl)) ?_) | ((with_reducible refine gate_store (t := 80) (p := 4) rfl ?_); refine store_event (t := 80) (p := 4) (v := ?vo_39) (w1 := w70.setRow gr (#[.int .i64 kd, .int .i64 x, .int .i64 (ra - 1), .int .i64 0])) ?hg ?ho ?hn ?hr ?_; (case ho => rfl); (case hg => rfl); (case hn => rfl); (case hr => exact (Row.store_row_run (g := gr) (cells := #[.int .i64 kd, .int .i64 x, .int .i64 (ra - 1), .int .i64 0]) (t := 80) (old := #[.int .i64 0, .int .i64 0, .int .i64 0, .int .i64 0]) rfl (by rfl) (by rfl) (S.out.blk 1 rfl) (by kernel_rfl) rfl (by simp [Value.oneCell']))); intro w74 hw_; have Sn_ := Aside0.mk ((S.out.setRow (cs' := #[.int .i64 kd, .int .i64 x, .int .i64 (ra - 1), .int .i64 0]) (rs' := [Bx go (#[.int .i64 kd, .int .i64 x, .int .i64 (ra - 1), .int .i64 0]) 80, Bx gr (#[.int .i64 kd, .int .i64 x, .int .i64 (ra - 1), .int .i64 0]) 80, Bx gb (bkV s V) 27, Rr w0 g bs ((((p + 1) + 1) + 1) + 1)]) 1 rfl rfl).of hw_); clear S hw_; have S := Sn_; clear Sn_))
      refine bodyPost_ret (results_cell_row rfl _ _ gr 80 (#[.int .i64 kd, .int .i64 x, .int .i64 (ra - 1), .int .i64 0]) (0, 0) _ rfl (S.out.blk 1 rfl) Try.underlying80 rfl (by kernel_rfl)) rfl ?_
      exact ⟨_, _, _, _, ((((p + 1) + 1) + 1) + 1), rfl, ⟨by omega, by omega⟩, ⟨by omega, by omega⟩, ⟨by omega, by omega⟩, S.out.get 3 rfl, by omega, by omega, S.out.base⟩
  have b6 : (kd == 6) = false := beq_eq_false_iff_ne.mpr k6
  clear k6
  go_wp2_with fail
  refine (pickS HBS.out (S.out.get 3 rfl) (HBW.out _ S.out.base) (by omega) (by omega) (20) (by omega)).mono ?_
  rintro e w75 ⟨ze, rfl, ze0, ze1, hI_, hf_⟩
  have Sn_ := Aside0.mk (S.out.read (rs' := [Bx go (#[.int .i64 kd, .int .i64 x, .int .i64 0, .int .i64 0]) 80, Bx gr (#[.int .i64 0, .int .i64 0, .int .i64 0, .int .i64 0]) 80, Bx gb (bkV s V) 27, Rr w0 g bs (((p + 1) + 1) + 1)]) 3 rfl hI_ hf_ rfl)
  clear S hI_ hf_
  have S := Sn_
  clear Sn_
  by_cases hz : ze = 0
  · have bz : (ze == 0) = true := beq_iff_eq.mpr hz
    clear hz
    go_wp2_with fail
    refine (numL HBS.out (S.out.get 3 rfl) (HBW.out _ S.out.base) (by omega) (by omega) [0, 7, -1] (by decide) (by decide)).mono ?_
    rintro e w76 ⟨zk, rfl, hm_zk, hI_, hf_⟩
    have Sn_ := Aside0.mk (S.out.read (rs' := [Bx go (#[.int .i64 kd, .int .i64 x, .int .i64 0, .int .i64 0]) 80, Bx gr (#[.int .i64 0, .int .i64 0, .int .i64 0, .int .i64 0]) 80, Bx gb (bkV s V) 27, Rr w0 g bs ((((p + 1) + 1) + 1) + 1)]) 3 rfl hI_ hf_ rfl)
    clear S hI_ hf_
    have S := Sn_
    clear Sn_
    have f_go_0 : w76.cell? ⟨go, 0, none⟩ = some (.int .i64 kd) := (S.out.cell 0 rfl 0).trans rfl
    have z_go_0 := S.out.frozen 0 rfl 0
    go_wp2_with (first | ((with_reducible refine gate_store (t := 3) (p := 91) rfl ?_); refine store_event (t := 3) (p := 91) (v := ?vo_40) (w1 := w76.setCell ⟨go, 0, none⟩ (.int .i64 (zk))) ?hg ?ho ?hn ?hr ?_; (case ho => rfl); (case hg => rfl); (case hn => rfl); (case hr => first | (go_simp; done) | (go_simp; rfl)); intro w77 hw_; have Sn_ := Aside0.mk ((S.out.setCell (cs' := #[.int .i64 (zk), .int .i64 x, .int .i64 0, .int .i64 0]) (rs' := [Bx go (#[.int .i64 (zk), .int .i64 x, .int .i64 0, .int .i64 0]) 80, Bx gr (#[.int .i64 0, .int .i64 0, .int .i64 0, .int .i64 0]) 80, Bx gb (bkV s V) 27, Rr w0 g bs ((((p + 1) + 1) + 1) + 1)]) 0 rfl 0 (.int .i64 (zk)) (by simp only [List.setIfInBounds_toArray, List.set_cons_zero, List.set_cons_succ]) rfl).of hw_); clear S hw_; have S := Sn_; clear Sn_) | ((with_reducible refine gate_dst (N := 92) rfl ?_); refine Kd.event_run rfl (Row.load_row_run (g := go) (t := 80) (cells := #[.int .i64 (zk), .int .i64 x, .int .i64 0, .int .i64 0]) rfl rfl (S.out.blk 0 rfl) Try.underlying80 rfl (by kernel_rfl)) ?_) | ((with_reducible refine gate_store (t := 80) (p := 4) rfl ?_); refine store_event (t := 80) (p := 4) (v := ?vo_41) (w1 := w77.setRow gr (#[.int .i64 (zk), .int .i64 x, .int .i64 0, .int .i64 0])) ?hg ?ho ?hn ?hr ?_; (case ho => rfl); (case hg => rfl); (case hn => rfl); (case hr => exact (Row.store_row_run (g := gr) (cells := #[.int .i64 (zk), .int .i64 x, .int .i64 0, .int .i64 0]) (t := 80) (old := #[.int .i64 0, .int .i64 0, .int .i64 0, .int .i64 0]) rfl (by rfl) (by rfl) (S.out.blk 1 rfl) (by kernel_rfl) rfl (by simp [Value.oneCell']))); intro w78 hw_; have Sn_ := Aside0.mk ((S.out.setRow (cs' := #[.int .i64 (zk), .int .i64 x, .int .i64 0, .int .i64 0]) (rs' := [Bx go (#[.int .i64 (zk), .int .i64 x, .int .i64 0, .int .i64 0]) 80, Bx gr (#[.int .i64 (zk), .int .i64 x, .int .i64 0, .int .i64 0]) 80, Bx gb (bkV s V) 27, Rr w0 g bs ((((p + 1) + 1) + 1) + 1)]) 1 rfl rfl).of hw_); clear S hw_; have S := Sn_; clear Sn_))
    refine bodyPost_ret (results_cell_row rfl _ _ gr 80 (#[.int .i64 (zk), .int .i64 x, .int .i64 0, .int .i64 0]) (0, 0) _ rfl (S.out.blk 1 rfl) Try.underlying80 rfl (by kernel_rfl)) rfl ?_
    exact ⟨_, _, _, _, ((((p + 1) + 1) + 1) + 1), rfl, ⟨by omega, by omega⟩, ⟨by omega, by omega⟩, ⟨by omega, by omega⟩, S.out.get 3 rfl, by omega, by omega, S.out.base⟩
  · have bz : (ze == 0) = false := beq_eq_false_iff_ne.mpr hz
    clear hz
    go_wp2_with (first | ((with_reducible refine gate_dst (N := 92) rfl ?_); refine Kd.event_run rfl (Row.load_row_run (g := go) (t := 80) (cells := #[.int .i64 kd, .int .i64 x, .int .i64 0, .int .i64 0]) rfl rfl (S.out.blk 0 rfl) Try.underlying80 rfl (by kernel_rfl)) ?_) | ((with_reducible refine gate_store (t := 80) (p := 4) rfl ?_); refine store_event (t := 80) (p := 4) (v := ?vo_42) (w1 := w75.setRow gr (#[.int .i64 kd, .int .i64 x, .int .i64 0, .int .i64 0])) ?hg ?ho ?hn ?hr ?_; (case ho => rfl); (case hg => rfl); (case hn => rfl); (case hr => exact (Row.store_row_run (g := gr) (cells := #[.int .i64 kd, .int .i64 x, .int .i64 0, .int .i64 0]) (t := 80) (old := #[.int .i64 0, .int .i64 0, .int .i64 0, .int .i64 0]) rfl (by rfl) (by rfl) (S.out.blk 1 rfl) (by kernel_rfl) rfl (by simp [Value.oneCell']))); intro w79 hw_; have Sn_ := Aside0.mk ((S.out.setRow (cs' := #[.int .i64 kd, .int .i64 x, .int .i64 0, .int .i64 0]) (rs' := [Bx go (#[.int .i64 kd, .int .i64 x, .int .i64 0, .int .i64 0]) 80, Bx gr (#[.int .i64 kd, .int .i64 x, .int .i64 0, .int .i64 0]) 80, Bx gb (bkV s V) 27, Rr w0 g bs (((p + 1) + 1) + 1)]) 1 rfl rfl).of hw_); clear S hw_; have S := Sn_; clear Sn_))
    refine bodyPost_ret (results_cell_row rfl _ _ gr 80 (#[.int .i64 kd, .int .i64 x, .int .i64 0, .int .i64 0]) (0, 0) _ rfl (S.out.blk 1 rfl) Try.underlying80 rfl (by kernel_rfl)) rfl ?_
    exact ⟨_, _, _, _, (((p + 1) + 1) + 1), rfl, ⟨by omega, by omega⟩, ⟨by omega, by omega⟩, ⟨by omega, by omega⟩, S.out.get 3 rfl, by omega, by omega, S.out.base⟩
end Go.Proofs.Ytekneicikmaplaa.Bk
namespace Go.Proofs.Ytekneicikmaplaa.Bk
open Go.RowKit Go.Proofs.YtekneicikmaplaaW.PrintWords Go.Proofs.YtekneicikmaplaaW.PrintLast Go.Proofs.YtekneicikmaplaaW.PrintMore
set_option maxHeartbeats 4000000 in
set_option maxRecDepth 100000 in
theorem l3Pages_calls (s : Int) (V : Nat → Value) (L : Nat → List Int) (hW : Wd s L) (n : Nat) (hn2 : 2 ≤ n) (hn4 : n ≤ 4) (sl : Nat) (hs : (sl : Int) < s) (hI : (L 6).getD sl 0 ≠ 0) (w : World) (h : BoV V L w) :
    Calls Try.prog 102 #[.agg (bkV s V), .int .i64 (sl : Int), .int .i64 (n : Int)] w (Ret3 s V w) := by
  obtain ⟨hl6, hl1, hl5, hl48, hlI, hlE, hs1, hs4⟩ := hW.rows
  have HW := Aside0.mk hW
  have HRun := Aside0.mk (fun w_ h_ => l3RunV s V L n (by omega) hn4 hl6 w_ h_)
  have S := Aside0.mk (Sx.one (r := Rb V L) h (Rb.stable V L) (fun k hk => h.lt hk))
  have HV := Aside0.mk h
  have HONE := Aside0.mk (h.one s)
  clear hW h
  go_enter Try.func102, Try.ntmps102
  go_wp2_with (first | ((with_reducible refine gate_dst (N := 3) rfl ?_); refine box_event rfl (N := 3) rfl (cs := bkV s V) (t := 27) (by first | (go_simp; done) | (go_simp; rfl)) ?_; intro gb hg_ w1 hbox_ hb_; have Sn_ := Aside0.mk (S.out.box hg_ hbox_ hb_); clear hbox_ hb_ hg_ S; have S := Sn_; clear Sn_) | ((with_reducible refine gate_dst (N := 6) rfl ?_); refine box_event rfl (N := 6) rfl (cs := #[.int .i64 0, .slice none 0 0, .slice none 0 0, .slice none 0 0, .slice none 0 0, .slice none 0 0, .slice none 0 0, .slice none 0 0, .slice none 0 0]) (t := 27) (by first | (go_simp; done) | (go_simp; rfl)) ?_; intro gr hg_ w2 hbox_ hb_; have Sn_ := Aside0.mk (S.out.box hg_ hbox_ hb_); clear hbox_ hb_ hg_ S; have S := Sn_; clear Sn_) | ((with_reducible refine gate_dst (N := 11) rfl ?_); refine Kd.event_run rfl (Row.load_row_run (g := gb) (t := 27) (cells := bkV s V) rfl rfl (S.out.blk 1 rfl) Try.underlying27 rfl (by kernel_rfl)) ?_))
  refine (HRun.out _ (S.out.get 2 rfl)).mono ?_
  rintro e w9 ⟨r, rfl, hr, hb⟩
  have Sn_ := Aside0.mk (S.out.call hb)
  clear S hb HRun
  have S := Sn_
  clear Sn_
  rcases hr with rfl | ⟨p, rfl, hp, hP⟩
  · skip
    go_wp2_with (first | ((with_reducible refine gate_dst (N := 16) rfl ?_); refine Kd.event_run rfl (Row.load_row_run (g := gb) (t := 27) (cells := bkV s V) rfl rfl (S.out.blk 1 rfl) Try.underlying27 rfl (by kernel_rfl)) ?_) | ((with_reducible refine gate_store (t := 27) (p := 6) rfl ?_); refine store_event (t := 27) (p := 6) (v := ?vo_1) (w1 := w9.setRow gr (bkV s V)) ?hg ?ho ?hn ?hr ?_; (case ho => rfl); (case hg => rfl); (case hn => rfl); (case hr => exact (Row.store_row_run (g := gr) (cells := bkV s V) (t := 27) (old := #[.int .i64 0, .slice none 0 0, .slice none 0 0, .slice none 0 0, .slice none 0 0, .slice none 0 0, .slice none 0 0, .slice none 0 0, .slice none 0 0]) rfl (by rfl) (by rfl) (S.out.blk 0 rfl) (by kernel_rfl) rfl (HONE.out))); intro w3 hw_; have Sn_ := Aside0.mk ((S.out.setRow (cs' := bkV s V) (rs' := [Bx gr (bkV s V) 27, Bx gb (bkV s V) 27, Rb V L]) 0 rfl rfl).of hw_); clear S hw_; have S := Sn_; clear Sn_))
    refine bodyPost_ret (results_ctt rfl _ _ gr 27 (bkV s V) (0, 0) _ rfl (S.out.blk 0 rfl) Try.underlying27 rfl (by kernel_rfl)) rfl ?_
    exact ⟨V, L, _, _, rfl, HW.out, S.out.out 2 rfl⟩
  · skip
    have HPz := Aside0.mk hP
    clear hP
    obtain ⟨g, o, cap, hv0, _, _⟩ := (HV.out.1 0 (by omega)).at p (by omega)
    obtain ⟨g5, o5, cap5, hv5, _, _⟩ := (HV.out.1 5 (by omega)).at (p * 8) (by omega)
    have hpi : (p : Int) < ((L 0).length : Int) := by omega
    have hp6 : (p : Int) ≤ 6 := by omega
    have hn0 : (n : Int) ≤ 4 := by omega
    skip
    have f_gb_1 : w9.cell? ⟨gb, 1, none⟩ = some (.slice (some ⟨g, o, none⟩) (L 0).length cap) := (S.out.cell 1 rfl 1).trans (by rw [← hv0]; rfl)
    obtain ⟨hcp, hzp⟩ := S.out.rowCell 2 rfl (i := 0) (by omega) hv0 p (by omega)
    go_wp2_with (first | ((with_reducible refine gate_store (t := 3) (p := 22) rfl ?_); refine store_event (t := 3) (p := 22) (v := ?vo_2) (w1 := w9.setCell ⟨g, o + p, none⟩ (.int .i64 (8 + (n : Int)))) ?hg ?ho ?hn ?hr ?_; (case ho => rfl); (case hg => rfl); (case hn => rfl); (case hr => first | (go_simp; done) | (go_simp; rfl)); intro w4 hw_; have Sn_ := Aside0.mk ((S.out.rowSet' (rs' := [Bx gr (#[.int .i64 0, .slice none 0 0, .slice none 0 0, .slice none 0 0, .slice none 0 0, .slice none 0 0, .slice none 0 0, .slice none 0 0, .slice none 0 0]) 27, Bx gb (bkV s V) 27, Rb V (upd L 0 ((L 0).set p (8 + (n : Int))))]) 2 rfl (i := 0) (by omega) hv0 (p) (by omega) (8 + (n : Int)) rfl).of hw_); clear S hw_ hcp hzp; have S := Sn_; clear Sn_; have f_gb_1 : w4.cell? ⟨gb, 1, none⟩ = some (.slice (some ⟨g, o, none⟩) (L 0).length cap) := (S.out.cell 1 rfl 1).trans (by rw [← hv0]; rfl)))
    clear f_gb_1
    have HP0 : Aside0 (((L 0).set p (8 + (n : Int))).length = (L 0).length ∧ ∀ j, ((L 0).set p (8 + (n : Int))).getD j 0 = if j = p then 8 + (n : Int) else if p < j ∧ j < p + 1 then 7 else (L 0).getD j 0) := ⟨by rw [List.length_set], fun j => by
      by_cases e : j = p
      · rw [if_pos e, e]; exact getD_set_self' _ _ _ (by omega)
      · rw [if_neg e, if_neg (by omega)]; exact getD_set_ne' _ _ _ _ e⟩
    go_loopg [10] n (fun kq v10 w' => ∃ (i : Nat) (P' : List Int), 1 ≤ i ∧ i ≤ n ∧ kq = n + 1 - i ∧ v10 = .int .i64 i ∧ Aside0 (P'.length = (L 0).length ∧ ∀ j, P'.getD j 0 = if j = p then 8 + (n : Int) else if p < j ∧ j < p + i then 7 else (L 0).getD j 0) ∧ Aside0 (Sx (ownV V) w w' [Bx gr (#[.int .i64 0, .slice none 0 0, .slice none 0 0, .slice none 0 0, .slice none 0 0, .slice none 0 0, .slice none 0 0, .slice none 0 0, .slice none 0 0]) 27, Bx gb (bkV s V) 27, Rb V (upd L 0 P')]))
    case atStart => exact ⟨1, _, by omega, by omega, by omega, rfl, HP0, S⟩
    case round =>
      clear S HP0
      obtain ⟨i, P', hi1, hin, rfl, rfl, HP, S⟩ := hrel
      have hpl := HP.out.1
      have f_gb_1 : wr.cell? ⟨gb, 1, none⟩ = some (.slice (some ⟨g, o, none⟩) (L 0).length cap) := (S.out.cell 1 rfl 1).trans (by rw [← hv0]; rfl)
      by_cases hlt : i < n
      · skip
        have hpi2 : (p : Int) + (i : Int) < ((L 0).length : Int) := by omega
        have hpi3 : (0 : Int) ≤ (p : Int) + (i : Int) := by omega
        have hi4 : (i : Int) < (n : Int) := by omega
        obtain ⟨hcp, hzp⟩ := S.out.rowCell 2 rfl (i := 0) (by omega) hv0 (p + i) (by rw [upd_at]; omega)
        go_wp2_with (first | ((with_reducible refine gate_store (t := 3) (p := 33) rfl ?_); refine store_event (t := 3) (p := 33) (v := ?vo_3) (w1 := wr.setCell ⟨g, o + (p + i), none⟩ (.int .i64 (7))) ?hg ?ho ?hn ?hr ?_; (case ho => rfl); (case hg => rfl); (case hn => rfl); (case hr => first | (go_simp; done) | (go_simp; rfl)); intro w5 hw_; have Sn_ := Aside0.mk ((S.out.rowSet' (rs' := [Bx gr (#[.int .i64 0, .slice none 0 0, .slice none 0 0, .slice none 0 0, .slice none 0 0, .slice none 0 0, .slice none 0 0, .slice none 0 0, .slice none 0 0]) 27, Bx gb (bkV s V) 27, Rb V (upd (upd L 0 P') 0 (((upd L 0 P') 0).set (p + i) 7))]) 2 rfl (i := 0) (by omega) hv0 ((p + i)) (by rw [upd_at]; omega) (7) rfl).of hw_); clear S hw_ hcp hzp; have S := Sn_; clear Sn_))
        clear f_gb_1
        go_roundg (n + 1 - (i + 1))
        case measure => omega
        case rel =>
          refine ⟨i + 1, P'.set (p + i) 7, by omega, by omega, rfl, by go_num, ⟨by rw [List.length_set]; exact hpl, fun j => ?_⟩, ?_⟩
          · by_cases e : j = p + i
            · rw [e, getD_set_self' _ _ _ (by omega), if_neg (by omega), if_pos (by omega)]
            · rw [getD_set_ne' _ _ _ _ e, HP.out.2 j]
              by_cases e2 : j = p
              · rw [if_pos e2, if_pos e2]
              · rw [if_neg e2, if_neg e2]
                by_cases e3 : p < j ∧ j < p + i
                · rw [if_pos e3, if_pos (by omega)]
                · rw [if_neg e3, if_neg (by omega)]
          · have e : upd (upd L 0 P') 0 (((upd L 0 P') 0).set (p + i) 7) = upd L 0 (P'.set (p + i) 7) := by
              rw [upd_at]
              funext x
              unfold upd
              by_cases e : x = 0
              · rw [if_pos e, if_pos e]
              · rw [if_neg e, if_neg e, if_neg e]
            rw [e] at S
            exact S
      · skip
        have hin2 : i = n := by omega
        subst hin2
        clear f_gb_1
        obtain ⟨m, hm⟩ : ∃ m : Nat, p * 8 = m := ⟨_, rfl⟩
        have hmz : (p : Int) * 8 = (m : Int) := by omega
        have hm48 : (m : Int) ≤ 48 := by omega
        have hk8 : m < ((upd L 0 P') 5).length := by rw [upd_ne _ _ _ _ (by omega)]; omega
        have hp8 : (m : Int) < ((L 5).length : Int) := by omega
        have hp80 : (0 : Int) ≤ (m : Int) := by omega
        have hsl4 : (sl : Int) ≤ 4 := by omega
        obtain ⟨hcp, hzp⟩ := S.out.rowCell 2 rfl (i := 5) (by omega) hv5 m hk8
        have f_gb_6 : wr.cell? ⟨gb, 6, none⟩ = some (.slice (some ⟨g5, o5, none⟩) (L 5).length cap5) := (S.out.cell 1 rfl 6).trans (by rw [← hv5]; rfl)
        go_wp2_with (first | ((with_reducible refine gate_store (t := 3) (p := 40) rfl ?_); refine store_event (t := 3) (p := 40) (v := ?vo_4) (w1 := wr.setCell ⟨g5, o5 + m, none⟩ (.int .i64 ((sl : Int) + 1))) ?hg ?ho ?hn ?hr ?_; (case ho => rfl); (case hg => rfl); (case hn => rfl); (case hr => first | (go_simp; done) | (go_simp; rfl)); intro w6 hw_; have Sn_ := Aside0.mk ((S.out.rowSet' (rs' := [Bx gr (#[.int .i64 0, .slice none 0 0, .slice none 0 0, .slice none 0 0, .slice none 0 0, .slice none 0 0, .slice none 0 0, .slice none 0 0, .slice none 0 0]) 27, Bx gb (bkV s V) 27, Rb V (upd (upd L 0 P') 5 (((upd L 0 P') 5).set m ((sl : Int) + 1)))]) 2 rfl (i := 5) (by omega) hv5 (m) hk8 ((sl : Int) + 1) rfl).of hw_); clear S hw_ hcp hzp; have S := Sn_; clear Sn_; have f_gb_6 : w6.cell? ⟨gb, 6, none⟩ = some (.slice (some ⟨g5, o5, none⟩) (L 5).length cap5) := (S.out.cell 1 rfl 6).trans (by rw [← hv5]; rfl)) | ((with_reducible refine gate_dst (N := 41) rfl ?_); refine Kd.event_run rfl (Row.load_row_run (g := gb) (t := 27) (cells := bkV s V) rfl rfl (S.out.blk 1 rfl) Try.underlying27 rfl (by kernel_rfl)) ?_) | ((with_reducible refine gate_store (t := 27) (p := 6) rfl ?_); refine store_event (t := 27) (p := 6) (v := ?vo_5) (w1 := w6.setRow gr (bkV s V)) ?hg ?ho ?hn ?hr ?_; (case ho => rfl); (case hg => rfl); (case hn => rfl); (case hr => exact (Row.store_row_run (g := gr) (cells := bkV s V) (t := 27) (old := #[.int .i64 0, .slice none 0 0, .slice none 0 0, .slice none 0 0, .slice none 0 0, .slice none 0 0, .slice none 0 0, .slice none 0 0, .slice none 0 0]) rfl (by rfl) (by rfl) (S.out.blk 0 rfl) (by kernel_rfl) rfl (HONE.out))); intro w7 hw_; have Sn_ := Aside0.mk ((S.out.setRow (cs' := bkV s V) (rs' := [Bx gr (bkV s V) 27, Bx gb (bkV s V) 27, Rb V (upd (upd L 0 P') 5 (((upd L 0 P') 5).set m ((sl : Int) + 1)))]) 0 rfl rfl).of hw_); clear S hw_; have S := Sn_; clear Sn_))
        have HWn : Aside0 (Wd s (upd (upd L 0 P') 5 (((upd L 0 P') 5).set m ((sl : Int) + 1)))) := ⟨by
          have h1 := Bv.W.wide HW.out hn2 hn4 hp HPz.out sl hs hI (P' := P') hpl HP.out.2
          rw [hm] at h1
          refine Wcong (H := fun k => L (k + 1)) ?_ (fun k hk => ?_)
          · exact h1
          · show upd (upd L 0 P') 5 _ (k + 1) = L (k + 1)
            rw [upd_ne _ _ _ _ (by omega), upd_ne _ _ _ _ (by omega)]⟩
        refine bodyPost_ret (results_ctt rfl _ _ gr 27 (bkV s V) (0, 0) _ rfl (S.out.blk 0 rfl) Try.underlying27 rfl (by kernel_rfl)) rfl ?_
        exact ⟨V, (upd (upd L 0 P') 5 (((upd L 0 P') 5).set m ((sl : Int) + 1))), _, _, rfl, HWn.out, S.out.out 2 rfl⟩
end Go.Proofs.Ytekneicikmaplaa.Bk
namespace Go.Proofs.Ytekneicikmaplaa.Bk
open Go.RowKit Go.Proofs.YtekneicikmaplaaW.PrintWords Go.Proofs.YtekneicikmaplaaW.PrintLast Go.Proofs.YtekneicikmaplaaW.PrintMore
/-- The rooms of a page that is carved, the first j. -/
def cvL (p z : Nat) (j : Nat) : List Int := (List.range j).map fun i => ((p * 8 + i * z : Nat) : Int)
theorem cvL_succ (p z j : Nat) : cvL p z (j + 1) = cvL p z j ++ [((p * 8 + j * z : Nat) : Int)] := by
  unfold cvL; rw [List.range_succ, List.map_append, List.map_singleton]
theorem cvL_len (p z j : Nat) : (cvL p z j).length = j := by unfold cvL; simp
theorem size_cases {k : Nat} (hk : k < 4) : sizeN k = 1 ∨ sizeN k = 2 ∨ sizeN k = 4 ∨ sizeN k = 8 := by
  match k, hk with
  | 0, _ => exact .inl rfl
  | 1, _ => exact .inr (.inl rfl)
  | 2, _ => exact .inr (.inr (.inl rfl))
  | 3, _ => exact .inr (.inr (.inr rfl))
theorem cvL_all {k : Nat} (hk : k < 4) (p : Nat) : cvL p (sizeN k) (8 / sizeN k) = ((p * 8 : Nat) : Int) :: Bv.tlC p k := by
  match k, hk with
  | 0, _ => show cvL p 1 8 = _; simp [cvL, Bv.tlC, List.range_succ]
  | 1, _ => show cvL p 2 4 = _; simp [cvL, Bv.tlC, List.range_succ]
  | 2, _ => show cvL p 4 2 = _; simp [cvL, Bv.tlC, List.range_succ]
  | 3, _ => show cvL p 8 1 = _; simp [cvL, Bv.tlC, List.range_succ]
def carL (L : Nat → List Int) (p k : Nat) : Nat → List Int := upd (upd L 0 ((L 0).set p ((k : Int) + 1))) (k + 1) (((p * 8 : Nat) : Int) :: Bv.tlC p k)
set_option maxHeartbeats 4000000 in
set_option maxRecDepth 100000 in
theorem l3Carve_calls (s : Int) (V : Nat → Value) (L : Nat → List Int) (hl6 : (L 0).length ≤ 6) (p k : Nat) (hp : p < (L 0).length) (hk : k < 4) (hH : L (k + 1) = []) (w : World) (h : BoV V L w) :
    Calls Try.prog 104 #[.agg (bkV s V), .int .i64 (p : Int), .int .i64 (k : Int)] w fun e w' => ∃ V', e = .returned (.agg (bkV s V')) ∧ OutV V V' (carL L p k) w w' := by
  have S := Aside0.mk (Sx.one (r := Rb V L) h (Rb.stable V L) (fun j hj => h.lt hj))
  obtain ⟨g, o, cap, hv0, _, _⟩ := (h.1 0 (by omega)).at p hp
  have HSZ := Aside0.mk (fun w_ => l3Size_calls k hk w_)
  have HC := Aside0.mk (cvL_all hk p)
  have hz8 := size_cases hk
  obtain ⟨z, hz⟩ : ∃ z, sizeN k = z := ⟨_, rfl⟩
  rw [hz] at HSZ hz8 HC
  have HZ8 := Aside0.mk hz8
  clear h hz hz8
  have hk4 : (k : Int) < 4 := by omega
  have hp6 : (p : Int) < 6 := by omega
  have hpi : (p : Int) < ((L 0).length : Int) := by omega
  go_enter Try.func104, Try.ntmps104
  obtain ⟨hcp, hzp⟩ := S.out.rowCell 0 rfl (i := 0) (by omega) hv0 p hp
  clear hcp hzp
  go_wp2_with (first | ((with_reducible refine gate_dst (N := 3) rfl ?_); refine box_event rfl (N := 3) rfl (cs := bkV s V) (t := 27) (by first | (go_simp; done) | (go_simp; rfl)) ?_; intro gb hg_ w1 hbox_ hb_; have Sn_ := Aside0.mk (S.out.box hg_ hbox_ hb_); clear hbox_ hb_ hg_ S; have S := Sn_; clear Sn_; have hcp_ : w1.cell? ⟨g, o + p, none⟩ = some (.int .i64 ((L 0).getD p 0)) := (S.out.rowCell 1 rfl (i := 0) (by omega) hv0 p hp).1; have hzp_ : w1.frozen? ⟨g, o + p, none⟩ = false := (S.out.rowCell 1 rfl (i := 0) (by omega) hv0 p hp).2; have f_gb_1 : w1.cell? ⟨gb, 1, none⟩ = some (.slice (some ⟨g, o, none⟩) (L 0).length cap) := (S.out.cell 0 rfl 1).trans (by rw [← hv0]; rfl)) | ((with_reducible refine gate_dst (N := 6) rfl ?_); refine box_event rfl (N := 6) rfl (cs := #[.int .i64 0, .slice none 0 0, .slice none 0 0, .slice none 0 0, .slice none 0 0, .slice none 0 0, .slice none 0 0, .slice none 0 0, .slice none 0 0]) (t := 27) (by first | (go_simp; done) | (go_simp; rfl)) ?_; intro gr hg_ w2 hbox_ hb_; have Sn_ := Aside0.mk (S.out.box hg_ hbox_ hb_); clear hbox_ hb_ hg_ S; have S := Sn_; clear Sn_; try clear hcp_; try clear hzp_; try clear f_gb_1; have hcp_ : w2.cell? ⟨g, o + p, none⟩ = some (.int .i64 ((L 0).getD p 0)) := (S.out.rowCell 2 rfl (i := 0) (by omega) hv0 p hp).1; have hzp_ : w2.frozen? ⟨g, o + p, none⟩ = false := (S.out.rowCell 2 rfl (i := 0) (by omega) hv0 p hp).2; have f_gb_1 : w2.cell? ⟨gb, 1, none⟩ = some (.slice (some ⟨g, o, none⟩) (L 0).length cap) := (S.out.cell 1 rfl 1).trans (by rw [← hv0]; rfl)) | ((with_reducible refine gate_store (t := 3) (p := 13) rfl ?_); refine store_event (t := 3) (p := 13) (v := ?vo_1) (w1 := w2.setCell ⟨g, o + p, none⟩ (.int .i64 ((k : Int) + 1))) ?hg ?ho ?hn ?hr ?_; (case ho => rfl); (case hg => rfl); (case hn => rfl); (case hr => first | (go_simp; done) | (go_simp; rfl)); intro w3 hw_; have Sn_ := Aside0.mk ((S.out.rowSet' (rs' := [Bx gr (#[.int .i64 0, .slice none 0 0, .slice none 0 0, .slice none 0 0, .slice none 0 0, .slice none 0 0, .slice none 0 0, .slice none 0 0, .slice none 0 0]) 27, Bx gb (bkV s V) 27, Rb V (upd L 0 ((L 0).set p ((k : Int) + 1)))]) 2 rfl (i := 0) (by omega) hv0 (p) hp ((k : Int) + 1) rfl).of hw_); clear S hw_; have S := Sn_; clear Sn_))
  clear hcp_ hzp_ f_gb_1
  have S1 : Aside0 (Sx (ownV V) w w3 [Bx gr (#[.int .i64 0, .slice none 0 0, .slice none 0 0, .slice none 0 0, .slice none 0 0, .slice none 0 0, .slice none 0 0, .slice none 0 0, .slice none 0 0]) 27, Bx gb (bkV s V) 27, Rb V (upd (upd L 0 ((L 0).set p ((k : Int) + 1))) (k + 1) (cvL p z 0))]) := ⟨by
    have e : upd (upd L 0 ((L 0).set p ((k : Int) + 1))) (k + 1) (cvL p z 0) = upd L 0 ((L 0).set p ((k : Int) + 1)) := by
      funext x
      unfold upd
      by_cases e : x = k + 1
      · rw [if_pos e, e, if_neg (by omega)]; exact hH.symm
      · rw [if_neg e]
    rw [e]; exact S.out⟩
  clear S
  go_loopg [7] 9 (fun kq v7 w' => ∃ (j u : Nat) (V' : Nat → Value), u = j * z ∧ u ≤ 8 ∧ kq = 9 - u ∧ v7 = .int .i64 u ∧ Aside0 (V' 0 = V 0) ∧ Aside0 (Sx (ownV V) w w' [Bx gr (#[.int .i64 0, .slice none 0 0, .slice none 0 0, .slice none 0 0, .slice none 0 0, .slice none 0 0, .slice none 0 0, .slice none 0 0, .slice none 0 0]) 27, Bx gb (bkV s V') 27, Rb V' (upd (upd L 0 ((L 0).set p ((k : Int) + 1))) (k + 1) (cvL p z j))]))
  case atStart => exact ⟨0, 0, V, by omega, by omega, by omega, rfl, ⟨rfl⟩, S1⟩
  case round =>
    clear S1
    obtain ⟨j, u, V', hu, hu8, rfl, rfl, HV0, S⟩ := hrel
    by_cases hlt : u < 8
    · skip
      have hu2 : (u : Int) < 8 := by omega
      have hj8 : j ≤ 8 := by rcases HZ8.out with e | e | e | e <;> rw [e] at hu <;> omega
      have hjz1 : u + z ≤ 8 := by rcases HZ8.out with e | e | e | e <;> rw [e] at hu ⊢ <;> omega
      have HJ2 : Aside0 (u + z = (j + 1) * z) := ⟨by rw [Nat.add_mul, ← hu, Nat.one_mul]⟩
      have hz1 : 1 ≤ z := by rcases HZ8.out with e | e | e | e <;> rw [e] <;> omega
      have hz88 : z ≤ 8 := by omega
      have HUJ := Aside0.mk hu
      clear hu
      have hIR : Aside0 (IR wr (V' (k + 1)) (cvL p z j)) := ⟨by have := (S.out.get 2 rfl).1 (k + 1) (by omega); rwa [upd_at] at this⟩
      obtain ⟨A, c, hvk⟩ := hIR.out.form
      rw [hvk] at hIR
      have f_gb_k : wr.cell? ⟨gb, 2 + k, none⟩ = some (.slice A (cvL p z j).length c) := (S.out.cell 1 rfl (2 + k)).trans ((bkV_at s V' k hk).trans (by rw [hvk]))
      have hpu : Aside0 (((p * 8 + u : Nat) : Int) = (p : Int) * 8 + (u : Int)) := ⟨by omega⟩
      go_wp2_with (first | ((with_reducible refine gate_builtin (b := .append) (xs := #[.tmp 24, .tmp 29]) rfl ?_); at_builtin; refine ir_append rfl (.tmp 24) (.tmp 29) 24 rfl Try.underlying24 info3 (.slice A (cvL p z j).length c) (cvL p z j) ((p : Int) * 8 + (u : Int)) (by first | rfl | (go_simp; done)) (by first | rfl | (go_simp; done)) hIR.out (by rw [cvL_len]; omega) ?_; intro v1 wa ho_ hf_ hown_; obtain ⟨A1, c1, e1_⟩ := ho_.form; subst e1_; have Sn_ := Aside0.mk (S.out.row (rs' := [Bx gr (#[.int .i64 0, .slice none 0 0, .slice none 0 0, .slice none 0 0, .slice none 0 0, .slice none 0 0, .slice none 0 0, .slice none 0 0, .slice none 0 0]) 27, Bx gb (bkV s V') 27, Rb (updV V' (k + 1) (Value.slice A1 ((cvL p z j) ++ [(p : Int) * 8 + (u : Int)]).length c1)) (upd (upd (upd L 0 ((L 0).set p ((k : Int) + 1))) (k + 1) (cvL p z j)) (k + 1) ((cvL p z j) ++ [(p : Int) * 8 + (u : Int)]))]) 2 rfl (i := k + 1) (by omega) (v' := (Value.slice A1 ((cvL p z j) ++ [(p : Int) * 8 + (u : Int)]).length c1)) ho_ (by rw [hvk]; exact hf_) (by rw [hvk]; exact hown_) rfl); clear ho_ hf_ hown_ S f_gb_k; have S := Sn_; clear Sn_; have f_gb_k : wa.cell? ⟨gb, 2 + k, none⟩ = some (.slice A (cvL p z j).length c) := (S.out.cell 1 rfl (2 + k)).trans ((bkV_at s V' k hk).trans (by rw [hvk])); have z_gb_k := S.out.frozen 1 rfl (2 + k)) | ((with_reducible refine gate_store (t := 24) (p := 32) rfl ?_); refine store_event (t := 24) (p := 32) (v := ?vo_2) (w1 := wa.setCell ⟨gb, 2 + k, none⟩ (Value.slice A1 ((cvL p z j) ++ [(p : Int) * 8 + (u : Int)]).length c1)) ?hg ?ho ?hn ?hr ?_; (case ho => rfl); (case hg => rfl); (case hn => rfl); (case hr => first | (go_simp; done) | (go_simp; rfl)); intro wb hw_; have Sn_ := Aside0.mk ((S.out.setCell (cs' := bkV s (updV V' (k + 1) (Value.slice A1 ((cvL p z j) ++ [(p : Int) * 8 + (u : Int)]).length c1))) (rs' := [Bx gr (#[.int .i64 0, .slice none 0 0, .slice none 0 0, .slice none 0 0, .slice none 0 0, .slice none 0 0, .slice none 0 0, .slice none 0 0, .slice none 0 0]) 27, Bx gb (bkV s (updV V' (k + 1) (Value.slice A1 ((cvL p z j) ++ [(p : Int) * 8 + (u : Int)]).length c1))) 27, Rb (updV V' (k + 1) (Value.slice A1 ((cvL p z j) ++ [(p : Int) * 8 + (u : Int)]).length c1)) (upd (upd (upd L 0 ((L 0).set p ((k : Int) + 1))) (k + 1) (cvL p z j)) (k + 1) ((cvL p z j) ++ [(p : Int) * 8 + (u : Int)]))]) 1 rfl (2 + k) (Value.slice A1 ((cvL p z j) ++ [(p : Int) * 8 + (u : Int)]).length c1) (bkV_set s V' k (Value.slice A1 ((cvL p z j) ++ [(p : Int) * 8 + (u : Int)]).length c1) hk) rfl).of hw_); clear S hw_ f_gb_k z_gb_k; have S := Sn_; clear Sn_))
      refine (HSZ.out _).mono ?_
      rintro e w9 ⟨rfl, hb⟩
      have Sn_ := Aside0.mk (S.out.call hb)
      clear S hb
      have S := Sn_
      clear Sn_
      have hz0 : (z : Int) ≤ 8 := by omega
      go_wp2
      go_roundg (9 - (u + z))
      case measure => omega
      case rel =>
        refine ⟨j + 1, u + z, (updV V' (k + 1) (Value.slice A1 ((cvL p z j) ++ [(p : Int) * 8 + (u : Int)]).length c1)), HJ2.out, hjz1, rfl, by go_num, ⟨by rw [updV_ne _ _ _ _ (by omega)]; exact HV0.out⟩, ?_⟩
        have e : upd (upd (upd L 0 ((L 0).set p ((k : Int) + 1))) (k + 1) (cvL p z j)) (k + 1) ((cvL p z j) ++ [(p : Int) * 8 + (u : Int)]) = upd (upd L 0 ((L 0).set p ((k : Int) + 1))) (k + 1) (cvL p z (j + 1)) := by
          rw [cvL_succ, ← HUJ.out, hpu.out]
          funext x
          unfold upd
          by_cases e : x = k + 1
          · rw [if_pos e, if_pos e]
          · rw [if_neg e, if_neg e, if_neg e]
        rw [e] at S
        exact S
    · skip
      have hu8' : u = 8 := by omega
      subst hu8'
      have hj : j = 8 / z := by rcases HZ8.out with e | e | e | e <;> rw [e] at hu ⊢ <;> omega
      have HE : Aside0 (upd (upd L 0 ((L 0).set p ((k : Int) + 1))) (k + 1) (cvL p z j) = carL L p k) := ⟨by rw [hj, HC.out]; rfl⟩
      have HONE := Aside0.mk ((S.out.get 2 rfl).one s)
      clear hj hu
      go_wp2_with (first | ((with_reducible refine gate_dst (N := 33) rfl ?_); refine Kd.event_run rfl (Row.load_row_run (g := gb) (t := 27) (cells := bkV s V') rfl rfl (S.out.blk 1 rfl) Try.underlying27 rfl (by kernel_rfl)) ?_) | ((with_reducible refine gate_store (t := 27) (p := 6) rfl ?_); refine store_event (t := 27) (p := 6) (v := ?vo_3) (w1 := wr.setRow gr (bkV s V')) ?hg ?ho ?hn ?hr ?_; (case ho => rfl); (case hg => rfl); (case hn => rfl); (case hr => exact (Row.store_row_run (g := gr) (cells := bkV s V') (t := 27) (old := #[.int .i64 0, .slice none 0 0, .slice none 0 0, .slice none 0 0, .slice none 0 0, .slice none 0 0, .slice none 0 0, .slice none 0 0, .slice none 0 0]) rfl (by rfl) (by rfl) (S.out.blk 0 rfl) (by kernel_rfl) rfl (HONE.out))); intro w4 hw_; have Sn_ := Aside0.mk ((S.out.setRow (cs' := bkV s V') (rs' := [Bx gr (bkV s V') 27, Bx gb (bkV s V') 27, Rb V' (upd (upd L 0 ((L 0).set p ((k : Int) + 1))) (k + 1) (cvL p z j))]) 0 rfl rfl).of hw_); clear S hw_; have S := Sn_; clear Sn_))
      refine bodyPost_ret (results_cell_row rfl _ _ gr 27 (bkV s V') (0, 0) _ rfl (S.out.blk 0 rfl) Try.underlying27 rfl (by kernel_rfl)) rfl ?_
      rw [HE.out] at S
      exact ⟨V', rfl, S.out.out 2 rfl⟩
end Go.Proofs.Ytekneicikmaplaa.Bk
namespace Go.Proofs.Ytekneicikmaplaa.Bk
open Go.RowKit Go.Proofs.YtekneicikmaplaaW.PrintWords Go.Proofs.YtekneicikmaplaaW.PrintLast Go.Proofs.YtekneicikmaplaaW.PrintMore
set_option maxHeartbeats 8000000 in
set_option maxRecDepth 100000 in
theorem l3Take_calls (s : Int) (V : Nat → Value) (L : Nat → List Int) (hW : Wd s L) (sl : Nat) (hs : (sl : Int) < s) (hI : (L 6).getD sl 0 ≠ 0) (x : Int) (hx0 : -1000 ≤ x) (hx1 : x ≤ 1000) (w : World) (h : BoV V L w) :
    Calls Try.prog 96 #[.agg (bkV s V), .int .i64 (sl : Int), .int .i64 x] w (Ret3 s V w) := by
  obtain ⟨hl6, hl1, hl5, hl48, hlI, hlE, hs1, hs4⟩ := hW.rows
  have HW := Aside0.mk hW
  have HK := Aside0.mk (bookKind_calls x)
  have HRun := Aside0.mk (fun w_ h_ => l3RunV s V L 1 (by omega) (by omega) hl6 w_ h_)
  have S := Aside0.mk (Sx.one (r := Rb V L) h (Rb.stable V L) (fun k hk => h.lt hk))
  have HV := Aside0.mk h
  have HONE := Aside0.mk (h.one s)
  have hsl4 : (sl : Int) ≤ 4 := by omega
  clear hW h
  go_enter Try.func96, Try.ntmps96
  go_wp2_with (first | ((with_reducible refine gate_dst (N := 3) rfl ?_); refine box_event rfl (N := 3) rfl (cs := bkV s V) (t := 27) (by first | (go_simp; done) | (go_simp; rfl)) ?_; intro gb hg_ w1 hbox_ hb_; have Sn_ := Aside0.mk (S.out.box hg_ hbox_ hb_); clear hbox_ hb_ hg_ S; have S := Sn_; clear Sn_) | ((with_reducible refine gate_dst (N := 6) rfl ?_); refine box_event rfl (N := 6) rfl (cs := #[.int .i64 0, .slice none 0 0, .slice none 0 0, .slice none 0 0, .slice none 0 0, .slice none 0 0, .slice none 0 0, .slice none 0 0, .slice none 0 0]) (t := 27) (by first | (go_simp; done) | (go_simp; rfl)) ?_; intro gr hg_ w2 hbox_ hb_; have Sn_ := Aside0.mk (S.out.box hg_ hbox_ hb_); clear hbox_ hb_ hg_ S; have S := Sn_; clear Sn_))
  refine (HK.out _).mono ?_
  rintro e w7 ⟨r, rfl, hr, hb⟩
  have Sn_ := Aside0.mk (S.out.call hb)
  clear S hb HK
  have S := Sn_
  clear Sn_
  rcases hr with rfl | ⟨k, hk, rfl⟩ | ⟨rfl, hx8, hx32⟩
  · skip
    go_wp2_with (first | ((with_reducible refine gate_dst (N := 16) rfl ?_); refine Kd.event_run rfl (Row.load_row_run (g := gb) (t := 27) (cells := bkV s V) rfl rfl (S.out.blk 1 rfl) Try.underlying27 rfl (by kernel_rfl)) ?_) | ((with_reducible refine gate_store (t := 27) (p := 6) rfl ?_); refine store_event (t := 27) (p := 6) (v := ?vo_1) (w1 := w7.setRow gr (bkV s V)) ?hg ?ho ?hn ?hr ?_; (case ho => rfl); (case hg => rfl); (case hn => rfl); (case hr => exact (Row.store_row_run (g := gr) (cells := bkV s V) (t := 27) (old := #[.int .i64 0, .slice none 0 0, .slice none 0 0, .slice none 0 0, .slice none 0 0, .slice none 0 0, .slice none 0 0, .slice none 0 0, .slice none 0 0]) rfl (by rfl) (by rfl) (S.out.blk 0 rfl) (by kernel_rfl) rfl (HONE.out))); intro w3 hw_; have Sn_ := Aside0.mk ((S.out.setRow (cs' := bkV s V) (rs' := [Bx gr (bkV s V) 27, Bx gb (bkV s V) 27, Rb V L]) 0 rfl rfl).of hw_); clear S hw_; have S := Sn_; clear Sn_))
    refine bodyPost_ret (results_ctt rfl _ _ gr 27 (bkV s V) (0, 0) _ rfl (S.out.blk 0 rfl) Try.underlying27 rfl (by kernel_rfl)) rfl ?_
    exact ⟨V, L, _, _, rfl, HW.out, S.out.out 2 rfl⟩
  · skip
    have hk4 : (k : Int) < 4 := by omega
    have hke : ((k : Int) == 4) = false := beq_eq_false_iff_ne.mpr (by omega)
    have hIk := (S.out.get 2 rfl).1 (k + 1) (by omega)
    obtain ⟨Ak, ck, evk⟩ := hIk.form
    have f_gb_k : w7.cell? ⟨gb, 2 + k, none⟩ = some (.slice Ak (L (k + 1)).length ck) := (S.out.cell 1 rfl (2 + k)).trans ((bkV_at s V k hk).trans (by rw [evk]))
    have HHk : Aside0 (IR w7 (V (k + 1)) (L (k + 1))) := ⟨hIk⟩
    clear hIk evk
    obtain ⟨l, hl_⟩ : ∃ l, L (k + 1) = l := ⟨_, rfl⟩
    rw [hl_] at f_gb_k
    cases l with
    | nil =>
      have hHk := Aside0.mk hl_
      clear hl_
      have hz : (([] : List Int).length : Int) = 0 := rfl
      go_wp2_with (first | ((with_reducible refine gate_dst (N := 35) rfl ?_); refine Kd.event_run rfl (Row.load_row_run (g := gb) (t := 27) (cells := bkV s V) rfl rfl (S.out.blk 1 rfl) Try.underlying27 rfl (by kernel_rfl)) ?_))
      clear f_gb_k
      refine (HRun.out _ (S.out.get 2 rfl)).mono ?_
      rintro e w9 ⟨r, rfl, hr, hb⟩
      have Sn_ := Aside0.mk (S.out.call hb)
      clear S hb HRun
      have S := Sn_
      clear Sn_
      rcases hr with rfl | ⟨p, rfl, hp, hP⟩
      · skip
        go_wp2_with (first | ((with_reducible refine gate_dst (N := 39) rfl ?_); refine Kd.event_run rfl (Row.load_row_run (g := gb) (t := 27) (cells := bkV s V) rfl rfl (S.out.blk 1 rfl) Try.underlying27 rfl (by kernel_rfl)) ?_) | ((with_reducible refine gate_store (t := 27) (p := 6) rfl ?_); refine store_event (t := 27) (p := 6) (v := ?vo_2) (w1 := w9.setRow gr (bkV s V)) ?hg ?ho ?hn ?hr ?_; (case ho => rfl); (case hg => rfl); (case hn => rfl); (case hr => exact (Row.store_row_run (g := gr) (cells := bkV s V) (t := 27) (old := #[.int .i64 0, .slice none 0 0, .slice none 0 0, .slice none 0 0, .slice none 0 0, .slice none 0 0, .slice none 0 0, .slice none 0 0, .slice none 0 0]) rfl (by rfl) (by rfl) (S.out.blk 0 rfl) (by kernel_rfl) rfl (HONE.out))); intro w4 hw_; have Sn_ := Aside0.mk ((S.out.setRow (cs' := bkV s V) (rs' := [Bx gr (bkV s V) 27, Bx gb (bkV s V) 27, Rb V L]) 0 rfl rfl).of hw_); clear S hw_; have S := Sn_; clear Sn_))
        refine bodyPost_ret (results_ctt rfl _ _ gr 27 (bkV s V) (0, 0) _ rfl (S.out.blk 0 rfl) Try.underlying27 rfl (by kernel_rfl)) rfl ?_
        exact ⟨V, L, _, _, rfl, HW.out, S.out.out 2 rfl⟩
      · skip
        have hPz : Aside0 ((L 0).getD p 0 = 0) := ⟨hP 0 (by omega)⟩
        clear hP
        have HCV := Aside0.mk (fun w_ h_ => l3Carve_calls s V L hl6 p k (by omega) hk hHk.out w_ h_)
        go_wp2_with (first | ((with_reducible refine gate_dst (N := 40) rfl ?_); refine Kd.event_run rfl (Row.load_row_run (g := gb) (t := 27) (cells := bkV s V) rfl rfl (S.out.blk 1 rfl) Try.underlying27 rfl (by kernel_rfl)) ?_))
        refine (HCV.out _ (S.out.get 2 rfl)).mono ?_
        rintro e w10 ⟨V1, rfl, hO⟩
        have Sn_ := Aside0.mk (S.out.back (rs' := [Bx gr (#[.int .i64 0, .slice none 0 0, .slice none 0 0, .slice none 0 0, .slice none 0 0, .slice none 0 0, .slice none 0 0, .slice none 0 0, .slice none 0 0]) 27, Bx gb (bkV s V) 27, Rb V1 (carL L p k)]) 2 rfl hO rfl)
        clear S HCV
        have S := Sn_
        clear Sn_
        have HONE1 := Aside0.mk (hO.1.one s)
        clear hO
        obtain ⟨a, ha⟩ : ∃ a : Nat, p * 8 = a := ⟨_, rfl⟩
        have HA := Aside0.mk ha
        have hao : a < (carL L p k 5).length := by
          have e : carL L p k 5 = L 5 := by unfold carL; rw [upd_ne _ _ _ _ (by omega), upd_ne _ _ _ _ (by omega)]
          rw [e]; omega
        have hLk : carL L p k (k + 1) = (a : Int) :: Bv.tlC p k := by unfold carL; rw [upd_at, ha]
        clear ha
        obtain ⟨t, ht⟩ : ∃ t, Bv.tlC p k = t := ⟨_, rfl⟩
        have HT := Aside0.mk ht
        rw [ht] at hLk
        clear ht
        obtain ⟨L1, hL1⟩ : ∃ L1, carL L p k = L1 := ⟨_, rfl⟩
        have HL1 := Aside0.mk hL1
        rw [hL1] at S hao hLk
        clear hL1
        go_upto_region 11 with (first | ((with_reducible refine gate_store (t := 27) (p := 3) rfl ?_); refine store_event (t := 27) (p := 3) (v := ?vo_3) (w1 := w10.setRow gb (bkV s V1)) ?hg ?ho ?hn ?hr ?_; (case ho => rfl); (case hg => rfl); (case hn => rfl); (case hr => exact (Row.store_row_run (g := gb) (cells := bkV s V1) (t := 27) (old := bkV s V) rfl (by rfl) (by rfl) (S.out.blk 1 rfl) (by kernel_rfl) rfl (HONE1.out))); intro w5 hw_; have Sn_ := Aside0.mk ((S.out.setRow (cs' := bkV s V1) (rs' := [Bx gr (#[.int .i64 0, .slice none 0 0, .slice none 0 0, .slice none 0 0, .slice none 0 0, .slice none 0 0, .slice none 0 0, .slice none 0 0, .slice none 0 0]) 27, Bx gb (bkV s V1) 27, Rb V1 (L1)]) 1 rfl rfl).of hw_); clear S hw_; have S := Sn_; clear Sn_))
        obtain ⟨gk, ok, capk, hvk, hck, _⟩ := (S.out.get 2 rfl).1 (k + 1) (by omega) |>.at 0 (by rw [hLk]; simp)
        obtain ⟨g5, o5, cap5, hv5, _, _⟩ := (S.out.get 2 rfl).1 5 (by omega) |>.at a hao
        have HCAP : Aside0 ((a : Int) :: t = L1 (k + 1)) := ⟨hLk.symm⟩
        have hcap1 : t.length + 1 ≤ capk := by
          have h1 := (S.out.get 2 rfl).1 (k + 1) (by omega)
          rw [hvk, hLk] at h1
          have := h1.slC.2
          simpa using this
        rw [hLk] at hvk hck
        have hck : w5.cell? ⟨gk, ok, none⟩ = some (.int .i64 (a : Int)) := hck
        have hln : ((a : Int) :: t).length = t.length + 1 := by simp
        rw [hln] at hvk
        have hal : (a : Int) < ((L1 5).length : Int) := by omega
        by_cases hc1 : capk = 1
        rotate_left
        · skip
          have HIR : Aside0 (IR w5 (.slice (some ⟨gk, ok + 1, none⟩) t.length (capk - 1)) t) := ⟨by
            have h1 := (S.out.get 2 rfl).1 (k + 1) (by omega)
            rw [hvk, ← HCAP.out] at h1
            exact IR.tail (x := (a : Int)) h1⟩
          have hc2 : ¬ capk - 1 = 0 := by omega
          have f_gb_k : w5.cell? ⟨gb, 2 + k, none⟩ = some (.slice (some ⟨gk, ok, none⟩) (t.length + 1) capk) := (S.out.cell 1 rfl (2 + k)).trans ((bkV_at s V1 k hk).trans (by rw [hvk]))
          have z_gb_k := S.out.frozen 1 rfl (2 + k)
          go_wp2_with (first | ((with_reducible refine gate_store (t := 24) (p := 57) rfl ?_); refine store_event (t := 24) (p := 57) (v := ?vo_4) (w1 := w5.setCell ⟨gb, 2 + k, none⟩ (Value.slice (some ⟨gk, ok + 1, none⟩) t.length (capk - 1))) ?hg ?ho ?hn ?hr ?_; (case ho => rfl); (case hg => rfl); (case hn => rfl); (case hr => first | (go_simp; done) | (go_simp; rfl)); intro w6 hw_; have Sm_ := Aside0.mk (S.out.row (rs' := [Bx gr (#[.int .i64 0, .slice none 0 0, .slice none 0 0, .slice none 0 0, .slice none 0 0, .slice none 0 0, .slice none 0 0, .slice none 0 0, .slice none 0 0]) 27, Bx gb (bkV s V1) 27, Rb (updV V1 (k + 1) (Value.slice (some ⟨gk, ok + 1, none⟩) t.length (capk - 1))) (upd (L1) (k + 1) t)]) (w' := w5) 2 rfl (i := k + 1) (by omega) (v' := (Value.slice (some ⟨gk, ok + 1, none⟩) t.length (capk - 1))) HIR.out (Fr.refl _ _) (fun j hj => ⟨.inl (by rw [hvk]; exact hj), S.out.lt 2 rfl j ⟨k + 1, by omega, by rw [hvk]; exact hj⟩⟩) rfl); have Sn_ := Aside0.mk ((Sm_.out.setCell (cs' := bkV s (updV V1 (k + 1) (Value.slice (some ⟨gk, ok + 1, none⟩) t.length (capk - 1)))) (rs' := [Bx gr (#[.int .i64 0, .slice none 0 0, .slice none 0 0, .slice none 0 0, .slice none 0 0, .slice none 0 0, .slice none 0 0, .slice none 0 0, .slice none 0 0]) 27, Bx gb (bkV s (updV V1 (k + 1) (Value.slice (some ⟨gk, ok + 1, none⟩) t.length (capk - 1)))) 27, Rb (updV V1 (k + 1) (Value.slice (some ⟨gk, ok + 1, none⟩) t.length (capk - 1))) (upd (L1) (k + 1) t)]) 1 rfl (2 + k) (Value.slice (some ⟨gk, ok + 1, none⟩) t.length (capk - 1)) (bkV_set s V1 k (Value.slice (some ⟨gk, ok + 1, none⟩) t.length (capk - 1)) hk) rfl).of hw_); clear S Sm_ hw_ f_gb_k z_gb_k hck; have S := Sn_; clear Sn_; have f_gb_6 : w6.cell? ⟨gb, 6, none⟩ = some (.slice (some ⟨g5, o5, none⟩) (L1 5).length cap5) := (S.out.cell 1 rfl 6).trans (by rw [← hv5]; exact congrArg some (updV_ne _ _ _ _ (by omega))); obtain ⟨hcp, hzp⟩ := S.out.rowCell 2 rfl (i := 5) (by omega) (show (updV V1 (k + 1) (Value.slice (some ⟨gk, ok + 1, none⟩) t.length (capk - 1))) 5 = _ from (updV_ne _ _ _ _ (by omega)).trans hv5) a (by rw [upd_ne _ _ _ _ (by omega)]; exact hao)) | ((with_reducible refine gate_store (t := 3) (p := 63) rfl ?_); refine store_event (t := 3) (p := 63) (v := ?vo_5) (w1 := w6.setCell ⟨g5, o5 + a, none⟩ (.int .i64 ((sl : Int) + 1))) ?hg ?ho ?hn ?hr ?_; (case ho => rfl); (case hg => rfl); (case hn => rfl); (case hr => first | (go_simp; done) | (go_simp; rfl)); intro w7 hw_; have Sn_ := Aside0.mk ((S.out.rowSet' (rs' := [Bx gr (#[.int .i64 0, .slice none 0 0, .slice none 0 0, .slice none 0 0, .slice none 0 0, .slice none 0 0, .slice none 0 0, .slice none 0 0, .slice none 0 0]) 27, Bx gb (bkV s (updV V1 (k + 1) (Value.slice (some ⟨gk, ok + 1, none⟩) t.length (capk - 1)))) 27, Rb (updV V1 (k + 1) (Value.slice (some ⟨gk, ok + 1, none⟩) t.length (capk - 1))) (upd (upd (L1) (k + 1) t) 5 (((upd (L1) (k + 1) t) 5).set a ((sl : Int) + 1)))]) 2 rfl (i := 5) (by omega) (show (updV V1 (k + 1) (Value.slice (some ⟨gk, ok + 1, none⟩) t.length (capk - 1))) 5 = _ from (updV_ne _ _ _ _ (by omega)).trans hv5) (a) (by rw [upd_ne _ _ _ _ (by omega)]; exact hao) ((sl : Int) + 1) rfl).of hw_); clear S hw_ hcp hzp; have S := Sn_; clear Sn_; have HONE2 := Aside0.mk ((S.out.get 2 rfl).one s); clear f_gb_6) | ((with_reducible refine gate_dst (N := 64) rfl ?_); refine Kd.event_run rfl (Row.load_row_run (g := gb) (t := 27) (cells := bkV s (updV V1 (k + 1) (Value.slice (some ⟨gk, ok + 1, none⟩) t.length (capk - 1)))) rfl rfl (S.out.blk 1 rfl) Try.underlying27 rfl (by kernel_rfl)) ?_) | ((with_reducible refine gate_store (t := 27) (p := 6) rfl ?_); refine store_event (t := 27) (p := 6) (v := ?vo_6) (w1 := w7.setRow gr (bkV s (updV V1 (k + 1) (Value.slice (some ⟨gk, ok + 1, none⟩) t.length (capk - 1))))) ?hg ?ho ?hn ?hr ?_; (case ho => rfl); (case hg => rfl); (case hn => rfl); (case hr => exact (Row.store_row_run (g := gr) (cells := bkV s (updV V1 (k + 1) (Value.slice (some ⟨gk, ok + 1, none⟩) t.length (capk - 1)))) (t := 27) (old := #[.int .i64 0, .slice none 0 0, .slice none 0 0, .slice none 0 0, .slice none 0 0, .slice none 0 0, .slice none 0 0, .slice none 0 0, .slice none 0 0]) rfl (by rfl) (by rfl) (S.out.blk 0 rfl) (by kernel_rfl) rfl (HONE2.out))); intro w8 hw_; have Sn_ := Aside0.mk ((S.out.setRow (cs' := bkV s (updV V1 (k + 1) (Value.slice (some ⟨gk, ok + 1, none⟩) t.length (capk - 1)))) (rs' := [Bx gr (bkV s (updV V1 (k + 1) (Value.slice (some ⟨gk, ok + 1, none⟩) t.length (capk - 1)))) 27, Bx gb (bkV s (updV V1 (k + 1) (Value.slice (some ⟨gk, ok + 1, none⟩) t.length (capk - 1)))) 27, Rb (updV V1 (k + 1) (Value.slice (some ⟨gk, ok + 1, none⟩) t.length (capk - 1))) (upd (upd (L1) (k + 1) t) 5 (((upd (L1) (k + 1) t) 5).set a ((sl : Int) + 1)))]) 0 rfl rfl).of hw_); clear S hw_; have S := Sn_; clear Sn_))
          have HWn : Aside0 (Wd s (upd (upd (L1) (k + 1) t) 5 (((upd (L1) (k + 1) t) 5).set a ((sl : Int) + 1)))) := ⟨by
            have h1 := Bv.W.carve HW.out hk hHk.out (p := p) (by omega) hPz.out sl hs hI
            have e0 : L1 0 = (L 0).set p ((k : Int) + 1) := by rw [← HL1.out]; unfold carL; rw [upd_ne _ _ _ _ (by omega), upd_at]
            have ej : ∀ j, j ≠ 0 → j ≠ k + 1 → L1 j = L j := fun j h0 h1 => by rw [← HL1.out]; unfold carL; rw [upd_ne _ _ _ _ h1, upd_ne _ _ _ _ h0]
            rw [HA.out, HT.out] at h1
            unfold Wd
            rw [upd_ne _ 5 0 _ (by omega), upd_ne _ (k + 1) 0 _ (by omega), e0, upd_at, upd_ne _ 5 6 _ (by omega), upd_ne _ (k + 1) 6 _ (by omega), ej 6 (by omega) (by omega), upd_ne _ 5 7 _ (by omega), upd_ne _ (k + 1) 7 _ (by omega), ej 7 (by omega) (by omega), upd_ne _ (k + 1) 5 _ (by omega), ej 5 (by omega) (by omega)]
            refine Wcong h1 (fun j hj => ?_)
            rw [upd_ne _ 5 (j + 1) _ (by omega)]
            by_cases e : j = k
            · rw [if_pos e, e, upd_at]
            · rw [if_neg e, upd_ne _ _ _ _ (by omega), ej _ (by omega) (by omega)]⟩
          refine bodyPost_ret (results_ctt rfl _ _ gr 27 (bkV s (updV V1 (k + 1) (Value.slice (some ⟨gk, ok + 1, none⟩) t.length (capk - 1)))) (0, 0) _ rfl (S.out.blk 0 rfl) Try.underlying27 rfl (by kernel_rfl)) rfl ?_
          exact ⟨(updV V1 (k + 1) (Value.slice (some ⟨gk, ok + 1, none⟩) t.length (capk - 1))), (upd (upd (L1) (k + 1) t) 5 (((upd (L1) (k + 1) t) 5).set a ((sl : Int) + 1))), _, _, rfl, HWn.out, S.out.out 2 rfl⟩
        subst hc1
        have HIR : Aside0 (IR w5 (.slice (some ⟨gk, ok, none⟩) t.length 0) t) := ⟨by
          have h1 := (S.out.get 2 rfl).1 (k + 1) (by omega)
          rw [hvk, ← HCAP.out] at h1
          exact IR.tail0 (x := (a : Int)) h1⟩
        clear hcap1
        have f_gb_k : w5.cell? ⟨gb, 2 + k, none⟩ = some (.slice (some ⟨gk, ok, none⟩) (t.length + 1) 1) := (S.out.cell 1 rfl (2 + k)).trans ((bkV_at s V1 k hk).trans (by rw [hvk]))
        have z_gb_k := S.out.frozen 1 rfl (2 + k)
        go_wp2_with (first | ((with_reducible refine gate_store (t := 24) (p := 57) rfl ?_); refine store_event (t := 24) (p := 57) (v := ?vo_7) (w1 := w5.setCell ⟨gb, 2 + k, none⟩ (Value.slice (some ⟨gk, ok, none⟩) t.length 0)) ?hg ?ho ?hn ?hr ?_; (case ho => rfl); (case hg => rfl); (case hn => rfl); (case hr => first | (go_simp; done) | (go_simp; rfl)); intro w9 hw_; have Sm_ := Aside0.mk (S.out.row (rs' := [Bx gr (#[.int .i64 0, .slice none 0 0, .slice none 0 0, .slice none 0 0, .slice none 0 0, .slice none 0 0, .slice none 0 0, .slice none 0 0, .slice none 0 0]) 27, Bx gb (bkV s V1) 27, Rb (updV V1 (k + 1) (Value.slice (some ⟨gk, ok, none⟩) t.length 0)) (upd (L1) (k + 1) t)]) (w' := w5) 2 rfl (i := k + 1) (by omega) (v' := (Value.slice (some ⟨gk, ok, none⟩) t.length 0)) HIR.out (Fr.refl _ _) (fun j hj => ⟨.inl (by rw [hvk]; exact hj), S.out.lt 2 rfl j ⟨k + 1, by omega, by rw [hvk]; exact hj⟩⟩) rfl); have Sn_ := Aside0.mk ((Sm_.out.setCell (cs' := bkV s (updV V1 (k + 1) (Value.slice (some ⟨gk, ok, none⟩) t.length 0))) (rs' := [Bx gr (#[.int .i64 0, .slice none 0 0, .slice none 0 0, .slice none 0 0, .slice none 0 0, .slice none 0 0, .slice none 0 0, .slice none 0 0, .slice none 0 0]) 27, Bx gb (bkV s (updV V1 (k + 1) (Value.slice (some ⟨gk, ok, none⟩) t.length 0))) 27, Rb (updV V1 (k + 1) (Value.slice (some ⟨gk, ok, none⟩) t.length 0)) (upd (L1) (k + 1) t)]) 1 rfl (2 + k) (Value.slice (some ⟨gk, ok, none⟩) t.length 0) (bkV_set s V1 k (Value.slice (some ⟨gk, ok, none⟩) t.length 0) hk) rfl).of hw_); clear S Sm_ hw_ f_gb_k z_gb_k hck; have S := Sn_; clear Sn_; have f_gb_6 : w9.cell? ⟨gb, 6, none⟩ = some (.slice (some ⟨g5, o5, none⟩) (L1 5).length cap5) := (S.out.cell 1 rfl 6).trans (by rw [← hv5]; exact congrArg some (updV_ne _ _ _ _ (by omega))); obtain ⟨hcp, hzp⟩ := S.out.rowCell 2 rfl (i := 5) (by omega) (show (updV V1 (k + 1) (Value.slice (some ⟨gk, ok, none⟩) t.length 0)) 5 = _ from (updV_ne _ _ _ _ (by omega)).trans hv5) a (by rw [upd_ne _ _ _ _ (by omega)]; exact hao)) | ((with_reducible refine gate_store (t := 3) (p := 63) rfl ?_); refine store_event (t := 3) (p := 63) (v := ?vo_8) (w1 := w9.setCell ⟨g5, o5 + a, none⟩ (.int .i64 ((sl : Int) + 1))) ?hg ?ho ?hn ?hr ?_; (case ho => rfl); (case hg => rfl); (case hn => rfl); (case hr => first | (go_simp; done) | (go_simp; rfl)); intro w10 hw_; have Sn_ := Aside0.mk ((S.out.rowSet' (rs' := [Bx gr (#[.int .i64 0, .slice none 0 0, .slice none 0 0, .slice none 0 0, .slice none 0 0, .slice none 0 0, .slice none 0 0, .slice none 0 0, .slice none 0 0]) 27, Bx gb (bkV s (updV V1 (k + 1) (Value.slice (some ⟨gk, ok, none⟩) t.length 0))) 27, Rb (updV V1 (k + 1) (Value.slice (some ⟨gk, ok, none⟩) t.length 0)) (upd (upd (L1) (k + 1) t) 5 (((upd (L1) (k + 1) t) 5).set a ((sl : Int) + 1)))]) 2 rfl (i := 5) (by omega) (show (updV V1 (k + 1) (Value.slice (some ⟨gk, ok, none⟩) t.length 0)) 5 = _ from (updV_ne _ _ _ _ (by omega)).trans hv5) (a) (by rw [upd_ne _ _ _ _ (by omega)]; exact hao) ((sl : Int) + 1) rfl).of hw_); clear S hw_ hcp hzp; have S := Sn_; clear Sn_; have HONE2 := Aside0.mk ((S.out.get 2 rfl).one s); clear f_gb_6) | ((with_reducible refine gate_dst (N := 64) rfl ?_); refine Kd.event_run rfl (Row.load_row_run (g := gb) (t := 27) (cells := bkV s (updV V1 (k + 1) (Value.slice (some ⟨gk, ok, none⟩) t.length 0))) rfl rfl (S.out.blk 1 rfl) Try.underlying27 rfl (by kernel_rfl)) ?_) | ((with_reducible refine gate_store (t := 27) (p := 6) rfl ?_); refine store_event (t := 27) (p := 6) (v := ?vo_9) (w1 := w10.setRow gr (bkV s (updV V1 (k + 1) (Value.slice (some ⟨gk, ok, none⟩) t.length 0)))) ?hg ?ho ?hn ?hr ?_; (case ho => rfl); (case hg => rfl); (case hn => rfl); (case hr => exact (Row.store_row_run (g := gr) (cells := bkV s (updV V1 (k + 1) (Value.slice (some ⟨gk, ok, none⟩) t.length 0))) (t := 27) (old := #[.int .i64 0, .slice none 0 0, .slice none 0 0, .slice none 0 0, .slice none 0 0, .slice none 0 0, .slice none 0 0, .slice none 0 0, .slice none 0 0]) rfl (by rfl) (by rfl) (S.out.blk 0 rfl) (by kernel_rfl) rfl (HONE2.out))); intro w11 hw_; have Sn_ := Aside0.mk ((S.out.setRow (cs' := bkV s (updV V1 (k + 1) (Value.slice (some ⟨gk, ok, none⟩) t.length 0))) (rs' := [Bx gr (bkV s (updV V1 (k + 1) (Value.slice (some ⟨gk, ok, none⟩) t.length 0))) 27, Bx gb (bkV s (updV V1 (k + 1) (Value.slice (some ⟨gk, ok, none⟩) t.length 0))) 27, Rb (updV V1 (k + 1) (Value.slice (some ⟨gk, ok, none⟩) t.length 0)) (upd (upd (L1) (k + 1) t) 5 (((upd (L1) (k + 1) t) 5).set a ((sl : Int) + 1)))]) 0 rfl rfl).of hw_); clear S hw_; have S := Sn_; clear Sn_))
        have HWn : Aside0 (Wd s (upd (upd (L1) (k + 1) t) 5 (((upd (L1) (k + 1) t) 5).set a ((sl : Int) + 1)))) := ⟨by
          have h1 := Bv.W.carve HW.out hk hHk.out (p := p) (by omega) hPz.out sl hs hI
          have e0 : L1 0 = (L 0).set p ((k : Int) + 1) := by rw [← HL1.out]; unfold carL; rw [upd_ne _ _ _ _ (by omega), upd_at]
          have ej : ∀ j, j ≠ 0 → j ≠ k + 1 → L1 j = L j := fun j h0 h1 => by rw [← HL1.out]; unfold carL; rw [upd_ne _ _ _ _ h1, upd_ne _ _ _ _ h0]
          rw [HA.out, HT.out] at h1
          unfold Wd
          rw [upd_ne _ 5 0 _ (by omega), upd_ne _ (k + 1) 0 _ (by omega), e0, upd_at, upd_ne _ 5 6 _ (by omega), upd_ne _ (k + 1) 6 _ (by omega), ej 6 (by omega) (by omega), upd_ne _ 5 7 _ (by omega), upd_ne _ (k + 1) 7 _ (by omega), ej 7 (by omega) (by omega), upd_ne _ (k + 1) 5 _ (by omega), ej 5 (by omega) (by omega)]
          refine Wcong h1 (fun j hj => ?_)
          rw [upd_ne _ 5 (j + 1) _ (by omega)]
          by_cases e : j = k
          · rw [if_pos e, e, upd_at]
          · rw [if_neg e, upd_ne _ _ _ _ (by omega), ej _ (by omega) (by omega)]⟩
        refine bodyPost_ret (results_ctt rfl _ _ gr 27 (bkV s (updV V1 (k + 1) (Value.slice (some ⟨gk, ok, none⟩) t.length 0))) (0, 0) _ rfl (S.out.blk 0 rfl) Try.underlying27 rfl (by kernel_rfl)) rfl ?_
        exact ⟨(updV V1 (k + 1) (Value.slice (some ⟨gk, ok, none⟩) t.length 0)), (upd (upd (L1) (k + 1) t) 5 (((upd (L1) (k + 1) t) 5).set a ((sl : Int) + 1))), _, _, rfl, HWn.out, S.out.out 2 rfl⟩
    | cons y t =>
      have hmem := (HW.out.mem k hk y).1 (by show y ∈ L (k + 1); rw [hl_]; exact List.mem_cons_self)
      obtain ⟨a, rfl, hao, _⟩ := hmem
      have hLk := hl_
      clear hl_
      have hz : ((((a : Int) :: t).length : Int) == 0) = false := beq_eq_false_iff_ne.mpr (by rw [List.length_cons]; omega)
      have HZ := Aside0.mk hz
      clear hz
      obtain ⟨m, hm⟩ : ∃ m : Nat, ((a : Int) :: t).length = m := ⟨_, rfl⟩
      rw [hm] at f_gb_k HZ
      have hz := HZ.out
      clear hm
      go_upto_region 11 with (first | fail)
      clear f_gb_k
      obtain ⟨gk, ok, capk, hvk, hck, _⟩ := (S.out.get 2 rfl).1 (k + 1) (by omega) |>.at 0 (by rw [hLk]; simp)
      obtain ⟨g5, o5, cap5, hv5, _, _⟩ := (S.out.get 2 rfl).1 5 (by omega) |>.at a hao
      have HCAP : Aside0 ((a : Int) :: t = L (k + 1)) := ⟨hLk.symm⟩
      have hcap1 : t.length + 1 ≤ capk := by
        have h1 := (S.out.get 2 rfl).1 (k + 1) (by omega)
        rw [hvk, hLk] at h1
        have := h1.slC.2
        simpa using this
      rw [hLk] at hvk hck
      have hck : w7.cell? ⟨gk, ok, none⟩ = some (.int .i64 (a : Int)) := hck
      have hln : ((a : Int) :: t).length = t.length + 1 := by simp
      rw [hln] at hvk
      have hal : (a : Int) < ((L 5).length : Int) := by omega
      by_cases hc1 : capk = 1
      rotate_left
      · skip
        have HIR : Aside0 (IR w7 (.slice (some ⟨gk, ok + 1, none⟩) t.length (capk - 1)) t) := ⟨by
          have h1 := (S.out.get 2 rfl).1 (k + 1) (by omega)
          rw [hvk, ← HCAP.out] at h1
          exact IR.tail (x := (a : Int)) h1⟩
        have hc2 : ¬ capk - 1 = 0 := by omega
        have f_gb_k : w7.cell? ⟨gb, 2 + k, none⟩ = some (.slice (some ⟨gk, ok, none⟩) (t.length + 1) capk) := (S.out.cell 1 rfl (2 + k)).trans ((bkV_at s V k hk).trans (by rw [hvk]))
        have z_gb_k := S.out.frozen 1 rfl (2 + k)
        go_wp2_with (first | ((with_reducible refine gate_store (t := 24) (p := 57) rfl ?_); refine store_event (t := 24) (p := 57) (v := ?vo_10) (w1 := w7.setCell ⟨gb, 2 + k, none⟩ (Value.slice (some ⟨gk, ok + 1, none⟩) t.length (capk - 1))) ?hg ?ho ?hn ?hr ?_; (case ho => rfl); (case hg => rfl); (case hn => rfl); (case hr => first | (go_simp; done) | (go_simp; rfl)); intro w12 hw_; have Sm_ := Aside0.mk (S.out.row (rs' := [Bx gr (#[.int .i64 0, .slice none 0 0, .slice none 0 0, .slice none 0 0, .slice none 0 0, .slice none 0 0, .slice none 0 0, .slice none 0 0, .slice none 0 0]) 27, Bx gb (bkV s V) 27, Rb (updV V (k + 1) (Value.slice (some ⟨gk, ok + 1, none⟩) t.length (capk - 1))) (upd (L) (k + 1) t)]) (w' := w7) 2 rfl (i := k + 1) (by omega) (v' := (Value.slice (some ⟨gk, ok + 1, none⟩) t.length (capk - 1))) HIR.out (Fr.refl _ _) (fun j hj => ⟨.inl (by rw [hvk]; exact hj), S.out.lt 2 rfl j ⟨k + 1, by omega, by rw [hvk]; exact hj⟩⟩) rfl); have Sn_ := Aside0.mk ((Sm_.out.setCell (cs' := bkV s (updV V (k + 1) (Value.slice (some ⟨gk, ok + 1, none⟩) t.length (capk - 1)))) (rs' := [Bx gr (#[.int .i64 0, .slice none 0 0, .slice none 0 0, .slice none 0 0, .slice none 0 0, .slice none 0 0, .slice none 0 0, .slice none 0 0, .slice none 0 0]) 27, Bx gb (bkV s (updV V (k + 1) (Value.slice (some ⟨gk, ok + 1, none⟩) t.length (capk - 1)))) 27, Rb (updV V (k + 1) (Value.slice (some ⟨gk, ok + 1, none⟩) t.length (capk - 1))) (upd (L) (k + 1) t)]) 1 rfl (2 + k) (Value.slice (some ⟨gk, ok + 1, none⟩) t.length (capk - 1)) (bkV_set s V k (Value.slice (some ⟨gk, ok + 1, none⟩) t.length (capk - 1)) hk) rfl).of hw_); clear S Sm_ hw_ f_gb_k z_gb_k hck; have S := Sn_; clear Sn_; have f_gb_6 : w12.cell? ⟨gb, 6, none⟩ = some (.slice (some ⟨g5, o5, none⟩) (L 5).length cap5) := (S.out.cell 1 rfl 6).trans (by rw [← hv5]; exact congrArg some (updV_ne _ _ _ _ (by omega))); obtain ⟨hcp, hzp⟩ := S.out.rowCell 2 rfl (i := 5) (by omega) (show (updV V (k + 1) (Value.slice (some ⟨gk, ok + 1, none⟩) t.length (capk - 1))) 5 = _ from (updV_ne _ _ _ _ (by omega)).trans hv5) a (by rw [upd_ne _ _ _ _ (by omega)]; exact hao)) | ((with_reducible refine gate_store (t := 3) (p := 63) rfl ?_); refine store_event (t := 3) (p := 63) (v := ?vo_11) (w1 := w12.setCell ⟨g5, o5 + a, none⟩ (.int .i64 ((sl : Int) + 1))) ?hg ?ho ?hn ?hr ?_; (case ho => rfl); (case hg => rfl); (case hn => rfl); (case hr => first | (go_simp; done) | (go_simp; rfl)); intro w13 hw_; have Sn_ := Aside0.mk ((S.out.rowSet' (rs' := [Bx gr (#[.int .i64 0, .slice none 0 0, .slice none 0 0, .slice none 0 0, .slice none 0 0, .slice none 0 0, .slice none 0 0, .slice none 0 0, .slice none 0 0]) 27, Bx gb (bkV s (updV V (k + 1) (Value.slice (some ⟨gk, ok + 1, none⟩) t.length (capk - 1)))) 27, Rb (updV V (k + 1) (Value.slice (some ⟨gk, ok + 1, none⟩) t.length (capk - 1))) (upd (upd (L) (k + 1) t) 5 (((upd (L) (k + 1) t) 5).set a ((sl : Int) + 1)))]) 2 rfl (i := 5) (by omega) (show (updV V (k + 1) (Value.slice (some ⟨gk, ok + 1, none⟩) t.length (capk - 1))) 5 = _ from (updV_ne _ _ _ _ (by omega)).trans hv5) (a) (by rw [upd_ne _ _ _ _ (by omega)]; exact hao) ((sl : Int) + 1) rfl).of hw_); clear S hw_ hcp hzp; have S := Sn_; clear Sn_; have HONE2 := Aside0.mk ((S.out.get 2 rfl).one s); clear f_gb_6) | ((with_reducible refine gate_dst (N := 64) rfl ?_); refine Kd.event_run rfl (Row.load_row_run (g := gb) (t := 27) (cells := bkV s (updV V (k + 1) (Value.slice (some ⟨gk, ok + 1, none⟩) t.length (capk - 1)))) rfl rfl (S.out.blk 1 rfl) Try.underlying27 rfl (by kernel_rfl)) ?_) | ((with_reducible refine gate_store (t := 27) (p := 6) rfl ?_); refine store_event (t := 27) (p := 6) (v := ?vo_12) (w1 := w13.setRow gr (bkV s (updV V (k + 1) (Value.slice (some ⟨gk, ok + 1, none⟩) t.length (capk - 1))))) ?hg ?ho ?hn ?hr ?_; (case ho => rfl); (case hg => rfl); (case hn => rfl); (case hr => exact (Row.store_row_run (g := gr) (cells := bkV s (updV V (k + 1) (Value.slice (some ⟨gk, ok + 1, none⟩) t.length (capk - 1)))) (t := 27) (old := #[.int .i64 0, .slice none 0 0, .slice none 0 0, .slice none 0 0, .slice none 0 0, .slice none 0 0, .slice none 0 0, .slice none 0 0, .slice none 0 0]) rfl (by rfl) (by rfl) (S.out.blk 0 rfl) (by kernel_rfl) rfl (HONE2.out))); intro w14 hw_; have Sn_ := Aside0.mk ((S.out.setRow (cs' := bkV s (updV V (k + 1) (Value.slice (some ⟨gk, ok + 1, none⟩) t.length (capk - 1)))) (rs' := [Bx gr (bkV s (updV V (k + 1) (Value.slice (some ⟨gk, ok + 1, none⟩) t.length (capk - 1)))) 27, Bx gb (bkV s (updV V (k + 1) (Value.slice (some ⟨gk, ok + 1, none⟩) t.length (capk - 1)))) 27, Rb (updV V (k + 1) (Value.slice (some ⟨gk, ok + 1, none⟩) t.length (capk - 1))) (upd (upd (L) (k + 1) t) 5 (((upd (L) (k + 1) t) 5).set a ((sl : Int) + 1)))]) 0 rfl rfl).of hw_); clear S hw_; have S := Sn_; clear Sn_))
        have HWn : Aside0 (Wd s (upd (upd (L) (k + 1) t) 5 (((upd (L) (k + 1) t) 5).set a ((sl : Int) + 1)))) := ⟨by
          have h1 := Bv.W.take HW.out hk (a := a) (t := t) HCAP.out.symm sl hs hI
          unfold Wd
          rw [upd_ne _ 5 0 _ (by omega), upd_ne _ (k + 1) 0 _ (by omega), upd_at, upd_ne _ 5 6 _ (by omega), upd_ne _ (k + 1) 6 _ (by omega), upd_ne _ 5 7 _ (by omega), upd_ne _ (k + 1) 7 _ (by omega), upd_ne _ (k + 1) 5 _ (by omega)]
          refine Wcong h1 (fun j hj => ?_)
          rw [upd_ne _ 5 (j + 1) _ (by omega)]
          by_cases e : j = k
          · rw [if_pos e, e, upd_at]
          · rw [if_neg e, upd_ne _ _ _ _ (by omega)]⟩
        refine bodyPost_ret (results_ctt rfl _ _ gr 27 (bkV s (updV V (k + 1) (Value.slice (some ⟨gk, ok + 1, none⟩) t.length (capk - 1)))) (0, 0) _ rfl (S.out.blk 0 rfl) Try.underlying27 rfl (by kernel_rfl)) rfl ?_
        exact ⟨(updV V (k + 1) (Value.slice (some ⟨gk, ok + 1, none⟩) t.length (capk - 1))), (upd (upd (L) (k + 1) t) 5 (((upd (L) (k + 1) t) 5).set a ((sl : Int) + 1))), _, _, rfl, HWn.out, S.out.out 2 rfl⟩
      subst hc1
      have HIR : Aside0 (IR w7 (.slice (some ⟨gk, ok, none⟩) t.length 0) t) := ⟨by
        have h1 := (S.out.get 2 rfl).1 (k + 1) (by omega)
        rw [hvk, ← HCAP.out] at h1
        exact IR.tail0 (x := (a : Int)) h1⟩
      clear hcap1
      have f_gb_k : w7.cell? ⟨gb, 2 + k, none⟩ = some (.slice (some ⟨gk, ok, none⟩) (t.length + 1) 1) := (S.out.cell 1 rfl (2 + k)).trans ((bkV_at s V k hk).trans (by rw [hvk]))
      have z_gb_k := S.out.frozen 1 rfl (2 + k)
      go_wp2_with (first | ((with_reducible refine gate_store (t := 24) (p := 57) rfl ?_); refine store_event (t := 24) (p := 57) (v := ?vo_13) (w1 := w7.setCell ⟨gb, 2 + k, none⟩ (Value.slice (some ⟨gk, ok, none⟩) t.length 0)) ?hg ?ho ?hn ?hr ?_; (case ho => rfl); (case hg => rfl); (case hn => rfl); (case hr => first | (go_simp; done) | (go_simp; rfl)); intro w15 hw_; have Sm_ := Aside0.mk (S.out.row (rs' := [Bx gr (#[.int .i64 0, .slice none 0 0, .slice none 0 0, .slice none 0 0, .slice none 0 0, .slice none 0 0, .slice none 0 0, .slice none 0 0, .slice none 0 0]) 27, Bx gb (bkV s V) 27, Rb (updV V (k + 1) (Value.slice (some ⟨gk, ok, none⟩) t.length 0)) (upd (L) (k + 1) t)]) (w' := w7) 2 rfl (i := k + 1) (by omega) (v' := (Value.slice (some ⟨gk, ok, none⟩) t.length 0)) HIR.out (Fr.refl _ _) (fun j hj => ⟨.inl (by rw [hvk]; exact hj), S.out.lt 2 rfl j ⟨k + 1, by omega, by rw [hvk]; exact hj⟩⟩) rfl); have Sn_ := Aside0.mk ((Sm_.out.setCell (cs' := bkV s (updV V (k + 1) (Value.slice (some ⟨gk, ok, none⟩) t.length 0))) (rs' := [Bx gr (#[.int .i64 0, .slice none 0 0, .slice none 0 0, .slice none 0 0, .slice none 0 0, .slice none 0 0, .slice none 0 0, .slice none 0 0, .slice none 0 0]) 27, Bx gb (bkV s (updV V (k + 1) (Value.slice (some ⟨gk, ok, none⟩) t.length 0))) 27, Rb (updV V (k + 1) (Value.slice (some ⟨gk, ok, none⟩) t.length 0)) (upd (L) (k + 1) t)]) 1 rfl (2 + k) (Value.slice (some ⟨gk, ok, none⟩) t.length 0) (bkV_set s V k (Value.slice (some ⟨gk, ok, none⟩) t.length 0) hk) rfl).of hw_); clear S Sm_ hw_ f_gb_k z_gb_k hck; have S := Sn_; clear Sn_; have f_gb_6 : w15.cell? ⟨gb, 6, none⟩ = some (.slice (some ⟨g5, o5, none⟩) (L 5).length cap5) := (S.out.cell 1 rfl 6).trans (by rw [← hv5]; exact congrArg some (updV_ne _ _ _ _ (by omega))); obtain ⟨hcp, hzp⟩ := S.out.rowCell 2 rfl (i := 5) (by omega) (show (updV V (k + 1) (Value.slice (some ⟨gk, ok, none⟩) t.length 0)) 5 = _ from (updV_ne _ _ _ _ (by omega)).trans hv5) a (by rw [upd_ne _ _ _ _ (by omega)]; exact hao)) | ((with_reducible refine gate_store (t := 3) (p := 63) rfl ?_); refine store_event (t := 3) (p := 63) (v := ?vo_14) (w1 := w15.setCell ⟨g5, o5 + a, none⟩ (.int .i64 ((sl : Int) + 1))) ?hg ?ho ?hn ?hr ?_; (case ho => rfl); (case hg => rfl); (case hn => rfl); (case hr => first | (go_simp; done) | (go_simp; rfl)); intro w16 hw_; have Sn_ := Aside0.mk ((S.out.rowSet' (rs' := [Bx gr (#[.int .i64 0, .slice none 0 0, .slice none 0 0, .slice none 0 0, .slice none 0 0, .slice none 0 0, .slice none 0 0, .slice none 0 0, .slice none 0 0]) 27, Bx gb (bkV s (updV V (k + 1) (Value.slice (some ⟨gk, ok, none⟩) t.length 0))) 27, Rb (updV V (k + 1) (Value.slice (some ⟨gk, ok, none⟩) t.length 0)) (upd (upd (L) (k + 1) t) 5 (((upd (L) (k + 1) t) 5).set a ((sl : Int) + 1)))]) 2 rfl (i := 5) (by omega) (show (updV V (k + 1) (Value.slice (some ⟨gk, ok, none⟩) t.length 0)) 5 = _ from (updV_ne _ _ _ _ (by omega)).trans hv5) (a) (by rw [upd_ne _ _ _ _ (by omega)]; exact hao) ((sl : Int) + 1) rfl).of hw_); clear S hw_ hcp hzp; have S := Sn_; clear Sn_; have HONE2 := Aside0.mk ((S.out.get 2 rfl).one s); clear f_gb_6) | ((with_reducible refine gate_dst (N := 64) rfl ?_); refine Kd.event_run rfl (Row.load_row_run (g := gb) (t := 27) (cells := bkV s (updV V (k + 1) (Value.slice (some ⟨gk, ok, none⟩) t.length 0))) rfl rfl (S.out.blk 1 rfl) Try.underlying27 rfl (by kernel_rfl)) ?_) | ((with_reducible refine gate_store (t := 27) (p := 6) rfl ?_); refine store_event (t := 27) (p := 6) (v := ?vo_15) (w1 := w16.setRow gr (bkV s (updV V (k + 1) (Value.slice (some ⟨gk, ok, none⟩) t.length 0)))) ?hg ?ho ?hn ?hr ?_; (case ho => rfl); (case hg => rfl); (case hn => rfl); (case hr => exact (Row.store_row_run (g := gr) (cells := bkV s (updV V (k + 1) (Value.slice (some ⟨gk, ok, none⟩) t.length 0))) (t := 27) (old := #[.int .i64 0, .slice none 0 0, .slice none 0 0, .slice none 0 0, .slice none 0 0, .slice none 0 0, .slice none 0 0, .slice none 0 0, .slice none 0 0]) rfl (by rfl) (by rfl) (S.out.blk 0 rfl) (by kernel_rfl) rfl (HONE2.out))); intro w17 hw_; have Sn_ := Aside0.mk ((S.out.setRow (cs' := bkV s (updV V (k + 1) (Value.slice (some ⟨gk, ok, none⟩) t.length 0))) (rs' := [Bx gr (bkV s (updV V (k + 1) (Value.slice (some ⟨gk, ok, none⟩) t.length 0))) 27, Bx gb (bkV s (updV V (k + 1) (Value.slice (some ⟨gk, ok, none⟩) t.length 0))) 27, Rb (updV V (k + 1) (Value.slice (some ⟨gk, ok, none⟩) t.length 0)) (upd (upd (L) (k + 1) t) 5 (((upd (L) (k + 1) t) 5).set a ((sl : Int) + 1)))]) 0 rfl rfl).of hw_); clear S hw_; have S := Sn_; clear Sn_))
      have HWn : Aside0 (Wd s (upd (upd (L) (k + 1) t) 5 (((upd (L) (k + 1) t) 5).set a ((sl : Int) + 1)))) := ⟨by
        have h1 := Bv.W.take HW.out hk (a := a) (t := t) HCAP.out.symm sl hs hI
        unfold Wd
        rw [upd_ne _ 5 0 _ (by omega), upd_ne _ (k + 1) 0 _ (by omega), upd_at, upd_ne _ 5 6 _ (by omega), upd_ne _ (k + 1) 6 _ (by omega), upd_ne _ 5 7 _ (by omega), upd_ne _ (k + 1) 7 _ (by omega), upd_ne _ (k + 1) 5 _ (by omega)]
        refine Wcong h1 (fun j hj => ?_)
        rw [upd_ne _ 5 (j + 1) _ (by omega)]
        by_cases e : j = k
        · rw [if_pos e, e, upd_at]
        · rw [if_neg e, upd_ne _ _ _ _ (by omega)]⟩
      refine bodyPost_ret (results_ctt rfl _ _ gr 27 (bkV s (updV V (k + 1) (Value.slice (some ⟨gk, ok, none⟩) t.length 0))) (0, 0) _ rfl (S.out.blk 0 rfl) Try.underlying27 rfl (by kernel_rfl)) rfl ?_
      exact ⟨(updV V (k + 1) (Value.slice (some ⟨gk, ok, none⟩) t.length 0)), (upd (upd (L) (k + 1) t) 5 (((upd (L) (k + 1) t) 5).set a ((sl : Int) + 1))), _, _, rfl, HWn.out, S.out.out 2 rfl⟩
  · skip
    obtain ⟨n, hn⟩ : ∃ n : Nat, Int.tdiv (x + 7) 8 = (n : Int) := ⟨(Int.tdiv (x + 7) 8).toNat, by rw [Int.tdiv_eq_ediv_of_nonneg (by omega)]; omega⟩
    have hn2 : 2 ≤ n ∧ n ≤ 4 := by rw [Int.tdiv_eq_ediv_of_nonneg (by omega)] at hn; omega
    have hn' : Int.tdiv (x + 8 - 1) 8 = (n : Int) := by rw [← hn]; congr 1; omega
    have HPG := Aside0.mk (fun w_ h_ => l3Pages_calls s V L HW.out n hn2.1 hn2.2 sl hs hI w_ h_)
    go_wp2_with (first | ((with_reducible refine gate_dst (N := 19) rfl ?_); refine Kd.event_run rfl (Row.load_row_run (g := gb) (t := 27) (cells := bkV s V) rfl rfl (S.out.blk 1 rfl) Try.underlying27 rfl (by kernel_rfl)) ?_))
    refine (HPG.out _ (S.out.get 2 rfl)).mono ?_
    rintro e w9 ⟨V1, L1, r1, r2, rfl, hWd, hO⟩
    have Sn_ := Aside0.mk (S.out.back (rs' := [Bx gr (#[.int .i64 0, .slice none 0 0, .slice none 0 0, .slice none 0 0, .slice none 0 0, .slice none 0 0, .slice none 0 0, .slice none 0 0, .slice none 0 0]) 27, Bx gb (bkV s V) 27, Rb V1 (L1)]) 2 rfl hO rfl)
    clear S HPG
    have S := Sn_
    clear Sn_
    have HONE1 := Aside0.mk (hO.1.one s)
    have HWD := Aside0.mk hWd
    clear hO hWd hn hn'
    go_wp2_with (first | ((with_reducible refine gate_store (t := 27) (p := 6) rfl ?_); refine store_event (t := 27) (p := 6) (v := ?vo_16) (w1 := w9.setRow gr (bkV s V1)) ?hg ?ho ?hn ?hr ?_; (case ho => rfl); (case hg => rfl); (case hn => rfl); (case hr => exact (Row.store_row_run (g := gr) (cells := bkV s V1) (t := 27) (old := #[.int .i64 0, .slice none 0 0, .slice none 0 0, .slice none 0 0, .slice none 0 0, .slice none 0 0, .slice none 0 0, .slice none 0 0, .slice none 0 0]) rfl (by rfl) (by rfl) (S.out.blk 0 rfl) (by kernel_rfl) rfl (HONE1.out))); intro w18 hw_; have Sn_ := Aside0.mk ((S.out.setRow (cs' := bkV s V1) (rs' := [Bx gr (bkV s V1) 27, Bx gb (bkV s V) 27, Rb V1 (L1)]) 0 rfl rfl).of hw_); clear S hw_; have S := Sn_; clear Sn_))
    refine bodyPost_ret (results_ctt rfl _ _ gr 27 (bkV s V1) (0, 0) _ rfl (S.out.blk 0 rfl) Try.underlying27 rfl (by kernel_rfl)) rfl ?_
    exact ⟨V1, L1, _, _, rfl, HWD.out, S.out.out 2 rfl⟩
end Go.Proofs.Ytekneicikmaplaa.Bk
namespace Go.Proofs.Ytekneicikmaplaa.Bk
open Go.RowKit Go.Proofs.YtekneicikmaplaaW.PrintWords Go.Proofs.YtekneicikmaplaaW.PrintLast Go.Proofs.YtekneicikmaplaaW.PrintMore
/-- What l3Back does: a room that has an owner is given back. -/
def BackC : Prop := ∀ (s : Int) (V : Nat → Value) (L : Nat → List Int), Wd s L → ∀ a : Nat, a < (L 5).length → (L 5).getD a 0 > 0 → ∀ w : World, BoV V L w →
  Calls Try.prog 98 #[.agg (bkV s V), .int .i64 (a : Int)] w fun e w' => ∃ V' L', e = .returned (.agg (bkV s V')) ∧ Wd s L' ∧ OutV V V' L' w w'
/-- A slot changes, and no room is its. -/
theorem Wd.slotSet {s : Int} {L : Nat → List Int} (h : Wd s L) {u : Nat} (hu : (u : Int) < s) {v : Int} (h0 : 0 ≤ v) (h2 : v ≤ 2) (hE : (L 7).getD u 0 = 0 → v = 0) (hO : v = 0 → ∀ j, j < (L 5).length → ¬ (L 5).getD j 0 = (u : Int) + 1) :
    Wd s (upd L 6 ((L 6).set u v)) := by
  have hlen : u < (L 6).length := by have := h.nI; omega
  have h1 : Bv.W s (L 0) (L 5) ((L 6).set u v) (L 7) (fun k => L (k + 1)) := by
    refine Bv.W.slots h (by rw [List.length_set]) rfl (fun i hi => ?_) (fun j hj hjO => ?_)
    · obtain ⟨a1, a2, a3, a4, a5⟩ := Bv.W.slot h i hi
      by_cases e : i = u
      · rw [e] at a3 a4 ⊢
        rw [Bv.g_set_eq _ _ _ hlen]
        exact ⟨h0, h2, a3, a4, hE⟩
      · rw [Bv.g_set_ne _ _ _ _ e]
        exact ⟨a1, a2, a3, a4, a5⟩
    · obtain ⟨a1, a2, a3⟩ := Bv.W.unit h j hj
      by_cases e : (Bv.g (L 5) j - 1).toNat = u
      · rw [e, Bv.g_set_eq _ _ _ hlen]
        intro hv
        exact hO hv j hj (show Bv.g (L 5) j = _ by omega)
      · rw [Bv.g_set_ne _ _ _ _ e]; exact a3 hjO
  unfold Wd
  rw [upd_ne _ 6 0 _ (by omega), upd_ne _ 6 5 _ (by omega), upd_at, upd_ne _ 6 7 _ (by omega)]
  exact Wcong h1 (fun k hk => by rw [upd_ne _ _ _ _ (by omega)])
set_option maxHeartbeats 4000000 in
set_option maxRecDepth 100000 in
theorem l3Reap_calls (hB : BackC) (s : Int) (V : Nat → Value) (L : Nat → List Int) (hW : Wd s L) (x : Int) (hx0 : -1000 ≤ x) (hx1 : x ≤ 1000) (w : World) (h : BoV V L w) :
    Calls Try.prog 100 #[.agg (bkV s V), .int .i64 x] w (Ret3 s V w) := by
  obtain ⟨hl6, hl1, hl5, hl48, hlI, hlE, hs1, hs4⟩ := hW.rows
  have HW := Aside0.mk hW
  have HBK := Aside0.mk (hB s V L hW)
  have S := Aside0.mk (Sx.one (r := Rb V L) h (Rb.stable V L) (fun k hk => h.lt hk))
  have HV := Aside0.mk h
  have HONE := Aside0.mk (h.one s)
  obtain ⟨g6, o6, cap6, hv6, _, _⟩ := (h.1 6 (by omega)).at 0 (by omega)
  clear hW h hB
  go_enter Try.func100, Try.ntmps100
  go_upto_region 1 with (first | ((with_reducible refine gate_dst (N := 2) rfl ?_); refine box_event rfl (N := 2) rfl (cs := bkV s V) (t := 27) (by first | (go_simp; done) | (go_simp; rfl)) ?_; intro gb hg_ w1 hbox_ hb_; have Sn_ := Aside0.mk (S.out.box hg_ hbox_ hb_); clear hbox_ hb_ hg_ S; have S := Sn_; clear Sn_; have f_gb_0 : w1.cell? ⟨gb, 0, none⟩ = some (.int .i64 s) := (S.out.cell 0 rfl 0).trans rfl; have f_gb_7 : w1.cell? ⟨gb, 7, none⟩ = some (.slice (some ⟨g6, o6, none⟩) (L 6).length cap6) := (S.out.cell 0 rfl 7).trans (by rw [← hv6]; rfl)) | ((with_reducible refine gate_dst (N := 4) rfl ?_); refine box_event rfl (N := 4) rfl (cs := #[.int .i64 0, .slice none 0 0, .slice none 0 0, .slice none 0 0, .slice none 0 0, .slice none 0 0, .slice none 0 0, .slice none 0 0, .slice none 0 0]) (t := 27) (by first | (go_simp; done) | (go_simp; rfl)) ?_; intro gr hg_ w2 hbox_ hb_; have Sn_ := Aside0.mk (S.out.box hg_ hbox_ hb_); clear hbox_ hb_ hg_ S; have S := Sn_; clear Sn_; clear f_gb_0 f_gb_7; have f_gb_0 : w2.cell? ⟨gb, 0, none⟩ = some (.int .i64 s) := (S.out.cell 1 rfl 0).trans rfl; have f_gb_7 : w2.cell? ⟨gb, 7, none⟩ = some (.slice (some ⟨g6, o6, none⟩) (L 6).length cap6) := (S.out.cell 1 rfl 7).trans (by rw [← hv6]; rfl)))
  by_cases hx : x < 0
  · have b0 : decide (x < 0) = true := decide_eq_true hx
    go_wp2_with (first | ((with_reducible refine gate_dst (N := 24) rfl ?_); refine Kd.event_run rfl (Row.load_row_run (g := gb) (t := 27) (cells := bkV s V) rfl rfl (S.out.blk 1 rfl) Try.underlying27 rfl (by kernel_rfl)) ?_) | ((with_reducible refine gate_store (t := 27) (p := 4) rfl ?_); refine store_event (t := 27) (p := 4) (v := ?vo_1) (w1 := w2.setRow gr (bkV s V)) ?hg ?ho ?hn ?hr ?_; (case ho => rfl); (case hg => rfl); (case hn => rfl); (case hr => exact (Row.store_row_run (g := gr) (cells := bkV s V) (t := 27) (old := #[.int .i64 0, .slice none 0 0, .slice none 0 0, .slice none 0 0, .slice none 0 0, .slice none 0 0, .slice none 0 0, .slice none 0 0, .slice none 0 0]) rfl (by rfl) (by rfl) (S.out.blk 0 rfl) (by kernel_rfl) rfl (HONE.out))); intro w3 hw_; have Sn_ := Aside0.mk ((S.out.setRow (cs' := bkV s V) (rs' := [Bx gr (bkV s V) 27, Bx gb (bkV s V) 27, Rb V L]) 0 rfl rfl).of hw_); clear S hw_; have S := Sn_; clear Sn_))
    refine bodyPost_ret (results_ctt rfl _ _ gr 27 (bkV s V) (0, 0) _ rfl (S.out.blk 0 rfl) Try.underlying27 rfl (by kernel_rfl)) rfl ?_
    exact ⟨V, L, _, _, rfl, HW.out, S.out.out 2 rfl⟩
  have b0 : decide (x < 0) = false := decide_eq_false hx
  by_cases hxs : s ≤ x
  · have b1 : decide (s ≤ x) = true := decide_eq_true hxs
    go_wp2_with (first | ((with_reducible refine gate_dst (N := 24) rfl ?_); refine Kd.event_run rfl (Row.load_row_run (g := gb) (t := 27) (cells := bkV s V) rfl rfl (S.out.blk 1 rfl) Try.underlying27 rfl (by kernel_rfl)) ?_) | ((with_reducible refine gate_store (t := 27) (p := 4) rfl ?_); refine store_event (t := 27) (p := 4) (v := ?vo_2) (w1 := w2.setRow gr (bkV s V)) ?hg ?ho ?hn ?hr ?_; (case ho => rfl); (case hg => rfl); (case hn => rfl); (case hr => exact (Row.store_row_run (g := gr) (cells := bkV s V) (t := 27) (old := #[.int .i64 0, .slice none 0 0, .slice none 0 0, .slice none 0 0, .slice none 0 0, .slice none 0 0, .slice none 0 0, .slice none 0 0, .slice none 0 0]) rfl (by rfl) (by rfl) (S.out.blk 0 rfl) (by kernel_rfl) rfl (HONE.out))); intro w4 hw_; have Sn_ := Aside0.mk ((S.out.setRow (cs' := bkV s V) (rs' := [Bx gr (bkV s V) 27, Bx gb (bkV s V) 27, Rb V L]) 0 rfl rfl).of hw_); clear S hw_; have S := Sn_; clear Sn_))
    refine bodyPost_ret (results_ctt rfl _ _ gr 27 (bkV s V) (0, 0) _ rfl (S.out.blk 0 rfl) Try.underlying27 rfl (by kernel_rfl)) rfl ?_
    exact ⟨V, L, _, _, rfl, HW.out, S.out.out 2 rfl⟩
  have b1 : decide (s ≤ x) = false := decide_eq_false hxs
  obtain ⟨u, rfl⟩ := Int.eq_ofNat_of_zero_le (show 0 ≤ x by omega)
  have hu : u < (L 6).length := by omega
  have hus : (u : Int) < s := by omega
  have hui : (u : Int) < ((L 6).length : Int) := by omega
  have HU := Aside0.mk hus
  clear hx hxs hx0 hx1
  obtain ⟨hcu, hzu⟩ := S.out.rowCell 2 rfl (i := 6) (by omega) hv6 u hu
  obtain ⟨v, hv⟩ : ∃ v, (L 6).getD u 0 = v := ⟨_, rfl⟩
  have HVv := Aside0.mk hv
  rw [hv] at hcu
  clear hv
  by_cases hv0 : v = 0
  · have b2 : (v == 0) = true := beq_iff_eq.mpr hv0
    clear hv0
    go_wp2_with (first | ((with_reducible refine gate_dst (N := 24) rfl ?_); refine Kd.event_run rfl (Row.load_row_run (g := gb) (t := 27) (cells := bkV s V) rfl rfl (S.out.blk 1 rfl) Try.underlying27 rfl (by kernel_rfl)) ?_) | ((with_reducible refine gate_store (t := 27) (p := 4) rfl ?_); refine store_event (t := 27) (p := 4) (v := ?vo_3) (w1 := w2.setRow gr (bkV s V)) ?hg ?ho ?hn ?hr ?_; (case ho => rfl); (case hg => rfl); (case hn => rfl); (case hr => exact (Row.store_row_run (g := gr) (cells := bkV s V) (t := 27) (old := #[.int .i64 0, .slice none 0 0, .slice none 0 0, .slice none 0 0, .slice none 0 0, .slice none 0 0, .slice none 0 0, .slice none 0 0, .slice none 0 0]) rfl (by rfl) (by rfl) (S.out.blk 0 rfl) (by kernel_rfl) rfl (HONE.out))); intro w5 hw_; have Sn_ := Aside0.mk ((S.out.setRow (cs' := bkV s V) (rs' := [Bx gr (bkV s V) 27, Bx gb (bkV s V) 27, Rb V L]) 0 rfl rfl).of hw_); clear S hw_; have S := Sn_; clear Sn_))
    refine bodyPost_ret (results_ctt rfl _ _ gr 27 (bkV s V) (0, 0) _ rfl (S.out.blk 0 rfl) Try.underlying27 rfl (by kernel_rfl)) rfl ?_
    exact ⟨V, L, _, _, rfl, HW.out, S.out.out 2 rfl⟩
  have b2 : (v == 0) = false := beq_eq_false_iff_ne.mpr hv0
  by_cases hv1 : v = 1
  · have b3 : (v == 1) = true := beq_iff_eq.mpr hv1
    clear hv0 hv1
    go_wp2_with (first | ((with_reducible refine gate_dst (N := 31) rfl ?_); refine Kd.event_run rfl (Row.load_row_run (g := gb) (t := 27) (cells := bkV s V) rfl rfl (S.out.blk 1 rfl) Try.underlying27 rfl (by kernel_rfl)) ?_) | ((with_reducible refine gate_store (t := 27) (p := 4) rfl ?_); refine store_event (t := 27) (p := 4) (v := ?vo_4) (w1 := w2.setRow gr (bkV s V)) ?hg ?ho ?hn ?hr ?_; (case ho => rfl); (case hg => rfl); (case hn => rfl); (case hr => exact (Row.store_row_run (g := gr) (cells := bkV s V) (t := 27) (old := #[.int .i64 0, .slice none 0 0, .slice none 0 0, .slice none 0 0, .slice none 0 0, .slice none 0 0, .slice none 0 0, .slice none 0 0, .slice none 0 0]) rfl (by rfl) (by rfl) (S.out.blk 0 rfl) (by kernel_rfl) rfl (HONE.out))); intro w6 hw_; have Sn_ := Aside0.mk ((S.out.setRow (cs' := bkV s V) (rs' := [Bx gr (bkV s V) 27, Bx gb (bkV s V) 27, Rb V L]) 0 rfl rfl).of hw_); clear S hw_; have S := Sn_; clear Sn_))
    refine bodyPost_ret (results_ctt rfl _ _ gr 27 (bkV s V) (0, 0) _ rfl (S.out.blk 0 rfl) Try.underlying27 rfl (by kernel_rfl)) rfl ?_
    exact ⟨V, L, _, _, rfl, HW.out, S.out.out 2 rfl⟩
  have b3 : (v == 1) = false := beq_eq_false_iff_ne.mpr hv1
  clear hv0 hv1
  have HF := Aside0.mk (fun w_ h_ => l3FirstV s V L (u : Int) (by omega) (by omega) hl48 w_ h_)
  go_wp2_with (first | ((with_reducible refine gate_dst (N := 32) rfl ?_); refine Kd.event_run rfl (Row.load_row_run (g := gb) (t := 27) (cells := bkV s V) rfl rfl (S.out.blk 1 rfl) Try.underlying27 rfl (by kernel_rfl)) ?_))
  clear f_gb_0 f_gb_7 hcu hzu b0 b1 b2 b3
  refine (HF.out _ (S.out.get 2 rfl)).mono ?_
  rintro e w9 ⟨r, rfl, hr, hb⟩
  have Sn_ := Aside0.mk (S.out.call hb)
  clear S hb HF
  have S := Sn_
  clear Sn_
  rcases hr with ⟨rfl, hno⟩ | ⟨a, rfl, ha, hOa⟩
  · skip
    have HNO := Aside0.mk hno
    clear hno
    obtain ⟨hcp, hzp⟩ := S.out.rowCell 2 rfl (i := 6) (by omega) hv6 u hu
    have f_gb_7 : w9.cell? ⟨gb, 7, none⟩ = some (.slice (some ⟨g6, o6, none⟩) (L 6).length cap6) := (S.out.cell 1 rfl 7).trans (by rw [← hv6]; rfl)
    go_wp2_with (first | ((with_reducible refine gate_store (t := 3) (p := 40) rfl ?_); refine store_event (t := 3) (p := 40) (v := ?vo_5) (w1 := w9.setCell ⟨g6, o6 + u, none⟩ (.int .i64 (0))) ?hg ?ho ?hn ?hr ?_; (case ho => rfl); (case hg => rfl); (case hn => rfl); (case hr => first | (go_simp; done) | (go_simp; rfl)); intro w7 hw_; have Sn_ := Aside0.mk ((S.out.rowSet' (rs' := [Bx gr (#[.int .i64 0, .slice none 0 0, .slice none 0 0, .slice none 0 0, .slice none 0 0, .slice none 0 0, .slice none 0 0, .slice none 0 0, .slice none 0 0]) 27, Bx gb (bkV s V) 27, Rb V (upd L 6 ((L 6).set u 0))]) 2 rfl (i := 6) (by omega) hv6 (u) hu (0) rfl).of hw_); clear S hw_ hcp hzp f_gb_7; have S := Sn_; clear Sn_) | ((with_reducible refine gate_dst (N := 41) rfl ?_); refine Kd.event_run rfl (Row.load_row_run (g := gb) (t := 27) (cells := bkV s V) rfl rfl (S.out.blk 1 rfl) Try.underlying27 rfl (by kernel_rfl)) ?_) | ((with_reducible refine gate_store (t := 27) (p := 4) rfl ?_); refine store_event (t := 27) (p := 4) (v := ?vo_6) (w1 := w7.setRow gr (bkV s V)) ?hg ?ho ?hn ?hr ?_; (case ho => rfl); (case hg => rfl); (case hn => rfl); (case hr => exact (Row.store_row_run (g := gr) (cells := bkV s V) (t := 27) (old := #[.int .i64 0, .slice none 0 0, .slice none 0 0, .slice none 0 0, .slice none 0 0, .slice none 0 0, .slice none 0 0, .slice none 0 0, .slice none 0 0]) rfl (by rfl) (by rfl) (S.out.blk 0 rfl) (by kernel_rfl) rfl (HONE.out))); intro w8 hw_; have Sn_ := Aside0.mk ((S.out.setRow (cs' := bkV s V) (rs' := [Bx gr (bkV s V) 27, Bx gb (bkV s V) 27, Rb V (upd L 6 ((L 6).set u 0))]) 0 rfl rfl).of hw_); clear S hw_; have S := Sn_; clear Sn_))
    refine bodyPost_ret (results_ctt rfl _ _ gr 27 (bkV s V) (0, 0) _ rfl (S.out.blk 0 rfl) Try.underlying27 rfl (by kernel_rfl)) rfl ?_
    exact ⟨V, (upd L 6 ((L 6).set u 0)), _, _, rfl, (HW.out.slotSet HU.out (by omega) (by omega) (fun _ => rfl) (fun _ => HNO.out)), S.out.out 2 rfl⟩
  · skip
    have HBA := Aside0.mk (fun w_ h_ => HBK.out a ha (by omega) w_ h_)
    clear ha hOa
    go_wp2_with (first | ((with_reducible refine gate_dst (N := 42) rfl ?_); refine Kd.event_run rfl (Row.load_row_run (g := gb) (t := 27) (cells := bkV s V) rfl rfl (S.out.blk 1 rfl) Try.underlying27 rfl (by kernel_rfl)) ?_))
    refine (HBA.out _ (S.out.get 2 rfl)).mono ?_
    rintro e w10 ⟨V1, L1, rfl, hWd, hO⟩
    have Sn_ := Aside0.mk (S.out.back (rs' := [Bx gr (#[.int .i64 0, .slice none 0 0, .slice none 0 0, .slice none 0 0, .slice none 0 0, .slice none 0 0, .slice none 0 0, .slice none 0 0, .slice none 0 0]) 27, Bx gb (bkV s V) 27, Rb V1 (L1)]) 2 rfl hO rfl)
    clear S HBA
    have S := Sn_
    clear Sn_
    have HONE1 := Aside0.mk (hO.1.one s)
    have HWD := Aside0.mk hWd
    clear hO hWd
    go_wp2_with (first | ((with_reducible refine gate_store (t := 27) (p := 4) rfl ?_); refine store_event (t := 27) (p := 4) (v := ?vo_7) (w1 := w10.setRow gr (bkV s V1)) ?hg ?ho ?hn ?hr ?_; (case ho => rfl); (case hg => rfl); (case hn => rfl); (case hr => exact (Row.store_row_run (g := gr) (cells := bkV s V1) (t := 27) (old := #[.int .i64 0, .slice none 0 0, .slice none 0 0, .slice none 0 0, .slice none 0 0, .slice none 0 0, .slice none 0 0, .slice none 0 0, .slice none 0 0]) rfl (by rfl) (by rfl) (S.out.blk 0 rfl) (by kernel_rfl) rfl (HONE1.out))); intro w9 hw_; have Sn_ := Aside0.mk ((S.out.setRow (cs' := bkV s V1) (rs' := [Bx gr (bkV s V1) 27, Bx gb (bkV s V) 27, Rb V1 (L1)]) 0 rfl rfl).of hw_); clear S hw_; have S := Sn_; clear Sn_))
    refine bodyPost_ret (results_ctt rfl _ _ gr 27 (bkV s V1) (0, 0) _ rfl (S.out.blk 0 rfl) Try.underlying27 rfl (by kernel_rfl)) rfl ?_
    exact ⟨V1, L1, _, _, rfl, HWD.out, S.out.out 2 rfl⟩
end Go.Proofs.Ytekneicikmaplaa.Bk
namespace Go.Proofs.Ytekneicikmaplaa.Bk
open Go.RowKit Go.Proofs.YtekneicikmaplaaW.PrintWords Go.Proofs.YtekneicikmaplaaW.PrintLast Go.Proofs.YtekneicikmaplaaW.PrintMore
def L8 (L : Nat → List Int) : Nat → List Int := fun i => if i < 8 then L i else []
theorem L8_lt {L : Nat → List Int} {i : Nat} (h : i < 8) : L8 L i = L i := if_pos h
theorem Wd.len8 {s : Int} {L : Nat → List Int} (h : Wd s L) (i : Nat) : (L8 L i).length ≤ 48 := by
  have hb := Bv.W.book (L := L) h
  obtain ⟨h1, _, h3, h4, h6, h7, h8, h9⟩ := h.rows
  by_cases e : i < 8
  · rw [L8_lt e]
    rcases (show i = 0 ∨ i = 1 ∨ i = 2 ∨ i = 3 ∨ i = 4 ∨ i = 5 ∨ i = 6 ∨ i = 7 by omega) with rfl | rfl | rfl | rfl | rfl | rfl | rfl | rfl
    · omega
    · exact Nat.le_trans (hb.2.1 0 (by omega)).1 h4
    · exact Nat.le_trans (hb.2.1 1 (by omega)).1 h4
    · exact Nat.le_trans (hb.2.1 2 (by omega)).1 h4
    · exact Nat.le_trans (hb.2.1 3 (by omega)).1 h4
    · omega
    · omega
    · omega
  · unfold L8; rw [if_neg e]; simp
theorem l3WhoseV (s : Int) (V : Nat → Value) (L : Nat → List Int) (hW : Wd s L) (sl x : Int) (hs0 : -1 ≤ sl) (hs1 : sl ≤ 100) (w : World) (h : BoV V L w) :
    Calls Try.prog 97 #[.agg (bkV s V), .int .i64 sl, .int .i64 x] w fun e w' => ∃ r : Int, e = .returned (.int .i64 r) ∧ (0 < r ∨ (r = 0 ∧ ∃ u : Nat, x = (u : Int) ∧ u < (L 5).length ∧ (L 5).getD u 0 = sl + 1)) ∧ Below w.heap.size w w' := by
  have e : bkV s V = bkCells s (fun i => aOf (V i)) (fun i => cOf (V i)) (L8 L) := by rw [h.cells s]; rfl
  have hc : BkC w (fun i => aOf (V i)) (fun i => cOf (V i)) (L8 L) := fun i hi => by rw [L8_lt hi]; exact h.bkC i hi
  have := l3Whose_calls s _ _ (L8 L) sl x hs0 hs1 w hc (fun i => by have := hW.len8 i; omega) (by rw [L8_lt (by omega), L8_lt (by omega)]; exact hW.rows.2.2.1) (fun p hp => by
    rw [L8_lt (by omega)] at hp ⊢
    exact pages_bd (Bv.W.book (L := L) hW) p hp)
  rw [e]
  rw [L8_lt (show 5 < 8 by omega)] at this
  exact this
theorem Wd.handSet {s : Int} {L : Nat → List Int} (h : Wd s L) {a : Nat} (hO : (L 5).getD a 0 > 0) (u : Nat) (hu : (u : Int) < s) (hI : (L 6).getD u 0 ≠ 0) : Wd s (upd L 5 ((L 5).set a ((u : Int) + 1))) := by
  have h1 := Bv.W.hand h hO u hu hI
  unfold Wd
  rw [upd_ne _ 5 0 _ (by omega), upd_at, upd_ne _ 5 6 _ (by omega), upd_ne _ 5 7 _ (by omega)]
  exact Wcong h1 (fun k hk => by rw [upd_ne _ _ _ _ (by omega)])
set_option maxHeartbeats 8000000 in
set_option maxRecDepth 100000 in
theorem l3Own_calls (hB : BackC) (s : Int) (V : Nat → Value) (L : Nat → List Int) (hW : Wd s L) (kd : Int) (sl : Nat) (hs : (sl : Int) < s) (hI : (L 6).getD sl 0 ≠ 0) (A B : Int) (hA0 : -1000 ≤ A) (hA1 : A ≤ 1000) (hB0 : -1000 ≤ B) (hB1 : B ≤ 1000) (w : World) (h : BoV V L w) :
    Calls Try.prog 95 #[.agg (bkV s V), .agg #[.int .i64 kd, .int .i64 (sl : Int), .int .i64 A, .int .i64 B]] w (Ret3 s V w) := by
  obtain ⟨hl6, hl1, hl5, hl48, hlI, hlE, hs1, hs4⟩ := hW.rows
  have HW := Aside0.mk hW
  have HBK := Aside0.mk (hB s V L hW)
  have HBB := Aside0.mk hB
  have S := Aside0.mk (Sx.one (r := Rb V L) h (Rb.stable V L) (fun k hk => h.lt hk))
  have HV := Aside0.mk h
  have HONE := Aside0.mk (h.one s)
  have HII := Aside0.mk hI
  have HSS := Aside0.mk hs
  have hsl : sl < (L 6).length := by omega
  obtain ⟨g6, o6, cap6, hv6, _, _⟩ := (h.1 6 (by omega)).at 0 (by omega)
  obtain ⟨g5, o5, cap5, hv5, _, _⟩ := (h.1 5 (by omega)).at 0 (by omega)
  clear hW h hB hI
  go_enter Try.func95, Try.ntmps95
  go_upto_region 1 with (first | ((with_reducible refine gate_dst (N := 2) rfl ?_); refine box_event rfl (N := 2) rfl (cs := bkV s V) (t := 27) (by first | (go_simp; done) | (go_simp; rfl)) ?_; intro gb hg_ w1 hbox_ hb_; have Sn_ := Aside0.mk (S.out.box hg_ hbox_ hb_); clear hbox_ hb_ hg_ S; have S := Sn_; clear Sn_) | ((with_reducible refine gate_dst (N := 3) rfl ?_); refine box_event rfl (N := 3) rfl (cs := #[.int .i64 kd, .int .i64 (sl : Int), .int .i64 A, .int .i64 B]) (t := 80) (by first | (go_simp; done) | (go_simp; rfl)) ?_; intro go hg_ w2 hbox_ hb_; have Sn_ := Aside0.mk (S.out.box hg_ hbox_ hb_); clear hbox_ hb_ hg_ S; have S := Sn_; clear Sn_) | ((with_reducible refine gate_dst (N := 4) rfl ?_); refine box_event rfl (N := 4) rfl (cs := #[.int .i64 0, .slice none 0 0, .slice none 0 0, .slice none 0 0, .slice none 0 0, .slice none 0 0, .slice none 0 0, .slice none 0 0, .slice none 0 0]) (t := 27) (by first | (go_simp; done) | (go_simp; rfl)) ?_; intro gr hg_ w3 hbox_ hb_; have Sn_ := Aside0.mk (S.out.box hg_ hbox_ hb_); clear hbox_ hb_ hg_ S; have S := Sn_; clear Sn_))
  by_cases h2 : kd = 2
  · skip
    have k2 : (kd == 2) = true := beq_iff_eq.mpr h2
    clear h2
    have HT := Aside0.mk (fun w_ h_ => l3Take_calls s V L HW.out sl hs HII.out A hA0 hA1 w_ h_)
    have f_go_0 : w3.cell? ⟨go, 0, none⟩ = some (.int .i64 kd) := (S.out.cell 1 rfl 0).trans rfl
    have f_go_1 : w3.cell? ⟨go, 1, none⟩ = some (.int .i64 (sl : Int)) := (S.out.cell 1 rfl 1).trans rfl
    have f_go_2 : w3.cell? ⟨go, 2, none⟩ = some (.int .i64 A) := (S.out.cell 1 rfl 2).trans rfl
    have f_go_3 : w3.cell? ⟨go, 3, none⟩ = some (.int .i64 B) := (S.out.cell 1 rfl 3).trans rfl
    go_wp2_with (first | ((with_reducible refine gate_dst (N := 13) rfl ?_); refine Kd.event_run rfl (Row.load_row_run (g := gb) (t := 27) (cells := bkV s V) rfl rfl (S.out.blk 2 rfl) Try.underlying27 rfl (by kernel_rfl)) ?_))
    clear f_go_0 f_go_1 f_go_2 f_go_3
    refine (HT.out _ (S.out.get 3 rfl)).mono ?_
    rintro e w9 ⟨V1, L1, r1, r2, rfl, hWd, hO⟩
    have Sn_ := Aside0.mk (S.out.back (rs' := [Bx gr (#[.int .i64 0, .slice none 0 0, .slice none 0 0, .slice none 0 0, .slice none 0 0, .slice none 0 0, .slice none 0 0, .slice none 0 0, .slice none 0 0]) 27, Bx go (#[.int .i64 kd, .int .i64 (sl : Int), .int .i64 A, .int .i64 B]) 80, Bx gb (bkV s V) 27, Rb V1 (L1)]) 3 rfl hO rfl)
    clear S HT
    have S := Sn_
    clear Sn_
    have HONE1 := Aside0.mk (hO.1.one s)
    have HWD := Aside0.mk hWd
    clear hO hWd
    go_wp2_with (first | ((with_reducible refine gate_store (t := 27) (p := 4) rfl ?_); refine store_event (t := 27) (p := 4) (v := ?vo_1) (w1 := w9.setRow gr (bkV s V1)) ?hg ?ho ?hn ?hr ?_; (case ho => rfl); (case hg => rfl); (case hn => rfl); (case hr => exact (Row.store_row_run (g := gr) (cells := bkV s V1) (t := 27) (old := #[.int .i64 0, .slice none 0 0, .slice none 0 0, .slice none 0 0, .slice none 0 0, .slice none 0 0, .slice none 0 0, .slice none 0 0, .slice none 0 0]) rfl (by rfl) (by rfl) (S.out.blk 0 rfl) (by kernel_rfl) rfl (HONE1.out))); intro w4 hw_; have Sn_ := Aside0.mk ((S.out.setRow (cs' := bkV s V1) (rs' := [Bx gr (bkV s V1) 27, Bx go (#[.int .i64 kd, .int .i64 (sl : Int), .int .i64 A, .int .i64 B]) 80, Bx gb (bkV s V) 27, Rb V1 (L1)]) 0 rfl rfl).of hw_); clear S hw_; have S := Sn_; clear Sn_))
    refine bodyPost_ret (results_ctt rfl _ _ gr 27 (bkV s V1) (0, 0) _ rfl (S.out.blk 0 rfl) Try.underlying27 rfl (by kernel_rfl)) rfl ?_
    exact ⟨V1, L1, _, _, rfl, HWD.out, S.out.out 3 rfl⟩
  have k2 : (kd == 2) = false := beq_eq_false_iff_ne.mpr h2
  clear h2
  by_cases h3 : kd = 3
  · skip
    have k3 : (kd == 3) = true := beq_iff_eq.mpr h3
    clear h3
    have HWH := Aside0.mk (fun w_ h_ => l3WhoseV s V L HW.out (sl : Int) A (by omega) (by omega) w_ h_)
    have f_go_0 : w3.cell? ⟨go, 0, none⟩ = some (.int .i64 kd) := (S.out.cell 1 rfl 0).trans rfl
    have f_go_1 : w3.cell? ⟨go, 1, none⟩ = some (.int .i64 (sl : Int)) := (S.out.cell 1 rfl 1).trans rfl
    have f_go_2 : w3.cell? ⟨go, 2, none⟩ = some (.int .i64 A) := (S.out.cell 1 rfl 2).trans rfl
    have f_go_3 : w3.cell? ⟨go, 3, none⟩ = some (.int .i64 B) := (S.out.cell 1 rfl 3).trans rfl
    go_wp2_with (first | ((with_reducible refine gate_dst (N := 24) rfl ?_); refine Kd.event_run rfl (Row.load_row_run (g := gb) (t := 27) (cells := bkV s V) rfl rfl (S.out.blk 2 rfl) Try.underlying27 rfl (by kernel_rfl)) ?_))
    clear f_go_0 f_go_1 f_go_2 f_go_3
    refine (HWH.out _ (S.out.get 3 rfl)).mono ?_
    rintro e w7 ⟨r, rfl, hr, hb⟩
    have Sn_ := Aside0.mk (S.out.call hb)
    clear S hb HWH
    have S := Sn_
    clear Sn_
    rcases hr with hr | ⟨rfl, u, rfl, hu, hOu⟩
    · have b0 : decide (0 < r) = true := decide_eq_true hr
      go_wp2_with (first | ((with_reducible refine gate_dst (N := 32) rfl ?_); refine Kd.event_run rfl (Row.load_row_run (g := gb) (t := 27) (cells := bkV s V) rfl rfl (S.out.blk 2 rfl) Try.underlying27 rfl (by kernel_rfl)) ?_) | ((with_reducible refine gate_store (t := 27) (p := 4) rfl ?_); refine store_event (t := 27) (p := 4) (v := ?vo_2) (w1 := w7.setRow gr (bkV s V)) ?hg ?ho ?hn ?hr ?_; (case ho => rfl); (case hg => rfl); (case hn => rfl); (case hr => exact (Row.store_row_run (g := gr) (cells := bkV s V) (t := 27) (old := #[.int .i64 0, .slice none 0 0, .slice none 0 0, .slice none 0 0, .slice none 0 0, .slice none 0 0, .slice none 0 0, .slice none 0 0, .slice none 0 0]) rfl (by rfl) (by rfl) (S.out.blk 0 rfl) (by kernel_rfl) rfl (HONE.out))); intro w5 hw_; have Sn_ := Aside0.mk ((S.out.setRow (cs' := bkV s V) (rs' := [Bx gr (bkV s V) 27, Bx go (#[.int .i64 kd, .int .i64 (sl : Int), .int .i64 A, .int .i64 B]) 80, Bx gb (bkV s V) 27, Rb V L]) 0 rfl rfl).of hw_); clear S hw_; have S := Sn_; clear Sn_))
      refine bodyPost_ret (results_ctt rfl _ _ gr 27 (bkV s V) (0, 0) _ rfl (S.out.blk 0 rfl) Try.underlying27 rfl (by kernel_rfl)) rfl ?_
      exact ⟨V, L, _, _, rfl, HW.out, S.out.out 3 rfl⟩
    · skip
      have HBA := Aside0.mk (fun w_ h_ => HBK.out u hu (by omega) w_ h_)
      clear hOu
      have f_go_2 : w7.cell? ⟨go, 2, none⟩ = some (.int .i64 (u : Int)) := (S.out.cell 1 rfl 2).trans rfl
      have hb0 := Aside0.mk hu
      clear hA0 hA1
      go_wp2_with (first | ((with_reducible refine gate_dst (N := 34) rfl ?_); refine Kd.event_run rfl (Row.load_row_run (g := gb) (t := 27) (cells := bkV s V) rfl rfl (S.out.blk 2 rfl) Try.underlying27 rfl (by kernel_rfl)) ?_))
      clear f_go_2
      refine (HBA.out _ (S.out.get 3 rfl)).mono ?_
      rintro e w10 ⟨V1, L1, rfl, hWd, hO⟩
      have Sn_ := Aside0.mk (S.out.back (rs' := [Bx gr (#[.int .i64 0, .slice none 0 0, .slice none 0 0, .slice none 0 0, .slice none 0 0, .slice none 0 0, .slice none 0 0, .slice none 0 0, .slice none 0 0]) 27, Bx go (#[.int .i64 kd, .int .i64 (sl : Int), .int .i64 (u : Int), .int .i64 B]) 80, Bx gb (bkV s V) 27, Rb V1 (L1)]) 3 rfl hO rfl)
      clear S HBA
      have S := Sn_
      clear Sn_
      have HONE1 := Aside0.mk (hO.1.one s)
      have HWD := Aside0.mk hWd
      clear hO hWd
      go_wp2_with (first | ((with_reducible refine gate_store (t := 27) (p := 4) rfl ?_); refine store_event (t := 27) (p := 4) (v := ?vo_3) (w1 := w10.setRow gr (bkV s V1)) ?hg ?ho ?hn ?hr ?_; (case ho => rfl); (case hg => rfl); (case hn => rfl); (case hr => exact (Row.store_row_run (g := gr) (cells := bkV s V1) (t := 27) (old := #[.int .i64 0, .slice none 0 0, .slice none 0 0, .slice none 0 0, .slice none 0 0, .slice none 0 0, .slice none 0 0, .slice none 0 0, .slice none 0 0]) rfl (by rfl) (by rfl) (S.out.blk 0 rfl) (by kernel_rfl) rfl (HONE1.out))); intro w6 hw_; have Sn_ := Aside0.mk ((S.out.setRow (cs' := bkV s V1) (rs' := [Bx gr (bkV s V1) 27, Bx go (#[.int .i64 kd, .int .i64 (sl : Int), .int .i64 (u : Int), .int .i64 B]) 80, Bx gb (bkV s V) 27, Rb V1 (L1)]) 0 rfl rfl).of hw_); clear S hw_; have S := Sn_; clear Sn_))
      refine bodyPost_ret (results_ctt rfl _ _ gr 27 (bkV s V1) (0, 0) _ rfl (S.out.blk 0 rfl) Try.underlying27 rfl (by kernel_rfl)) rfl ?_
      exact ⟨V1, L1, _, _, rfl, HWD.out, S.out.out 3 rfl⟩
  have k3 : (kd == 3) = false := beq_eq_false_iff_ne.mpr h3
  clear h3
  by_cases h4 : kd = 4
  · skip
    have k4 : (kd == 4) = true := beq_iff_eq.mpr h4
    clear h4
    have HWH := Aside0.mk (fun w_ h_ => l3WhoseV s V L HW.out (sl : Int) A (by omega) (by omega) w_ h_)
    have f_go_0 : w3.cell? ⟨go, 0, none⟩ = some (.int .i64 kd) := (S.out.cell 1 rfl 0).trans rfl
    have f_go_1 : w3.cell? ⟨go, 1, none⟩ = some (.int .i64 (sl : Int)) := (S.out.cell 1 rfl 1).trans rfl
    have f_go_2 : w3.cell? ⟨go, 2, none⟩ = some (.int .i64 A) := (S.out.cell 1 rfl 2).trans rfl
    have f_go_3 : w3.cell? ⟨go, 3, none⟩ = some (.int .i64 B) := (S.out.cell 1 rfl 3).trans rfl
    go_wp2_with (first | ((with_reducible refine gate_dst (N := 40) rfl ?_); refine Kd.event_run rfl (Row.load_row_run (g := gb) (t := 27) (cells := bkV s V) rfl rfl (S.out.blk 2 rfl) Try.underlying27 rfl (by kernel_rfl)) ?_))
    clear f_go_0 f_go_1 f_go_2 f_go_3
    refine (HWH.out _ (S.out.get 3 rfl)).mono ?_
    rintro e w7 ⟨r, rfl, hr, hb⟩
    have Sn_ := Aside0.mk (S.out.call hb)
    clear S hb HWH
    have S := Sn_
    clear Sn_
    rcases hr with hr | ⟨rfl, u, rfl, hu, hOu⟩
    · have b0 : decide (0 < r) = true := decide_eq_true hr
      go_wp2_with (first | ((with_reducible refine gate_dst (N := 48) rfl ?_); refine Kd.event_run rfl (Row.load_row_run (g := gb) (t := 27) (cells := bkV s V) rfl rfl (S.out.blk 2 rfl) Try.underlying27 rfl (by kernel_rfl)) ?_) | ((with_reducible refine gate_store (t := 27) (p := 4) rfl ?_); refine store_event (t := 27) (p := 4) (v := ?vo_4) (w1 := w7.setRow gr (bkV s V)) ?hg ?ho ?hn ?hr ?_; (case ho => rfl); (case hg => rfl); (case hn => rfl); (case hr => exact (Row.store_row_run (g := gr) (cells := bkV s V) (t := 27) (old := #[.int .i64 0, .slice none 0 0, .slice none 0 0, .slice none 0 0, .slice none 0 0, .slice none 0 0, .slice none 0 0, .slice none 0 0, .slice none 0 0]) rfl (by rfl) (by rfl) (S.out.blk 0 rfl) (by kernel_rfl) rfl (HONE.out))); intro w7 hw_; have Sn_ := Aside0.mk ((S.out.setRow (cs' := bkV s V) (rs' := [Bx gr (bkV s V) 27, Bx go (#[.int .i64 kd, .int .i64 (sl : Int), .int .i64 A, .int .i64 B]) 80, Bx gb (bkV s V) 27, Rb V L]) 0 rfl rfl).of hw_); clear S hw_; have S := Sn_; clear Sn_))
      refine bodyPost_ret (results_ctt rfl _ _ gr 27 (bkV s V) (0, 0) _ rfl (S.out.blk 0 rfl) Try.underlying27 rfl (by kernel_rfl)) rfl ?_
      exact ⟨V, L, _, _, rfl, HW.out, S.out.out 3 rfl⟩
    · skip
      have HOU := Aside0.mk (show (L 5).getD u 0 > 0 by omega)
      clear hOu hA0 hA1
      have hui : (u : Int) < ((L 5).length : Int) := by omega
      have f_go_2 : w7.cell? ⟨go, 2, none⟩ = some (.int .i64 (u : Int)) := (S.out.cell 1 rfl 2).trans rfl
      have f_go_3 : w7.cell? ⟨go, 3, none⟩ = some (.int .i64 B) := (S.out.cell 1 rfl 3).trans rfl
      have f_gb_0 : w7.cell? ⟨gb, 0, none⟩ = some (.int .i64 s) := (S.out.cell 2 rfl 0).trans rfl
      have f_gb_7 : w7.cell? ⟨gb, 7, none⟩ = some (.slice (some ⟨g6, o6, none⟩) (L 6).length cap6) := (S.out.cell 2 rfl 7).trans (by rw [← hv6]; rfl)
      have f_gb_6 : w7.cell? ⟨gb, 6, none⟩ = some (.slice (some ⟨g5, o5, none⟩) (L 5).length cap5) := (S.out.cell 2 rfl 6).trans (by rw [← hv5]; rfl)
      by_cases hx : B < 0
      · have b1 : decide (B < 0) = true := decide_eq_true hx
        go_wp2_with (first | ((with_reducible refine gate_dst (N := 69) rfl ?_); refine Kd.event_run rfl (Row.load_row_run (g := gb) (t := 27) (cells := bkV s V) rfl rfl (S.out.blk 2 rfl) Try.underlying27 rfl (by kernel_rfl)) ?_) | ((with_reducible refine gate_store (t := 27) (p := 4) rfl ?_); refine store_event (t := 27) (p := 4) (v := ?vo_5) (w1 := w7.setRow gr (bkV s V)) ?hg ?ho ?hn ?hr ?_; (case ho => rfl); (case hg => rfl); (case hn => rfl); (case hr => exact (Row.store_row_run (g := gr) (cells := bkV s V) (t := 27) (old := #[.int .i64 0, .slice none 0 0, .slice none 0 0, .slice none 0 0, .slice none 0 0, .slice none 0 0, .slice none 0 0, .slice none 0 0, .slice none 0 0]) rfl (by rfl) (by rfl) (S.out.blk 0 rfl) (by kernel_rfl) rfl (HONE.out))); intro w8 hw_; have Sn_ := Aside0.mk ((S.out.setRow (cs' := bkV s V) (rs' := [Bx gr (bkV s V) 27, Bx go (#[.int .i64 kd, .int .i64 (sl : Int), .int .i64 (u : Int), .int .i64 B]) 80, Bx gb (bkV s V) 27, Rb V L]) 0 rfl rfl).of hw_); clear S hw_; have S := Sn_; clear Sn_))
        refine bodyPost_ret (results_ctt rfl _ _ gr 27 (bkV s V) (0, 0) _ rfl (S.out.blk 0 rfl) Try.underlying27 rfl (by kernel_rfl)) rfl ?_
        exact ⟨V, L, _, _, rfl, HW.out, S.out.out 3 rfl⟩
      have b1 : decide (B < 0) = false := decide_eq_false hx
      by_cases hxs : s ≤ B
      · have b2 : decide (s ≤ B) = true := decide_eq_true hxs
        go_wp2_with (first | ((with_reducible refine gate_dst (N := 69) rfl ?_); refine Kd.event_run rfl (Row.load_row_run (g := gb) (t := 27) (cells := bkV s V) rfl rfl (S.out.blk 2 rfl) Try.underlying27 rfl (by kernel_rfl)) ?_) | ((with_reducible refine gate_store (t := 27) (p := 4) rfl ?_); refine store_event (t := 27) (p := 4) (v := ?vo_6) (w1 := w7.setRow gr (bkV s V)) ?hg ?ho ?hn ?hr ?_; (case ho => rfl); (case hg => rfl); (case hn => rfl); (case hr => exact (Row.store_row_run (g := gr) (cells := bkV s V) (t := 27) (old := #[.int .i64 0, .slice none 0 0, .slice none 0 0, .slice none 0 0, .slice none 0 0, .slice none 0 0, .slice none 0 0, .slice none 0 0, .slice none 0 0]) rfl (by rfl) (by rfl) (S.out.blk 0 rfl) (by kernel_rfl) rfl (HONE.out))); intro w9 hw_; have Sn_ := Aside0.mk ((S.out.setRow (cs' := bkV s V) (rs' := [Bx gr (bkV s V) 27, Bx go (#[.int .i64 kd, .int .i64 (sl : Int), .int .i64 (u : Int), .int .i64 B]) 80, Bx gb (bkV s V) 27, Rb V L]) 0 rfl rfl).of hw_); clear S hw_; have S := Sn_; clear Sn_))
        refine bodyPost_ret (results_ctt rfl _ _ gr 27 (bkV s V) (0, 0) _ rfl (S.out.blk 0 rfl) Try.underlying27 rfl (by kernel_rfl)) rfl ?_
        exact ⟨V, L, _, _, rfl, HW.out, S.out.out 3 rfl⟩
      have b2 : decide (s ≤ B) = false := decide_eq_false hxs
      obtain ⟨t, rfl⟩ := Int.eq_ofNat_of_zero_le (show 0 ≤ B by omega)
      have ht : t < (L 6).length := by omega
      have hts : (t : Int) < s := by omega
      have hti : (t : Int) < ((L 6).length : Int) := by omega
      have ht4 : (t : Int) ≤ 4 := by omega
      have HTS := Aside0.mk hts
      clear hx hxs hB0 hB1
      obtain ⟨hcu, hzu⟩ := S.out.rowCell 3 rfl (i := 6) (by omega) hv6 t ht
      obtain ⟨v, hv⟩ : ∃ v, (L 6).getD t 0 = v := ⟨_, rfl⟩
      have HVv := Aside0.mk hv
      rw [hv] at hcu
      clear hv
      by_cases hv0 : v = 0
      · have b3 : (v == 0) = true := beq_iff_eq.mpr hv0
        clear hv0
        go_wp2_with (first | ((with_reducible refine gate_dst (N := 69) rfl ?_); refine Kd.event_run rfl (Row.load_row_run (g := gb) (t := 27) (cells := bkV s V) rfl rfl (S.out.blk 2 rfl) Try.underlying27 rfl (by kernel_rfl)) ?_) | ((with_reducible refine gate_store (t := 27) (p := 4) rfl ?_); refine store_event (t := 27) (p := 4) (v := ?vo_7) (w1 := w7.setRow gr (bkV s V)) ?hg ?ho ?hn ?hr ?_; (case ho => rfl); (case hg => rfl); (case hn => rfl); (case hr => exact (Row.store_row_run (g := gr) (cells := bkV s V) (t := 27) (old := #[.int .i64 0, .slice none 0 0, .slice none 0 0, .slice none 0 0, .slice none 0 0, .slice none 0 0, .slice none 0 0, .slice none 0 0, .slice none 0 0]) rfl (by rfl) (by rfl) (S.out.blk 0 rfl) (by kernel_rfl) rfl (HONE.out))); intro w10 hw_; have Sn_ := Aside0.mk ((S.out.setRow (cs' := bkV s V) (rs' := [Bx gr (bkV s V) 27, Bx go (#[.int .i64 kd, .int .i64 (sl : Int), .int .i64 (u : Int), .int .i64 (t : Int)]) 80, Bx gb (bkV s V) 27, Rb V L]) 0 rfl rfl).of hw_); clear S hw_; have S := Sn_; clear Sn_))
        refine bodyPost_ret (results_ctt rfl _ _ gr 27 (bkV s V) (0, 0) _ rfl (S.out.blk 0 rfl) Try.underlying27 rfl (by kernel_rfl)) rfl ?_
        exact ⟨V, L, _, _, rfl, HW.out, S.out.out 3 rfl⟩
      have b3 : (v == 0) = false := beq_eq_false_iff_ne.mpr hv0
      have HTI : Aside0 ((L 6).getD t 0 ≠ 0) := ⟨by rw [HVv.out]; exact hv0⟩
      clear hv0
      obtain ⟨hcp, hzp⟩ := S.out.rowCell 3 rfl (i := 5) (by omega) hv5 u hu
      go_wp2_with (first | ((with_reducible refine gate_store (t := 3) (p := 77) rfl ?_); refine store_event (t := 3) (p := 77) (v := ?vo_8) (w1 := w7.setCell ⟨g5, o5 + u, none⟩ (.int .i64 ((t : Int) + 1))) ?hg ?ho ?hn ?hr ?_; (case ho => rfl); (case hg => rfl); (case hn => rfl); (case hr => first | (go_simp; done) | (go_simp; rfl)); intro w11 hw_; have Sn_ := Aside0.mk ((S.out.rowSet' (rs' := [Bx gr (#[.int .i64 0, .slice none 0 0, .slice none 0 0, .slice none 0 0, .slice none 0 0, .slice none 0 0, .slice none 0 0, .slice none 0 0, .slice none 0 0]) 27, Bx go (#[.int .i64 kd, .int .i64 (sl : Int), .int .i64 (u : Int), .int .i64 (t : Int)]) 80, Bx gb (bkV s V) 27, Rb V (upd L 5 ((L 5).set u ((t : Int) + 1)))]) 3 rfl (i := 5) (by omega) hv5 (u) hu ((t : Int) + 1) rfl).of hw_); clear S hw_ hcp hzp f_gb_6 f_gb_7 f_gb_0 f_go_2 f_go_3 hcu hzu; have S := Sn_; clear Sn_) | ((with_reducible refine gate_dst (N := 78) rfl ?_); refine Kd.event_run rfl (Row.load_row_run (g := gb) (t := 27) (cells := bkV s V) rfl rfl (S.out.blk 2 rfl) Try.underlying27 rfl (by kernel_rfl)) ?_) | ((with_reducible refine gate_store (t := 27) (p := 4) rfl ?_); refine store_event (t := 27) (p := 4) (v := ?vo_9) (w1 := w11.setRow gr (bkV s V)) ?hg ?ho ?hn ?hr ?_; (case ho => rfl); (case hg => rfl); (case hn => rfl); (case hr => exact (Row.store_row_run (g := gr) (cells := bkV s V) (t := 27) (old := #[.int .i64 0, .slice none 0 0, .slice none 0 0, .slice none 0 0, .slice none 0 0, .slice none 0 0, .slice none 0 0, .slice none 0 0, .slice none 0 0]) rfl (by rfl) (by rfl) (S.out.blk 0 rfl) (by kernel_rfl) rfl (HONE.out))); intro w12 hw_; have Sn_ := Aside0.mk ((S.out.setRow (cs' := bkV s V) (rs' := [Bx gr (bkV s V) 27, Bx go (#[.int .i64 kd, .int .i64 (sl : Int), .int .i64 (u : Int), .int .i64 (t : Int)]) 80, Bx gb (bkV s V) 27, Rb V (upd L 5 ((L 5).set u ((t : Int) + 1)))]) 0 rfl rfl).of hw_); clear S hw_; have S := Sn_; clear Sn_))
      refine bodyPost_ret (results_ctt rfl _ _ gr 27 (bkV s V) (0, 0) _ rfl (S.out.blk 0 rfl) Try.underlying27 rfl (by kernel_rfl)) rfl ?_
      exact ⟨V, (upd L 5 ((L 5).set u ((t : Int) + 1))), _, _, rfl, (HW.out.handSet HOU.out t HTS.out HTI.out), S.out.out 3 rfl⟩
  have k4 : (kd == 4) = false := beq_eq_false_iff_ne.mpr h4
  clear h4
  by_cases h5 : kd = 5
  · skip
    have k5 : (kd == 5) = true := beq_iff_eq.mpr h5
    clear h5
    have HF := Aside0.mk (fun w_ h_ => l3FirstV s V L (sl : Int) (by omega) (by omega) hl48 w_ h_)
    have f_go_0 : w3.cell? ⟨go, 0, none⟩ = some (.int .i64 kd) := (S.out.cell 1 rfl 0).trans rfl
    have f_go_1 : w3.cell? ⟨go, 1, none⟩ = some (.int .i64 (sl : Int)) := (S.out.cell 1 rfl 1).trans rfl
    have f_go_2 : w3.cell? ⟨go, 2, none⟩ = some (.int .i64 A) := (S.out.cell 1 rfl 2).trans rfl
    have f_go_3 : w3.cell? ⟨go, 3, none⟩ = some (.int .i64 B) := (S.out.cell 1 rfl 3).trans rfl
    go_wp2_with (first | ((with_reducible refine gate_dst (N := 81) rfl ?_); refine Kd.event_run rfl (Row.load_row_run (g := gb) (t := 27) (cells := bkV s V) rfl rfl (S.out.blk 2 rfl) Try.underlying27 rfl (by kernel_rfl)) ?_))
    clear f_go_0 f_go_2 f_go_3 f_go_1
    refine (HF.out _ (S.out.get 3 rfl)).mono ?_
    rintro e w7 ⟨r, rfl, hr, hb⟩
    have Sn_ := Aside0.mk (S.out.call hb)
    clear S hb HF
    have S := Sn_
    clear Sn_
    rcases hr with ⟨rfl, hno⟩ | ⟨a, rfl, ha, hOa⟩
    · skip
      have HNO := Aside0.mk hno
      clear hno
      obtain ⟨hcp, hzp⟩ := S.out.rowCell 3 rfl (i := 6) (by omega) hv6 sl hsl
      have hsi : (sl : Int) < ((L 6).length : Int) := by omega
      have f_go_1 : w7.cell? ⟨go, 1, none⟩ = some (.int .i64 (sl : Int)) := (S.out.cell 1 rfl 1).trans rfl
      have f_gb_7 : w7.cell? ⟨gb, 7, none⟩ = some (.slice (some ⟨g6, o6, none⟩) (L 6).length cap6) := (S.out.cell 2 rfl 7).trans (by rw [← hv6]; rfl)
      go_wp2_with (first | ((with_reducible refine gate_store (t := 3) (p := 91) rfl ?_); refine store_event (t := 3) (p := 91) (v := ?vo_10) (w1 := w7.setCell ⟨g6, o6 + sl, none⟩ (.int .i64 (0))) ?hg ?ho ?hn ?hr ?_; (case ho => rfl); (case hg => rfl); (case hn => rfl); (case hr => first | (go_simp; done) | (go_simp; rfl)); intro w13 hw_; have Sn_ := Aside0.mk ((S.out.rowSet' (rs' := [Bx gr (#[.int .i64 0, .slice none 0 0, .slice none 0 0, .slice none 0 0, .slice none 0 0, .slice none 0 0, .slice none 0 0, .slice none 0 0, .slice none 0 0]) 27, Bx go (#[.int .i64 kd, .int .i64 (sl : Int), .int .i64 A, .int .i64 B]) 80, Bx gb (bkV s V) 27, Rb V (upd L 6 ((L 6).set sl 0))]) 3 rfl (i := 6) (by omega) hv6 (sl) hsl (0) rfl).of hw_); clear S hw_ hcp hzp f_gb_7 f_go_1; have S := Sn_; clear Sn_) | ((with_reducible refine gate_dst (N := 92) rfl ?_); refine Kd.event_run rfl (Row.load_row_run (g := gb) (t := 27) (cells := bkV s V) rfl rfl (S.out.blk 2 rfl) Try.underlying27 rfl (by kernel_rfl)) ?_) | ((with_reducible refine gate_store (t := 27) (p := 4) rfl ?_); refine store_event (t := 27) (p := 4) (v := ?vo_11) (w1 := w13.setRow gr (bkV s V)) ?hg ?ho ?hn ?hr ?_; (case ho => rfl); (case hg => rfl); (case hn => rfl); (case hr => exact (Row.store_row_run (g := gr) (cells := bkV s V) (t := 27) (old := #[.int .i64 0, .slice none 0 0, .slice none 0 0, .slice none 0 0, .slice none 0 0, .slice none 0 0, .slice none 0 0, .slice none 0 0, .slice none 0 0]) rfl (by rfl) (by rfl) (S.out.blk 0 rfl) (by kernel_rfl) rfl (HONE.out))); intro w14 hw_; have Sn_ := Aside0.mk ((S.out.setRow (cs' := bkV s V) (rs' := [Bx gr (bkV s V) 27, Bx go (#[.int .i64 kd, .int .i64 (sl : Int), .int .i64 A, .int .i64 B]) 80, Bx gb (bkV s V) 27, Rb V (upd L 6 ((L 6).set sl 0))]) 0 rfl rfl).of hw_); clear S hw_; have S := Sn_; clear Sn_))
      refine bodyPost_ret (results_ctt rfl _ _ gr 27 (bkV s V) (0, 0) _ rfl (S.out.blk 0 rfl) Try.underlying27 rfl (by kernel_rfl)) rfl ?_
      exact ⟨V, (upd L 6 ((L 6).set sl 0)), _, _, rfl, (HW.out.slotSet HSS.out (by omega) (by omega) (fun _ => rfl) (fun _ => HNO.out)), S.out.out 3 rfl⟩
    · skip
      clear hOa ha
      go_wp2_with (first | ((with_reducible refine gate_dst (N := 86) rfl ?_); refine Kd.event_run rfl (Row.load_row_run (g := gb) (t := 27) (cells := bkV s V) rfl rfl (S.out.blk 2 rfl) Try.underlying27 rfl (by kernel_rfl)) ?_) | ((with_reducible refine gate_store (t := 27) (p := 4) rfl ?_); refine store_event (t := 27) (p := 4) (v := ?vo_12) (w1 := w7.setRow gr (bkV s V)) ?hg ?ho ?hn ?hr ?_; (case ho => rfl); (case hg => rfl); (case hn => rfl); (case hr => exact (Row.store_row_run (g := gr) (cells := bkV s V) (t := 27) (old := #[.int .i64 0, .slice none 0 0, .slice none 0 0, .slice none 0 0, .slice none 0 0, .slice none 0 0, .slice none 0 0, .slice none 0 0, .slice none 0 0]) rfl (by rfl) (by rfl) (S.out.blk 0 rfl) (by kernel_rfl) rfl (HONE.out))); intro w15 hw_; have Sn_ := Aside0.mk ((S.out.setRow (cs' := bkV s V) (rs' := [Bx gr (bkV s V) 27, Bx go (#[.int .i64 kd, .int .i64 (sl : Int), .int .i64 A, .int .i64 B]) 80, Bx gb (bkV s V) 27, Rb V L]) 0 rfl rfl).of hw_); clear S hw_; have S := Sn_; clear Sn_))
      refine bodyPost_ret (results_ctt rfl _ _ gr 27 (bkV s V) (0, 0) _ rfl (S.out.blk 0 rfl) Try.underlying27 rfl (by kernel_rfl)) rfl ?_
      exact ⟨V, L, _, _, rfl, HW.out, S.out.out 3 rfl⟩
  have k5 : (kd == 5) = false := beq_eq_false_iff_ne.mpr h5
  clear h5
  by_cases h6 : kd = 6
  · skip
    have k6 : (kd == 6) = true := beq_iff_eq.mpr h6
    clear h6
    have HR := Aside0.mk (fun w_ h_ => l3Reap_calls HBB.out s V L HW.out A hA0 hA1 w_ h_)
    have f_go_0 : w3.cell? ⟨go, 0, none⟩ = some (.int .i64 kd) := (S.out.cell 1 rfl 0).trans rfl
    have f_go_1 : w3.cell? ⟨go, 1, none⟩ = some (.int .i64 (sl : Int)) := (S.out.cell 1 rfl 1).trans rfl
    have f_go_2 : w3.cell? ⟨go, 2, none⟩ = some (.int .i64 A) := (S.out.cell 1 rfl 2).trans rfl
    have f_go_3 : w3.cell? ⟨go, 3, none⟩ = some (.int .i64 B) := (S.out.cell 1 rfl 3).trans rfl
    go_wp2_with (first | ((with_reducible refine gate_dst (N := 95) rfl ?_); refine Kd.event_run rfl (Row.load_row_run (g := gb) (t := 27) (cells := bkV s V) rfl rfl (S.out.blk 2 rfl) Try.underlying27 rfl (by kernel_rfl)) ?_))
    clear f_go_0 f_go_1 f_go_2 f_go_3
    refine (HR.out _ (S.out.get 3 rfl)).mono ?_
    rintro e w9 ⟨V1, L1, r1, r2, rfl, hWd, hO⟩
    have Sn_ := Aside0.mk (S.out.back (rs' := [Bx gr (#[.int .i64 0, .slice none 0 0, .slice none 0 0, .slice none 0 0, .slice none 0 0, .slice none 0 0, .slice none 0 0, .slice none 0 0, .slice none 0 0]) 27, Bx go (#[.int .i64 kd, .int .i64 (sl : Int), .int .i64 A, .int .i64 B]) 80, Bx gb (bkV s V) 27, Rb V1 (L1)]) 3 rfl hO rfl)
    clear S HR
    have S := Sn_
    clear Sn_
    have HONE1 := Aside0.mk (hO.1.one s)
    have HWD := Aside0.mk hWd
    clear hO hWd
    go_wp2_with (first | ((with_reducible refine gate_store (t := 27) (p := 4) rfl ?_); refine store_event (t := 27) (p := 4) (v := ?vo_13) (w1 := w9.setRow gr (bkV s V1)) ?hg ?ho ?hn ?hr ?_; (case ho => rfl); (case hg => rfl); (case hn => rfl); (case hr => exact (Row.store_row_run (g := gr) (cells := bkV s V1) (t := 27) (old := #[.int .i64 0, .slice none 0 0, .slice none 0 0, .slice none 0 0, .slice none 0 0, .slice none 0 0, .slice none 0 0, .slice none 0 0, .slice none 0 0]) rfl (by rfl) (by rfl) (S.out.blk 0 rfl) (by kernel_rfl) rfl (HONE1.out))); intro w16 hw_; have Sn_ := Aside0.mk ((S.out.setRow (cs' := bkV s V1) (rs' := [Bx gr (bkV s V1) 27, Bx go (#[.int .i64 kd, .int .i64 (sl : Int), .int .i64 A, .int .i64 B]) 80, Bx gb (bkV s V) 27, Rb V1 (L1)]) 0 rfl rfl).of hw_); clear S hw_; have S := Sn_; clear Sn_))
    refine bodyPost_ret (results_ctt rfl _ _ gr 27 (bkV s V1) (0, 0) _ rfl (S.out.blk 0 rfl) Try.underlying27 rfl (by kernel_rfl)) rfl ?_
    exact ⟨V1, L1, _, _, rfl, HWD.out, S.out.out 3 rfl⟩
  have k6 : (kd == 6) = false := beq_eq_false_iff_ne.mpr h6
  clear h6
  have f_go_0 : w3.cell? ⟨go, 0, none⟩ = some (.int .i64 kd) := (S.out.cell 1 rfl 0).trans rfl
  go_wp2_with (first | ((with_reducible refine gate_dst (N := 102) rfl ?_); refine Kd.event_run rfl (Row.load_row_run (g := gb) (t := 27) (cells := bkV s V) rfl rfl (S.out.blk 2 rfl) Try.underlying27 rfl (by kernel_rfl)) ?_) | ((with_reducible refine gate_store (t := 27) (p := 4) rfl ?_); refine store_event (t := 27) (p := 4) (v := ?vo_14) (w1 := w3.setRow gr (bkV s V)) ?hg ?ho ?hn ?hr ?_; (case ho => rfl); (case hg => rfl); (case hn => rfl); (case hr => exact (Row.store_row_run (g := gr) (cells := bkV s V) (t := 27) (old := #[.int .i64 0, .slice none 0 0, .slice none 0 0, .slice none 0 0, .slice none 0 0, .slice none 0 0, .slice none 0 0, .slice none 0 0, .slice none 0 0]) rfl (by rfl) (by rfl) (S.out.blk 0 rfl) (by kernel_rfl) rfl (HONE.out))); intro w17 hw_; have Sn_ := Aside0.mk ((S.out.setRow (cs' := bkV s V) (rs' := [Bx gr (bkV s V) 27, Bx go (#[.int .i64 kd, .int .i64 (sl : Int), .int .i64 A, .int .i64 B]) 80, Bx gb (bkV s V) 27, Rb V L]) 0 rfl rfl).of hw_); clear S hw_; have S := Sn_; clear Sn_))
  refine bodyPost_ret (results_ctt rfl _ _ gr 27 (bkV s V) (0, 0) _ rfl (S.out.blk 0 rfl) Try.underlying27 rfl (by kernel_rfl)) rfl ?_
  exact ⟨V, L, _, _, rfl, HW.out, S.out.out 3 rfl⟩
end Go.Proofs.Ytekneicikmaplaa.Bk
namespace Go.Proofs.Ytekneicikmaplaa.Bk
open Go.RowKit Go.Proofs.YtekneicikmaplaaW.PrintWords Go.Proofs.YtekneicikmaplaaW.PrintLast Go.Proofs.YtekneicikmaplaaW.PrintMore
theorem Wd.enter {s : Int} {L : Nat → List Int} (h : Wd s L) {u : Nat} (hu : (u : Int) < s) (hI : (L 6).getD u 0 = 0) {e : Int} (h0 : (L 7).getD u 0 = e) (h1 : e ≠ 4095) :
    Wd s (upd (upd L 6 ((L 6).set u 1)) 7 ((L 7).set u (e + 1))) := by
  have hlen : u < (L 6).length := by have := h.nI; omega
  have hlen7 : u < (L 7).length := by have := h.nE; omega
  have h2 : Bv.W s (L 0) (L 5) ((L 6).set u 1) ((L 7).set u (e + 1)) (fun k => L (k + 1)) := by
    refine Bv.W.slots h (by rw [List.length_set]) (by rw [List.length_set]) (fun i hi => ?_) (fun j hj hjO => ?_)
    · obtain ⟨a1, a2, a3, a4, a5⟩ := Bv.W.slot h i hi
      by_cases q : i = u
      · rw [q] at a3 a4 ⊢
        rw [Bv.g_set_eq _ _ _ hlen, Bv.g_set_eq _ _ _ hlen7]
        have a3 : 0 ≤ (L 7).getD u 0 := a3
        have a4 : (L 7).getD u 0 ≤ 4095 := a4
        exact ⟨by omega, by omega, by omega, by omega, fun z => by omega⟩
      · rw [Bv.g_set_ne _ _ _ _ q, Bv.g_set_ne _ _ _ _ q]
        exact ⟨a1, a2, a3, a4, a5⟩
    · obtain ⟨a1, a2, a3⟩ := Bv.W.unit h j hj
      by_cases q : (Bv.g (L 5) j - 1).toNat = u
      · rw [q, Bv.g_set_eq _ _ _ hlen]; omega
      · rw [Bv.g_set_ne _ _ _ _ q]; exact a3 hjO
  unfold Wd
  rw [upd_ne _ 7 0 _ (by omega), upd_ne _ 6 0 _ (by omega), upd_ne _ 7 5 _ (by omega), upd_ne _ 6 5 _ (by omega), upd_ne _ 7 6 _ (by omega), upd_at, upd_at]
  exact Wcong h2 (fun k hk => by rw [upd_ne _ _ _ _ (by omega), upd_ne _ _ _ _ (by omega)])
theorem wid2 {n : Int} (h0 : 0 ≤ n) (h1 : n ≤ 4095) : wrap64 (n + 1) = n + 1 := by unfold wrap64; omega
set_option maxHeartbeats 8000000 in
set_option maxRecDepth 100000 in
theorem l3Do_calls (hB : BackC) (s : Int) (V : Nat → Value) (L : Nat → List Int) (hW : Wd s L) (kd x : Int) (hx0 : -1000 ≤ x) (hx1 : x ≤ 1000) (A B : Int) (hA0 : -1000 ≤ A) (hA1 : A ≤ 1000) (hB0 : -1000 ≤ B) (hB1 : B ≤ 1000) (w : World) (h : BoV V L w) :
    Calls Try.prog 94 #[.agg (bkV s V), .agg #[.int .i64 kd, .int .i64 x, .int .i64 A, .int .i64 B]] w (Ret3 s V w) := by
  obtain ⟨hl6, hl1, hl5, hl48, hlI, hlE, hs1, hs4⟩ := hW.rows
  have HW := Aside0.mk hW
  have HBB := Aside0.mk hB
  have S := Aside0.mk (Sx.one (r := Rb V L) h (Rb.stable V L) (fun k hk => h.lt hk))
  have HV := Aside0.mk h
  have HONE := Aside0.mk (h.one s)
  obtain ⟨g6, o6, cap6, hv6, _, _⟩ := (h.1 6 (by omega)).at 0 (by omega)
  obtain ⟨g7, o7, cap7, hv7, _, _⟩ := (h.1 7 (by omega)).at 0 (by omega)
  clear hW h hB
  go_enter Try.func94, Try.ntmps94
  go_upto_region 1 with (first | ((with_reducible refine gate_dst (N := 2) rfl ?_); refine box_event rfl (N := 2) rfl (cs := bkV s V) (t := 27) (by first | (go_simp; done) | (go_simp; rfl)) ?_; intro gb hg_ w1 hbox_ hb_; have Sn_ := Aside0.mk (S.out.box hg_ hbox_ hb_); clear hbox_ hb_ hg_ S; have S := Sn_; clear Sn_) | ((with_reducible refine gate_dst (N := 3) rfl ?_); refine box_event rfl (N := 3) rfl (cs := #[.int .i64 kd, .int .i64 x, .int .i64 A, .int .i64 B]) (t := 80) (by first | (go_simp; done) | (go_simp; rfl)) ?_; intro go hg_ w2 hbox_ hb_; have Sn_ := Aside0.mk (S.out.box hg_ hbox_ hb_); clear hbox_ hb_ hg_ S; have S := Sn_; clear Sn_) | ((with_reducible refine gate_dst (N := 4) rfl ?_); refine box_event rfl (N := 4) rfl (cs := #[.int .i64 0, .slice none 0 0, .slice none 0 0, .slice none 0 0, .slice none 0 0, .slice none 0 0, .slice none 0 0, .slice none 0 0, .slice none 0 0]) (t := 27) (by first | (go_simp; done) | (go_simp; rfl)) ?_; intro gr hg_ w3 hbox_ hb_; have Sn_ := Aside0.mk (S.out.box hg_ hbox_ hb_); clear hbox_ hb_ hg_ S; have S := Sn_; clear Sn_))
  have f_gb_0 : w3.cell? ⟨gb, 0, none⟩ = some (.int .i64 s) := (S.out.cell 2 rfl 0).trans rfl
  have f_go_0 : w3.cell? ⟨go, 0, none⟩ = some (.int .i64 kd) := (S.out.cell 1 rfl 0).trans rfl
  have f_go_1 : w3.cell? ⟨go, 1, none⟩ = some (.int .i64 x) := (S.out.cell 1 rfl 1).trans rfl
  have f_gb_7 : w3.cell? ⟨gb, 7, none⟩ = some (.slice (some ⟨g6, o6, none⟩) (L 6).length cap6) := (S.out.cell 2 rfl 7).trans (by rw [← hv6]; rfl)
  have f_gb_8 : w3.cell? ⟨gb, 8, none⟩ = some (.slice (some ⟨g7, o7, none⟩) (L 7).length cap7) := (S.out.cell 2 rfl 8).trans (by rw [← hv7]; rfl)
  by_cases hx : x < 0
  · have b0 : decide (x < 0) = true := decide_eq_true hx
    go_wp2_with (first | ((with_reducible refine gate_dst (N := 17) rfl ?_); refine Kd.event_run rfl (Row.load_row_run (g := gb) (t := 27) (cells := bkV s V) rfl rfl (S.out.blk 2 rfl) Try.underlying27 rfl (by kernel_rfl)) ?_) | ((with_reducible refine gate_store (t := 27) (p := 4) rfl ?_); refine store_event (t := 27) (p := 4) (v := ?vo_1) (w1 := w3.setRow gr (bkV s V)) ?hg ?ho ?hn ?hr ?_; (case ho => rfl); (case hg => rfl); (case hn => rfl); (case hr => exact (Row.store_row_run (g := gr) (cells := bkV s V) (t := 27) (old := #[.int .i64 0, .slice none 0 0, .slice none 0 0, .slice none 0 0, .slice none 0 0, .slice none 0 0, .slice none 0 0, .slice none 0 0, .slice none 0 0]) rfl (by rfl) (by rfl) (S.out.blk 0 rfl) (by kernel_rfl) rfl (HONE.out))); intro w4 hw_; have Sn_ := Aside0.mk ((S.out.setRow (cs' := bkV s V) (rs' := [Bx gr (bkV s V) 27, Bx go (#[.int .i64 kd, .int .i64 x, .int .i64 A, .int .i64 B]) 80, Bx gb (bkV s V) 27, Rb V L]) 0 rfl rfl).of hw_); clear S hw_; have S := Sn_; clear Sn_))
    refine bodyPost_ret (results_ctt rfl _ _ gr 27 (bkV s V) (0, 0) _ rfl (S.out.blk 0 rfl) Try.underlying27 rfl (by kernel_rfl)) rfl ?_
    exact ⟨V, L, _, _, rfl, HW.out, S.out.out 3 rfl⟩
  have b0 : decide (x < 0) = false := decide_eq_false hx
  by_cases hxs : s ≤ x
  · have b1 : decide (s ≤ x) = true := decide_eq_true hxs
    go_wp2_with (first | ((with_reducible refine gate_dst (N := 17) rfl ?_); refine Kd.event_run rfl (Row.load_row_run (g := gb) (t := 27) (cells := bkV s V) rfl rfl (S.out.blk 2 rfl) Try.underlying27 rfl (by kernel_rfl)) ?_) | ((with_reducible refine gate_store (t := 27) (p := 4) rfl ?_); refine store_event (t := 27) (p := 4) (v := ?vo_2) (w1 := w3.setRow gr (bkV s V)) ?hg ?ho ?hn ?hr ?_; (case ho => rfl); (case hg => rfl); (case hn => rfl); (case hr => exact (Row.store_row_run (g := gr) (cells := bkV s V) (t := 27) (old := #[.int .i64 0, .slice none 0 0, .slice none 0 0, .slice none 0 0, .slice none 0 0, .slice none 0 0, .slice none 0 0, .slice none 0 0, .slice none 0 0]) rfl (by rfl) (by rfl) (S.out.blk 0 rfl) (by kernel_rfl) rfl (HONE.out))); intro w5 hw_; have Sn_ := Aside0.mk ((S.out.setRow (cs' := bkV s V) (rs' := [Bx gr (bkV s V) 27, Bx go (#[.int .i64 kd, .int .i64 x, .int .i64 A, .int .i64 B]) 80, Bx gb (bkV s V) 27, Rb V L]) 0 rfl rfl).of hw_); clear S hw_; have S := Sn_; clear Sn_))
    refine bodyPost_ret (results_ctt rfl _ _ gr 27 (bkV s V) (0, 0) _ rfl (S.out.blk 0 rfl) Try.underlying27 rfl (by kernel_rfl)) rfl ?_
    exact ⟨V, L, _, _, rfl, HW.out, S.out.out 3 rfl⟩
  have b1 : decide (s ≤ x) = false := decide_eq_false hxs
  obtain ⟨u, rfl⟩ := Int.eq_ofNat_of_zero_le (show 0 ≤ x by omega)
  have hu : u < (L 6).length := by omega
  have hu7 : u < (L 7).length := by omega
  have hui : (u : Int) < ((L 6).length : Int) := by omega
  have hui7 : (u : Int) < ((L 7).length : Int) := by omega
  have HU : Aside0 ((u : Int) < s) := ⟨by omega⟩
  have hu4 : (u : Int) ≤ 4 := by omega
  clear hx hxs hx0 hx1
  obtain ⟨hcu, hzu⟩ := S.out.rowCell 3 rfl (i := 6) (by omega) hv6 u hu
  obtain ⟨v, hv⟩ : ∃ v, (L 6).getD u 0 = v := ⟨_, rfl⟩
  have HVv := Aside0.mk hv
  rw [hv] at hcu
  clear hv
  by_cases hk1 : kd = 1
  rotate_left
  · have k1 : (kd == 1) = false := beq_eq_false_iff_ne.mpr hk1
    clear hk1
    by_cases hv0 : v = 0
    · have b2 : (v == 0) = true := beq_iff_eq.mpr hv0
      clear hv0
      go_wp2_with (first | ((with_reducible refine gate_dst (N := 68) rfl ?_); refine Kd.event_run rfl (Row.load_row_run (g := gb) (t := 27) (cells := bkV s V) rfl rfl (S.out.blk 2 rfl) Try.underlying27 rfl (by kernel_rfl)) ?_) | ((with_reducible refine gate_store (t := 27) (p := 4) rfl ?_); refine store_event (t := 27) (p := 4) (v := ?vo_3) (w1 := w3.setRow gr (bkV s V)) ?hg ?ho ?hn ?hr ?_; (case ho => rfl); (case hg => rfl); (case hn => rfl); (case hr => exact (Row.store_row_run (g := gr) (cells := bkV s V) (t := 27) (old := #[.int .i64 0, .slice none 0 0, .slice none 0 0, .slice none 0 0, .slice none 0 0, .slice none 0 0, .slice none 0 0, .slice none 0 0, .slice none 0 0]) rfl (by rfl) (by rfl) (S.out.blk 0 rfl) (by kernel_rfl) rfl (HONE.out))); intro w6 hw_; have Sn_ := Aside0.mk ((S.out.setRow (cs' := bkV s V) (rs' := [Bx gr (bkV s V) 27, Bx go (#[.int .i64 kd, .int .i64 (u : Int), .int .i64 A, .int .i64 B]) 80, Bx gb (bkV s V) 27, Rb V L]) 0 rfl rfl).of hw_); clear S hw_; have S := Sn_; clear Sn_))
      refine bodyPost_ret (results_ctt rfl _ _ gr 27 (bkV s V) (0, 0) _ rfl (S.out.blk 0 rfl) Try.underlying27 rfl (by kernel_rfl)) rfl ?_
      exact ⟨V, L, _, _, rfl, HW.out, S.out.out 3 rfl⟩
    have b2 : (v == 0) = false := beq_eq_false_iff_ne.mpr hv0
    have HIU : Aside0 ((L 6).getD u 0 ≠ 0) := ⟨by rw [HVv.out]; exact hv0⟩
    clear hv0
    have HOW := Aside0.mk (fun w_ h_ => l3Own_calls HBB.out s V L HW.out kd u HU.out HIU.out A B hA0 hA1 hB0 hB1 w_ h_)
    go_wp2_with (first | ((with_reducible refine gate_dst (N := 69) rfl ?_); refine Kd.event_run rfl (Row.load_row_run (g := gb) (t := 27) (cells := bkV s V) rfl rfl (S.out.blk 2 rfl) Try.underlying27 rfl (by kernel_rfl)) ?_) | ((with_reducible refine gate_dst (N := 70) rfl ?_); refine Kd.event_run rfl (Row.load_row_run (g := go) (t := 80) (cells := #[.int .i64 kd, .int .i64 (u : Int), .int .i64 A, .int .i64 B]) rfl rfl (S.out.blk 1 rfl) Try.underlying80 rfl (by kernel_rfl)) ?_))
    clear f_gb_0 f_go_0 f_go_1 f_gb_7 f_gb_8 hcu hzu
    refine (HOW.out _ (S.out.get 3 rfl)).mono ?_
    rintro e w9 ⟨V1, L1, r1, r2, rfl, hWd, hO⟩
    have Sn_ := Aside0.mk (S.out.back (rs' := [Bx gr (#[.int .i64 0, .slice none 0 0, .slice none 0 0, .slice none 0 0, .slice none 0 0, .slice none 0 0, .slice none 0 0, .slice none 0 0, .slice none 0 0]) 27, Bx go (#[.int .i64 kd, .int .i64 (u : Int), .int .i64 A, .int .i64 B]) 80, Bx gb (bkV s V) 27, Rb V1 (L1)]) 3 rfl hO rfl)
    clear S HOW
    have S := Sn_
    clear Sn_
    have HONE1 := Aside0.mk (hO.1.one s)
    have HWD := Aside0.mk hWd
    clear hO hWd
    go_wp2_with (first | ((with_reducible refine gate_store (t := 27) (p := 4) rfl ?_); refine store_event (t := 27) (p := 4) (v := ?vo_4) (w1 := w9.setRow gr (bkV s V1)) ?hg ?ho ?hn ?hr ?_; (case ho => rfl); (case hg => rfl); (case hn => rfl); (case hr => exact (Row.store_row_run (g := gr) (cells := bkV s V1) (t := 27) (old := #[.int .i64 0, .slice none 0 0, .slice none 0 0, .slice none 0 0, .slice none 0 0, .slice none 0 0, .slice none 0 0, .slice none 0 0, .slice none 0 0]) rfl (by rfl) (by rfl) (S.out.blk 0 rfl) (by kernel_rfl) rfl (HONE1.out))); intro w7 hw_; have Sn_ := Aside0.mk ((S.out.setRow (cs' := bkV s V1) (rs' := [Bx gr (bkV s V1) 27, Bx go (#[.int .i64 kd, .int .i64 (u : Int), .int .i64 A, .int .i64 B]) 80, Bx gb (bkV s V) 27, Rb V1 (L1)]) 0 rfl rfl).of hw_); clear S hw_; have S := Sn_; clear Sn_))
    refine bodyPost_ret (results_ctt rfl _ _ gr 27 (bkV s V1) (0, 0) _ rfl (S.out.blk 0 rfl) Try.underlying27 rfl (by kernel_rfl)) rfl ?_
    exact ⟨V1, L1, _, _, rfl, HWD.out, S.out.out 3 rfl⟩
  have k1 : (kd == 1) = true := beq_iff_eq.mpr hk1
  clear hk1
  by_cases hv0 : v = 0
  rotate_left
  · have b2 : (v != 0) = true := bne_iff_ne.mpr hv0
    clear hv0
    go_wp2_with (first | ((with_reducible refine gate_dst (N := 28) rfl ?_); refine Kd.event_run rfl (Row.load_row_run (g := gb) (t := 27) (cells := bkV s V) rfl rfl (S.out.blk 2 rfl) Try.underlying27 rfl (by kernel_rfl)) ?_) | ((with_reducible refine gate_store (t := 27) (p := 4) rfl ?_); refine store_event (t := 27) (p := 4) (v := ?vo_5) (w1 := w3.setRow gr (bkV s V)) ?hg ?ho ?hn ?hr ?_; (case ho => rfl); (case hg => rfl); (case hn => rfl); (case hr => exact (Row.store_row_run (g := gr) (cells := bkV s V) (t := 27) (old := #[.int .i64 0, .slice none 0 0, .slice none 0 0, .slice none 0 0, .slice none 0 0, .slice none 0 0, .slice none 0 0, .slice none 0 0, .slice none 0 0]) rfl (by rfl) (by rfl) (S.out.blk 0 rfl) (by kernel_rfl) rfl (HONE.out))); intro w8 hw_; have Sn_ := Aside0.mk ((S.out.setRow (cs' := bkV s V) (rs' := [Bx gr (bkV s V) 27, Bx go (#[.int .i64 kd, .int .i64 (u : Int), .int .i64 A, .int .i64 B]) 80, Bx gb (bkV s V) 27, Rb V L]) 0 rfl rfl).of hw_); clear S hw_; have S := Sn_; clear Sn_))
    refine bodyPost_ret (results_ctt rfl _ _ gr 27 (bkV s V) (0, 0) _ rfl (S.out.blk 0 rfl) Try.underlying27 rfl (by kernel_rfl)) rfl ?_
    exact ⟨V, L, _, _, rfl, HW.out, S.out.out 3 rfl⟩
  have b2 : (v != 0) = false := bne_eq_false_iff_eq.mpr hv0
  have HI0 : Aside0 ((L 6).getD u 0 = 0) := ⟨by rw [HVv.out]; exact hv0⟩
  clear hv0
  obtain ⟨hce, hze⟩ := S.out.rowCell 3 rfl (i := 7) (by omega) hv7 u hu7
  obtain ⟨ee, he⟩ : ∃ ee, (L 7).getD u 0 = ee := ⟨_, rfl⟩
  have HE := Aside0.mk he
  have hee : 0 ≤ ee ∧ ee ≤ 4095 := by
    have h1 := Bv.W.slot HW.out u HU.out
    have h2 : 0 ≤ (L 7).getD u 0 := h1.2.2.1
    have h3 : (L 7).getD u 0 ≤ 4095 := h1.2.2.2.1
    omega
  obtain ⟨hee0, hee1⟩ := hee
  rw [he] at hce
  clear he
  by_cases hw : ee = 4095
  · have b3 : (ee == 4095) = true := beq_iff_eq.mpr hw
    clear hw hee0 hee1
    go_wp2_with (first | ((with_reducible refine gate_dst (N := 36) rfl ?_); refine Kd.event_run rfl (Row.load_row_run (g := gb) (t := 27) (cells := bkV s V) rfl rfl (S.out.blk 2 rfl) Try.underlying27 rfl (by kernel_rfl)) ?_) | ((with_reducible refine gate_store (t := 27) (p := 4) rfl ?_); refine store_event (t := 27) (p := 4) (v := ?vo_6) (w1 := w3.setRow gr (bkV s V)) ?hg ?ho ?hn ?hr ?_; (case ho => rfl); (case hg => rfl); (case hn => rfl); (case hr => exact (Row.store_row_run (g := gr) (cells := bkV s V) (t := 27) (old := #[.int .i64 0, .slice none 0 0, .slice none 0 0, .slice none 0 0, .slice none 0 0, .slice none 0 0, .slice none 0 0, .slice none 0 0, .slice none 0 0]) rfl (by rfl) (by rfl) (S.out.blk 0 rfl) (by kernel_rfl) rfl (HONE.out))); intro w9 hw_; have Sn_ := Aside0.mk ((S.out.setRow (cs' := bkV s V) (rs' := [Bx gr (bkV s V) 27, Bx go (#[.int .i64 kd, .int .i64 (u : Int), .int .i64 A, .int .i64 B]) 80, Bx gb (bkV s V) 27, Rb V L]) 0 rfl rfl).of hw_); clear S hw_; have S := Sn_; clear Sn_))
    refine bodyPost_ret (results_ctt rfl _ _ gr 27 (bkV s V) (0, 0) _ rfl (S.out.blk 0 rfl) Try.underlying27 rfl (by kernel_rfl)) rfl ?_
    exact ⟨V, L, _, _, rfl, HW.out, S.out.out 3 rfl⟩
  have b3 : (ee == 4095) = false := beq_eq_false_iff_ne.mpr hw
  have HWN := Aside0.mk hw
  clear hw
  go_wp2_with (first | ((with_reducible refine gate_store (t := 3) (p := 41) rfl ?_); refine store_event (t := 3) (p := 41) (v := ?vo_7) (w1 := w3.setCell ⟨g6, o6 + u, none⟩ (.int .i64 (1))) ?hg ?ho ?hn ?hr ?_; (case ho => rfl); (case hg => rfl); (case hn => rfl); (case hr => first | (go_simp; done) | (go_simp; rfl)); intro w10 hw_; have Sn_ := Aside0.mk ((S.out.rowSet' (rs' := [Bx gr (#[.int .i64 0, .slice none 0 0, .slice none 0 0, .slice none 0 0, .slice none 0 0, .slice none 0 0, .slice none 0 0, .slice none 0 0, .slice none 0 0]) 27, Bx go (#[.int .i64 kd, .int .i64 (u : Int), .int .i64 A, .int .i64 B]) 80, Bx gb (bkV s V) 27, Rb V (upd L 6 ((L 6).set u 1))]) 3 rfl (i := 6) (by omega) hv6 (u) hu (1) rfl).of hw_); clear S hw_ hcu hzu hce hze f_gb_0 f_go_0 f_go_1 f_gb_7 f_gb_8; have S := Sn_; clear Sn_))
  have hus := HU.out
  have hu77 : u < ((upd L 6 ((L 6).set u 1)) 7).length := by rw [upd_ne _ _ _ _ (by omega)]; exact hu7
  have hE7 : Aside0 (((upd L 6 ((L 6).set u 1)) 7).getD u 0 = ee) := ⟨by rw [upd_ne _ _ _ _ (by omega)]; exact HE.out⟩
  refine start_ (n := 13) (S := fun w_ => Sx (ownV V) w w_ [Bx gr (#[.int .i64 0, .slice none 0 0, .slice none 0 0, .slice none 0 0, .slice none 0 0, .slice none 0 0, .slice none 0 0, .slice none 0 0, .slice none 0 0]) 27, Bx go (#[.int .i64 kd, .int .i64 (u : Int), .int .i64 A, .int .i64 B]) 80, Bx gb (bkV s V) 27, Rb V (upd L 6 ((L 6).set u 1))]) (ds := [12]) #[false, false, false, false, false, false, false, false, false, false, false, false, false] (by kernel_rfl) rfl rfl (S.out.drew) (fun hH_ => ?_)
  refine pure_ (i := 0) (N := some 42) (v := ?_) (a' := ?_) #[true, false, false, false, false, false, false, false, false, false, false, false, false] rfl rfl (by kernel_rfl) (fun _ _ _ h => h) (Or.inl ⟨by rfl, ?_⟩) ?_ ?_
  rotate_left
  · intro w'
    go_simp
    with_reducible rfl
  rotate_left
  · simp only [Act.put, List.setIfInBounds_toArray, List.set_cons_zero, List.set_cons_succ, i64_w, i32_w]
    rfl
  refine take_ (i := 1) (N := some 43) (v := ?_) (a' := ?_) #[true, true, false, false, false, false, false, false, false, false, false, false, false] rfl rfl (by kernel_rfl) (fun _ _ _ h => h) (Or.inl ⟨by rfl, ?_⟩) hH_ ?_ ?_
  rotate_left
  · intro w' s0
    have f_ : w'.cell? ⟨gb, 8, none⟩ = some (.slice (some ⟨g7, o7, none⟩) (L 7).length cap7) := (s0.cell 2 rfl 8).trans (by rw [← hv7]; rfl)
    clear s0
    go_simp
    with_reducible rfl
  rotate_left
  · simp only [Act.put, List.setIfInBounds_toArray, List.set_cons_zero, List.set_cons_succ, i64_w, i32_w]
    rfl
  refine pure_ (i := 2) (N := some 44) (v := ?_) (a' := ?_) #[true, true, true, false, false, false, false, false, false, false, false, false, false] rfl rfl (by kernel_rfl) (fun _ _ _ h => h) (Or.inl ⟨by rfl, ?_⟩) ?_ ?_
  rotate_left
  · intro w'
    go_simp
    with_reducible rfl
  rotate_left
  · simp only [Act.put, List.setIfInBounds_toArray, List.set_cons_zero, List.set_cons_succ, i64_w, i32_w]
    rfl
  refine take_ (i := 3) (N := some 45) (v := ?_) (a' := ?_) #[true, true, true, true, false, false, false, false, false, false, false, false, false] rfl rfl (by kernel_rfl) (fun _ _ _ h => h) (Or.inl ⟨by rfl, ?_⟩) hH_ ?_ ?_
  rotate_left
  · intro w' s0
    have f_ : w'.cell? ⟨go, 1, none⟩ = some (.int .i64 (u : Int)) := (s0.cell 1 rfl 1).trans rfl
    clear s0
    go_simp
    with_reducible rfl
  rotate_left
  · simp only [Act.put, List.setIfInBounds_toArray, List.set_cons_zero, List.set_cons_succ, i64_w, i32_w]
    rfl
  refine pure_ (i := 4) (N := some 46) (v := ?_) (a' := ?_) #[true, true, true, true, true, false, false, false, false, false, false, false, false] rfl rfl (by kernel_rfl) (fun _ _ _ h => h) (Or.inl ⟨by rfl, ?_⟩) ?_ ?_
  rotate_left
  · intro w'
    go_simp
    with_reducible rfl
  rotate_left
  · simp only [Act.put, List.setIfInBounds_toArray, List.set_cons_zero, List.set_cons_succ, i64_w, i32_w]
    rfl
  refine take_ (i := 5) (N := some 47) (v := ?_) (a' := ?_) #[true, true, true, true, true, true, false, false, false, false, false, false, false] rfl rfl (by kernel_rfl) (fun _ _ _ h => h) (Or.inl ⟨by rfl, ?_⟩) hH_ ?_ ?_
  rotate_left
  · intro w' s0
    have f_ : w'.cell? ⟨gb, 8, none⟩ = some (.slice (some ⟨g7, o7, none⟩) (L 7).length cap7) := (s0.cell 2 rfl 8).trans (by rw [← hv7]; rfl)
    clear s0
    go_simp
    with_reducible rfl
  rotate_left
  · simp only [Act.put, List.setIfInBounds_toArray, List.set_cons_zero, List.set_cons_succ, i64_w, i32_w]
    rfl
  refine pure_ (i := 6) (N := some 48) (v := ?_) (a' := ?_) #[true, true, true, true, true, true, true, false, false, false, false, false, false] rfl rfl (by kernel_rfl) (fun _ _ _ h => h) (Or.inl ⟨by rfl, ?_⟩) ?_ ?_
  rotate_left
  · intro w'
    go_simp
    with_reducible rfl
  rotate_left
  · simp only [Act.put, List.setIfInBounds_toArray, List.set_cons_zero, List.set_cons_succ, i64_w, i32_w]
    rfl
  refine take_ (i := 7) (N := some 49) (v := ?_) (a' := ?_) #[true, true, true, true, true, true, true, true, false, false, false, false, false] rfl rfl (by kernel_rfl) (fun _ _ _ h => h) (Or.inl ⟨by rfl, ?_⟩) hH_ ?_ ?_
  rotate_left
  · intro w' s0
    have f_ : w'.cell? ⟨go, 1, none⟩ = some (.int .i64 (u : Int)) := (s0.cell 1 rfl 1).trans rfl
    clear s0
    go_simp
    with_reducible rfl
  rotate_left
  · simp only [Act.put, List.setIfInBounds_toArray, List.set_cons_zero, List.set_cons_succ, i64_w, i32_w]
    rfl
  refine pure_ (i := 8) (N := some 50) (v := ?_) (a' := ?_) #[true, true, true, true, true, true, true, true, true, false, false, false, false] rfl rfl (by kernel_rfl) (fun _ _ _ h => h) (Or.inl ⟨by rfl, ?_⟩) ?_ ?_
  rotate_left
  · intro w'
    go_simp
    with_reducible rfl
  rotate_left
  · simp only [Act.put, List.setIfInBounds_toArray, List.set_cons_zero, List.set_cons_succ, i64_w, i32_w]
    rfl
  refine take_ (i := 9) (N := some 51) (v := ?_) (a' := ?_) #[true, true, true, true, true, true, true, true, true, true, false, false, false] rfl rfl (by kernel_rfl) (fun _ _ _ h => h) (Or.inl ⟨by rfl, ?_⟩) hH_ ?_ ?_
  rotate_left
  · intro w' s0
    have f_ : w'.cell? ⟨g7, o7 + u, none⟩ = some (.int .i64 ee) := by have := (s0.rowCell 3 rfl (i := 7) (by omega) hv7 u hu77).1; rwa [hE7.out] at this
    clear s0
    go_simp
    with_reducible rfl
  rotate_left
  · simp only [Act.put, List.setIfInBounds_toArray, List.set_cons_zero, List.set_cons_succ, i64_w, i32_w]
    rfl
  refine pure_ (i := 10) (N := some 52) (v := ?_) (a' := ?_) #[true, true, true, true, true, true, true, true, true, true, true, false, false] rfl rfl (by kernel_rfl) (fun _ _ _ h => h) (Or.inl ⟨by rfl, ?_⟩) ?_ ?_
  rotate_left
  · intro w'
    go_simp
    with_reducible rfl
  rotate_left
  · simp only [Act.put, List.setIfInBounds_toArray, List.set_cons_zero, List.set_cons_succ, i64_w, i32_w]
    rfl
  refine pure_ (i := 11) (N := some 53) (v := ?_) (a' := ?_) #[true, true, true, true, true, true, true, true, true, true, true, true, false] rfl rfl (by kernel_rfl) (fun _ _ _ h => h) (Or.inl ⟨by rfl, ?_⟩) ?_ ?_
  rotate_left
  · intro w'
    go_simp
    with_reducible rfl
  rotate_left
  · simp only [Act.put, List.setIfInBounds_toArray, List.set_cons_zero, List.set_cons_succ, i64_w, i32_w]
    rfl
  obtain ⟨hcx, hzx⟩ := Sx.rowCell hH_ 3 rfl (i := 7) (by omega) hv7 u hu77
  refine last_ (i := 12) (N := none) #[true, true, true, true, true, true, true, true, true, true, true, true, true] rfl rfl (by kernel_rfl) (by decide) (fun K hK => ?_)
  refine skip_ (w1 := w10.drew.setCell ⟨g7, o7 + u, none⟩ (.int .i64 (wrap64 (ee + 1)))) (by rfl) rfl (by first | (go_simp; done) | (go_simp; rfl)) ?_
  refine hK.out _ _ ?_
  clear hK K
  have Sn_ := Aside0.mk (Sx.rowSet' (rs' := [Bx gr (#[.int .i64 0, .slice none 0 0, .slice none 0 0, .slice none 0 0, .slice none 0 0, .slice none 0 0, .slice none 0 0, .slice none 0 0, .slice none 0 0]) 27, Bx go (#[.int .i64 kd, .int .i64 (u : Int), .int .i64 A, .int .i64 B]) 80, Bx gb (bkV s V) 27, Rb V (upd (upd L 6 ((L 6).set u 1)) 7 (((upd L 6 ((L 6).set u 1)) 7).set u (wrap64 (ee + 1))))]) hH_ 3 rfl (i := 7) (by omega) hv7 u hu77 (wrap64 (ee + 1)) rfl)
  clear S
  have S := Sn_
  clear Sn_
  obtain ⟨w11, hw_⟩ : ∃ w_, w10.drew.setCell ⟨g7, o7 + u, none⟩ (.int .i64 (wrap64 (ee + 1))) = w_ := ⟨_, rfl⟩
  rw [hw_] at S
  rw [hw_]
  clear hw_
  clear hH_
  refine done_ (by kernel_rfl) ?_
  try clear hcx hzx
  have hu78 : u < ((upd (upd L 6 ((L 6).set u 1)) 7 (((upd L 6 ((L 6).set u 1)) 7).set u (wrap64 (ee + 1)))) 7).length := by rw [upd_at, List.length_set]; exact hu77
  have hE8 : Aside0 (((upd (upd L 6 ((L 6).set u 1)) 7 (((upd L 6 ((L 6).set u 1)) 7).set u (wrap64 (ee + 1)))) 7).getD u 0 = wrap64 (ee + 1)) := ⟨by rw [upd_at]; exact getD_set_self' _ _ _ hu77⟩
  go_wp2_with fail
  have SD := Aside0.mk (S.out.drew)
  refine start_ (n := 10) (S := fun w_ => Sx (ownV V) w w_ [Bx go (#[.int .i64 kd, .int .i64 (u : Int), .int .i64 A, .int .i64 B]) 80, Bx gb (bkV s V) 27, Rb V (upd (upd L 6 ((L 6).set u 1)) 7 (((upd L 6 ((L 6).set u 1)) 7).set u (wrap64 (ee + 1))))]) (ds := []) #[false, false, false, false, false, false, false, false, false, false] (by kernel_rfl) rfl rfl (SD.out.drop 0 rfl) (fun hH_ => ?_)
  refine take_ (i := 0) (N := some 54) (v := .agg (bkV s V)) (a' := ?_) #[true, false, false, false, false, false, false, false, false, false] rfl rfl (by kernel_rfl) (fun _ _ _ h => h) (Or.inl ⟨by rfl, fun w' s0 => Row.load_row_run (g := gb) (t := 27) (cells := bkV s V) rfl rfl (s0.blk 1 rfl) Try.underlying27 rfl (by kernel_rfl)⟩) hH_ ?_ ?_
  rotate_left
  · simp only [Act.put, List.setIfInBounds_toArray, List.set_cons_zero, List.set_cons_succ, i64_w, i32_w]
    rfl
  refine pure_ (i := 1) (N := some 55) (v := ?_) (a' := ?_) #[true, true, false, false, false, false, false, false, false, false] rfl rfl (by kernel_rfl) (fun _ _ _ h => h) (Or.inl ⟨by rfl, ?_⟩) ?_ ?_
  rotate_left
  · intro w'
    go_simp
    with_reducible rfl
  rotate_left
  · simp only [Act.put, List.setIfInBounds_toArray, List.set_cons_zero, List.set_cons_succ, i64_w, i32_w]
    rfl
  refine take_ (i := 2) (N := some 56) (v := ?_) (a' := ?_) #[true, true, true, false, false, false, false, false, false, false] rfl rfl (by kernel_rfl) (fun _ _ _ h => h) (Or.inl ⟨by rfl, ?_⟩) hH_ ?_ ?_
  rotate_left
  · intro w' s0
    have f_ : w'.cell? ⟨gb, 8, none⟩ = some (.slice (some ⟨g7, o7, none⟩) (L 7).length cap7) := (s0.cell 1 rfl 8).trans (by rw [← hv7]; rfl)
    clear s0
    go_simp
    with_reducible rfl
  rotate_left
  · simp only [Act.put, List.setIfInBounds_toArray, List.set_cons_zero, List.set_cons_succ, i64_w, i32_w]
    rfl
  refine pure_ (i := 3) (N := some 57) (v := ?_) (a' := ?_) #[true, true, true, true, false, false, false, false, false, false] rfl rfl (by kernel_rfl) (fun _ _ _ h => h) (Or.inl ⟨by rfl, ?_⟩) ?_ ?_
  rotate_left
  · intro w'
    go_simp
    with_reducible rfl
  rotate_left
  · simp only [Act.put, List.setIfInBounds_toArray, List.set_cons_zero, List.set_cons_succ, i64_w, i32_w]
    rfl
  refine take_ (i := 4) (N := some 58) (v := ?_) (a' := ?_) #[true, true, true, true, true, false, false, false, false, false] rfl rfl (by kernel_rfl) (fun _ _ _ h => h) (Or.inl ⟨by rfl, ?_⟩) hH_ ?_ ?_
  rotate_left
  · intro w' s0
    have f_ : w'.cell? ⟨go, 1, none⟩ = some (.int .i64 (u : Int)) := (s0.cell 0 rfl 1).trans rfl
    clear s0
    go_simp
    with_reducible rfl
  rotate_left
  · simp only [Act.put, List.setIfInBounds_toArray, List.set_cons_zero, List.set_cons_succ, i64_w, i32_w]
    rfl
  refine pure_ (i := 5) (N := some 59) (v := ?_) (a' := ?_) #[true, true, true, true, true, true, false, false, false, false] rfl rfl (by kernel_rfl) (fun _ _ _ h => h) (Or.inl ⟨by rfl, ?_⟩) ?_ ?_
  rotate_left
  · intro w'
    go_simp
    with_reducible rfl
  rotate_left
  · simp only [Act.put, List.setIfInBounds_toArray, List.set_cons_zero, List.set_cons_succ, i64_w, i32_w]
    rfl
  refine take_ (i := 6) (N := some 60) (v := ?_) (a' := ?_) #[true, true, true, true, true, true, true, false, false, false] rfl rfl (by kernel_rfl) (fun _ _ _ h => h) (Or.inl ⟨by rfl, ?_⟩) hH_ ?_ ?_
  rotate_left
  · intro w' s0
    have f_ : w'.cell? ⟨g7, o7 + u, none⟩ = some (.int .i64 (wrap64 (ee + 1))) := by have := (s0.rowCell 2 rfl (i := 7) (by omega) hv7 u hu78).1; rwa [hE8.out] at this
    clear s0
    go_simp
    with_reducible rfl
  rotate_left
  · simp only [Act.put, List.setIfInBounds_toArray, List.set_cons_zero, List.set_cons_succ, i64_w, i32_w]
    rfl
  refine one_ (i := 7) (N := none) #[true, true, true, true, true, true, true, true, false, false] rfl rfl (by kernel_rfl) (by decide) (fun K hK => ?_)
  have SN := Aside0.mk (Sx.setRow (cs' := bkV s V) (rs' := [Bx gr (bkV s V) 27, Bx go (#[.int .i64 kd, .int .i64 (u : Int), .int .i64 A, .int .i64 B]) 80, Bx gb (bkV s V) 27, Rb V (upd (upd L 6 ((L 6).set u 1)) 7 (((upd L 6 ((L 6).set u 1)) 7).set u (wrap64 (ee + 1))))]) SD.out 0 rfl rfl)
  refine skip_ (w1 := w11.drew.setRow gr (bkV s V)) (by rfl) rfl (Row.store_row_run (g := gr) (cells := bkV s V) (t := 27) (old := #[.int .i64 0, .slice none 0 0, .slice none 0 0, .slice none 0 0, .slice none 0 0, .slice none 0 0, .slice none 0 0, .slice none 0 0, .slice none 0 0]) rfl (by rfl) (by rfl) (SD.out.blk 0 rfl) (by kernel_rfl) rfl HONE.out) ?_
  refine hK.out _ _ (SN.out.drop 0 rfl) (fun hX_ => ?_)
  clear hK K hX_ S SD hH_
  have S := SN
  clear SN
  obtain ⟨w20, hw_⟩ : ∃ w_, w11.drew.setRow gr (bkV s V) = w_ := ⟨_, rfl⟩
  rw [hw_] at S
  rw [hw_]
  clear hw_
  refine pure_ (i := 8) (N := some 5) (v := ?_) (a' := ?_) #[true, true, true, true, true, true, true, true, true, false] rfl rfl (by kernel_rfl) (fun _ _ _ h => h) (Or.inl ⟨by rfl, ?_⟩) ?_ ?_
  rotate_left
  · intro w'
    go_simp
    with_reducible rfl
  rotate_left
  · simp only [Act.put, List.setIfInBounds_toArray, List.set_cons_zero, List.set_cons_succ, i64_w, i32_w]
    rfl
  refine pure_ (i := 9) (N := some 6) (v := ?_) (a' := ?_) #[true, true, true, true, true, true, true, true, true, true] rfl rfl (by kernel_rfl) (fun _ _ _ h => h) (Or.inl ⟨by rfl, ?_⟩) ?_ ?_
  rotate_left
  · intro w'
    go_simp
    with_reducible rfl
  rotate_left
  · simp only [Act.put, List.setIfInBounds_toArray, List.set_cons_zero, List.set_cons_succ, i64_w, i32_w]
    rfl
  refine done_ (by kernel_rfl) ?_
  have HWn : Aside0 (Wd s (upd (upd L 6 ((L 6).set u 1)) 7 (((upd L 6 ((L 6).set u 1)) 7).set u (wrap64 (ee + 1))))) := ⟨by
    have h1 := HW.out.enter HU.out HI0.out HE.out HWN.out
    have h2 : wrap64 (ee + 1) = ee + 1 := wid2 hee0 hee1
    rw [upd_ne _ 6 7 _ (by omega), h2]
    exact h1⟩
  go_wp2_with fail
  refine bodyPost_ret (results_ctt rfl _ _ gr 27 (bkV s V) (0, 0) _ rfl (S.out.blk 0 rfl) Try.underlying27 rfl (by kernel_rfl)) rfl ?_
  exact ⟨V, (upd (upd L 6 ((L 6).set u 1)) 7 (((upd L 6 ((L 6).set u 1)) 7).set u (wrap64 (ee + 1)))), _, _, rfl, HWn.out, S.out.out 3 rfl⟩
end Go.Proofs.Ytekneicikmaplaa.Bk
namespace Go.Proofs.Ytekneicikmaplaa.Bk
open Go.RowKit Go.Proofs.YtekneicikmaplaaW.PrintWords Go.Proofs.YtekneicikmaplaaW.PrintLast Go.Proofs.YtekneicikmaplaaW.PrintMore
/-- append([]int{p}, l...), behind 'at_builtin'; the goal's world is the literal's box laid. -/
theorem ir_cons {P : Program} {ops : Array Oper} {rest : List Oper} {o : Oper} {a : Act} {Q : Exit → Act → World → Prop} {W : World} (hgd : o.guard = none) (s x : Operand) (t : TypeId)
    (ho : o.op = .call { callee := .builtin .append, args := #[s, x], argTypes := #[t, t] }) (ht : P.underlying t = some (.slice 3)) (hinfo : (P.info? 3).map (fun i => (i.zero, i.size, i.bytes)) = some (some (.int .i64 0), 1, 8))
    (A : Option Addr) (c : Nat) (l : List Int) (p : Int) (hs : a.eval s = .slice (some ⟨W.heap.size, 0, none⟩) 1 1) (hx : a.eval x = .slice A l.length c) (HO : IR W (.slice A l.length c) l) (hl : l.length ≤ 1048576)
    (h : ∀ v1 w1, IR w1 v1 (p :: l) → Below W.heap.size W w1 → (∀ k, v1.ownBlock = some k → W.heap.size ≤ k ∧ k < w1.heap.size) → wpList P ops Q rest (a.put o.dst v1) w1) :
    wpList P ops Q (o :: rest) a (W.alloc (.cells #[.int .i64 p] 3)) := by
  have hfA : Below W.heap.size W (W.alloc (.cells #[.int .i64 p] 3)) := below_alloc (Below.refl _ _) _
  have hszA : (W.alloc (.cells #[.int .i64 p] 3)).heap.size = W.heap.size + 1 := by simp
  have hC : SlC (W.alloc (.cells #[.int .i64 p] 3)) A c l := HO.slC.below hfA
  have hown : (W.alloc (.cells #[.int .i64 p] 3)).ownsRow W.heap.size 3 1 (.slice (some ⟨W.heap.size, 0, none⟩) 1 1) 1 [.int .i64 p] :=
    ⟨rfl, .inr ⟨W.heap.size, 1, #[.int .i64 p], rfl, Nat.le_refl _, heap_alloc_new W _, Nat.le_refl _, by simp [maxLen], rfl, rfl⟩⟩
  have hR : Kd.R (Kd.int .i64) 3 (W.alloc (.cells #[.int .i64 p] 3)) W.heap.size (fun _ => True) (.slice (some ⟨W.heap.size, 0, none⟩) 1 1) [p] := by
    refine ⟨fun _ _ => trivial, [.int .i64 p], hown, rfl, fun j q hj => ?_⟩
    have hj0 : j = 0 := by
      have := (List.getElem?_eq_some_iff.1 hj).1
      simpa using this
    subst hj0
    have : p = q := by simpa using hj
    subst this
    rfl
  refine Kd.R_append_rows (Kd.int .i64) (Rr := (Kd.int .i64).K (W.alloc (.cells #[.int .i64 p] 3))) (w0 := W.alloc (.cells #[.int .i64 p] 3)) W.heap.size hgd s x t 3 (.int .i64 0) 8 ho ht hinfo rfl (by decide) (by decide) _ [p] l A l.length c (fun _ => True) (fun _ => False) hs hx hR hC.1 (fun _ _ hq => hq) (fun _ hk => hk.elim) (fun _ _ => trivial) (Below.refl _ _) (by rw [hszA]; omega) (by simp only [List.length_singleton]; omega) (fun v1 w1 ho1 hb1 hg1 hat => ?_)
  have hgr : w1.heap.size ≥ W.heap.size + 1 := by have := hb1.size; omega
  refine h v1 w1 (IR.of_R ho1) ⟨hb1.os.trans hfA.os, hb1.tape.trans hfA.tape, hb1.output.trans hfA.output, Nat.le_trans hfA.size hb1.size, fun k hk => (hb1.block k hk).trans (hfA.block k hk)⟩ (fun k hk => ⟨?_, (IR.of_R ho1).lt hk⟩)
  rcases hat with e | ⟨b, e, hb⟩
  · rw [e] at hk
    obtain rfl := Option.some.inj hk
    exact Nat.le_refl _
  · rw [e] at hk
    obtain rfl := Option.some.inj hk
    omega
end Go.Proofs.Ytekneicikmaplaa.Bk

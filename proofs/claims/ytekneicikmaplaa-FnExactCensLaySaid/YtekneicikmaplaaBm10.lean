/- Books of a slab allocator: walks and plain laws, part 10. -/
import Derived.Test.YtekneicikmaplaaBm1
import Derived.Deep.RegionHeld3
import Derived.Test.YtekneicikmaplaaPFnExactBookOpenx1
import Derived.Test.YtekneicikmaplaaPFnExactBookOpenx3
import Derived.Test.YtekneicikmaplaaBm3
set_option linter.unusedVariables false
set_option linter.unusedSimpArgs false
namespace Go.Proofs.Ytekneicikmaplaa.Bk
open Go.RowKit Go.Proofs.YtekneicikmaplaaW.PrintWords Go.Proofs.YtekneicikmaplaaW.PrintLast Go.Proofs.YtekneicikmaplaaW.PrintMore

abbrev cfgV (a b c : Int) : Value := .agg #[.int .i64 a, .int .i64 b, .int .i64 c]
theorem regAt_calls (a b c : Int) (w : World) : Calls Try.prog 82 #[cfgV a b c] w fun e w' => e = .returned (.int .i64 3) ∧ Below w.heap.size w w' := by
  have HB := Aside0.mk (Below.refl w.heap.size w)
  go_enter Try.func82, Try.ntmps82
  go_wp2_with (first | ((with_reducible refine gate_dst (N := 1) rfl ?_); refine box_event rfl (N := 1) rfl (cs := #[.int .i64 a, .int .i64 b, .int .i64 c]) (t := 29) (by first | (go_simp; done) | (go_simp; rfl)) ?_; intro gc hggc w1 hbox hb; have n0_ := Aside0.mk (below_step HB.out hb); have BKgc := Aside0.mk hbox; have HGgc := Aside0.mk (show w.heap.size ≤ gc by rw [hggc]; exact HB.out.size); clear HB; have HB := n0_; clear n0_ hbox hb hggc))
  go_ret
  exact ⟨rfl, HB.out⟩
set_option maxRecDepth 100000 in
theorem beatAt_calls (a b c : Int) (ha : 1 ≤ a ∧ a ≤ 4) (hb : 1 ≤ b ∧ b ≤ 6) (w : World) : Calls Try.prog 92 #[cfgV a b c] w fun e w' => e = .returned (.int .i64 (3 + a)) ∧ Below w.heap.size w w' := by
  have HA := Aside0.mk ha
  have HBB := Aside0.mk hb
  have e1 : wrap64 (3 + a) = 3 + a := by unfold wrap64; omega
  clear ha hb
  have HB := Aside0.mk (Below.refl w.heap.size w)
  go_enter Try.func92, Try.ntmps92
  go_wp2_with (first | ((with_reducible refine gate_dst (N := 1) rfl ?_); refine box_event rfl (N := 1) rfl (cs := #[.int .i64 a, .int .i64 b, .int .i64 c]) (t := 29) (by first | (go_simp; done) | (go_simp; rfl)) ?_; intro gc hggc w1 hbox hb; have n0_ := Aside0.mk (below_step HB.out hb); have BKgc := Aside0.mk hbox; have HGgc := Aside0.mk (show w.heap.size ≤ gc by rw [hggc]; exact HB.out.size); clear HB; have HB := n0_; have fc0 : w1.cell? ⟨gc, 0, none⟩ = some (.int .i64 a) := (blk_cell BKgc.out 0).trans rfl; have fc1 : w1.cell? ⟨gc, 1, none⟩ = some (.int .i64 b) := (blk_cell BKgc.out 1).trans rfl; have fc2 : w1.cell? ⟨gc, 2, none⟩ = some (.int .i64 c) := (blk_cell BKgc.out 2).trans rfl; have zc0 := blk_frozen BKgc.out 0; have zc1 := blk_frozen BKgc.out 1; have zc2 := blk_frozen BKgc.out 2; clear n0_ hbox hb hggc))
  go_region_held3 (fun w' => w'.cell? ⟨gc, 0, none⟩ = some (.int .i64 a) ∧ w'.cell? ⟨gc, 1, none⟩ = some (.int .i64 b) ∧ w'.cell? ⟨gc, 2, none⟩ = some (.int .i64 c))
    (first
      | go_keep
      | (refine ⟨?_, ?_, ?_⟩ <;> (rw [hb9.cell (by simp only [World.drew]; exact blk_lt BKgc.out)]; assumption)))
    (first | (go_at_call 82; refine (regAt_calls a b c _).mono ?_; rintro e w9 ⟨rfl, hb9⟩))
  have HB2 := Aside0.mk (below_step (below_drew1 HB.out) hb9)
  go_wp2
  go_ret
  exact ⟨by (try simp only [i64_w]); (try simp only [e1]); (try rfl), HB2.out⟩
set_option maxRecDepth 100000 in
theorem headAt_calls (a b c : Int) (ha : 1 ≤ a ∧ a ≤ 4) (hb : 1 ≤ b ∧ b ≤ 6) (w : World) : Calls Try.prog 85 #[cfgV a b c] w fun e w' => e = .returned (.int .i64 (3 + 2 * a)) ∧ Below w.heap.size w w' := by
  have HA := Aside0.mk ha
  have HBB := Aside0.mk hb
  have e1 : wrap64 (3 + a + a) = 3 + 2 * a := by unfold wrap64; omega
  clear ha hb
  have HB := Aside0.mk (Below.refl w.heap.size w)
  go_enter Try.func85, Try.ntmps85
  go_wp2_with (first | ((with_reducible refine gate_dst (N := 1) rfl ?_); refine box_event rfl (N := 1) rfl (cs := #[.int .i64 a, .int .i64 b, .int .i64 c]) (t := 29) (by first | (go_simp; done) | (go_simp; rfl)) ?_; intro gc hggc w1 hbox hb; have n0_ := Aside0.mk (below_step HB.out hb); have BKgc := Aside0.mk hbox; have HGgc := Aside0.mk (show w.heap.size ≤ gc by rw [hggc]; exact HB.out.size); clear HB; have HB := n0_; have fc0 : w1.cell? ⟨gc, 0, none⟩ = some (.int .i64 a) := (blk_cell BKgc.out 0).trans rfl; have fc1 : w1.cell? ⟨gc, 1, none⟩ = some (.int .i64 b) := (blk_cell BKgc.out 1).trans rfl; have fc2 : w1.cell? ⟨gc, 2, none⟩ = some (.int .i64 c) := (blk_cell BKgc.out 2).trans rfl; have zc0 := blk_frozen BKgc.out 0; have zc1 := blk_frozen BKgc.out 1; have zc2 := blk_frozen BKgc.out 2; clear n0_ hbox hb hggc))
  go_region_held3 (fun w' => w'.cell? ⟨gc, 0, none⟩ = some (.int .i64 a) ∧ w'.cell? ⟨gc, 1, none⟩ = some (.int .i64 b) ∧ w'.cell? ⟨gc, 2, none⟩ = some (.int .i64 c))
    (first
      | go_keep
      | (refine ⟨?_, ?_, ?_⟩ <;> (rw [hb9.cell (by simp only [World.drew]; exact blk_lt BKgc.out)]; assumption)))
    (first | (go_at_call 92; refine (beatAt_calls a b c HA.out HBB.out _).mono ?_; rintro e w9 ⟨rfl, hb9⟩))
  have HB2 := Aside0.mk (below_step (below_drew1 HB.out) hb9)
  go_wp2
  go_ret
  exact ⟨by (try simp only [i64_w]); (try simp only [e1]); (try rfl), HB2.out⟩
set_option maxRecDepth 100000 in
theorem pageAt_calls (a b c : Int) (ha : 1 ≤ a ∧ a ≤ 4) (hb : 1 ≤ b ∧ b ≤ 6) (w : World) : Calls Try.prog 83 #[cfgV a b c] w fun e w' => e = .returned (.int .i64 (7 + 2 * a)) ∧ Below w.heap.size w w' := by
  have HA := Aside0.mk ha
  have HBB := Aside0.mk hb
  have e1 : wrap64 (3 + 2 * a + 4) = 7 + 2 * a := by unfold wrap64; omega
  clear ha hb
  have HB := Aside0.mk (Below.refl w.heap.size w)
  go_enter Try.func83, Try.ntmps83
  go_wp2_with (first | ((with_reducible refine gate_dst (N := 1) rfl ?_); refine box_event rfl (N := 1) rfl (cs := #[.int .i64 a, .int .i64 b, .int .i64 c]) (t := 29) (by first | (go_simp; done) | (go_simp; rfl)) ?_; intro gc hggc w1 hbox hb; have n0_ := Aside0.mk (below_step HB.out hb); have BKgc := Aside0.mk hbox; have HGgc := Aside0.mk (show w.heap.size ≤ gc by rw [hggc]; exact HB.out.size); clear HB; have HB := n0_; have fc0 : w1.cell? ⟨gc, 0, none⟩ = some (.int .i64 a) := (blk_cell BKgc.out 0).trans rfl; have fc1 : w1.cell? ⟨gc, 1, none⟩ = some (.int .i64 b) := (blk_cell BKgc.out 1).trans rfl; have fc2 : w1.cell? ⟨gc, 2, none⟩ = some (.int .i64 c) := (blk_cell BKgc.out 2).trans rfl; have zc0 := blk_frozen BKgc.out 0; have zc1 := blk_frozen BKgc.out 1; have zc2 := blk_frozen BKgc.out 2; clear n0_ hbox hb hggc))
  refine (headAt_calls a b c HA.out HBB.out _).mono ?_
  rintro e w9 ⟨rfl, hb9⟩
  have HB2 := Aside0.mk (below_step HB.out hb9)
  go_wp2
  go_ret
  exact ⟨by (try simp only [i64_w]); (try simp only [e1]); (try rfl), HB2.out⟩
set_option maxRecDepth 100000 in
theorem tagAt_calls (a b c : Int) (ha : 1 ≤ a ∧ a ≤ 4) (hb : 1 ≤ b ∧ b ≤ 6) (w : World) : Calls Try.prog 84 #[cfgV a b c] w fun e w' => e = .returned (.int .i64 (7 + 2 * a + b)) ∧ Below w.heap.size w w' := by
  have HA := Aside0.mk ha
  have HBB := Aside0.mk hb
  have e1 : wrap64 (7 + 2 * a + b) = 7 + 2 * a + b := by unfold wrap64; omega
  clear ha hb
  have HB := Aside0.mk (Below.refl w.heap.size w)
  go_enter Try.func84, Try.ntmps84
  go_wp2_with (first | ((with_reducible refine gate_dst (N := 1) rfl ?_); refine box_event rfl (N := 1) rfl (cs := #[.int .i64 a, .int .i64 b, .int .i64 c]) (t := 29) (by first | (go_simp; done) | (go_simp; rfl)) ?_; intro gc hggc w1 hbox hb; have n0_ := Aside0.mk (below_step HB.out hb); have BKgc := Aside0.mk hbox; have HGgc := Aside0.mk (show w.heap.size ≤ gc by rw [hggc]; exact HB.out.size); clear HB; have HB := n0_; have fc0 : w1.cell? ⟨gc, 0, none⟩ = some (.int .i64 a) := (blk_cell BKgc.out 0).trans rfl; have fc1 : w1.cell? ⟨gc, 1, none⟩ = some (.int .i64 b) := (blk_cell BKgc.out 1).trans rfl; have fc2 : w1.cell? ⟨gc, 2, none⟩ = some (.int .i64 c) := (blk_cell BKgc.out 2).trans rfl; have zc0 := blk_frozen BKgc.out 0; have zc1 := blk_frozen BKgc.out 1; have zc2 := blk_frozen BKgc.out 2; clear n0_ hbox hb hggc))
  go_region_held3 (fun w' => w'.cell? ⟨gc, 0, none⟩ = some (.int .i64 a) ∧ w'.cell? ⟨gc, 1, none⟩ = some (.int .i64 b) ∧ w'.cell? ⟨gc, 2, none⟩ = some (.int .i64 c))
    (first
      | go_keep
      | (refine ⟨?_, ?_, ?_⟩ <;> (rw [hb9.cell (by simp only [World.drew]; exact blk_lt BKgc.out)]; assumption)))
    (first | (go_at_call 83; refine (pageAt_calls a b c HA.out HBB.out _).mono ?_; rintro e w9 ⟨rfl, hb9⟩))
  have HB2 := Aside0.mk (below_step (below_drew1 HB.out) hb9)
  go_wp2
  go_ret
  exact ⟨by (try simp only [i64_w]); (try simp only [e1]); (try rfl), HB2.out⟩
set_option maxRecDepth 100000 in
theorem linkAt_calls (a b c : Int) (ha : 1 ≤ a ∧ a ≤ 4) (hb : 1 ≤ b ∧ b ≤ 6) (w : World) : Calls Try.prog 86 #[cfgV a b c] w fun e w' => e = .returned (.int .i64 (7 + 2 * a + 9 * b)) ∧ Below w.heap.size w w' := by
  have HA := Aside0.mk ha
  have HBB := Aside0.mk hb
  have e0 : wrap64 (8 * b) = 8 * b := by unfold wrap64; omega
  have e1 : wrap64 (7 + 2 * a + b + 8 * b) = 7 + 2 * a + 9 * b := by unfold wrap64; omega
  clear ha hb
  have HB := Aside0.mk (Below.refl w.heap.size w)
  go_enter Try.func86, Try.ntmps86
  go_wp2_with (first | ((with_reducible refine gate_dst (N := 1) rfl ?_); refine box_event rfl (N := 1) rfl (cs := #[.int .i64 a, .int .i64 b, .int .i64 c]) (t := 29) (by first | (go_simp; done) | (go_simp; rfl)) ?_; intro gc hggc w1 hbox hb; have n0_ := Aside0.mk (below_step HB.out hb); have BKgc := Aside0.mk hbox; have HGgc := Aside0.mk (show w.heap.size ≤ gc by rw [hggc]; exact HB.out.size); clear HB; have HB := n0_; have fc0 : w1.cell? ⟨gc, 0, none⟩ = some (.int .i64 a) := (blk_cell BKgc.out 0).trans rfl; have fc1 : w1.cell? ⟨gc, 1, none⟩ = some (.int .i64 b) := (blk_cell BKgc.out 1).trans rfl; have fc2 : w1.cell? ⟨gc, 2, none⟩ = some (.int .i64 c) := (blk_cell BKgc.out 2).trans rfl; have zc0 := blk_frozen BKgc.out 0; have zc1 := blk_frozen BKgc.out 1; have zc2 := blk_frozen BKgc.out 2; clear n0_ hbox hb hggc))
  go_region_held3 (fun w' => w'.cell? ⟨gc, 0, none⟩ = some (.int .i64 a) ∧ w'.cell? ⟨gc, 1, none⟩ = some (.int .i64 b) ∧ w'.cell? ⟨gc, 2, none⟩ = some (.int .i64 c))
    (first
      | go_keep
      | (refine ⟨?_, ?_, ?_⟩ <;> (rw [hb9.cell (by simp only [World.drew]; exact blk_lt BKgc.out)]; assumption)))
    (first | (go_at_call 84; refine (tagAt_calls a b c HA.out HBB.out _).mono ?_; rintro e w9 ⟨rfl, hb9⟩))
  have HB2 := Aside0.mk (below_step (below_drew1 HB.out) hb9)
  go_wp2
  go_ret
  exact ⟨by (try simp only [i64_w]); (try simp only [e0, e1]); (try rfl), HB2.out⟩
set_option maxRecDepth 100000 in
theorem deskAt_calls (a b c : Int) (ha : 1 ≤ a ∧ a ≤ 4) (hb : 1 ≤ b ∧ b ≤ 6) (w : World) : Calls Try.prog 81 #[cfgV a b c] w fun e w' => e = .returned (.int .i64 (7 + 2 * a + 17 * b)) ∧ Below w.heap.size w w' := by
  have HA := Aside0.mk ha
  have HBB := Aside0.mk hb
  have e0 : wrap64 (8 * b) = 8 * b := by unfold wrap64; omega
  have e1 : wrap64 (7 + 2 * a + 9 * b + 8 * b) = 7 + 2 * a + 17 * b := by unfold wrap64; omega
  clear ha hb
  have HB := Aside0.mk (Below.refl w.heap.size w)
  go_enter Try.func81, Try.ntmps81
  go_wp2_with (first | ((with_reducible refine gate_dst (N := 1) rfl ?_); refine box_event rfl (N := 1) rfl (cs := #[.int .i64 a, .int .i64 b, .int .i64 c]) (t := 29) (by first | (go_simp; done) | (go_simp; rfl)) ?_; intro gc hggc w1 hbox hb; have n0_ := Aside0.mk (below_step HB.out hb); have BKgc := Aside0.mk hbox; have HGgc := Aside0.mk (show w.heap.size ≤ gc by rw [hggc]; exact HB.out.size); clear HB; have HB := n0_; have fc0 : w1.cell? ⟨gc, 0, none⟩ = some (.int .i64 a) := (blk_cell BKgc.out 0).trans rfl; have fc1 : w1.cell? ⟨gc, 1, none⟩ = some (.int .i64 b) := (blk_cell BKgc.out 1).trans rfl; have fc2 : w1.cell? ⟨gc, 2, none⟩ = some (.int .i64 c) := (blk_cell BKgc.out 2).trans rfl; have zc0 := blk_frozen BKgc.out 0; have zc1 := blk_frozen BKgc.out 1; have zc2 := blk_frozen BKgc.out 2; clear n0_ hbox hb hggc))
  go_region_held3 (fun w' => w'.cell? ⟨gc, 0, none⟩ = some (.int .i64 a) ∧ w'.cell? ⟨gc, 1, none⟩ = some (.int .i64 b) ∧ w'.cell? ⟨gc, 2, none⟩ = some (.int .i64 c))
    (first
      | go_keep
      | (refine ⟨?_, ?_, ?_⟩ <;> (rw [hb9.cell (by simp only [World.drew]; exact blk_lt BKgc.out)]; assumption)))
    (first | (go_at_call 86; refine (linkAt_calls a b c HA.out HBB.out _).mono ?_; rintro e w9 ⟨rfl, hb9⟩))
  have HB2 := Aside0.mk (below_step (below_drew1 HB.out) hb9)
  go_wp2
  go_ret
  exact ⟨by (try simp only [i64_w]); (try simp only [e0, e1]); (try rfl), HB2.out⟩
set_option maxRecDepth 100000 in
theorem house_calls (a b c : Int) (ha : 1 ≤ a ∧ a ≤ 4) (hb : 1 ≤ b ∧ b ≤ 6) (w : World) : Calls Try.prog 75 #[cfgV a b c] w fun e w' => e = .returned (.int .i64 (7 + 2 * a + 17 * b)) ∧ Below w.heap.size w w' := by
  have HA := Aside0.mk ha
  have HBB := Aside0.mk hb
  have e0 : wrap64 (2 * a) = 2 * a := by unfold wrap64; omega
  have e1 : wrap64 (3 + 2 * a) = 3 + 2 * a := by unfold wrap64; omega
  have e2 : wrap64 (3 + 2 * a + 4) = 7 + 2 * a := by unfold wrap64; omega
  have e3 : wrap64 (7 + 2 * a + b) = 7 + 2 * a + b := by unfold wrap64; omega
  have e4 : wrap64 (16 * b) = 16 * b := by unfold wrap64; omega
  have e5 : wrap64 (7 + 2 * a + b + 16 * b) = 7 + 2 * a + 17 * b := by unfold wrap64; omega
  clear ha hb
  have HB := Aside0.mk (Below.refl w.heap.size w)
  go_enter Try.func75, Try.ntmps75
  go_wp2_with (first | ((with_reducible refine gate_dst (N := 1) rfl ?_); refine box_event rfl (N := 1) rfl (cs := #[.int .i64 a, .int .i64 b, .int .i64 c]) (t := 29) (by first | (go_simp; done) | (go_simp; rfl)) ?_; intro gc hggc w1 hbox hb; have n0_ := Aside0.mk (below_step HB.out hb); have BKgc := Aside0.mk hbox; have HGgc := Aside0.mk (show w.heap.size ≤ gc by rw [hggc]; exact HB.out.size); clear HB; have HB := n0_; have fc0 : w1.cell? ⟨gc, 0, none⟩ = some (.int .i64 a) := (blk_cell BKgc.out 0).trans rfl; have fc1 : w1.cell? ⟨gc, 1, none⟩ = some (.int .i64 b) := (blk_cell BKgc.out 1).trans rfl; have fc2 : w1.cell? ⟨gc, 2, none⟩ = some (.int .i64 c) := (blk_cell BKgc.out 2).trans rfl; have zc0 := blk_frozen BKgc.out 0; have zc1 := blk_frozen BKgc.out 1; have zc2 := blk_frozen BKgc.out 2; clear n0_ hbox hb hggc))
  go_ret
  exact ⟨by (try simp only [i64_w]); (try simp only [e0, e1, e2, e3, e4, e5]); (try rfl), HB.out⟩


def okC (a b c : Int) : Bool := decide (1 ≤ a) && decide (a ≤ 4) && decide (1 ≤ b) && decide (b ≤ 6) && decide (1 ≤ c) && decide (c ≤ 20)
theorem okC_le {a b c : Int} (h : okC a b c = true) : (1 ≤ a ∧ a ≤ 4) ∧ 1 ≤ b ∧ b ≤ 6 := by
  simp [okC] at h
  omega
theorem specOkC_f (a b c : Int) : PFnExactBookOpen.spec_PlatOk.f a b c = some (okC a b c) := by
  unfold PFnExactBookOpen.spec_PlatOk.f okC
  by_cases h1 : 1 ≤ a <;> by_cases h2 : a ≤ 4 <;> by_cases h3 : 1 ≤ b <;> by_cases h4 : b ≤ 6 <;> by_cases h5 : 1 ≤ c <;> simp [h1, h2, h3, h4, h5]
theorem implOkC_f (a b c : Int) : PFnExactBookOpen.impl_PlatOk.f a b c = some (okC a b c) := by
  unfold PFnExactBookOpen.impl_PlatOk.f PFnExactBookOpen.impl_within.f okC
  by_cases h1 : 1 ≤ a <;> by_cases h2 : a ≤ 4 <;> by_cases h3 : 1 ≤ b <;> by_cases h4 : b ≤ 6 <;> by_cases h5 : 1 ≤ c <;> simp [h1, h2, h3, h4, h5]
theorem specOkC_calls (a b c : Int) (w : World) : Calls Try.prog 35 #[cfgV a b c] w fun e w' => e = .returned (.bool (okC a b c)) ∧ Below w.heap.size w w' := PFnExactBookOpen.spec_PlatOk.calls a b c _ w (specOkC_f a b c)
theorem implOkC_calls (a b c : Int) (w : World) : Calls Try.prog 36 #[cfgV a b c] w fun e w' => e = .returned (.bool (okC a b c)) ∧ Below w.heap.size w w' := PFnExactBookOpen.impl_PlatOk.calls a b c _ w (implOkC_f a b c)
theorem toCfgC_calls (a b c : Int) (w : World) : Calls Try.prog 12 #[cfgV a b c] w fun e w' => e = .returned (cfgV a b c) ∧ Below w.heap.size w w' := PFnExactBookOpen.laws_toPlatCfg.calls a b c a b c w rfl
set_option maxRecDepth 100000 in
theorem at_calls (a b c f n m : Int) (hok : okC a b c = true) (h0 : 0 ≤ n) (h1 : n < m) (hf : 0 ≤ f) (hn : f + n ≤ 1000) (w : World) : Calls Try.prog 91 #[cfgV a b c, .int .i64 f, .int .i64 n, .int .i64 m, .int .i64 1] w fun e w' => e = .returned (.int .i64 (f + n)) ∧ Below w.heap.size w w' := by
  have e0 : wrap64 (n * 1) = n := by unfold wrap64; omega
  have e1 : wrap64 (f + n) = f + n := by unfold wrap64; omega
  have g0 : decide (n < 0) = false := decide_eq_false (by omega)
  have g1 : decide (m ≤ n) = false := decide_eq_false (by omega)
  have g2 : ¬ n < 0 := by omega
  have g3 : ¬ m ≤ n := by omega
  have HB := Aside0.mk (Below.refl w.heap.size w)
  go_enter Try.func91, Try.ntmps91
  go_wp2_with (first | ((with_reducible refine gate_dst (N := 5) rfl ?_); refine box_event rfl (N := 5) rfl (cs := #[.int .i64 a, .int .i64 b, .int .i64 c]) (t := 29) (by first | (go_simp; done) | (go_simp; rfl)) ?_; intro gc hggc w1 hbox hb; have n0_ := Aside0.mk (below_step HB.out hb); have BKgc := Aside0.mk hbox; have HGgc := Aside0.mk (show w.heap.size ≤ gc by rw [hggc]; exact HB.out.size); clear HB; have HB := n0_; have fc0 : w1.cell? ⟨gc, 0, none⟩ = some (.int .i64 a) := (blk_cell BKgc.out 0).trans rfl; have fc1 : w1.cell? ⟨gc, 1, none⟩ = some (.int .i64 b) := (blk_cell BKgc.out 1).trans rfl; have fc2 : w1.cell? ⟨gc, 2, none⟩ = some (.int .i64 c) := (blk_cell BKgc.out 2).trans rfl; have zc0 := blk_frozen BKgc.out 0; have zc1 := blk_frozen BKgc.out 1; have zc2 := blk_frozen BKgc.out 2; clear n0_ hbox hb hggc))
  refine (specOkC_calls a b c _).mono ?_
  rintro e w2 ⟨rfl, hb⟩
  rw [hok]
  have HB2 := Aside0.mk (below_step HB.out hb)
  go_wp2
  go_ret
  exact ⟨by (try simp only [i64_w]); (try simp only [e0, e1]); (try rfl), HB2.out⟩
set_option maxRecDepth 100000 in
theorem reg_calls (a b c n : Int) (hok : okC a b c = true) (h0 : 0 ≤ n) (h1 : n < a) (w : World) : Calls Try.prog 76 #[cfgV a b c, .int .i64 n] w fun e w' => e = .returned (.int .i64 (3 + n)) ∧ Below w.heap.size w w' := by
  have hle := okC_le hok
  have HB := Aside0.mk (Below.refl w.heap.size w)
  have HLE := Aside0.mk hle
  have H01 := Aside0.mk (And.intro h0 h1)
  clear hle h0 h1
  go_enter Try.func76, Try.ntmps76
  go_wp2_with (first | ((with_reducible refine gate_dst (N := 2) rfl ?_); refine box_event rfl (N := 2) rfl (cs := #[.int .i64 a, .int .i64 b, .int .i64 c]) (t := 29) (by first | (go_simp; done) | (go_simp; rfl)) ?_; intro gc hggc w1 hbox hb; have n0_ := Aside0.mk (below_step HB.out hb); have BKgc := Aside0.mk hbox; have HGgc := Aside0.mk (show w.heap.size ≤ gc by rw [hggc]; exact HB.out.size); clear HB; have HB := n0_; have fc0 : w1.cell? ⟨gc, 0, none⟩ = some (.int .i64 a) := (blk_cell BKgc.out 0).trans rfl; have fc1 : w1.cell? ⟨gc, 1, none⟩ = some (.int .i64 b) := (blk_cell BKgc.out 1).trans rfl; have fc2 : w1.cell? ⟨gc, 2, none⟩ = some (.int .i64 c) := (blk_cell BKgc.out 2).trans rfl; have zc0 := blk_frozen BKgc.out 0; have zc1 := blk_frozen BKgc.out 1; have zc2 := blk_frozen BKgc.out 2; clear n0_ hbox hb hggc))
  (try simp only [i64_w])
  (try simp only [])
  refine (at_calls a b c (3) n (a) hok H01.out.1 H01.out.2 (by have := HLE.out; omega) (by have := HLE.out; have := H01.out; omega) _).mono ?_
  rintro e w2 ⟨rfl, hb⟩
  have HB2 := Aside0.mk (below_step HB.out hb)
  go_wp2
  go_ret
  exact ⟨rfl, HB2.out⟩
set_option maxRecDepth 100000 in
theorem head_calls (a b c n : Int) (hok : okC a b c = true) (h0 : 0 ≤ n) (h1 : n < 4) (w : World) : Calls Try.prog 79 #[cfgV a b c, .int .i64 n] w fun e w' => e = .returned (.int .i64 (3 + 2 * a + n)) ∧ Below w.heap.size w w' := by
  have hle := okC_le hok
  have e0 : wrap64 (2 * a) = 2 * a := by unfold wrap64; omega
  have e1 : wrap64 (3 + 2 * a) = 3 + 2 * a := by unfold wrap64; omega
  have HB := Aside0.mk (Below.refl w.heap.size w)
  have HLE := Aside0.mk hle
  have H01 := Aside0.mk (And.intro h0 h1)
  clear hle h0 h1
  go_enter Try.func79, Try.ntmps79
  go_wp2_with (first | ((with_reducible refine gate_dst (N := 2) rfl ?_); refine box_event rfl (N := 2) rfl (cs := #[.int .i64 a, .int .i64 b, .int .i64 c]) (t := 29) (by first | (go_simp; done) | (go_simp; rfl)) ?_; intro gc hggc w1 hbox hb; have n0_ := Aside0.mk (below_step HB.out hb); have BKgc := Aside0.mk hbox; have HGgc := Aside0.mk (show w.heap.size ≤ gc by rw [hggc]; exact HB.out.size); clear HB; have HB := n0_; have fc0 : w1.cell? ⟨gc, 0, none⟩ = some (.int .i64 a) := (blk_cell BKgc.out 0).trans rfl; have fc1 : w1.cell? ⟨gc, 1, none⟩ = some (.int .i64 b) := (blk_cell BKgc.out 1).trans rfl; have fc2 : w1.cell? ⟨gc, 2, none⟩ = some (.int .i64 c) := (blk_cell BKgc.out 2).trans rfl; have zc0 := blk_frozen BKgc.out 0; have zc1 := blk_frozen BKgc.out 1; have zc2 := blk_frozen BKgc.out 2; clear n0_ hbox hb hggc))
  (try simp only [i64_w])
  (try simp only [e0, e1])
  refine (at_calls a b c (3 + 2 * a) n (4) hok H01.out.1 H01.out.2 (by have := HLE.out; omega) (by have := HLE.out; have := H01.out; omega) _).mono ?_
  rintro e w2 ⟨rfl, hb⟩
  have HB2 := Aside0.mk (below_step HB.out hb)
  go_wp2
  go_ret
  exact ⟨rfl, HB2.out⟩
set_option maxRecDepth 100000 in
theorem page_calls (a b c n : Int) (hok : okC a b c = true) (h0 : 0 ≤ n) (h1 : n < b) (w : World) : Calls Try.prog 77 #[cfgV a b c, .int .i64 n] w fun e w' => e = .returned (.int .i64 (7 + 2 * a + n)) ∧ Below w.heap.size w w' := by
  have hle := okC_le hok
  have e0 : wrap64 (2 * a) = 2 * a := by unfold wrap64; omega
  have e1 : wrap64 (3 + 2 * a) = 3 + 2 * a := by unfold wrap64; omega
  have e2 : wrap64 (3 + 2 * a + 4) = 7 + 2 * a := by unfold wrap64; omega
  have HB := Aside0.mk (Below.refl w.heap.size w)
  have HLE := Aside0.mk hle
  have H01 := Aside0.mk (And.intro h0 h1)
  clear hle h0 h1
  go_enter Try.func77, Try.ntmps77
  go_wp2_with (first | ((with_reducible refine gate_dst (N := 2) rfl ?_); refine box_event rfl (N := 2) rfl (cs := #[.int .i64 a, .int .i64 b, .int .i64 c]) (t := 29) (by first | (go_simp; done) | (go_simp; rfl)) ?_; intro gc hggc w1 hbox hb; have n0_ := Aside0.mk (below_step HB.out hb); have BKgc := Aside0.mk hbox; have HGgc := Aside0.mk (show w.heap.size ≤ gc by rw [hggc]; exact HB.out.size); clear HB; have HB := n0_; have fc0 : w1.cell? ⟨gc, 0, none⟩ = some (.int .i64 a) := (blk_cell BKgc.out 0).trans rfl; have fc1 : w1.cell? ⟨gc, 1, none⟩ = some (.int .i64 b) := (blk_cell BKgc.out 1).trans rfl; have fc2 : w1.cell? ⟨gc, 2, none⟩ = some (.int .i64 c) := (blk_cell BKgc.out 2).trans rfl; have zc0 := blk_frozen BKgc.out 0; have zc1 := blk_frozen BKgc.out 1; have zc2 := blk_frozen BKgc.out 2; clear n0_ hbox hb hggc))
  (try simp only [i64_w])
  (try simp only [e0, e1, e2])
  refine (at_calls a b c (7 + 2 * a) n (b) hok H01.out.1 H01.out.2 (by have := HLE.out; omega) (by have := HLE.out; have := H01.out; omega) _).mono ?_
  rintro e w2 ⟨rfl, hb⟩
  have HB2 := Aside0.mk (below_step HB.out hb)
  go_wp2
  go_ret
  exact ⟨rfl, HB2.out⟩
set_option maxRecDepth 100000 in
theorem tag_calls (a b c n : Int) (hok : okC a b c = true) (h0 : 0 ≤ n) (h1 : n < b * 8) (w : World) : Calls Try.prog 78 #[cfgV a b c, .int .i64 n] w fun e w' => e = .returned (.int .i64 (7 + 2 * a + b + n)) ∧ Below w.heap.size w w' := by
  have hle := okC_le hok
  have e0 : wrap64 (2 * a) = 2 * a := by unfold wrap64; omega
  have e1 : wrap64 (3 + 2 * a) = 3 + 2 * a := by unfold wrap64; omega
  have e2 : wrap64 (3 + 2 * a + 4) = 7 + 2 * a := by unfold wrap64; omega
  have e3 : wrap64 (7 + 2 * a + b) = 7 + 2 * a + b := by unfold wrap64; omega
  have e4 : wrap64 (b * 8) = b * 8 := by unfold wrap64; omega
  have HB := Aside0.mk (Below.refl w.heap.size w)
  have HLE := Aside0.mk hle
  have H01 := Aside0.mk (And.intro h0 h1)
  clear hle h0 h1
  go_enter Try.func78, Try.ntmps78
  go_wp2_with (first | ((with_reducible refine gate_dst (N := 2) rfl ?_); refine box_event rfl (N := 2) rfl (cs := #[.int .i64 a, .int .i64 b, .int .i64 c]) (t := 29) (by first | (go_simp; done) | (go_simp; rfl)) ?_; intro gc hggc w1 hbox hb; have n0_ := Aside0.mk (below_step HB.out hb); have BKgc := Aside0.mk hbox; have HGgc := Aside0.mk (show w.heap.size ≤ gc by rw [hggc]; exact HB.out.size); clear HB; have HB := n0_; have fc0 : w1.cell? ⟨gc, 0, none⟩ = some (.int .i64 a) := (blk_cell BKgc.out 0).trans rfl; have fc1 : w1.cell? ⟨gc, 1, none⟩ = some (.int .i64 b) := (blk_cell BKgc.out 1).trans rfl; have fc2 : w1.cell? ⟨gc, 2, none⟩ = some (.int .i64 c) := (blk_cell BKgc.out 2).trans rfl; have zc0 := blk_frozen BKgc.out 0; have zc1 := blk_frozen BKgc.out 1; have zc2 := blk_frozen BKgc.out 2; clear n0_ hbox hb hggc))
  (try simp only [i64_w])
  (try simp only [e0, e1, e2, e3, e4])
  refine (at_calls a b c (7 + 2 * a + b) n (b * 8) hok H01.out.1 H01.out.2 (by have := HLE.out; omega) (by have := HLE.out; have := H01.out; omega) _).mono ?_
  rintro e w2 ⟨rfl, hb⟩
  have HB2 := Aside0.mk (below_step HB.out hb)
  go_wp2
  go_ret
  exact ⟨rfl, HB2.out⟩
set_option maxRecDepth 100000 in
theorem link_calls (a b c n : Int) (hok : okC a b c = true) (h0 : 0 ≤ n) (h1 : n < b * 8) (w : World) : Calls Try.prog 80 #[cfgV a b c, .int .i64 n] w fun e w' => e = .returned (.int .i64 (7 + 2 * a + 9 * b + n)) ∧ Below w.heap.size w w' := by
  have hle := okC_le hok
  have e0 : wrap64 (2 * a) = 2 * a := by unfold wrap64; omega
  have e1 : wrap64 (3 + 2 * a) = 3 + 2 * a := by unfold wrap64; omega
  have e2 : wrap64 (3 + 2 * a + 4) = 7 + 2 * a := by unfold wrap64; omega
  have e3 : wrap64 (7 + 2 * a + b) = 7 + 2 * a + b := by unfold wrap64; omega
  have e4 : wrap64 (8 * b) = 8 * b := by unfold wrap64; omega
  have e5 : wrap64 (7 + 2 * a + b + 8 * b) = 7 + 2 * a + 9 * b := by unfold wrap64; omega
  have e6 : wrap64 (b * 8) = b * 8 := by unfold wrap64; omega
  have HB := Aside0.mk (Below.refl w.heap.size w)
  have HLE := Aside0.mk hle
  have H01 := Aside0.mk (And.intro h0 h1)
  clear hle h0 h1
  go_enter Try.func80, Try.ntmps80
  go_wp2_with (first | ((with_reducible refine gate_dst (N := 2) rfl ?_); refine box_event rfl (N := 2) rfl (cs := #[.int .i64 a, .int .i64 b, .int .i64 c]) (t := 29) (by first | (go_simp; done) | (go_simp; rfl)) ?_; intro gc hggc w1 hbox hb; have n0_ := Aside0.mk (below_step HB.out hb); have BKgc := Aside0.mk hbox; have HGgc := Aside0.mk (show w.heap.size ≤ gc by rw [hggc]; exact HB.out.size); clear HB; have HB := n0_; have fc0 : w1.cell? ⟨gc, 0, none⟩ = some (.int .i64 a) := (blk_cell BKgc.out 0).trans rfl; have fc1 : w1.cell? ⟨gc, 1, none⟩ = some (.int .i64 b) := (blk_cell BKgc.out 1).trans rfl; have fc2 : w1.cell? ⟨gc, 2, none⟩ = some (.int .i64 c) := (blk_cell BKgc.out 2).trans rfl; have zc0 := blk_frozen BKgc.out 0; have zc1 := blk_frozen BKgc.out 1; have zc2 := blk_frozen BKgc.out 2; clear n0_ hbox hb hggc))
  (try simp only [i64_w])
  (try simp only [e0, e1, e2, e3, e4, e5, e6])
  refine (at_calls a b c (7 + 2 * a + 9 * b) n (b * 8) hok H01.out.1 H01.out.2 (by have := HLE.out; omega) (by have := HLE.out; have := H01.out; omega) _).mono ?_
  rintro e w2 ⟨rfl, hb⟩
  have HB2 := Aside0.mk (below_step HB.out hb)
  go_wp2
  go_ret
  exact ⟨rfl, HB2.out⟩


/-- n sets in a row, the i-th at f i. -/
def setN (f : Nat → Nat) (g : Nat → Int) : Nat → List Int → List Int
  | 0, v => v
  | n + 1, v => (setN f g n v).set (f n) (g n)
theorem setN_len (f : Nat → Nat) (g : Nat → Int) : ∀ n v, (setN f g n v).length = v.length
  | 0, v => rfl
  | n + 1, v => by rw [setN, List.length_set, setN_len f g n v]
theorem setN_get (o : Nat) (g : Nat → Int) : ∀ n v j, o + n ≤ v.length → (setN (fun i => o + i) g n v)[j]? = if o ≤ j ∧ j < o + n then some (g (j - o)) else v[j]?
  | 0, v, j, h => by rw [if_neg (by omega)]; rfl
  | n + 1, v, j, h => by
    rw [setN, List.getElem?_set, setN_get o g n v j (by omega)]
    by_cases e : o + n = j
    · subst e
      rw [if_pos rfl, if_pos (by rw [setN_len]; omega), if_pos (by omega)]
      congr 2
      omega
    · rw [if_neg e]
      by_cases q : o ≤ j ∧ j < o + n
      · rw [if_pos q, if_pos (by omega)]
      · rw [if_neg q, if_neg (by omega)]
/-- A row laid over another from o on. -/
theorem setN_splice (o : Nat) (l v : List Int) (h : o + l.length ≤ v.length) : setN (fun i => o + i) (fun i => l.getD i 0) l.length v = v.take o ++ l ++ v.drop (o + l.length) := by
  apply List.ext_getElem?
  intro j
  rw [setN_get o _ _ _ _ h]
  by_cases h1 : j < o
  · rw [if_neg (by omega), List.append_assoc, List.getElem?_append_left (by simp; omega), List.getElem?_take, if_pos h1]
  · by_cases h2 : j < o + l.length
    · rw [if_pos (by omega), List.append_assoc, List.getElem?_append_right (by simp; omega), List.getElem?_append_left (by simp; omega)]
      have : j - (List.take o v).length = j - o := by simp; omega
      rw [this]
      have hl : j - o < l.length := by omega
      simp [List.getD, hl]
    · rw [if_neg (by omega), List.getElem?_append_right (by simp; omega), List.getElem?_drop]
      congr 1
      simp
      omega
def regV (I E : List Int) (i : Nat) : Int := wrap64 (I.getD i 0 + wrap64 (4 * E.getD i 0))
def chainAt (hd lk : Nat) (l : List Int) : Nat → Nat
  | 0 => hd
  | i + 1 => lk + (l.getD i 0).toNat
def layK (a b : Nat) (L : Nat → List Int) (k : Nat) (v : List Int) : List Int := setN (chainAt (3 + 2 * a + k) (7 + 2 * a + 9 * b) (L (k + 1))) (fun i => wrap64 ((L (k + 1)).getD i 0 + 1)) (L (k + 1)).length v
def layH (a b : Nat) (L : Nat → List Int) : Nat → List Int → List Int
  | 0, v => v
  | k + 1, v => layK a b L k (layH a b L k v)
/-- The words of a house. -/
def layV (a b : Nat) (L : Nat → List Int) : List Int :=
  layH a b L 4 (setN (fun u => 7 + 2 * a + b + u) (fun u => (L 5).getD u 0) (L 5).length (setN (fun p => 7 + 2 * a + p) (fun p => (L 0).getD p 0) (L 0).length (setN (fun i => 3 + i) (regV (L 6) (L 7)) a (List.replicate (7 + 2 * a + 17 * b) 0))))
theorem chainAt_lt (a b : Nat) (L : Nat → List Int) (k i : Nat) (hk : k < 4) (h : ∀ j, j < i → 0 ≤ (L (k + 1)).getD j 0 ∧ (L (k + 1)).getD j 0 < 8 * (b : Int)) : chainAt (3 + 2 * a + k) (7 + 2 * a + 9 * b) (L (k + 1)) i < 7 + 2 * a + 17 * b := by
  cases i with
  | zero => simp only [chainAt]; omega
  | succ j => simp only [chainAt]; have := h j (by omega); omega
theorem layK_len (a b : Nat) (L : Nat → List Int) (k : Nat) (v : List Int) : (layK a b L k v).length = v.length := setN_len _ _ _ _
theorem layH_len (a b : Nat) (L : Nat → List Int) : ∀ k v, (layH a b L k v).length = v.length
  | 0, v => rfl
  | k + 1, v => by rw [layH, layK_len, layH_len a b L k v]
theorem layV_len (a b : Nat) (L : Nat → List Int) : (layV a b L).length = 7 + 2 * a + 17 * b := by
  unfold layV
  rw [layH_len, setN_len, setN_len, setN_len, List.length_replicate]


def FitP (a b d s : Int) (L : Nat → List Int) : Prop := okC a b d = true ∧ BookP s L ∧ s = a ∧ ((L 0).length : Int) = b
set_option maxHeartbeats 2000000 in
set_option maxRecDepth 100000 in
theorem l4Fit_calls (a b d s : Int) (A : Nat → Option Addr) (c : Nat → Nat) (L : Nat → List Int) (w : World) (h : BkC w A c L) (hl : ∀ i, (L i).length ≤ 35184372088832) (hw : Wf64 (L 0)) :
    Calls Try.prog 60 #[cfgV a b d, .agg (bkCells s A c L)] w (RetB (FitP a b d s L) w) := by
  have HR := Aside0.mk h
  have HL := Aside0.mk hl
  have HW := Aside0.mk hw
  clear h hl hw
  have HB := Aside0.mk (Below.refl w.heap.size w)
  go_enter Try.func60, Try.ntmps60
  go_wp2_with (first | ((with_reducible refine gate_dst (N := 2) rfl ?_); refine box_event rfl (N := 2) rfl (cs := #[.int .i64 a, .int .i64 b, .int .i64 d]) (t := 29) (by first | (go_simp; done) | (go_simp; rfl)) ?_; intro gc hggc w1 hbox hb; have n0_ := Aside0.mk (below_step HB.out hb); have BKgc := Aside0.mk hbox; have HGgc := Aside0.mk (show w.heap.size ≤ gc by rw [hggc]; exact HB.out.size); clear HB; have HB := n0_; have fc0 : w1.cell? ⟨gc, 0, none⟩ = some (.int .i64 a) := (blk_cell BKgc.out 0).trans rfl; have fc1 : w1.cell? ⟨gc, 1, none⟩ = some (.int .i64 b) := (blk_cell BKgc.out 1).trans rfl; have fc2 : w1.cell? ⟨gc, 2, none⟩ = some (.int .i64 d) := (blk_cell BKgc.out 2).trans rfl; have zc0 := blk_frozen BKgc.out 0; have zc1 := blk_frozen BKgc.out 1; have zc2 := blk_frozen BKgc.out 2; clear n0_ hbox hb hggc) | ((with_reducible refine gate_dst (N := 3) rfl ?_); refine box_event rfl (N := 3) rfl (cs := bkCells s A c L) (t := 27) (by first | (go_simp; done) | (go_simp; rfl)) ?_; intro gb hggb w2 hbox hb; have n0_ := Aside0.mk (below_step HB.out hb); have BKgb := Aside0.mk hbox; have HGgb := Aside0.mk (show w.heap.size ≤ gb by rw [hggb]; exact HB.out.size); clear HB; have HB := n0_; have BKgcn := Aside0.mk (blk_below BKgc.out hb); clear BKgc fc0 fc1 fc2 zc0 zc1 zc2; have BKgc := BKgcn; clear BKgcn; have fc0 : w2.cell? ⟨gc, 0, none⟩ = some (.int .i64 a) := (blk_cell BKgc.out 0).trans rfl; have fc1 : w2.cell? ⟨gc, 1, none⟩ = some (.int .i64 b) := (blk_cell BKgc.out 1).trans rfl; have fc2 : w2.cell? ⟨gc, 2, none⟩ = some (.int .i64 d) := (blk_cell BKgc.out 2).trans rfl; have zc0 := blk_frozen BKgc.out 0; have zc1 := blk_frozen BKgc.out 1; have zc2 := blk_frozen BKgc.out 2; have fgbs0 : w2.cell? ⟨gb, 0, none⟩ = some (.int .i64 _) := (blk_cell BKgb.out 0).trans rfl; have fgb1 : w2.cell? ⟨gb, 1, none⟩ = some (.slice (A 0) (L 0).length (c 0)) := (blk_cell BKgb.out 1).trans rfl; have fgb2 : w2.cell? ⟨gb, 2, none⟩ = some (.slice (A 1) (L 1).length (c 1)) := (blk_cell BKgb.out 2).trans rfl; have fgb3 : w2.cell? ⟨gb, 3, none⟩ = some (.slice (A 2) (L 2).length (c 2)) := (blk_cell BKgb.out 3).trans rfl; have fgb4 : w2.cell? ⟨gb, 4, none⟩ = some (.slice (A 3) (L 3).length (c 3)) := (blk_cell BKgb.out 4).trans rfl; have fgb5 : w2.cell? ⟨gb, 5, none⟩ = some (.slice (A 4) (L 4).length (c 4)) := (blk_cell BKgb.out 5).trans rfl; have fgb6 : w2.cell? ⟨gb, 6, none⟩ = some (.slice (A 5) (L 5).length (c 5)) := (blk_cell BKgb.out 6).trans rfl; have fgb7 : w2.cell? ⟨gb, 7, none⟩ = some (.slice (A 6) (L 6).length (c 6)) := (blk_cell BKgb.out 7).trans rfl; have fgb8 : w2.cell? ⟨gb, 8, none⟩ = some (.slice (A 7) (L 7).length (c 7)) := (blk_cell BKgb.out 8).trans rfl; have fgbz0 := blk_frozen BKgb.out 0; have fgbz1 := blk_frozen BKgb.out 1; have fgbz2 := blk_frozen BKgb.out 2; have fgbz3 := blk_frozen BKgb.out 3; have fgbz4 := blk_frozen BKgb.out 4; have fgbz5 := blk_frozen BKgb.out 5; have fgbz6 := blk_frozen BKgb.out 6; have fgbz7 := blk_frozen BKgb.out 7; have fgbz8 := blk_frozen BKgb.out 8; clear n0_ hbox hb hggb))
  refine (specOkC_calls a b d _).mono ?_
  rintro e w3 ⟨rfl, hb⟩
  clear fgbs0 fgbz0 fgb1 fgbz1 fgb2 fgbz2 fgb3 fgbz3 fgb4 fgbz4 fgb5 fgbz5 fgb6 fgbz6 fgb7 fgbz7 fgb8 fgbz8
  clear fc0 fc1 fc2 zc0 zc1 zc2
  cases hok : okC a b d with
  | false =>
    have HN : Aside0 (¬ FitP a b d s L) := ⟨fun q => by have := q.1; rw [hok] at this; cases this⟩
    have HBn := Aside0.mk (below_step HB.out hb)
    go_wp2
    go_ret
    exact ⟨false, rfl, ⟨(fun q => by cases q), fun q => absurd q HN.out⟩, HBn.out⟩
  | true =>
    have HOK := Aside0.mk hok
    clear hok
    have HBn := Aside0.mk (below_step HB.out hb)
    have BKgbn := Aside0.mk (blk_below BKgb.out hb)
    have BKgcn := Aside0.mk (blk_below BKgc.out hb)
    clear HB BKgb BKgc hb
    have HB := HBn
    have BKgb := BKgbn
    have BKgc := BKgcn
    clear HBn BKgbn BKgcn
    have fgbs0 : w3.cell? ⟨gb, 0, none⟩ = some (.int .i64 _) := (blk_cell BKgb.out 0).trans rfl; have fgb1 : w3.cell? ⟨gb, 1, none⟩ = some (.slice (A 0) (L 0).length (c 0)) := (blk_cell BKgb.out 1).trans rfl; have fgb2 : w3.cell? ⟨gb, 2, none⟩ = some (.slice (A 1) (L 1).length (c 1)) := (blk_cell BKgb.out 2).trans rfl; have fgb3 : w3.cell? ⟨gb, 3, none⟩ = some (.slice (A 2) (L 2).length (c 2)) := (blk_cell BKgb.out 3).trans rfl; have fgb4 : w3.cell? ⟨gb, 4, none⟩ = some (.slice (A 3) (L 3).length (c 3)) := (blk_cell BKgb.out 4).trans rfl; have fgb5 : w3.cell? ⟨gb, 5, none⟩ = some (.slice (A 4) (L 4).length (c 4)) := (blk_cell BKgb.out 5).trans rfl; have fgb6 : w3.cell? ⟨gb, 6, none⟩ = some (.slice (A 5) (L 5).length (c 5)) := (blk_cell BKgb.out 6).trans rfl; have fgb7 : w3.cell? ⟨gb, 7, none⟩ = some (.slice (A 6) (L 6).length (c 6)) := (blk_cell BKgb.out 7).trans rfl; have fgb8 : w3.cell? ⟨gb, 8, none⟩ = some (.slice (A 7) (L 7).length (c 7)) := (blk_cell BKgb.out 8).trans rfl; have fgbz0 := blk_frozen BKgb.out 0; have fgbz1 := blk_frozen BKgb.out 1; have fgbz2 := blk_frozen BKgb.out 2; have fgbz3 := blk_frozen BKgb.out 3; have fgbz4 := blk_frozen BKgb.out 4; have fgbz5 := blk_frozen BKgb.out 5; have fgbz6 := blk_frozen BKgb.out 6; have fgbz7 := blk_frozen BKgb.out 7; have fgbz8 := blk_frozen BKgb.out 8
    have fc0 : w3.cell? ⟨gc, 0, none⟩ = some (.int .i64 a) := (blk_cell BKgc.out 0).trans rfl
    have fc1 : w3.cell? ⟨gc, 1, none⟩ = some (.int .i64 b) := (blk_cell BKgc.out 1).trans rfl
    have fc2 : w3.cell? ⟨gc, 2, none⟩ = some (.int .i64 d) := (blk_cell BKgc.out 2).trans rfl
    have zc0 := blk_frozen BKgc.out 0
    have zc1 := blk_frozen BKgc.out 1
    have zc2 := blk_frozen BKgc.out 2
    go_wp2_with fail
    refine (specBookOk_calls s A c L _ (HR.out.below HB.out) HL.out HW.out).mono ?_
    rintro e w4 ⟨r, rfl, hr, hb⟩
    clear fgbs0 fgbz0 fgb1 fgbz1 fgb2 fgbz2 fgb3 fgbz3 fgb4 fgbz4 fgb5 fgbz5 fgb6 fgbz6 fgb7 fgbz7 fgb8 fgbz8
    clear fc0 fc1 fc2 zc0 zc1 zc2
    have HRR := Aside0.mk hr
    clear hr
    have HBn := Aside0.mk (below_step HB.out hb)
    have BKgbn := Aside0.mk (blk_below BKgb.out hb)
    have BKgcn := Aside0.mk (blk_below BKgc.out hb)
    clear HB BKgb BKgc hb
    have HB := HBn
    have BKgb := BKgbn
    have BKgc := BKgcn
    clear HBn BKgbn BKgcn
    have fgbs0 : w4.cell? ⟨gb, 0, none⟩ = some (.int .i64 _) := (blk_cell BKgb.out 0).trans rfl; have fgb1 : w4.cell? ⟨gb, 1, none⟩ = some (.slice (A 0) (L 0).length (c 0)) := (blk_cell BKgb.out 1).trans rfl; have fgb2 : w4.cell? ⟨gb, 2, none⟩ = some (.slice (A 1) (L 1).length (c 1)) := (blk_cell BKgb.out 2).trans rfl; have fgb3 : w4.cell? ⟨gb, 3, none⟩ = some (.slice (A 2) (L 2).length (c 2)) := (blk_cell BKgb.out 3).trans rfl; have fgb4 : w4.cell? ⟨gb, 4, none⟩ = some (.slice (A 3) (L 3).length (c 3)) := (blk_cell BKgb.out 4).trans rfl; have fgb5 : w4.cell? ⟨gb, 5, none⟩ = some (.slice (A 4) (L 4).length (c 4)) := (blk_cell BKgb.out 5).trans rfl; have fgb6 : w4.cell? ⟨gb, 6, none⟩ = some (.slice (A 5) (L 5).length (c 5)) := (blk_cell BKgb.out 6).trans rfl; have fgb7 : w4.cell? ⟨gb, 7, none⟩ = some (.slice (A 6) (L 6).length (c 6)) := (blk_cell BKgb.out 7).trans rfl; have fgb8 : w4.cell? ⟨gb, 8, none⟩ = some (.slice (A 7) (L 7).length (c 7)) := (blk_cell BKgb.out 8).trans rfl; have fgbz0 := blk_frozen BKgb.out 0; have fgbz1 := blk_frozen BKgb.out 1; have fgbz2 := blk_frozen BKgb.out 2; have fgbz3 := blk_frozen BKgb.out 3; have fgbz4 := blk_frozen BKgb.out 4; have fgbz5 := blk_frozen BKgb.out 5; have fgbz6 := blk_frozen BKgb.out 6; have fgbz7 := blk_frozen BKgb.out 7; have fgbz8 := blk_frozen BKgb.out 8
    have fc0 : w4.cell? ⟨gc, 0, none⟩ = some (.int .i64 a) := (blk_cell BKgc.out 0).trans rfl
    have fc1 : w4.cell? ⟨gc, 1, none⟩ = some (.int .i64 b) := (blk_cell BKgc.out 1).trans rfl
    have fc2 : w4.cell? ⟨gc, 2, none⟩ = some (.int .i64 d) := (blk_cell BKgc.out 2).trans rfl
    have zc0 := blk_frozen BKgc.out 0
    have zc1 := blk_frozen BKgc.out 1
    have zc2 := blk_frozen BKgc.out 2
    cases r with
    | false =>
      have HN : Aside0 (¬ FitP a b d s L) := ⟨fun q => by have := HRR.out.mpr q.2.1; cases this⟩
      go_wp2
      go_ret
      exact ⟨false, rfl, ⟨(fun q => by cases q), fun q => absurd q HN.out⟩, HB.out⟩
    | true =>
      have HP : Aside0 (BookP s L) := ⟨HRR.out.mp rfl⟩
      clear HRR
      by_cases hs : s = a
      · have hd : (s == a) = true := by simp [hs]
        have HS := Aside0.mk hs
        by_cases hp : ((L 0).length : Int) = b
        · have hd2 : (((L 0).length : Int) == b) = true := by simp [hp]
          have HD2 := Aside0.mk hd2
          clear hd2
          have HPB := Aside0.mk hp
          clear hp hs
          have HY : Aside0 (FitP a b d s L) := ⟨⟨HOK.out, HP.out, HS.out, HPB.out⟩⟩
          go_wp2
          go_ret
          exact ⟨_, rfl, ⟨fun _ => HY.out, fun _ => HD2.out⟩, HB.out⟩
        · have hd2 : (((L 0).length : Int) == b) = false := by simp [hp]
          have HD2 := Aside0.mk hd2
          clear hd2
          have HN : Aside0 (¬ FitP a b d s L) := ⟨fun q => hp q.2.2.2⟩
          clear hs
          go_wp2
          go_ret
          exact ⟨_, rfl, ⟨(fun q => by rw [HD2.out] at q; cases q), fun q => absurd q HN.out⟩, HB.out⟩
      · have hd : (s == a) = false := by simp [hs]
        have HN : Aside0 (¬ FitP a b d s L) := ⟨fun q => hs q.2.2.1⟩
        go_wp2
        go_ret
        exact ⟨false, rfl, ⟨(fun q => by cases q), fun q => absurd q HN.out⟩, HB.out⟩


set_option maxHeartbeats 2000000 in
set_option maxRecDepth 100000 in
theorem l4Lay_calls (a b : Nat) (d s : Int) (A : Nat → Option Addr) (c : Nat → Nat) (L : Nat → List Int) (w : World) (h : BkC w A c L) (hok : okC a b d = true) (h0 : (L 0).length = b) (h5 : (L 5).length = 8 * b) (h6 : (L 6).length = a) (h7 : (L 7).length = a) (hin : ∀ k, k < 4 → ∀ i, i < (L (k + 1)).length → 0 ≤ (L (k + 1)).getD i 0 ∧ (L (k + 1)).getD i 0 < 8 * (b : Int)) :
    Calls Try.prog 61 #[cfgV a b d, .agg (bkCells s A c L)] w fun e w' => ∃ A' c', e = .returned (.slice A' (layV a b L).length c') ∧ SlO w' w.heap.size w'.heap.size A' c' (layV a b L) ∧ Below w.heap.size w w' := by
  have HR := Aside0.mk h
  have HOK := Aside0.mk hok
  have HIN := Aside0.mk hin
  have HLE := Aside0.mk (okC_le hok)
  have H0 := Aside0.mk h0
  have H5 := Aside0.mk h5
  have H6 := Aside0.mk h6
  have H7 := Aside0.mk h7
  clear h hok h0 h5 h6 h7 hin
  have HB := Aside0.mk (Below.refl w.heap.size w)
  go_enter Try.func61, Try.ntmps61
  go_wp2_with (first | ((with_reducible refine gate_dst (N := 2) rfl ?_); refine box_event rfl (N := 2) rfl (cs := #[.int .i64 a, .int .i64 b, .int .i64 d]) (t := 29) (by first | (go_simp; done) | (go_simp; rfl)) ?_; intro gc hggc w1 hbox hb; have n0_ := Aside0.mk (below_step HB.out hb); have BKgc := Aside0.mk hbox; have HGgc := Aside0.mk (show w.heap.size ≤ gc by rw [hggc]; exact HB.out.size); clear HB; have HB := n0_; have fc0 : w1.cell? ⟨gc, 0, none⟩ = some (.int .i64 a) := (blk_cell BKgc.out 0).trans rfl; have fc1 : w1.cell? ⟨gc, 1, none⟩ = some (.int .i64 b) := (blk_cell BKgc.out 1).trans rfl; have fc2 : w1.cell? ⟨gc, 2, none⟩ = some (.int .i64 d) := (blk_cell BKgc.out 2).trans rfl; have zc0 := blk_frozen BKgc.out 0; have zc1 := blk_frozen BKgc.out 1; have zc2 := blk_frozen BKgc.out 2; clear n0_ hbox hb hggc) | ((with_reducible refine gate_dst (N := 3) rfl ?_); refine box_event rfl (N := 3) rfl (cs := bkCells s A c L) (t := 27) (by first | (go_simp; done) | (go_simp; rfl)) ?_; intro gb hggb w2 hbox hb; have n0_ := Aside0.mk (below_step HB.out hb); have BKgb := Aside0.mk hbox; have HGgb := Aside0.mk (show w.heap.size ≤ gb by rw [hggb]; exact HB.out.size); clear HB; have HB := n0_; have BKgcn := Aside0.mk (blk_below BKgc.out hb); clear BKgc fc0 fc1 fc2 zc0 zc1 zc2; have BKgc := BKgcn; clear BKgcn; have fc0 : w2.cell? ⟨gc, 0, none⟩ = some (.int .i64 a) := (blk_cell BKgc.out 0).trans rfl; have fc1 : w2.cell? ⟨gc, 1, none⟩ = some (.int .i64 b) := (blk_cell BKgc.out 1).trans rfl; have fc2 : w2.cell? ⟨gc, 2, none⟩ = some (.int .i64 d) := (blk_cell BKgc.out 2).trans rfl; have zc0 := blk_frozen BKgc.out 0; have zc1 := blk_frozen BKgc.out 1; have zc2 := blk_frozen BKgc.out 2; clear n0_ hbox hb hggb))
  refine (house_calls a b d HLE.out.1 HLE.out.2 _).mono ?_
  rintro e w3 ⟨rfl, hb⟩
  clear fc0 fc1 fc2 zc0 zc1 zc2
  have HBn := Aside0.mk (below_step HB.out hb)
  have BKgbn := Aside0.mk (blk_below BKgb.out hb)
  have BKgcn := Aside0.mk (blk_below BKgc.out hb)
  clear HB BKgb BKgc hb
  have HB := HBn
  have BKgb := BKgbn
  have BKgc := BKgcn
  clear HBn BKgbn BKgcn
  go_wp2_with (first | ((with_reducible refine gate_dst (N := 14) rfl ?_); refine Kd.R_make (Kd.int .i64) _ 3 rfl (N := 14) rfl 24 _ _ rfl (7 + 2 * (a : Int) + 17 * (b : Int)) rfl rfl Try.underlying24 (.int .i64 0) 8 info3 rfl (by decide) (by omega) 0 (ok := fun _ => True) (okp := fun _ => True) rfl (fun _ hk => hk) trivial (by omega) (by have := HLE.out; omega) (Below.refl _ _) (Nat.le_refl _) ?_; intro v1 w4 ho hb hg_ hnew_; clear hg_ hnew_; have HO := Aside0.mk (Kd.R_lower ho HB.out.size); have HBn := Aside0.mk (below_step HB.out hb); have BKgbn := Aside0.mk (blk_below BKgb.out hb); have BKgcn := Aside0.mk (blk_below BKgc.out hb); clear HB BKgb BKgc ho hb; have HB := HBn; have BKgb := BKgbn; have BKgc := BKgcn; clear HBn BKgbn BKgcn))
  obtain ⟨go, co, eo, hgo, gl, cl⟩ := Kd.R_form HO.out (by rw [List.length_replicate]; have := HLE.out; omega)
  subst eo
  have HGo := Aside0.mk hgo
  obtain ⟨v0, hv0⟩ : ∃ v0 : List Int, List.replicate (7 + 2 * (a : Int) + 17 * (b : Int)).toNat (0 : Int) = v0 := ⟨_, rfl⟩
  have HV0 := Aside0.mk hv0
  rw [hv0] at HO ⊢
  have HN : Aside0 (v0.length = 7 + 2 * a + 17 * b) := ⟨by rw [← hv0, List.length_replicate]; omega⟩
  obtain ⟨N, hN⟩ : ∃ N, v0.length = N := ⟨_, rfl⟩
  rw [hN] at HO ⊢
  have HNN := Aside0.mk hN
  have NBO := Aside0.mk (show gb ≠ go from fun e => by obtain ⟨cs, hcs⟩ := cl; rw [← e, BKgb.out] at hcs; simp at hcs)
  have NCO := Aside0.mk (show gc ≠ go from fun e => by obtain ⟨cs, hcs⟩ := cl; rw [← e, BKgc.out] at hcs; simp at hcs)
  clear hgo gl cl hv0 hN
  go_loopg [6] (a + 1) (fun kq v6 w' => ∃ (k : Nat), k ≤ a ∧ kq = a + 1 - k ∧ v6 = .int .i64 k ∧ Aside0 (w'.heap[gc]? = some (.cells #[.int .i64 a, .int .i64 b, .int .i64 d] 29 (0, 0))) ∧ Aside0 (w'.heap[gb]? = some (.cells (bkCells s A c L) 27 (0, 0))) ∧ Aside0 (Kd.R (Kd.int .i64) 3 w' w.heap.size (fun _ => True) (.slice (some ⟨go, 0, none⟩) N co) (setN (fun i => 3 + i) (regV (L 6) (L 7)) k v0)) ∧ Aside0 (Below w.heap.size w w'))
  case atStart => exact ⟨0, by omega, by omega, rfl, BKgc, BKgb, HO, HB⟩
  case round =>
    clear HB BKgc BKgb HO
    obtain ⟨k, hk, rfl, rfl, BKgc, BKgb, HO, HB⟩ := hrel
    have fc0 : wr.cell? ⟨gc, 0, none⟩ = some (.int .i64 a) := (blk_cell BKgc.out 0).trans rfl
    have fc1 : wr.cell? ⟨gc, 1, none⟩ = some (.int .i64 b) := (blk_cell BKgc.out 1).trans rfl
    have fc2 : wr.cell? ⟨gc, 2, none⟩ = some (.int .i64 d) := (blk_cell BKgc.out 2).trans rfl
    have zc0 := blk_frozen BKgc.out 0
    have zc1 := blk_frozen BKgc.out 1
    have zc2 := blk_frozen BKgc.out 2
    by_cases hlt : k < a
    · have hi : (k : Int) < (a : Int) := by omega
      have hi6 : (k : Int) < ((L 6).length : Int) := by have := H6.out; omega
      have hi7 : (k : Int) < ((L 7).length : Int) := by have := H7.out; omega
      obtain ⟨ad6, e6, hc6⟩ := at_nat ((HR.out 6 (by omega)).below HB.out) k (by have := H6.out; omega)
      obtain ⟨ad7, e7, hc7⟩ := at_nat ((HR.out 7 (by omega)).below HB.out) k (by have := H7.out; omega)
      have f7 : wr.cell? ⟨gb, 7, none⟩ = some (.slice (some ad6) (L 6).length (c 6)) := (blk_cell BKgb.out 7).trans (by rw [← e6]; rfl)
      have f8 : wr.cell? ⟨gb, 8, none⟩ = some (.slice (some ad7) (L 7).length (c 7)) := (blk_cell BKgb.out 8).trans (by rw [← e7]; rfl)
      obtain ⟨p, hp⟩ : ∃ p, (L 6).getD k 0 = p := ⟨_, rfl⟩
      obtain ⟨q, hq⟩ : ∃ q, (L 7).getD k 0 = q := ⟨_, rfl⟩
      rw [hp] at hc6
      rw [hq] at hc7
      have HPQ := Aside0.mk (And.intro hp hq)
      clear hp hq e6 e7
      have hN1 : (3 : Int) + (k : Int) < (N : Int) := by have := HN.out; have := HNN.out; omega
      have hN0 : (0 : Int) ≤ 3 + (k : Int) := by omega
      have hNt : ((3 : Int) + (k : Int)).toNat = 3 + k := by omega
      go_wp2_with fail
      refine start_ (n := 18) (S := fun w' => w'.cell? ⟨gc, 0, none⟩ = some (.int .i64 a) ∧ w'.cell? ⟨gc, 1, none⟩ = some (.int .i64 b) ∧ w'.cell? ⟨gc, 2, none⟩ = some (.int .i64 d) ∧ w'.cell? ⟨gb, 7, none⟩ = some (.slice (some ad6) (L 6).length (c 6)) ∧ w'.cell? ⟨gb, 8, none⟩ = some (.slice (some ad7) (L 7).length (c 7)) ∧ w'.cell? (ad6.add k) = some (.int .i64 p) ∧ w'.cell? (ad7.add k) = some (.int .i64 q)) (ds := [17]) #[false, false, false, false, false, false, false, false, false, false, false, false, false, false, false, false, false, false] (by kernel_rfl) rfl rfl (⟨fc0, fc1, fc2, f7, f8, hc6, hc7⟩) (fun hHeld => ?_)
      refine pure_ (i := 0) (N := some 21) (v := ?_) (a' := ?_) #[true, false, false, false, false, false, false, false, false, false, false, false, false, false, false, false, false, false] rfl rfl (by kernel_rfl) (fun _ _ _ h => h) (Or.inl ⟨by rfl, ?_⟩) ?_ ?_
      rotate_left
      · intro w'
        go_simp
        with_reducible rfl
      rotate_left
      · simp only [Act.put, List.setIfInBounds_toArray, List.set_cons_zero, List.set_cons_succ, i64_w, i32_w]
        rfl
      refine pure_ (i := 2) (N := some 23) (v := ?_) (a' := ?_) #[true, false, true, false, false, false, false, false, false, false, false, false, false, false, false, false, false, false] rfl rfl (by kernel_rfl) (fun _ _ _ h => h) (Or.inl ⟨by rfl, ?_⟩) ?_ ?_
      rotate_left
      · intro w'
        go_simp
        with_reducible rfl
      rotate_left
      · simp only [Act.put, List.setIfInBounds_toArray, List.set_cons_zero, List.set_cons_succ, i64_w, i32_w]
        rfl
      refine pure_ (i := 4) (N := some 25) (v := ?_) (a' := ?_) #[true, false, true, false, true, false, false, false, false, false, false, false, false, false, false, false, false, false] rfl rfl (by kernel_rfl) (fun _ _ _ h => h) (Or.inl ⟨by rfl, ?_⟩) ?_ ?_
      rotate_left
      · intro w'
        go_simp
        with_reducible rfl
      rotate_left
      · simp only [Act.put, List.setIfInBounds_toArray, List.set_cons_zero, List.set_cons_succ, i64_w, i32_w]
        rfl
      refine pure_ (i := 6) (N := some 27) (v := ?_) (a' := ?_) #[true, false, true, false, true, false, true, false, false, false, false, false, false, false, false, false, false, false] rfl rfl (by kernel_rfl) (fun _ _ _ h => h) (Or.inl ⟨by rfl, ?_⟩) ?_ ?_
      rotate_left
      · intro w'
        go_simp
        with_reducible rfl
      rotate_left
      · simp only [Act.put, List.setIfInBounds_toArray, List.set_cons_zero, List.set_cons_succ, i64_w, i32_w]
        rfl
      refine pure_ (i := 9) (N := some 30) (v := ?_) (a' := ?_) #[true, false, true, false, true, false, true, false, false, true, false, false, false, false, false, false, false, false] rfl rfl (by kernel_rfl) (fun _ _ _ h => h) (Or.inl ⟨by rfl, ?_⟩) ?_ ?_
      rotate_left
      · intro w'
        go_simp
        with_reducible rfl
      rotate_left
      · simp only [Act.put, List.setIfInBounds_toArray, List.set_cons_zero, List.set_cons_succ, i64_w, i32_w]
        rfl
      refine pure_ (i := 11) (N := some 32) (v := ?_) (a' := ?_) #[true, false, true, false, true, false, true, false, false, true, false, true, false, false, false, false, false, false] rfl rfl (by kernel_rfl) (fun _ _ _ h => h) (Or.inl ⟨by rfl, ?_⟩) ?_ ?_
      rotate_left
      · intro w'
        go_simp
        with_reducible rfl
      rotate_left
      · simp only [Act.put, List.setIfInBounds_toArray, List.set_cons_zero, List.set_cons_succ, i64_w, i32_w]
        rfl
      refine take_ (i := 1) (N := some 22) (v := ?_) (a' := ?_) #[true, true, true, false, true, false, true, false, false, true, false, true, false, false, false, false, false, false] rfl rfl (by kernel_rfl) (fun _ _ _ h => h) (Or.inl ⟨by rfl, ?_⟩) hHeld ?_ ?_
      rotate_left
      · rintro w' ⟨s0, s1, s2, s3, s4, s5, s6⟩
        go_simp
        with_reducible rfl
      rotate_left
      · simp only [Act.put, List.setIfInBounds_toArray, List.set_cons_zero, List.set_cons_succ, i64_w, i32_w]
        rfl
      refine take_ (i := 5) (N := some 26) (v := ?_) (a' := ?_) #[true, true, true, false, true, true, true, false, false, true, false, true, false, false, false, false, false, false] rfl rfl (by kernel_rfl) (fun _ _ _ h => h) (Or.inl ⟨by rfl, ?_⟩) hHeld ?_ ?_
      rotate_left
      · rintro w' ⟨s0, s1, s2, s3, s4, s5, s6⟩
        go_simp
        with_reducible rfl
      rotate_left
      · simp only [Act.put, List.setIfInBounds_toArray, List.set_cons_zero, List.set_cons_succ, i64_w, i32_w]
        rfl
      refine take_ (i := 10) (N := some 31) (v := ?_) (a' := ?_) #[true, true, true, false, true, true, true, false, false, true, true, true, false, false, false, false, false, false] rfl rfl (by kernel_rfl) (fun _ _ _ h => h) (Or.inl ⟨by rfl, ?_⟩) hHeld ?_ ?_
      rotate_left
      · rintro w' ⟨s0, s1, s2, s3, s4, s5, s6⟩
        go_simp
        with_reducible rfl
      rotate_left
      · simp only [Act.put, List.setIfInBounds_toArray, List.set_cons_zero, List.set_cons_succ, i64_w, i32_w]
        rfl
      refine pure_ (i := 7) (N := some 28) (v := ?_) (a' := ?_) #[true, true, true, false, true, true, true, true, false, true, true, true, false, false, false, false, false, false] rfl rfl (by kernel_rfl) (fun _ _ _ h => h) (Or.inl ⟨by rfl, ?_⟩) ?_ ?_
      rotate_left
      · intro w'
        go_simp
        with_reducible rfl
      rotate_left
      · simp only [Act.put, List.setIfInBounds_toArray, List.set_cons_zero, List.set_cons_succ, i64_w, i32_w]
        rfl
      refine pure_ (i := 12) (N := some 33) (v := ?_) (a' := ?_) #[true, true, true, false, true, true, true, true, false, true, true, true, true, false, false, false, false, false] rfl rfl (by kernel_rfl) (fun _ _ _ h => h) (Or.inl ⟨by rfl, ?_⟩) ?_ ?_
      rotate_left
      · intro w'
        go_simp
        with_reducible rfl
      rotate_left
      · simp only [Act.put, List.setIfInBounds_toArray, List.set_cons_zero, List.set_cons_succ, i64_w, i32_w]
        rfl
      refine take_ (i := 8) (N := some 29) (v := ?_) (a' := ?_) #[true, true, true, false, true, true, true, true, true, true, true, true, true, false, false, false, false, false] rfl rfl (by kernel_rfl) (fun _ _ _ h => h) (Or.inl ⟨by rfl, ?_⟩) hHeld ?_ ?_
      rotate_left
      · rintro w' ⟨s0, s1, s2, s3, s4, s5, s6⟩
        go_simp
        with_reducible rfl
      rotate_left
      · simp only [Act.put, List.setIfInBounds_toArray, List.set_cons_zero, List.set_cons_succ, i64_w, i32_w]
        rfl
      refine take_ (i := 13) (N := some 34) (v := ?_) (a' := ?_) #[true, true, true, false, true, true, true, true, true, true, true, true, true, true, false, false, false, false] rfl rfl (by kernel_rfl) (fun _ _ _ h => h) (Or.inl ⟨by rfl, ?_⟩) hHeld ?_ ?_
      rotate_left
      · rintro w' ⟨s0, s1, s2, s3, s4, s5, s6⟩
        go_simp
        with_reducible rfl
      rotate_left
      · simp only [Act.put, List.setIfInBounds_toArray, List.set_cons_zero, List.set_cons_succ, i64_w, i32_w]
        rfl
      refine pure_ (i := 14) (N := some 35) (v := ?_) (a' := ?_) #[true, true, true, false, true, true, true, true, true, true, true, true, true, true, true, false, false, false] rfl rfl (by kernel_rfl) (fun _ _ _ h => h) (Or.inl ⟨by rfl, ?_⟩) ?_ ?_
      rotate_left
      · intro w'
        go_simp
        with_reducible rfl
      rotate_left
      · simp only [Act.put, List.setIfInBounds_toArray, List.set_cons_zero, List.set_cons_succ, i64_w, i32_w]
        rfl
      refine pure_ (i := 15) (N := some 36) (v := ?_) (a' := ?_) #[true, true, true, false, true, true, true, true, true, true, true, true, true, true, true, true, false, false] rfl rfl (by kernel_rfl) (fun _ _ _ h => h) (Or.inl ⟨by rfl, ?_⟩) ?_ ?_
      rotate_left
      · intro w'
        go_simp
        with_reducible rfl
      rotate_left
      · simp only [Act.put, List.setIfInBounds_toArray, List.set_cons_zero, List.set_cons_succ, i64_w, i32_w]
        rfl
      refine one_ (i := 3) (N := some 24) #[true, true, true, true, true, true, true, true, true, true, true, true, true, true, true, true, false, false] rfl rfl (by kernel_rfl) (by decide) (fun K hK => ?_)
      refine goes_ Try.func76 (by kernel_rfl) rfl #[cfgV a b d, .int .i64 k] (by rfl) rfl rfl (by (try simp only [List.map_toArray, List.map_cons, List.map_nil]); first | done | rfl) ?_
      refine (reg_calls a b d k HOK.out (by omega) hi _).mono ?_
      rintro e w5 ⟨rfl, hb⟩
      refine ⟨_, rfl, hK.out _ _ ⟨(hb.cell (World.block_lt_of_cell? _ _ hHeld.1)).trans hHeld.1, (hb.cell (World.block_lt_of_cell? _ _ hHeld.2.1)).trans hHeld.2.1, (hb.cell (World.block_lt_of_cell? _ _ hHeld.2.2.1)).trans hHeld.2.2.1, (hb.cell (World.block_lt_of_cell? _ _ hHeld.2.2.2.1)).trans hHeld.2.2.2.1, (hb.cell (World.block_lt_of_cell? _ _ hHeld.2.2.2.2.1)).trans hHeld.2.2.2.2.1, (hb.cell (World.block_lt_of_cell? _ _ hHeld.2.2.2.2.2.1)).trans hHeld.2.2.2.2.2.1, (hb.cell (World.block_lt_of_cell? _ _ hHeld.2.2.2.2.2.2)).trans hHeld.2.2.2.2.2.2⟩ (fun hHeld => ?_)⟩
      clear hK K
      refine norm_ (a' := ?_) ?_ ?_
      rotate_left
      · show Act.put _ (some 24) _ = _
        simp only [Act.put, List.setIfInBounds_toArray, List.set_cons_zero, List.set_cons_succ, i64_w, i32_w]
        rfl
      refine pure_ (i := 16) (N := some 37) (v := ?_) (a' := ?_) #[true, true, true, true, true, true, true, true, true, true, true, true, true, true, true, true, true, false] rfl rfl (by kernel_rfl) (fun _ _ _ h => h) (Or.inl ⟨by rfl, ?_⟩) ?_ ?_
      rotate_left
      · intro w'
        go_simp
        with_reducible rfl
      rotate_left
      · simp only [Act.put, List.setIfInBounds_toArray, List.set_cons_zero, List.set_cons_succ, i64_w, i32_w]
        rfl
      have hbd : Below wr.heap.size wr w5 := below_step (below_drew (Below.refl _ _)) hb
      have HO5 := Kd.R_below HO.out hbd
      obtain ⟨hx, hf⟩ := Kd.R_celln 0 HO5 ((3 + k : Nat) : Int) (by omega) (by omega)
      have HPT := Kd.R_putg HO5 ((3 + k : Nat) : Int) (wrap64 (p + wrap64 (4 * q)))
      rw [Int.toNat_natCast] at hx hf HPT
      refine last_ (i := 17) (N := none) #[true, true, true, true, true, true, true, true, true, true, true, true, true, true, true, true, true, true] rfl rfl (by kernel_rfl) (by decide) (fun K hK => ?_)
      refine skip_ (w1 := w5.setCell ⟨go, 3 + k, none⟩ (.int .i64 (wrap64 (p + wrap64 (4 * q))))) (by rfl) rfl (by first | (go_simp; done) | (go_simp; rfl)) ?_
      refine hK.out _ _ (done_ (by kernel_rfl) ?_)
      clear hK K
      have HOv := HPT.1
      have HBd := below_step HB.out hbd
      obtain ⟨w6, hw⟩ : ∃ w6, w5.setCell ⟨go, 3 + k, none⟩ (.int .i64 (wrap64 (p + wrap64 (4 * q)))) = w6 := ⟨_, rfl⟩
      have HB6 := Aside0.mk (show Below w.heap.size w w6 by rw [← hw]; exact below_set HBd HGo.out)
      have BKb6 := Aside0.mk (show w6.heap[gb]? = some (.cells (bkCells s A c L) 27 (0, 0)) by rw [← hw]; exact blk_far (blk_below BKgb.out hbd) NBO.out _)
      have BKc6 := Aside0.mk (show w6.heap[gc]? = some (.cells #[.int .i64 a, .int .i64 b, .int .i64 d] 29 (0, 0)) by rw [← hw]; exact blk_far (blk_below BKgc.out hbd) NCO.out _)
      have HO6 := Aside0.mk (show Kd.R (Kd.int .i64) 3 w6 w.heap.size (fun _ => True) (.slice (some ⟨go, 0, none⟩) N co) (setN (fun i => 3 + i) (regV (L 6) (L 7)) (k + 1) v0) by rw [← hw, setN, regV, HPQ.out.1, HPQ.out.2]; exact HOv)
      rw [hw]
      clear hN0 hNt HOv HPT HBd hbd HO5 hx hf hw hb hHeld f7 f8 hc6 hc7 HO HB BKgb BKgc fc0 fc1 fc2 zc0 zc1 zc2
      go_wp2
      go_roundg (a + 1 - (k + 1))
      case measure => omega
      case rel => exact ⟨k + 1, by omega, rfl, congrArg (Value.int .i64) (show _ = ((k + 1 : Nat) : Int) by have := HLE.out; unfold wrap64; omega), BKc6, BKb6, HO6, HB6⟩
    · have hka : a = k := by omega
      subst hka
      clear hlt
      go_wp2_with fail
      go_loopg [7] (b + 1) (fun kq v6 w' => ∃ (k : Nat), k ≤ b ∧ kq = b + 1 - k ∧ v6 = .int .i64 k ∧ Aside0 (w'.heap[gc]? = some (.cells #[.int .i64 a, .int .i64 b, .int .i64 d] 29 (0, 0))) ∧ Aside0 (w'.heap[gb]? = some (.cells (bkCells s A c L) 27 (0, 0))) ∧ Aside0 (Kd.R (Kd.int .i64) 3 w' w.heap.size (fun _ => True) (.slice (some ⟨go, 0, none⟩) N co) (setN (fun i => 7 + 2 * a + i) (fun i => (L 0).getD i 0) k (setN (fun i => 3 + i) (regV (L 6) (L 7)) a v0))) ∧ Aside0 (Below w.heap.size w w'))
      case atStart => exact ⟨0, by omega, by omega, rfl, BKgc, BKgb, HO, HB⟩
      case round =>
        clear HB BKgc BKgb HO
        obtain ⟨k, hk, rfl, rfl, BKgc, BKgb, HO, HB⟩ := hrel
        have fc0 : wr.cell? ⟨gc, 0, none⟩ = some (.int .i64 a) := (blk_cell BKgc.out 0).trans rfl
        have fc1 : wr.cell? ⟨gc, 1, none⟩ = some (.int .i64 b) := (blk_cell BKgc.out 1).trans rfl
        have fc2 : wr.cell? ⟨gc, 2, none⟩ = some (.int .i64 d) := (blk_cell BKgc.out 2).trans rfl
        have zc0 := blk_frozen BKgc.out 0
        have zc1 := blk_frozen BKgc.out 1
        have zc2 := blk_frozen BKgc.out 2
        by_cases hlt : k < b
        · have hi6 : (k : Int) < ((L 0).length : Int) := by have := H0.out; omega
          have hib : (k : Int) < (b : Int) := by have := H0.out; omega
          obtain ⟨ad, e6, hc6⟩ := at_nat ((HR.out 0 (by omega)).below HB.out) k (by omega)
          have f7 : wr.cell? ⟨gb, 1, none⟩ = some (.slice (some ad) (L 0).length (c 0)) := (blk_cell BKgb.out 1).trans (by rw [← e6]; rfl)
          obtain ⟨p, hp⟩ : ∃ p, (L 0).getD k 0 = p := ⟨_, rfl⟩
          rw [hp] at hc6
          have HPQ := Aside0.mk hp
          clear hp e6
          have hN1 : (7 + 2 * (a : Int)) + (k : Int) < (N : Int) := by have := HN.out; have := HNN.out; have := HLE.out; have := H0.out; omega
          have hN0 : (0 : Int) ≤ (7 + 2 * (a : Int)) + (k : Int) := by omega
          have hNt : ((7 + 2 * (a : Int)) + (k : Int)).toNat = 7 + 2 * a + k := by omega
          go_wp2_with fail
          refine start_ (n := 11) (S := fun w' => w'.cell? ⟨gc, 0, none⟩ = some (.int .i64 a) ∧ w'.cell? ⟨gc, 1, none⟩ = some (.int .i64 b) ∧ w'.cell? ⟨gc, 2, none⟩ = some (.int .i64 d) ∧ w'.cell? ⟨gb, 1, none⟩ = some (.slice (some ad) (L 0).length (c 0)) ∧ w'.cell? (ad.add k) = some (.int .i64 p)) (ds := [10]) #[false, false, false, false, false, false, false, false, false, false, false] (by kernel_rfl) rfl rfl (⟨fc0, fc1, fc2, f7, hc6⟩) (fun hHeld => ?_)
          refine pure_ (i := 0) (N := some 44) (v := ?_) (a' := ?_) #[true, false, false, false, false, false, false, false, false, false, false] rfl rfl (by kernel_rfl) (fun _ _ _ h => h) (Or.inl ⟨by rfl, ?_⟩) ?_ ?_
          rotate_left
          · intro w'
            go_simp
            with_reducible rfl
          rotate_left
          · simp only [Act.put, List.setIfInBounds_toArray, List.set_cons_zero, List.set_cons_succ, i64_w, i32_w]
            rfl
          refine pure_ (i := 2) (N := some 46) (v := ?_) (a' := ?_) #[true, false, true, false, false, false, false, false, false, false, false] rfl rfl (by kernel_rfl) (fun _ _ _ h => h) (Or.inl ⟨by rfl, ?_⟩) ?_ ?_
          rotate_left
          · intro w'
            go_simp
            with_reducible rfl
          rotate_left
          · simp only [Act.put, List.setIfInBounds_toArray, List.set_cons_zero, List.set_cons_succ, i64_w, i32_w]
            rfl
          refine pure_ (i := 4) (N := some 48) (v := ?_) (a' := ?_) #[true, false, true, false, true, false, false, false, false, false, false] rfl rfl (by kernel_rfl) (fun _ _ _ h => h) (Or.inl ⟨by rfl, ?_⟩) ?_ ?_
          rotate_left
          · intro w'
            go_simp
            with_reducible rfl
          rotate_left
          · simp only [Act.put, List.setIfInBounds_toArray, List.set_cons_zero, List.set_cons_succ, i64_w, i32_w]
            rfl
          refine pure_ (i := 6) (N := some 50) (v := ?_) (a' := ?_) #[true, false, true, false, true, false, true, false, false, false, false] rfl rfl (by kernel_rfl) (fun _ _ _ h => h) (Or.inl ⟨by rfl, ?_⟩) ?_ ?_
          rotate_left
          · intro w'
            go_simp
            with_reducible rfl
          rotate_left
          · simp only [Act.put, List.setIfInBounds_toArray, List.set_cons_zero, List.set_cons_succ, i64_w, i32_w]
            rfl
          refine take_ (i := 1) (N := some 45) (v := ?_) (a' := ?_) #[true, true, true, false, true, false, true, false, false, false, false] rfl rfl (by kernel_rfl) (fun _ _ _ h => h) (Or.inl ⟨by rfl, ?_⟩) hHeld ?_ ?_
          rotate_left
          · rintro w' ⟨s0, s1, s2, s3, s4⟩
            go_simp
            with_reducible rfl
          rotate_left
          · simp only [Act.put, List.setIfInBounds_toArray, List.set_cons_zero, List.set_cons_succ, i64_w, i32_w]
            rfl
          refine take_ (i := 5) (N := some 49) (v := ?_) (a' := ?_) #[true, true, true, false, true, true, true, false, false, false, false] rfl rfl (by kernel_rfl) (fun _ _ _ h => h) (Or.inl ⟨by rfl, ?_⟩) hHeld ?_ ?_
          rotate_left
          · rintro w' ⟨s0, s1, s2, s3, s4⟩
            go_simp
            with_reducible rfl
          rotate_left
          · simp only [Act.put, List.setIfInBounds_toArray, List.set_cons_zero, List.set_cons_succ, i64_w, i32_w]
            rfl
          refine pure_ (i := 7) (N := some 51) (v := ?_) (a' := ?_) #[true, true, true, false, true, true, true, true, false, false, false] rfl rfl (by kernel_rfl) (fun _ _ _ h => h) (Or.inl ⟨by rfl, ?_⟩) ?_ ?_
          rotate_left
          · intro w'
            go_simp
            with_reducible rfl
          rotate_left
          · simp only [Act.put, List.setIfInBounds_toArray, List.set_cons_zero, List.set_cons_succ, i64_w, i32_w]
            rfl
          refine take_ (i := 8) (N := some 52) (v := ?_) (a' := ?_) #[true, true, true, false, true, true, true, true, true, false, false] rfl rfl (by kernel_rfl) (fun _ _ _ h => h) (Or.inl ⟨by rfl, ?_⟩) hHeld ?_ ?_
          rotate_left
          · rintro w' ⟨s0, s1, s2, s3, s4⟩
            go_simp
            with_reducible rfl
          rotate_left
          · simp only [Act.put, List.setIfInBounds_toArray, List.set_cons_zero, List.set_cons_succ, i64_w, i32_w]
            rfl
          refine one_ (i := 3) (N := some 47) #[true, true, true, true, true, true, true, true, true, false, false] rfl rfl (by kernel_rfl) (by decide) (fun K hK => ?_)
          refine goes_ Try.func77 (by kernel_rfl) rfl #[cfgV a b d, .int .i64 k] (by rfl) rfl rfl (by (try simp only [List.map_toArray, List.map_cons, List.map_nil]); first | done | rfl) ?_
          refine (page_calls a b d k HOK.out (by omega) (by have := HLE.out; have := H0.out; omega) _).mono ?_
          rintro e w5 ⟨rfl, hb⟩
          refine ⟨_, rfl, hK.out _ _ ⟨(hb.cell (World.block_lt_of_cell? _ _ hHeld.1)).trans hHeld.1, (hb.cell (World.block_lt_of_cell? _ _ hHeld.2.1)).trans hHeld.2.1, (hb.cell (World.block_lt_of_cell? _ _ hHeld.2.2.1)).trans hHeld.2.2.1, (hb.cell (World.block_lt_of_cell? _ _ hHeld.2.2.2.1)).trans hHeld.2.2.2.1, (hb.cell (World.block_lt_of_cell? _ _ hHeld.2.2.2.2)).trans hHeld.2.2.2.2⟩ (fun hHeld => ?_)⟩
          clear hK K
          refine norm_ (a' := ?_) ?_ ?_
          rotate_left
          · show Act.put _ (some 47) _ = _
            simp only [Act.put, List.setIfInBounds_toArray, List.set_cons_zero, List.set_cons_succ, i64_w, i32_w]
            rfl
          refine pure_ (i := 9) (N := some 53) (v := ?_) (a' := ?_) #[true, true, true, true, true, true, true, true, true, true, false] rfl rfl (by kernel_rfl) (fun _ _ _ h => h) (Or.inl ⟨by rfl, ?_⟩) ?_ ?_
          rotate_left
          · intro w'
            go_simp
            with_reducible rfl
          rotate_left
          · simp only [Act.put, List.setIfInBounds_toArray, List.set_cons_zero, List.set_cons_succ, i64_w, i32_w]
            rfl
          have hbd : Below wr.heap.size wr w5 := below_step (below_drew (Below.refl _ _)) hb
          have HO5 := Kd.R_below HO.out hbd
          obtain ⟨hx, hf⟩ := Kd.R_celln 0 HO5 ((7 + 2 * a + k : Nat) : Int) (by omega) (by omega)
          have HPT := Kd.R_putg HO5 ((7 + 2 * a + k : Nat) : Int) p
          rw [Int.toNat_natCast] at hx hf HPT
          refine last_ (i := 10) (N := none) #[true, true, true, true, true, true, true, true, true, true, true] rfl rfl (by kernel_rfl) (by decide) (fun K hK => ?_)
          refine skip_ (w1 := w5.setCell ⟨go, 7 + 2 * a + k, none⟩ (.int .i64 p)) (by rfl) rfl (by first | (go_simp; done) | (go_simp; rfl)) ?_
          refine hK.out _ _ (done_ (by kernel_rfl) ?_)
          clear hK K
          have HOv := HPT.1
          have HBd := below_step HB.out hbd
          obtain ⟨w6, hw⟩ : ∃ w6, w5.setCell ⟨go, 7 + 2 * a + k, none⟩ (.int .i64 p) = w6 := ⟨_, rfl⟩
          have HB6 := Aside0.mk (show Below w.heap.size w w6 by rw [← hw]; exact below_set HBd HGo.out)
          have BKb6 := Aside0.mk (show w6.heap[gb]? = some (.cells (bkCells s A c L) 27 (0, 0)) by rw [← hw]; exact blk_far (blk_below BKgb.out hbd) NBO.out _)
          have BKc6 := Aside0.mk (show w6.heap[gc]? = some (.cells #[.int .i64 a, .int .i64 b, .int .i64 d] 29 (0, 0)) by rw [← hw]; exact blk_far (blk_below BKgc.out hbd) NCO.out _)
          have HO6 := Aside0.mk (show Kd.R (Kd.int .i64) 3 w6 w.heap.size (fun _ => True) (.slice (some ⟨go, 0, none⟩) N co) (setN (fun i => 7 + 2 * a + i) (fun i => (L 0).getD i 0) (k + 1) (setN (fun i => 3 + i) (regV (L 6) (L 7)) a v0)) by rw [← hw, setN, HPQ.out]; exact HOv)
          rw [hw]
          clear hN0 hNt HOv HPT HBd hbd HO5 hx hf hw hb hHeld f7 hc6 HO HB BKgb BKgc fc0 fc1 fc2 zc0 zc1 zc2
          go_wp2
          go_roundg (b + 1 - (k + 1))
          case measure => omega
          case rel => exact ⟨k + 1, by omega, rfl, congrArg (Value.int .i64) (show _ = ((k + 1 : Nat) : Int) by have := HLE.out; have := H0.out; unfold wrap64; omega), BKc6, BKb6, HO6, HB6⟩
        · have hkb : b = k := by omega
          subst hkb
          clear hlt
          go_wp2_with fail
          go_loopg [8] ((L 5).length + 1) (fun kq v6 w' => ∃ (k : Nat), k ≤ (L 5).length ∧ kq = (L 5).length + 1 - k ∧ v6 = .int .i64 k ∧ Aside0 (w'.heap[gc]? = some (.cells #[.int .i64 a, .int .i64 b, .int .i64 d] 29 (0, 0))) ∧ Aside0 (w'.heap[gb]? = some (.cells (bkCells s A c L) 27 (0, 0))) ∧ Aside0 (Kd.R (Kd.int .i64) 3 w' w.heap.size (fun _ => True) (.slice (some ⟨go, 0, none⟩) N co) (setN (fun i => 7 + 2 * a + b + i) (fun i => (L 5).getD i 0) k (setN (fun i => 7 + 2 * a + i) (fun i => (L 0).getD i 0) b (setN (fun i => 3 + i) (regV (L 6) (L 7)) a v0)))) ∧ Aside0 (Below w.heap.size w w'))
          case atStart => exact ⟨0, by omega, by omega, rfl, BKgc, BKgb, HO, HB⟩
          case round =>
            clear HB BKgc BKgb HO
            obtain ⟨k, hk, rfl, rfl, BKgc, BKgb, HO, HB⟩ := hrel
            have fc0 : wr.cell? ⟨gc, 0, none⟩ = some (.int .i64 a) := (blk_cell BKgc.out 0).trans rfl
            have fc1 : wr.cell? ⟨gc, 1, none⟩ = some (.int .i64 b) := (blk_cell BKgc.out 1).trans rfl
            have fc2 : wr.cell? ⟨gc, 2, none⟩ = some (.int .i64 d) := (blk_cell BKgc.out 2).trans rfl
            have zc0 := blk_frozen BKgc.out 0
            have zc1 := blk_frozen BKgc.out 1
            have zc2 := blk_frozen BKgc.out 2
            have f7 : wr.cell? ⟨gb, 6, none⟩ = some (.slice (A 5) (L 5).length (c 5)) := (blk_cell BKgb.out 6).trans rfl
            have z7 := blk_frozen BKgb.out 6
            by_cases hlt : k < (L 5).length
            · have hi6 : (k : Int) < ((L 5).length : Int) := by have := H5.out; omega
              have hib : (k : Int) < (b * 8 : Int) := by have := H5.out; omega
              obtain ⟨ad, e6, hc6⟩ := at_nat ((HR.out 5 (by omega)).below HB.out) k (by omega)
              rw [e6] at f7
              obtain ⟨p, hp⟩ : ∃ p, (L 5).getD k 0 = p := ⟨_, rfl⟩
              rw [hp] at hc6
              have HPQ := Aside0.mk hp
              clear hp e6
              have hN1 : (7 + 2 * (a : Int) + (b : Int)) + (k : Int) < (N : Int) := by have := HN.out; have := HNN.out; have := HLE.out; have := H5.out; omega
              have hN0 : (0 : Int) ≤ (7 + 2 * (a : Int) + (b : Int)) + (k : Int) := by omega
              have hNt : ((7 + 2 * (a : Int) + (b : Int)) + (k : Int)).toNat = 7 + 2 * a + b + k := by omega
              go_wp2_with fail
              refine start_ (n := 11) (S := fun w' => w'.cell? ⟨gc, 0, none⟩ = some (.int .i64 a) ∧ w'.cell? ⟨gc, 1, none⟩ = some (.int .i64 b) ∧ w'.cell? ⟨gc, 2, none⟩ = some (.int .i64 d) ∧ w'.cell? ⟨gb, 6, none⟩ = some (.slice (some ad) (L 5).length (c 5)) ∧ w'.cell? (ad.add k) = some (.int .i64 p)) (ds := [10]) #[false, false, false, false, false, false, false, false, false, false, false] (by kernel_rfl) rfl rfl (⟨fc0, fc1, fc2, f7, hc6⟩) (fun hHeld => ?_)
              refine pure_ (i := 0) (N := some 61) (v := ?_) (a' := ?_) #[true, false, false, false, false, false, false, false, false, false, false] rfl rfl (by kernel_rfl) (fun _ _ _ h => h) (Or.inl ⟨by rfl, ?_⟩) ?_ ?_
              rotate_left
              · intro w'
                go_simp
                with_reducible rfl
              rotate_left
              · simp only [Act.put, List.setIfInBounds_toArray, List.set_cons_zero, List.set_cons_succ, i64_w, i32_w]
                rfl
              refine pure_ (i := 2) (N := some 63) (v := ?_) (a' := ?_) #[true, false, true, false, false, false, false, false, false, false, false] rfl rfl (by kernel_rfl) (fun _ _ _ h => h) (Or.inl ⟨by rfl, ?_⟩) ?_ ?_
              rotate_left
              · intro w'
                go_simp
                with_reducible rfl
              rotate_left
              · simp only [Act.put, List.setIfInBounds_toArray, List.set_cons_zero, List.set_cons_succ, i64_w, i32_w]
                rfl
              refine pure_ (i := 4) (N := some 65) (v := ?_) (a' := ?_) #[true, false, true, false, true, false, false, false, false, false, false] rfl rfl (by kernel_rfl) (fun _ _ _ h => h) (Or.inl ⟨by rfl, ?_⟩) ?_ ?_
              rotate_left
              · intro w'
                go_simp
                with_reducible rfl
              rotate_left
              · simp only [Act.put, List.setIfInBounds_toArray, List.set_cons_zero, List.set_cons_succ, i64_w, i32_w]
                rfl
              refine pure_ (i := 6) (N := some 67) (v := ?_) (a' := ?_) #[true, false, true, false, true, false, true, false, false, false, false] rfl rfl (by kernel_rfl) (fun _ _ _ h => h) (Or.inl ⟨by rfl, ?_⟩) ?_ ?_
              rotate_left
              · intro w'
                go_simp
                with_reducible rfl
              rotate_left
              · simp only [Act.put, List.setIfInBounds_toArray, List.set_cons_zero, List.set_cons_succ, i64_w, i32_w]
                rfl
              refine take_ (i := 1) (N := some 62) (v := ?_) (a' := ?_) #[true, true, true, false, true, false, true, false, false, false, false] rfl rfl (by kernel_rfl) (fun _ _ _ h => h) (Or.inl ⟨by rfl, ?_⟩) hHeld ?_ ?_
              rotate_left
              · rintro w' ⟨s0, s1, s2, s3, s4⟩
                go_simp
                with_reducible rfl
              rotate_left
              · simp only [Act.put, List.setIfInBounds_toArray, List.set_cons_zero, List.set_cons_succ, i64_w, i32_w]
                rfl
              refine take_ (i := 5) (N := some 66) (v := ?_) (a' := ?_) #[true, true, true, false, true, true, true, false, false, false, false] rfl rfl (by kernel_rfl) (fun _ _ _ h => h) (Or.inl ⟨by rfl, ?_⟩) hHeld ?_ ?_
              rotate_left
              · rintro w' ⟨s0, s1, s2, s3, s4⟩
                go_simp
                with_reducible rfl
              rotate_left
              · simp only [Act.put, List.setIfInBounds_toArray, List.set_cons_zero, List.set_cons_succ, i64_w, i32_w]
                rfl
              refine pure_ (i := 7) (N := some 68) (v := ?_) (a' := ?_) #[true, true, true, false, true, true, true, true, false, false, false] rfl rfl (by kernel_rfl) (fun _ _ _ h => h) (Or.inl ⟨by rfl, ?_⟩) ?_ ?_
              rotate_left
              · intro w'
                go_simp
                with_reducible rfl
              rotate_left
              · simp only [Act.put, List.setIfInBounds_toArray, List.set_cons_zero, List.set_cons_succ, i64_w, i32_w]
                rfl
              refine take_ (i := 8) (N := some 69) (v := ?_) (a' := ?_) #[true, true, true, false, true, true, true, true, true, false, false] rfl rfl (by kernel_rfl) (fun _ _ _ h => h) (Or.inl ⟨by rfl, ?_⟩) hHeld ?_ ?_
              rotate_left
              · rintro w' ⟨s0, s1, s2, s3, s4⟩
                go_simp
                with_reducible rfl
              rotate_left
              · simp only [Act.put, List.setIfInBounds_toArray, List.set_cons_zero, List.set_cons_succ, i64_w, i32_w]
                rfl
              refine one_ (i := 3) (N := some 64) #[true, true, true, true, true, true, true, true, true, false, false] rfl rfl (by kernel_rfl) (by decide) (fun K hK => ?_)
              refine goes_ Try.func78 (by kernel_rfl) rfl #[cfgV a b d, .int .i64 k] (by rfl) rfl rfl (by (try simp only [List.map_toArray, List.map_cons, List.map_nil]); first | done | rfl) ?_
              refine (tag_calls a b d k HOK.out (by omega) (by have := HLE.out; have := H5.out; omega) _).mono ?_
              rintro e w5 ⟨rfl, hb⟩
              refine ⟨_, rfl, hK.out _ _ ⟨(hb.cell (World.block_lt_of_cell? _ _ hHeld.1)).trans hHeld.1, (hb.cell (World.block_lt_of_cell? _ _ hHeld.2.1)).trans hHeld.2.1, (hb.cell (World.block_lt_of_cell? _ _ hHeld.2.2.1)).trans hHeld.2.2.1, (hb.cell (World.block_lt_of_cell? _ _ hHeld.2.2.2.1)).trans hHeld.2.2.2.1, (hb.cell (World.block_lt_of_cell? _ _ hHeld.2.2.2.2)).trans hHeld.2.2.2.2⟩ (fun hHeld => ?_)⟩
              clear hK K
              refine norm_ (a' := ?_) ?_ ?_
              rotate_left
              · show Act.put _ (some 64) _ = _
                simp only [Act.put, List.setIfInBounds_toArray, List.set_cons_zero, List.set_cons_succ, i64_w, i32_w]
                rfl
              refine pure_ (i := 9) (N := some 70) (v := ?_) (a' := ?_) #[true, true, true, true, true, true, true, true, true, true, false] rfl rfl (by kernel_rfl) (fun _ _ _ h => h) (Or.inl ⟨by rfl, ?_⟩) ?_ ?_
              rotate_left
              · intro w'
                go_simp
                with_reducible rfl
              rotate_left
              · simp only [Act.put, List.setIfInBounds_toArray, List.set_cons_zero, List.set_cons_succ, i64_w, i32_w]
                rfl
              have hbd : Below wr.heap.size wr w5 := below_step (below_drew (Below.refl _ _)) hb
              have HO5 := Kd.R_below HO.out hbd
              obtain ⟨hx, hf⟩ := Kd.R_celln 0 HO5 ((7 + 2 * a + b + k : Nat) : Int) (by omega) (by omega)
              have HPT := Kd.R_putg HO5 ((7 + 2 * a + b + k : Nat) : Int) p
              rw [Int.toNat_natCast] at hx hf HPT
              refine last_ (i := 10) (N := none) #[true, true, true, true, true, true, true, true, true, true, true] rfl rfl (by kernel_rfl) (by decide) (fun K hK => ?_)
              refine skip_ (w1 := w5.setCell ⟨go, 7 + 2 * a + b + k, none⟩ (.int .i64 p)) (by rfl) rfl (by first | (go_simp; done) | (go_simp; rfl)) ?_
              refine hK.out _ _ (done_ (by kernel_rfl) ?_)
              clear hK K
              have HOv := HPT.1
              have HBd := below_step HB.out hbd
              obtain ⟨w6, hw⟩ : ∃ w6, w5.setCell ⟨go, 7 + 2 * a + b + k, none⟩ (.int .i64 p) = w6 := ⟨_, rfl⟩
              have HB6 := Aside0.mk (show Below w.heap.size w w6 by rw [← hw]; exact below_set HBd HGo.out)
              have BKb6 := Aside0.mk (show w6.heap[gb]? = some (.cells (bkCells s A c L) 27 (0, 0)) by rw [← hw]; exact blk_far (blk_below BKgb.out hbd) NBO.out _)
              have BKc6 := Aside0.mk (show w6.heap[gc]? = some (.cells #[.int .i64 a, .int .i64 b, .int .i64 d] 29 (0, 0)) by rw [← hw]; exact blk_far (blk_below BKgc.out hbd) NCO.out _)
              have HO6 := Aside0.mk (show Kd.R (Kd.int .i64) 3 w6 w.heap.size (fun _ => True) (.slice (some ⟨go, 0, none⟩) N co) (setN (fun i => 7 + 2 * a + b + i) (fun i => (L 5).getD i 0) (k + 1) (setN (fun i => 7 + 2 * a + i) (fun i => (L 0).getD i 0) b (setN (fun i => 3 + i) (regV (L 6) (L 7)) a v0))) by rw [← hw, setN, HPQ.out]; exact HOv)
              rw [hw]
              clear hN0 hNt HOv HPT HBd hbd HO5 hx hf hw hb hHeld f7 hc6 HO HB BKgb BKgc fc0 fc1 fc2 zc0 zc1 zc2
              go_wp2
              go_roundg ((L 5).length + 1 - (k + 1))
              case measure => omega
              case rel => exact ⟨k + 1, by omega, rfl, congrArg (Value.int .i64) (show _ = ((k + 1 : Nat) : Int) by have := HLE.out; have := H5.out; unfold wrap64; omega), BKc6, BKb6, HO6, HB6⟩
            · have hkb : k = (L 5).length := by omega
              subst hkb
              clear hlt
              obtain ⟨v3, hv3⟩ : ∃ v3, setN (fun i => 7 + 2 * a + b + i) (fun i => (L 5).getD i 0) (L 5).length (setN (fun i => 7 + 2 * a + i) (fun i => (L 0).getD i 0) b (setN (fun i => 3 + i) (regV (L 6) (L 7)) a v0)) = v3 := ⟨_, rfl⟩
              have HV3 := Aside0.mk hv3
              rw [hv3] at HO
              clear hv3
              go_wp2_with fail
              go_loopg [9] 5 (fun kq v9 w' => ∃ (k : Nat), k ≤ 4 ∧ kq = 5 - k ∧ v9 = .int .i64 k ∧ Aside0 (w'.heap[gc]? = some (.cells #[.int .i64 a, .int .i64 b, .int .i64 d] 29 (0, 0))) ∧ Aside0 (w'.heap[gb]? = some (.cells (bkCells s A c L) 27 (0, 0))) ∧ Aside0 (Kd.R (Kd.int .i64) 3 w' w.heap.size (fun _ => True) (.slice (some ⟨go, 0, none⟩) N co) (layH a b L k v3)) ∧ Aside0 (Below w.heap.size w w'))
              case atStart => exact ⟨0, by omega, by omega, rfl, BKgc, BKgb, HO, HB⟩
              case round =>
                clear HB BKgc BKgb HO f7 z7
                obtain ⟨k, hk4, rfl, rfl, BKgc, BKgb, HO, HB⟩ := hrel
                by_cases hlt : k < 4
                · have hi4 : (k : Int) < 4 := by omega
                  have fc0 : wr.cell? ⟨gc, 0, none⟩ = some (.int .i64 a) := (blk_cell BKgc.out 0).trans rfl
                  have fc1 : wr.cell? ⟨gc, 1, none⟩ = some (.int .i64 b) := (blk_cell BKgc.out 1).trans rfl
                  have fc2 : wr.cell? ⟨gc, 2, none⟩ = some (.int .i64 d) := (blk_cell BKgc.out 2).trans rfl
                  have zc0 := blk_frozen BKgc.out 0
                  have zc1 := blk_frozen BKgc.out 1
                  have zc2 := blk_frozen BKgc.out 2
                  go_wp2_with fail
                  refine (head_calls a b d k HOK.out (by omega) hi4 _).mono ?_
                  rintro e w5 ⟨rfl, hb⟩
                  have HO5 := Aside0.mk (Kd.R_below HO.out hb)
                  have HB5 := Aside0.mk (below_step HB.out hb)
                  have BKb5 := Aside0.mk (blk_below BKgb.out hb)
                  have BKc5 := Aside0.mk (blk_below BKgc.out hb)
                  clear hb fc0 fc1 fc2 zc0 zc1 zc2 HO HB BKgb BKgc
                  go_wp2_with fail
                  go_loopg [10, 11] ((L (k + 1)).length + 1) (fun kq v10 v11 w' => ∃ (i t : Nat), i ≤ (L (k + 1)).length ∧ kq = (L (k + 1)).length + 1 - i ∧ v11 = .int .i64 i ∧ v10 = .int .i64 t ∧ Aside0 ((chainAt (3 + 2 * a + k) (7 + 2 * a + 9 * b) (L (k + 1))) i = t) ∧ Aside0 (w'.heap[gc]? = some (.cells #[.int .i64 a, .int .i64 b, .int .i64 d] 29 (0, 0))) ∧ Aside0 (w'.heap[gb]? = some (.cells (bkCells s A c L) 27 (0, 0))) ∧ Aside0 (Kd.R (Kd.int .i64) 3 w' w.heap.size (fun _ => True) (.slice (some ⟨go, 0, none⟩) N co) (setN (chainAt (3 + 2 * a + k) (7 + 2 * a + 9 * b) (L (k + 1))) (fun i => wrap64 ((L (k + 1)).getD i 0 + 1)) i (layH a b L k v3))) ∧ Aside0 (Below w.heap.size w w'))
                  case atStart => exact ⟨0, 3 + 2 * a + k, by omega, by omega, rfl, congrArg (Value.int .i64) (by omega), ⟨rfl⟩, BKc5, BKb5, HO5, HB5⟩
                  case round =>
                    clear HB5 BKc5 BKb5 HO5
                    obtain ⟨i, t, hil, rfl, rfl, rfl, HT, BKgc, BKgb, HO, HB⟩ := hrel
                    have hck : wr.cell? ⟨gb, 2 + k, none⟩ = some (.slice (A (k + 1)) (L (k + 1)).length (c (k + 1))) := (blk_cell BKgb.out (2 + k)).trans (by match k, hlt with | 0, _ => rfl | 1, _ => rfl | 2, _ => rfl | 3, _ => rfl)
                    have hzk := blk_frozen BKgb.out (2 + k)
                    have k0 : (0 : Int) ≤ (k : Int) := by omega
                    by_cases hlti : i < (L (k + 1)).length
                    · have i0 : (0 : Int) ≤ (i : Int) := by omega
                      have i1 : (i : Int) < ((L (k + 1)).length : Int) := by omega
                      obtain ⟨ad, eak, hxk⟩ := at_nat ((HR.out (k + 1) (by omega)).below HB.out) i hlti
                      obtain ⟨hx0, hx1⟩ := HIN.out k hlt i hlti
                      have hb6 : (b : Int) ≤ 6 := by have := HLE.out; omega
                      rw [eak] at hck
                      obtain ⟨x, hx⟩ : ∃ x, (L (k + 1)).getD i 0 = x := ⟨_, rfl⟩
                      rw [hx] at hxk hx0 hx1
                      have HX := Aside0.mk hx
                      have ht : t < N := by
                        rw [← HT.out]
                        refine Nat.lt_of_lt_of_le (chainAt_lt a b L k i hlt (fun j hj => HIN.out k hlt j (by omega))) ?_
                        have := HN.out; have := HNN.out; omega
                      have ht0 : (0 : Int) ≤ (t : Int) := by omega
                      have ht1 : (t : Int) < (N : Int) := by omega
                      have hwx : wrap64 (x + 1) = x + 1 := by unfold wrap64; omega
                      have HWX := Aside0.mk hwx
                      obtain ⟨hx9, hf9⟩ := Kd.R_celln 0 HO.out (t : Int) ht0 ht1
                      have HPT := Kd.R_putg HO.out (t : Int) (x + 1)
                      rw [Int.toNat_natCast] at hx9 hf9 HPT
                      have HP := Aside0.mk HPT.1
                      clear hx hwx HPT ht eak
                      go_wp2_with (first | ((with_reducible refine gate_store (t := 3) (p := 97) rfl ?_); refine store_event (t := 3) (p := 97) (v := ?vo_1) (w1 := (wr.setCell ⟨go, t, none⟩ (.int .i64 (x + 1)))) ?hg ?ho ?hn ?hr ?_; (case ho => rfl); (case hg => rfl); (case hn => rfl); (case hr => first | (go_simp; done) | (go_simp; rfl)); intro w6 hw; have HO6 := Aside0.mk (show Kd.R (Kd.int .i64) 3 w6 w.heap.size (fun _ => True) (.slice (some ⟨go, 0, none⟩) N co) (setN (chainAt (3 + 2 * a + k) (7 + 2 * a + 9 * b) (L (k + 1))) (fun i => wrap64 ((L (k + 1)).getD i 0 + 1)) (i + 1) (layH a b L k v3)) by rw [hw, setN, HX.out, HWX.out, HT.out]; exact HP.out); have HB6 := Aside0.mk (show Below w.heap.size w w6 by rw [hw]; exact below_set HB.out HGo.out); have BKb6 := Aside0.mk (show w6.heap[gb]? = some (.cells (bkCells s A c L) 27 (0, 0)) by rw [hw]; exact blk_far BKgb.out NBO.out _); have BKc6 := Aside0.mk (show w6.heap[gc]? = some (.cells #[.int .i64 a, .int .i64 b, .int .i64 d] 29 (0, 0)) by rw [hw]; exact blk_far BKgc.out NCO.out _); clear HP HO HB BKgb BKgc hck hzk hxk hx9 hf9; clear hw))
                      obtain ⟨ad, eak, hxk⟩ := at_nat ((HR.out (k + 1) (by omega)).below HB6.out) i hlti
                      have hck : w6.cell? ⟨gb, 2 + k, none⟩ = some (.slice (A (k + 1)) (L (k + 1)).length (c (k + 1))) := (blk_cell BKb6.out (2 + k)).trans (by match k, hlt with | 0, _ => rfl | 1, _ => rfl | 2, _ => rfl | 3, _ => rfl)
                      have hzk := blk_frozen BKb6.out (2 + k)
                      rw [eak] at hck
                      rw [HX.out] at hxk
                      clear eak
                      have fc0 : w6.cell? ⟨gc, 0, none⟩ = some (.int .i64 a) := (blk_cell BKc6.out 0).trans rfl
                      have fc1 : w6.cell? ⟨gc, 1, none⟩ = some (.int .i64 b) := (blk_cell BKc6.out 1).trans rfl
                      have fc2 : w6.cell? ⟨gc, 2, none⟩ = some (.int .i64 d) := (blk_cell BKc6.out 2).trans rfl
                      have zc0 := blk_frozen BKc6.out 0
                      have zc1 := blk_frozen BKc6.out 1
                      have zc2 := blk_frozen BKc6.out 2
                      refine start_ (n := 10) (S := fun w' => w'.cell? ⟨gc, 0, none⟩ = some (.int .i64 a) ∧ w'.cell? ⟨gc, 1, none⟩ = some (.int .i64 b) ∧ w'.cell? ⟨gc, 2, none⟩ = some (.int .i64 d) ∧ w'.cell? ⟨gb, 2 + k, none⟩ = some (.slice (some ad) (L (k + 1)).length (c (k + 1))) ∧ w'.cell? (ad.add i) = some (.int .i64 x)) (ds := []) #[false, false, false, false, false, false, false, false, false, false] (by kernel_rfl) rfl rfl (⟨fc0, fc1, fc2, hck, hxk⟩) (fun hHeld => ?_)
                      refine pure_ (i := 1) (N := some 99) (v := ?_) (a' := ?_) #[false, true, false, false, false, false, false, false, false, false] rfl rfl (by kernel_rfl) (fun _ _ _ h => h) (Or.inl ⟨by rfl, ?_⟩) ?_ ?_
                      rotate_left
                      · intro w'
                        go_simp
                        with_reducible rfl
                      rotate_left
                      · simp only [Act.put, List.setIfInBounds_toArray, List.set_cons_zero, List.set_cons_succ, i64_w, i32_w]
                        rfl
                      refine pure_ (i := 2) (N := some 100) (v := ?_) (a' := ?_) #[false, true, true, false, false, false, false, false, false, false] rfl rfl (by kernel_rfl) (fun _ _ _ h => h) (Or.inl ⟨by rfl, ?_⟩) ?_ ?_
                      rotate_left
                      · intro w'
                        go_simp
                        with_reducible rfl
                      rotate_left
                      · simp only [Act.put, List.setIfInBounds_toArray, List.set_cons_zero, List.set_cons_succ, i64_w, i32_w]
                        rfl
                      refine pure_ (i := 5) (N := some 103) (v := ?_) (a' := ?_) #[false, true, true, false, false, true, false, false, false, false] rfl rfl (by kernel_rfl) (fun _ _ _ h => h) (Or.inl ⟨by rfl, ?_⟩) ?_ ?_
                      rotate_left
                      · intro w'
                        go_simp
                        with_reducible rfl
                      rotate_left
                      · simp only [Act.put, List.setIfInBounds_toArray, List.set_cons_zero, List.set_cons_succ, i64_w, i32_w]
                        rfl
                      refine pure_ (i := 3) (N := some 101) (v := ?_) (a' := ?_) #[false, true, true, true, false, true, false, false, false, false] rfl rfl (by kernel_rfl) (fun _ _ _ h => h) (Or.inl ⟨by rfl, ?_⟩) ?_ ?_
                      rotate_left
                      · intro w'
                        go_simp
                        with_reducible rfl
                      rotate_left
                      · simp only [Act.put, List.setIfInBounds_toArray, List.set_cons_zero, List.set_cons_succ, i64_w, i32_w]
                        rfl
                      refine take_ (i := 0) (N := some 98) (v := ?_) (a' := ?_) #[true, true, true, true, false, true, false, false, false, false] rfl rfl (by kernel_rfl) (fun _ _ _ h => h) (Or.inl ⟨by rfl, ?_⟩) hHeld ?_ ?_
                      rotate_left
                      · rintro w' ⟨s0, s1, s2, s3, s4⟩
                        go_simp
                        with_reducible rfl
                      rotate_left
                      · simp only [Act.put, List.setIfInBounds_toArray, List.set_cons_zero, List.set_cons_succ, i64_w, i32_w]
                        rfl
                      refine take_ (i := 4) (N := some 102) (v := ?_) (a' := ?_) #[true, true, true, true, true, true, false, false, false, false] rfl rfl (by kernel_rfl) (fun _ _ _ h => h) (Or.inl ⟨by rfl, ?_⟩) hHeld ?_ ?_
                      rotate_left
                      · rintro w' ⟨s0, s1, s2, s3, s4⟩
                        go_simp
                        with_reducible rfl
                      rotate_left
                      · simp only [Act.put, List.setIfInBounds_toArray, List.set_cons_zero, List.set_cons_succ, i64_w, i32_w]
                        rfl
                      refine pure_ (i := 6) (N := some 104) (v := ?_) (a' := ?_) #[true, true, true, true, true, true, true, false, false, false] rfl rfl (by kernel_rfl) (fun _ _ _ h => h) (Or.inl ⟨by rfl, ?_⟩) ?_ ?_
                      rotate_left
                      · intro w'
                        go_simp
                        with_reducible rfl
                      rotate_left
                      · simp only [Act.put, List.setIfInBounds_toArray, List.set_cons_zero, List.set_cons_succ, i64_w, i32_w]
                        rfl
                      refine take_ (i := 7) (N := some 105) (v := ?_) (a' := ?_) #[true, true, true, true, true, true, true, true, false, false] rfl rfl (by kernel_rfl) (fun _ _ _ h => h) (Or.inl ⟨by rfl, ?_⟩) hHeld ?_ ?_
                      rotate_left
                      · rintro w' ⟨s0, s1, s2, s3, s4⟩
                        go_simp
                        with_reducible rfl
                      rotate_left
                      · simp only [Act.put, List.setIfInBounds_toArray, List.set_cons_zero, List.set_cons_succ, i64_w, i32_w]
                        rfl
                      refine one_ (i := 8) (N := some 106) #[true, true, true, true, true, true, true, true, true, false] rfl rfl (by kernel_rfl) (by decide) (fun K hK => ?_)
                      refine goes_ Try.func80 (by kernel_rfl) rfl #[cfgV a b d, .int .i64 x] (by rfl) rfl rfl (by (try simp only [List.map_toArray, List.map_cons, List.map_nil]); first | done | rfl) ?_
                      refine (link_calls a b d x HOK.out hx0 (by omega) _).mono ?_
                      rintro e w7 ⟨rfl, hb⟩
                      refine ⟨_, rfl, hK.out _ _ ⟨(hb.cell (World.block_lt_of_cell? _ _ hHeld.1)).trans hHeld.1, (hb.cell (World.block_lt_of_cell? _ _ hHeld.2.1)).trans hHeld.2.1, (hb.cell (World.block_lt_of_cell? _ _ hHeld.2.2.1)).trans hHeld.2.2.1, (hb.cell (World.block_lt_of_cell? _ _ hHeld.2.2.2.1)).trans hHeld.2.2.2.1, (hb.cell (World.block_lt_of_cell? _ _ hHeld.2.2.2.2)).trans hHeld.2.2.2.2⟩ (fun hHeld => ?_)⟩
                      clear hK K
                      refine norm_ (a' := ?_) ?_ ?_
                      rotate_left
                      · show Act.put _ (some 106) _ = _
                        simp only [Act.put, List.setIfInBounds_toArray, List.set_cons_zero, List.set_cons_succ, i64_w, i32_w]
                        rfl
                      refine pure_ (i := 9) (N := some 10) (v := ?_) (a' := ?_) #[true, true, true, true, true, true, true, true, true, true] rfl rfl (by kernel_rfl) (fun _ _ _ h => h) (Or.inl ⟨by rfl, ?_⟩) ?_ ?_
                      rotate_left
                      · intro w'
                        go_simp
                        with_reducible rfl
                      rotate_left
                      · simp only [Act.put, List.setIfInBounds_toArray, List.set_cons_zero, List.set_cons_succ, i64_w, i32_w]
                        rfl
                      have hbd : Below w6.heap.size w6 w7 := below_step (below_drew (Below.refl _ _)) hb
                      refine done_ (by kernel_rfl) ?_
                      have HO7 := Aside0.mk (Kd.R_below HO6.out hbd)
                      have HB7 := Aside0.mk (below_step HB6.out hbd)
                      have BKb7 := Aside0.mk (blk_below BKb6.out hbd)
                      have BKc7 := Aside0.mk (blk_below BKc6.out hbd)
                      clear hbd hb hHeld hck hzk hxk HO6 HB6 BKb6 BKc6 fc0 fc1 fc2 zc0 zc1 zc2 HWX
                      go_wp2
                      go_roundg ((L (k + 1)).length + 1 - (i + 1))
                      case measure => omega
                      case rel => exact ⟨i + 1, 7 + 2 * a + 9 * b + x.toNat, by omega, rfl, congrArg (Value.int .i64) (show _ = ((i + 1 : Nat) : Int) by have := (HR.out (k + 1) (by omega)).1.2.1; unfold wrap64; omega), congrArg (Value.int .i64) (by omega), ⟨by rw [chainAt, HX.out]⟩, BKc7, BKb7, HO7, HB7⟩
                    · have hil2 : i = (L (k + 1)).length := by omega
                      subst hil2
                      have HOn := Aside0.mk (show Kd.R (Kd.int .i64) 3 wr w.heap.size (fun _ => True) (.slice (some ⟨go, 0, none⟩) N co) (layH a b L (k + 1) v3) from HO.out)
                      clear HO
                      go_wp2
                      go_roundg (5 - (k + 1))
                      case measure => omega
                      case rel => exact ⟨k + 1, by omega, rfl, by go_num, BKgc, BKgb, HOn, HB⟩
                · have hk4 : k = 4 := by omega
                  subst hk4
                  clear hlt
                  have hfin : layH a b L 4 v3 = layV a b L := by
                    unfold layV
                    rw [← HV3.out, ← HV0.out, H0.out]
                    congr 6
                    try omega
                  have HF := Aside0.mk hfin
                  clear hfin
                  go_wp2
                  go_ret
                  obtain ⟨A', c', hv, ho⟩ := SlO.of HO.out
                  rw [HF.out] at hv ho
                  exact ⟨A', c', by rw [← hv]; rfl, ho, HB.out⟩
end Go.Proofs.Ytekneicikmaplaa.Bk

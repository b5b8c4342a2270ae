/- Books of a slab allocator: walks and plain laws, part 9. -/
import Derived.Test.YtekneicikmaplaaBm7
import Derived.Test.YtekneicikmaplaaBm3
import Derived.Test.YtekneicikmaplaaBm4
set_option linter.unusedVariables false
set_option linter.unusedSimpArgs false
namespace Go.Proofs.Ytekneicikmaplaa.Bk
open Go.RowKit Go.Proofs.YtekneicikmaplaaW.PrintWords Go.Proofs.YtekneicikmaplaaW.PrintLast Go.Proofs.YtekneicikmaplaaW.PrintMore

theorem ready_lt {md : Region.Mode} {ops : Array Oper} {l : Array Bool} {i : Nat} (h : i ∈ Region.ready md ops l) : i < l.size := by
  have h1 := (mem_ready.1 h).1
  rcases Nat.lt_or_ge i l.size with h2 | h2
  · exact h2
  · simp [Array.getD, Nat.not_lt.2 h2] at h1
def depB (md : Region.Mode) (ops : Array Oper) (i j : Nat) : Bool := match ops[i]? with
  | some o => o.after.any fun e => Region.binds md e && e.on == j
  | none => false
theorem dep_ {md : Region.Mode} {ops : Array Oper} {l : Array Bool} {i j : Nat} (h : i ∈ Region.ready md ops l) (hj : depB md ops i j = true) : l.getD j false = true := by
  obtain ⟨_, o, ho, hd⟩ := mem_ready.1 h
  unfold depB at hj
  rw [ho] at hj
  obtain ⟨e, he, hb⟩ := Array.any_eq_true'.1 hj
  simp only [Bool.and_eq_true, beq_iff_eq] at hb
  rw [← hb.2]
  exact hd e he hb.1
theorem ready_mem {md : Region.Mode} {ops : Array Oper} {l : Array Bool} {i : Nat} {o : Oper} (h0 : l.getD i true = false) (ho : ops[i]? = some o) (hd : (o.after.all fun e => !Region.binds md e || l.getD e.on false) = true) : i ∈ Region.ready md ops l := by
  refine mem_ready.2 ⟨h0, o, ho, fun e he hb => ?_⟩
  have := Array.all_eq_true_iff_forall_mem.1 hd e he
  simpa [hb] using this
theorem R_ne_blk {w : World} {lo : Nat} {ok : Nat → Prop} {v : Value} {l : List Int} (h : Kd.R (Kd.int .i64) 3 w lo ok v l) {g t : Nat} {cells : Array Value} (hb : w.heap[g]? = some (.cells cells t (0, 0))) (ht : 3 ≠ t) : some g ≠ v.ownBlock := by
  intro e
  obtain ⟨_, _, _, q, hq, cs, hc⟩ := (Kd.R_bound h).1 g e.symm
  simp [Kd.int, Kd.scalar] at hq
  subst hq
  rw [hb] at hc
  cases hc
  exact ht rfl
set_option maxRecDepth 100000 in
theorem clone_calls (A : Option Addr) (c : Nat) (l : List Int) (w : World) (h : SlC w A c l) (hl : l.length ≤ 1048576) :
    Calls Try.prog 74 #[.slice A l.length c] w fun e w' => ∃ A' c', e = .returned (.slice A' l.length c') ∧ SlO w' w.heap.size w'.heap.size A' c' l ∧ Below w.heap.size w w' := by
  cases A with
  | none =>
    have h0 : l = [] := by
      have h0 := h.1.2.2
      cases l with
      | nil => rfl
      | cons x xs => obtain ⟨ad, h1, _⟩ := h0 (by simp); cases h1
    subst h0
    have heq_ := fun (w : World) (n c : Nat) => Lib.run_eql_slice_nil (P := Try.prog) w 24 3 none n c 0 0 Try.underlying24
    simp only [Option.isNone_none] at heq_
    clear h
    go_enter Try.func74, Try.ntmps74
    go_wp2
    go_ret
    exact ⟨none, 0, rfl, Kd.R_nil _ _ _ _ _, Below.refl _ _⟩
  | some ad =>
    have heq_ := fun (w : World) (n c : Nat) => Lib.run_eql_slice_nil (P := Try.prog) w 24 3 (some ad) n c 0 0 Try.underlying24
    simp only [Option.isNone_some] at heq_
    have HR := Aside0.mk h
    have HL := Aside0.mk hl
    clear h
    have HB := Aside0.mk (Below.refl w.heap.size w)
    go_enter Try.func74, Try.ntmps74
    go_wp2_with (first | ((with_reducible refine gate_dst (N := 5) rfl ?_); refine Kd.R_lit (Kd.int .i64) _ 3 ?hg (N := 5) ?hd (xs := ([] : List Int)) (inner := []) (ok := fun _ => True) (okp := fun _ => True) ?hr ?hp (fun _ hk => hk) trivial (Below.refl _ _) (Nat.le_refl _) (by simp) ?_; (case hd => rfl); (case hg => rfl); (case hr => first | (go_simp; done) | (go_simp; rfl)); (case hp => exact (Reps.none _ _)); intro v0 w3 ho4 hb hg_ hnew_; clear hg_ hnew_; have HO := Aside0.mk (Kd.R_lower ho4 (below_size HB.out)); have HB2 := Aside0.mk (below_step HB.out hb); clear hb ho4 HB) | ((with_reducible refine gate_builtin (b := .append) (xs := #[.tmp 5, .tmp 6]) rfl ?_); at_builtin; refine Kd.R_append_rows (Kd.int .i64) (w0 := w) w.heap.size rfl (.tmp 5) (.tmp 6) 24 3 (.int .i64 0) 8 rfl Try.underlying24 info3 rfl (by decide) (by omega) v0 [] l _ _ _ (fun _ => True) (fun _ => False) rfl rfl HO.out (HR.out.below HB2.out).1 (fun _ _ h => h) (fun _ h => h.elim) (fun _ _ => trivial) HB2.out HB2.out.size (by have := HL.out; simp only [List.length_nil]; omega) ?_; intro v1 w5 ho hb hg hat; rw [List.nil_append] at ho; have HO3 := Aside0.mk ho; have HB3 := Aside0.mk hb; clear HO HB2 ho hb hg hat))
    go_ret
    obtain ⟨A', c', hv, ho⟩ := SlO.of HO3.out
    exact ⟨A', c', by rw [← hv]; rfl, ho, HB3.out⟩


def vals8 (v0 v5 v6 v7 : Value) : Nat → Value
  | 0 => v0
  | 5 => v5
  | 6 => v6
  | 7 => v7
  | _ => .slice none 0 0
abbrev bkV (s : Int) (V : Nat → Value) : Array Value := #[.int .i64 s, V 0, V 1, V 2, V 3, V 4, V 5, V 6, V 7]
def copyD (V : Nat → Value) (L : Nat → List Int) (k i : Nat) : Option (Value × List Int) := if i < 8 ∧ (i = 0 ∨ 5 ≤ i ∨ i ≤ k) then some (V i, L i) else none
theorem bkV_set (s : Int) (V : Nat → Value) (k : Nat) (v : Value) (hk : k < 4) : (bkV s V).setIfInBounds (2 + k) v = bkV s (fun i => if i = k + 1 then v else V i) := by
  match k, hk with
  | 0, _ => rfl
  | 1, _ => rfl
  | 2, _ => rfl
  | 3, _ => rfl
theorem bkV_at (s : Int) (V : Nat → Value) (k : Nat) (hk : k < 4) : (bkV s V)[2 + k]? = some (V (k + 1)) := by
  match k, hk with
  | 0, _ => rfl
  | 1, _ => rfl
  | 2, _ => rfl
  | 3, _ => rfl
theorem copyD_new {V : Nat → Value} {L : Nat → List Int} {k : Nat} {v : Value} (hk : k < 4) : copyD (fun i => if i = k + 1 then v else V i) L (k + 1) (k + 1) = some (v, L (k + 1)) := by
  unfold copyD
  rw [if_pos ⟨by omega, by omega⟩]
  simp
theorem copyD_old {V : Nat → Value} {L : Nat → List Int} {k : Nat} {v : Value} : ∀ j, j ≠ k + 1 → copyD (fun i => if i = k + 1 then v else V i) L (k + 1) j = copyD V L k j := by
  intro j hj
  unfold copyD
  simp only [if_neg hj]
  by_cases h : j < 8 ∧ (j = 0 ∨ 5 ≤ j ∨ j ≤ k)
  · rw [if_pos h, if_pos ⟨h.1, by omega⟩]
  · rw [if_neg h, if_neg (fun q => h ⟨q.1, by omega⟩)]
theorem copyD_none {V : Nat → Value} {L : Nat → List Int} {k : Nat} (hk : k < 4) : copyD V L k (k + 1) = none := by
  unfold copyD
  rw [if_neg (by omega)]
theorem copyD_all {V : Nat → Value} {L : Nat → List Int} {i : Nat} (hi : i < 8) : copyD V L 4 i = some (V i, L i) := by
  unfold copyD
  rw [if_pos ⟨hi, by omega⟩]
theorem copyD_four {v0 v5 v6 v7 : Value} {L : Nat → List Int} : ∀ i, copyD (vals8 v0 v5 v6 v7) L 0 i = four8 (some (v0, L 0)) (some (v5, L 5)) (some (v6, L 6)) (some (v7, L 7)) i
  | 0 => rfl
  | 1 => rfl
  | 2 => rfl
  | 3 => rfl
  | 4 => rfl
  | 5 => rfl
  | 6 => rfl
  | 7 => rfl
  | i + 8 => by
    unfold copyD
    rw [if_neg (by omega)]
    rfl
theorem Own.bkV {w : World} {lo : Nat} {V : Nat → Value} {L : Nat → List Int} (h : Own w lo (copyD V L 4)) (s : Int) : bkV s V = bkCells s (fun i => aOf (V i)) (fun i => cOf (V i)) L := by
  have e := fun i (hi : i < 8) => h.slice (copyD_all (V := V) (L := L) hi)
  show #[.int .i64 s, V 0, V 1, V 2, V 3, V 4, V 5, V 6, V 7] = #[.int .i64 s, .slice (aOf (V 0)) (L 0).length (cOf (V 0)), .slice (aOf (V 1)) (L 1).length (cOf (V 1)), .slice (aOf (V 2)) (L 2).length (cOf (V 2)), .slice (aOf (V 3)) (L 3).length (cOf (V 3)), .slice (aOf (V 4)) (L 4).length (cOf (V 4)), .slice (aOf (V 5)) (L 5).length (cOf (V 5)), .slice (aOf (V 6)) (L 6).length (cOf (V 6)), .slice (aOf (V 7)) (L 7).length (cOf (V 7))]
  rw [← e 0 (by omega), ← e 1 (by omega), ← e 2 (by omega), ← e 3 (by omega), ← e 4 (by omega), ← e 5 (by omega), ← e 6 (by omega), ← e 7 (by omega)]
theorem idx4 (A : Nat → Option Addr) (c : Nat → Nat) (L : Nat → List Int) (k : Nat) (hk : k < 4) (W : World) : (Instr.index 25 (.agg #[.slice (A 1) (L 1).length (c 1), .slice (A 2) (L 2).length (c 2), .slice (A 3) (L 3).length (c 3), .slice (A 4) (L 4).length (c 4)]) (.int .i64 (k : Int))).run Try.prog W = .ok (.slice (A (k + 1)) (L (k + 1)).length (c (k + 1))) W := by
  match k, hk with
  | 0, _ => rfl
  | 1, _ => rfl
  | 2, _ => rfl
  | 3, _ => rfl
theorem bkCells_at (s : Int) (A : Nat → Option Addr) (c : Nat → Nat) (L : Nat → List Int) (k : Nat) (hk : k < 4) : (bkCells s A c L)[2 + k]? = some (.slice (A (k + 1)) (L (k + 1)).length (c (k + 1))) := by
  match k, hk with
  | 0, _ => rfl
  | 1, _ => rfl
  | 2, _ => rfl
  | 3, _ => rfl
set_option maxHeartbeats 8000000 in
set_option maxRecDepth 100000 in
theorem own_calls (s : Int) (A : Nat → Option Addr) (c : Nat → Nat) (L : Nat → List Int) (w : World) (h : BkC w A c L) (hl : ∀ i, (L i).length ≤ 1048576) :
    Calls Try.prog 59 #[.agg (bkCells s A c L)] w fun e w' => ∃ A' c', e = .returned (.agg (bkCells s A' c' L)) ∧ BkO w' w.heap.size w'.heap.size A' c' L ∧ Below w.heap.size w w' := by
  have HR := Aside0.mk h
  have HL := Aside0.mk hl
  clear h hl
  have HB := Aside0.mk (Below.refl w.heap.size w)
  go_enter Try.func59, Try.ntmps59
  go_wp2_with (first | ((with_reducible refine gate_dst (N := 1) rfl ?_); refine box_event rfl (N := 1) rfl (cs := bkCells s A c L) (t := 27) (by first | (go_simp; done) | (go_simp; rfl)) ?_; intro gb hggb w1 hbox hb; have n0_ := Aside0.mk (below_step HB.out hb); have BKgb := Aside0.mk hbox; have HGgb := Aside0.mk (show w.heap.size ≤ gb by rw [hggb]; exact HB.out.size); clear HB; have HB := n0_; clear n0_ hbox hb hggb) | ((with_reducible refine gate_dst (N := 2) rfl ?_); refine box_event rfl (N := 2) rfl (cs := #[.int .i64 0, .slice none 0 0, .slice none 0 0, .slice none 0 0, .slice none 0 0, .slice none 0 0, .slice none 0 0, .slice none 0 0, .slice none 0 0]) (t := 27) (by first | (go_simp; done) | (go_simp; rfl)) ?_; intro gr hggr w2 hbox hb; have n0_ := Aside0.mk (below_step HB.out hb); have BKgr := Aside0.mk hbox; have HGgr := Aside0.mk (show w.heap.size ≤ gr by rw [hggr]; exact HB.out.size); clear HB; have HB := n0_; have NE1 := Aside0.mk (show gb ≠ gr by have := blk_lt BKgb.out; omega); have BKgb := Aside0.mk (blk_below BKgb.out hb); clear n0_ hbox hb hggr))
  have BKd := Aside0.mk (blk_drew BKgb.out)
  have BRd := Aside0.mk (blk_drew BKgr.out)
  have HBd := Aside0.mk (below_drew1 HB.out)
  clear BKgb BKgr HB
  refine start_ (n := 17) (S := fun w' => w'.heap[gb]? = some (.cells (bkCells s A c L) 27 (0, 0))) (ds := []) #[false, false, false, false, false, false, false, false, false, false, false, false, false, false, false, false, false] (by kernel_rfl) rfl rfl BKd.out (fun hHeld => ?_)
  generalize w2.drew = wd at BKd BRd HBd hHeld ⊢
  refine pure_ (i := 0) (N := some 6) (v := ?_) (a' := ?_) #[true, false, false, false, false, false, false, false, false, false, false, false, false, false, false, false, false] rfl rfl (by kernel_rfl) (fun _ _ _ h => h) (Or.inl ⟨by rfl, ?_⟩) ?_ ?_
  rotate_left
  · intro w'
    go_simp
    with_reducible rfl
  rotate_left
  · simp only [Act.put, List.setIfInBounds_toArray, List.set_cons_zero, List.set_cons_succ, i64_w, i32_w]
    rfl
  refine pure_ (i := 2) (N := some 8) (v := ?_) (a' := ?_) #[true, false, true, false, false, false, false, false, false, false, false, false, false, false, false, false, false] rfl rfl (by kernel_rfl) (fun _ _ _ h => h) (Or.inl ⟨by rfl, ?_⟩) ?_ ?_
  rotate_left
  · intro w'
    go_simp
    with_reducible rfl
  rotate_left
  · simp only [Act.put, List.setIfInBounds_toArray, List.set_cons_zero, List.set_cons_succ, i64_w, i32_w]
    rfl
  refine pure_ (i := 5) (N := some 11) (v := ?_) (a' := ?_) #[true, false, true, false, false, true, false, false, false, false, false, false, false, false, false, false, false] rfl rfl (by kernel_rfl) (fun _ _ _ h => h) (Or.inl ⟨by rfl, ?_⟩) ?_ ?_
  rotate_left
  · intro w'
    go_simp
    with_reducible rfl
  rotate_left
  · simp only [Act.put, List.setIfInBounds_toArray, List.set_cons_zero, List.set_cons_succ, i64_w, i32_w]
    rfl
  refine pure_ (i := 8) (N := some 14) (v := ?_) (a' := ?_) #[true, false, true, false, false, true, false, false, true, false, false, false, false, false, false, false, false] rfl rfl (by kernel_rfl) (fun _ _ _ h => h) (Or.inl ⟨by rfl, ?_⟩) ?_ ?_
  rotate_left
  · intro w'
    go_simp
    with_reducible rfl
  rotate_left
  · simp only [Act.put, List.setIfInBounds_toArray, List.set_cons_zero, List.set_cons_succ, i64_w, i32_w]
    rfl
  refine pure_ (i := 11) (N := some 17) (v := ?_) (a' := ?_) #[true, false, true, false, false, true, false, false, true, false, false, true, false, false, false, false, false] rfl rfl (by kernel_rfl) (fun _ _ _ h => h) (Or.inl ⟨by rfl, ?_⟩) ?_ ?_
  rotate_left
  · intro w'
    go_simp
    with_reducible rfl
  rotate_left
  · simp only [Act.put, List.setIfInBounds_toArray, List.set_cons_zero, List.set_cons_succ, i64_w, i32_w]
    rfl
  refine take_ (i := 1) (N := some 7) (v := ?_) (a' := ?_) #[true, true, true, false, false, true, false, false, true, false, false, true, false, false, false, false, false] rfl rfl (by kernel_rfl) (fun _ _ _ h => h) (Or.inl ⟨by rfl, ?_⟩) hHeld ?_ ?_
  rotate_left
  · intro w' hS
    have f1 : w'.cell? ⟨gb, 0, none⟩ = some (.int .i64 s) := (blk_cell hS 0).trans rfl
    have z1 := blk_frozen hS 0
    clear hS
    go_simp
    with_reducible rfl
  rotate_left
  · simp only [Act.put, List.setIfInBounds_toArray, List.set_cons_zero, List.set_cons_succ, i64_w, i32_w]
    rfl
  refine take_ (i := 3) (N := some 9) (v := ?_) (a' := ?_) #[true, true, true, true, false, true, false, false, true, false, false, true, false, false, false, false, false] rfl rfl (by kernel_rfl) (fun _ _ _ h => h) (Or.inl ⟨by rfl, ?_⟩) hHeld ?_ ?_
  rotate_left
  · intro w' hS
    have f1 : w'.cell? ⟨gb, 1, none⟩ = some (.slice (A 0) (L 0).length (c 0)) := (blk_cell hS 1).trans rfl
    have z1 := blk_frozen hS 1
    clear hS
    go_simp
    with_reducible rfl
  rotate_left
  · simp only [Act.put, List.setIfInBounds_toArray, List.set_cons_zero, List.set_cons_succ, i64_w, i32_w]
    rfl
  refine take_ (i := 6) (N := some 12) (v := ?_) (a' := ?_) #[true, true, true, true, false, true, true, false, true, false, false, true, false, false, false, false, false] rfl rfl (by kernel_rfl) (fun _ _ _ h => h) (Or.inl ⟨by rfl, ?_⟩) hHeld ?_ ?_
  rotate_left
  · intro w' hS
    have f1 : w'.cell? ⟨gb, 6, none⟩ = some (.slice (A 5) (L 5).length (c 5)) := (blk_cell hS 6).trans rfl
    have z1 := blk_frozen hS 6
    clear hS
    go_simp
    with_reducible rfl
  rotate_left
  · simp only [Act.put, List.setIfInBounds_toArray, List.set_cons_zero, List.set_cons_succ, i64_w, i32_w]
    rfl
  refine take_ (i := 9) (N := some 15) (v := ?_) (a' := ?_) #[true, true, true, true, false, true, true, false, true, true, false, true, false, false, false, false, false] rfl rfl (by kernel_rfl) (fun _ _ _ h => h) (Or.inl ⟨by rfl, ?_⟩) hHeld ?_ ?_
  rotate_left
  · intro w' hS
    have f1 : w'.cell? ⟨gb, 7, none⟩ = some (.slice (A 6) (L 6).length (c 6)) := (blk_cell hS 7).trans rfl
    have z1 := blk_frozen hS 7
    clear hS
    go_simp
    with_reducible rfl
  rotate_left
  · simp only [Act.put, List.setIfInBounds_toArray, List.set_cons_zero, List.set_cons_succ, i64_w, i32_w]
    rfl
  refine take_ (i := 12) (N := some 18) (v := ?_) (a' := ?_) #[true, true, true, true, false, true, true, false, true, true, false, true, true, false, false, false, false] rfl rfl (by kernel_rfl) (fun _ _ _ h => h) (Or.inl ⟨by rfl, ?_⟩) hHeld ?_ ?_
  rotate_left
  · intro w' hS
    have f1 : w'.cell? ⟨gb, 8, none⟩ = some (.slice (A 7) (L 7).length (c 7)) := (blk_cell hS 8).trans rfl
    have z1 := blk_frozen hS 8
    clear hS
    go_simp
    with_reducible rfl
  rotate_left
  · simp only [Act.put, List.setIfInBounds_toArray, List.set_cons_zero, List.set_cons_succ, i64_w, i32_w]
    rfl
  refine inv_ (I := fun A0 W0 l a w' => ∃ (b4 b7 b10 b13 b14 b15 : Bool) (x10 x13 x16 x19 x20 x3 : Value), l = #[true, true, true, true, b4, true, true, b7, true, true, b10, true, true, b13, b14, b15, false] ∧ a = putAll A0 [(10, x10), (13, x13), (16, x16), (19, x19), (20, x20), (3, x3)] ∧ Aside0 (Own w' w.heap.size (four8 (bif b4 then some (x10, L 0) else none) (bif b7 then some (x13, L 5) else none) (bif b10 then some (x16, L 6) else none) (bif b13 then some (x19, L 7) else none))) ∧ Aside0 (b14 = true → (b4 = true ∧ b7 = true ∧ b10 = true ∧ b13 = true) ∧ x20 = .agg #[.int .i64 s, x10, .slice none 0 0, .slice none 0 0, .slice none 0 0, .slice none 0 0, x13, x16, x19]) ∧ Aside0 (b15 = true → ∃ g, x3 = .pointer (some ⟨g, 0, none⟩) ∧ w'.heap[g]? = some (.cells #[.int .i64 0, .slice none 0 0, .slice none 0 0, .slice none 0 0, .slice none 0 0, .slice none 0 0, .slice none 0 0, .slice none 0 0, .slice none 0 0] 27 (0, 0)) ∧ w.heap.size ≤ g ∧ gb ≠ g ∧ gr ≠ g) ∧ Aside0 (w'.heap[gr]? = some (.cells #[.int .i64 0, .slice none 0 0, .slice none 0 0, .slice none 0 0, .slice none 0 0, .slice none 0 0, .slice none 0 0, .slice none 0 0, .slice none 0 0] 27 (0, 0))) ∧ Aside0 (Below w.heap.size w w')) (by decide) hHeld ⟨false, false, false, false, false, false, _, _, _, _, _, _, rfl, rfl, ⟨(Own.nil _ _).congr (fun i => by unfold four8; split <;> rfl)⟩, ⟨fun h => by cases h⟩, ⟨fun h => by cases h⟩, BRd, HBd⟩ ?_
  clear BKd BRd HBd hHeld
  intro l a wa hS hI
  obtain ⟨b4, b7, b10, b13, b14, b15, x10, x13, x16, x19, x20, x3, rfl, rfl, HO, HU, HA, BR, HB⟩ := hI
  simp only [putAll, Act.put, List.setIfInBounds_toArray, List.set_cons_zero, List.set_cons_succ]
  by_cases hx : b14 = true ∧ b15 = true
  rotate_left
  · refine Or.inr ⟨?_, fun i hi => ?_⟩
    · cases b4 with
      | false => exact ready_ne (ready_mem (i := 4) rfl rfl (by kernel_rfl))
      | true =>
        · cases b7 with
          | false => exact ready_ne (ready_mem (i := 7) rfl rfl (by kernel_rfl))
          | true =>
            · cases b10 with
              | false => exact ready_ne (ready_mem (i := 10) rfl rfl (by kernel_rfl))
              | true =>
                · cases b13 with
                  | false => exact ready_ne (ready_mem (i := 13) rfl rfl (by kernel_rfl))
                  | true =>
                    · cases b14 with
                      | false => exact ready_ne (ready_mem (i := 14) rfl rfl (by kernel_rfl))
                      | true =>
                        cases b15 with
                        | false => exact ready_ne (ready_mem (i := 15) rfl rfl (by kernel_rfl))
                        | true => exact absurd ⟨rfl, rfl⟩ hx
    · have hlt : i < 17 := ready_lt hi
      match i, hlt, hi with
      | 0, _, hi => exact (nomatch (show true = false from (mem_ready.1 hi).1))
      | 1, _, hi => exact (nomatch (show true = false from (mem_ready.1 hi).1))
      | 2, _, hi => exact (nomatch (show true = false from (mem_ready.1 hi).1))
      | 3, _, hi => exact (nomatch (show true = false from (mem_ready.1 hi).1))
      | 5, _, hi => exact (nomatch (show true = false from (mem_ready.1 hi).1))
      | 6, _, hi => exact (nomatch (show true = false from (mem_ready.1 hi).1))
      | 8, _, hi => exact (nomatch (show true = false from (mem_ready.1 hi).1))
      | 9, _, hi => exact (nomatch (show true = false from (mem_ready.1 hi).1))
      | 11, _, hi => exact (nomatch (show true = false from (mem_ready.1 hi).1))
      | 12, _, hi => exact (nomatch (show true = false from (mem_ready.1 hi).1))
      | 4, _, hi =>
        have h0 : b4 = false := (mem_ready.1 hi).1
        subst h0
        refine wpOp_step rfl (fun K' hK => ?_)
        refine goes_ Try.func74 (by kernel_rfl) rfl #[.slice (A 0) (L 0).length (c 0)] (by rfl) rfl rfl (by (try simp only [List.map_toArray, List.map_cons, List.map_nil]); first | done | rfl) ?_
        refine (clone_calls _ _ _ _ ((HR.out 0 (by omega)).below HB.out) (HL.out 0)).mono ?_
        rintro e w5 ⟨A', c', rfl, ho, hb⟩
        exact ⟨_, rfl, hK _ _ ⟨blk_below hS hb, true, b7, b10, b13, b14, b15, (.slice A' (L 0).length c'), x13, x16, x19, x20, x3, rfl, rfl, ⟨HO.out.add (grown_of_below hb none) 0 (Kd.R_lower (Kd.R_mono ho (fun _ _ => trivial)) HB.out.size) (fun k hk => (ho.lt k hk).1) rfl four8_ne0⟩, ⟨fun h => by have := (HU.out h).1; simp at this⟩, ⟨fun h => by obtain ⟨g, e, hg', h1, h2, h3⟩ := HA.out h; exact ⟨g, e, blk_below hg' hb, h1, h2, h3⟩⟩, ⟨blk_below BR.out hb⟩, ⟨below_step HB.out hb⟩⟩⟩
      | 7, _, hi =>
        have h0 : b7 = false := (mem_ready.1 hi).1
        subst h0
        refine wpOp_step rfl (fun K' hK => ?_)
        refine goes_ Try.func74 (by kernel_rfl) rfl #[.slice (A 5) (L 5).length (c 5)] (by rfl) rfl rfl (by (try simp only [List.map_toArray, List.map_cons, List.map_nil]); first | done | rfl) ?_
        refine (clone_calls _ _ _ _ ((HR.out 5 (by omega)).below HB.out) (HL.out 5)).mono ?_
        rintro e w5 ⟨A', c', rfl, ho, hb⟩
        exact ⟨_, rfl, hK _ _ ⟨blk_below hS hb, b4, true, b10, b13, b14, b15, x10, (.slice A' (L 5).length c'), x16, x19, x20, x3, rfl, rfl, ⟨HO.out.add (grown_of_below hb none) 5 (Kd.R_lower (Kd.R_mono ho (fun _ _ => trivial)) HB.out.size) (fun k hk => (ho.lt k hk).1) rfl four8_ne5⟩, ⟨fun h => by have := (HU.out h).1; simp at this⟩, ⟨fun h => by obtain ⟨g, e, hg', h1, h2, h3⟩ := HA.out h; exact ⟨g, e, blk_below hg' hb, h1, h2, h3⟩⟩, ⟨blk_below BR.out hb⟩, ⟨below_step HB.out hb⟩⟩⟩
      | 10, _, hi =>
        have h0 : b10 = false := (mem_ready.1 hi).1
        subst h0
        refine wpOp_step rfl (fun K' hK => ?_)
        refine goes_ Try.func74 (by kernel_rfl) rfl #[.slice (A 6) (L 6).length (c 6)] (by rfl) rfl rfl (by (try simp only [List.map_toArray, List.map_cons, List.map_nil]); first | done | rfl) ?_
        refine (clone_calls _ _ _ _ ((HR.out 6 (by omega)).below HB.out) (HL.out 6)).mono ?_
        rintro e w5 ⟨A', c', rfl, ho, hb⟩
        exact ⟨_, rfl, hK _ _ ⟨blk_below hS hb, b4, b7, true, b13, b14, b15, x10, x13, (.slice A' (L 6).length c'), x19, x20, x3, rfl, rfl, ⟨HO.out.add (grown_of_below hb none) 6 (Kd.R_lower (Kd.R_mono ho (fun _ _ => trivial)) HB.out.size) (fun k hk => (ho.lt k hk).1) rfl four8_ne6⟩, ⟨fun h => by have := (HU.out h).1; simp at this⟩, ⟨fun h => by obtain ⟨g, e, hg', h1, h2, h3⟩ := HA.out h; exact ⟨g, e, blk_below hg' hb, h1, h2, h3⟩⟩, ⟨blk_below BR.out hb⟩, ⟨below_step HB.out hb⟩⟩⟩
      | 13, _, hi =>
        have h0 : b13 = false := (mem_ready.1 hi).1
        subst h0
        refine wpOp_step rfl (fun K' hK => ?_)
        refine goes_ Try.func74 (by kernel_rfl) rfl #[.slice (A 7) (L 7).length (c 7)] (by rfl) rfl rfl (by (try simp only [List.map_toArray, List.map_cons, List.map_nil]); first | done | rfl) ?_
        refine (clone_calls _ _ _ _ ((HR.out 7 (by omega)).below HB.out) (HL.out 7)).mono ?_
        rintro e w5 ⟨A', c', rfl, ho, hb⟩
        exact ⟨_, rfl, hK _ _ ⟨blk_below hS hb, b4, b7, b10, true, b14, b15, x10, x13, x16, (.slice A' (L 7).length c'), x20, x3, rfl, rfl, ⟨HO.out.add (grown_of_below hb none) 7 (Kd.R_lower (Kd.R_mono ho (fun _ _ => trivial)) HB.out.size) (fun k hk => (ho.lt k hk).1) rfl four8_ne7⟩, ⟨fun h => by have := (HU.out h).1; simp at this⟩, ⟨fun h => by obtain ⟨g, e, hg', h1, h2, h3⟩ := HA.out h; exact ⟨g, e, blk_below hg' hb, h1, h2, h3⟩⟩, ⟨blk_below BR.out hb⟩, ⟨below_step HB.out hb⟩⟩⟩
      | 14, _, hi =>
        have h0 : b14 = false := (mem_ready.1 hi).1
        subst h0
        have d4 : b4 = true := dep_ (j := 4) hi (by kernel_rfl)
        have d7 : b7 = true := dep_ (j := 7) hi (by kernel_rfl)
        have d10 : b10 = true := dep_ (j := 10) hi (by kernel_rfl)
        have d13 : b13 = true := dep_ (j := 13) hi (by kernel_rfl)
        subst d4 d7 d10 d13
        refine wpOp_step rfl (fun K' hK => ?_)
        obtain ⟨A0', c0', rfl⟩ := Kd.R_slice (HO.out.1 0 _ _ rfl)
        obtain ⟨A5', c5', rfl⟩ := Kd.R_slice (HO.out.1 5 _ _ rfl)
        obtain ⟨A6', c6', rfl⟩ := Kd.R_slice (HO.out.1 6 _ _ rfl)
        obtain ⟨A7', c7', rfl⟩ := Kd.R_slice (HO.out.1 7 _ _ rfl)
        refine value_ (v := .agg #[.int .i64 s, .slice A0' (L 0).length c0', .slice none 0 0, .slice none 0 0, .slice none 0 0, .slice none 0 0, .slice A5' (L 5).length c5', .slice A6' (L 6).length c6', .slice A7' (L 7).length c7']) (w1 := wa) (by rfl) rfl (by first | (go_simp; done) | (go_simp; rfl)) ?_
        exact hK _ _ ⟨hS, true, true, true, true, true, b15, _, _, _, _, _, _, rfl, rfl, HO, ⟨fun _ => ⟨⟨rfl, rfl, rfl, rfl⟩, rfl⟩⟩, HA, BR, HB⟩
      | 15, _, hi =>
        have h0 : b15 = false := (mem_ready.1 hi).1
        subst h0
        refine wpOp_step rfl (fun K' hK => ?_)
        refine box_step (by rfl) (N := 3) rfl (cs := #[.int .i64 0, .slice none 0 0, .slice none 0 0, .slice none 0 0, .slice none 0 0, .slice none 0 0, .slice none 0 0, .slice none 0 0, .slice none 0 0]) (t := 27) (by first | (go_simp; done) | (go_simp; rfl)) ?_
        intro g hg w5 hbox hb
        exact hK _ _ ⟨blk_below hS hb, b4, b7, b10, b13, b14, true, x10, x13, x16, x19, x20, (.pointer (some ⟨g, 0, none⟩)), rfl, rfl, ⟨HO.out.below hb⟩, HU, ⟨fun _ => ⟨g, rfl, hbox, by rw [hg]; exact HB.out.size, by rw [hg]; exact Nat.ne_of_lt (blk_lt hS), by rw [hg]; exact Nat.ne_of_lt (blk_lt BR.out)⟩⟩, ⟨blk_below BR.out hb⟩, ⟨below_step HB.out hb⟩⟩
      | j + 17, h, _ => exact absurd h (by omega)
      | 16, _, hi => exact absurd ⟨dep_ (j := 14) hi (by kernel_rfl), dep_ (j := 15) hi (by kernel_rfl)⟩ hx
  obtain ⟨rfl, rfl⟩ := hx
  obtain ⟨⟨rfl, rfl, rfl, rfl⟩, hu⟩ := HU.out rfl
  obtain ⟨go, hp, BG, HG0, NBG, NRG⟩ := HA.out rfl
  obtain ⟨A0', c0', rfl⟩ := Kd.R_slice (HO.out.1 0 _ _ rfl)
  obtain ⟨A5', c5', rfl⟩ := Kd.R_slice (HO.out.1 5 _ _ rfl)
  obtain ⟨A6', c6', rfl⟩ := Kd.R_slice (HO.out.1 6 _ _ rfl)
  obtain ⟨A7', c7', rfl⟩ := Kd.R_slice (HO.out.1 7 _ _ rfl)
  subst hu hp
  clear HU HA 
  refine Or.inl fun fuel hm => ?_
  obtain ⟨fuel, rfl⟩ : ∃ k, fuel = k + 1 := ⟨fuel - 1, by have h1 : 1 ≤ fuel := hm; omega⟩
  refine one_ (i := 16) (N := none) #[true, true, true, true, true, true, true, true, true, true, true, true, true, true, true, true, true] rfl rfl (by kernel_rfl) (by decide) (fun K hK => ?_)
  refine skip_ (w1 := wa.setRow go #[.int .i64 s, .slice A0' (L 0).length c0', .slice none 0 0, .slice none 0 0, .slice none 0 0, .slice none 0 0, .slice A5' (L 5).length c5', .slice A6' (L 6).length c6', .slice A7' (L 7).length c7']) (by rfl) rfl (Row.store_row_run (g := go) (cells := #[.int .i64 s, .slice A0' (L 0).length c0', .slice none 0 0, .slice none 0 0, .slice none 0 0, .slice none 0 0, .slice A5' (L 5).length c5', .slice A6' (L 6).length c6', .slice A7' (L 7).length c7']) (t := 27) (old := #[.int .i64 0, .slice none 0 0, .slice none 0 0, .slice none 0 0, .slice none 0 0, .slice none 0 0, .slice none 0 0, .slice none 0 0, .slice none 0 0]) rfl (by rfl) (by rfl) BG (by kernel_rfl) rfl (by simp [Value.oneCell'])) ?_
  refine hK.out _ _ (Row.row_there rfl hS NBG) (fun _ => done_ (by kernel_rfl) ?_)
  clear hK
  have HOw := Aside0.mk (HO.out.row BG (by decide) #[.int .i64 s, .slice A0' (L 0).length c0', .slice none 0 0, .slice none 0 0, .slice none 0 0, .slice none 0 0, .slice A5' (L 5).length c5', .slice A6' (L 6).length c6', .slice A7' (L 7).length c7'])
  have BKgb : Aside0 ((wa.setRow go #[.int .i64 s, .slice A0' (L 0).length c0', .slice none 0 0, .slice none 0 0, .slice none 0 0, .slice none 0 0, .slice A5' (L 5).length c5', .slice A6' (L 6).length c6', .slice A7' (L 7).length c7']).heap[gb]? = some (.cells (bkCells s A c L) 27 (0, 0))) := ⟨Row.row_there rfl hS NBG⟩
  have BKgr : Aside0 ((wa.setRow go #[.int .i64 s, .slice A0' (L 0).length c0', .slice none 0 0, .slice none 0 0, .slice none 0 0, .slice none 0 0, .slice A5' (L 5).length c5', .slice A6' (L 6).length c6', .slice A7' (L 7).length c7']).heap[gr]? = some (.cells #[.int .i64 0, .slice none 0 0, .slice none 0 0, .slice none 0 0, .slice none 0 0, .slice none 0 0, .slice none 0 0, .slice none 0 0, .slice none 0 0] 27 (0, 0))) := ⟨Row.row_there rfl BR.out NRG⟩
  have BKgo : Aside0 ((wa.setRow go #[.int .i64 s, .slice A0' (L 0).length c0', .slice none 0 0, .slice none 0 0, .slice none 0 0, .slice none 0 0, .slice A5' (L 5).length c5', .slice A6' (L 6).length c6', .slice A7' (L 7).length c7']).heap[go]? = some (.cells #[.int .i64 s, .slice A0' (L 0).length c0', .slice none 0 0, .slice none 0 0, .slice none 0 0, .slice none 0 0, .slice A5' (L 5).length c5', .slice A6' (L 6).length c6', .slice A7' (L 7).length c7'] 27 (0, 0))) := ⟨Row.row_here rfl BG⟩
  have HBw : Aside0 (Below w.heap.size w (wa.setRow go #[.int .i64 s, .slice A0' (L 0).length c0', .slice none 0 0, .slice none 0 0, .slice none 0 0, .slice none 0 0, .slice A5' (L 5).length c5', .slice A6' (L 6).length c6', .slice A7' (L 7).length c7'])) := ⟨Row.row_below rfl HB.out HG0⟩
  clear HO BR HB hS BG
  generalize wa.setRow go #[.int .i64 s, .slice A0' (L 0).length c0', .slice none 0 0, .slice none 0 0, .slice none 0 0, .slice none 0 0, .slice A5' (L 5).length c5', .slice A6' (L 6).length c6', .slice A7' (L 7).length c7'] = w9 at HOw BKgb BKgr BKgo HBw ⊢
  have HO := HOw
  have HB := HBw
  clear HOw HBw
  have HO0 := Aside0.mk (HO.out.congr (D' := copyD (vals8 (.slice A0' (L 0).length c0') (.slice A5' (L 5).length c5') (.slice A6' (L 6).length c6') (.slice A7' (L 7).length c7')) L 0) copyD_four)
  have BKgo0 : Aside0 (w9.heap[go]? = some (.cells (bkV s (vals8 (.slice A0' (L 0).length c0') (.slice A5' (L 5).length c5') (.slice A6' (L 6).length c6') (.slice A7' (L 7).length c7'))) 27 (0, 0))) := ⟨BKgo.out⟩
  clear HO BKgo
  have HO := HO0
  have BKgo := BKgo0
  clear HO0 BKgo0
  generalize (vals8 (.slice A0' (L 0).length c0') (.slice A5' (L 5).length c5') (.slice A6' (L 6).length c6') (.slice A7' (L 7).length c7')) = V at HO BKgo ⊢
  have fgbs0 : w9.cell? ⟨gb, 0, none⟩ = some (.int .i64 _) := (blk_cell BKgb.out 0).trans rfl; have fgb1 : w9.cell? ⟨gb, 1, none⟩ = some (.slice (A 0) (L 0).length (c 0)) := (blk_cell BKgb.out 1).trans rfl; have fgb2 : w9.cell? ⟨gb, 2, none⟩ = some (.slice (A 1) (L 1).length (c 1)) := (blk_cell BKgb.out 2).trans rfl; have fgb3 : w9.cell? ⟨gb, 3, none⟩ = some (.slice (A 2) (L 2).length (c 2)) := (blk_cell BKgb.out 3).trans rfl; have fgb4 : w9.cell? ⟨gb, 4, none⟩ = some (.slice (A 3) (L 3).length (c 3)) := (blk_cell BKgb.out 4).trans rfl; have fgb5 : w9.cell? ⟨gb, 5, none⟩ = some (.slice (A 4) (L 4).length (c 4)) := (blk_cell BKgb.out 5).trans rfl; have fgb6 : w9.cell? ⟨gb, 6, none⟩ = some (.slice (A 5) (L 5).length (c 5)) := (blk_cell BKgb.out 6).trans rfl; have fgb7 : w9.cell? ⟨gb, 7, none⟩ = some (.slice (A 6) (L 6).length (c 6)) := (blk_cell BKgb.out 7).trans rfl; have fgb8 : w9.cell? ⟨gb, 8, none⟩ = some (.slice (A 7) (L 7).length (c 7)) := (blk_cell BKgb.out 8).trans rfl; have fgbz0 := blk_frozen BKgb.out 0; have fgbz1 := blk_frozen BKgb.out 1; have fgbz2 := blk_frozen BKgb.out 2; have fgbz3 := blk_frozen BKgb.out 3; have fgbz4 := blk_frozen BKgb.out 4; have fgbz5 := blk_frozen BKgb.out 5; have fgbz6 := blk_frozen BKgb.out 6; have fgbz7 := blk_frozen BKgb.out 7; have fgbz8 := blk_frozen BKgb.out 8
  go_wp2_with fail
  clear fgbs0 fgbz0 fgb1 fgbz1 fgb2 fgbz2 fgb3 fgbz3 fgb4 fgbz4 fgb5 fgbz5 fgb6 fgbz6 fgb7 fgbz7 fgb8 fgbz8 BKgb
  go_loopg [23] 5 (fun kq v23 w' => ∃ (k : Nat) (V : Nat → Value), k ≤ 4 ∧ kq = 5 - k ∧ v23 = .int .i64 k ∧ Aside0 (w'.heap[gr]? = some (.cells #[.int .i64 0, .slice none 0 0, .slice none 0 0, .slice none 0 0, .slice none 0 0, .slice none 0 0, .slice none 0 0, .slice none 0 0, .slice none 0 0] 27 (0, 0))) ∧ Aside0 (w'.heap[go]? = some (.cells (bkV s V) 27 (0, 0))) ∧ Aside0 (Own w' w.heap.size (copyD V L k)) ∧ Aside0 (Below w.heap.size w w'))
  case atStart => exact ⟨0, V, by omega, by omega, rfl, BKgr, BKgo, HO, HB⟩
  case round =>
    clear HB BKgr BKgo HO V
    obtain ⟨k, V, hk, rfl, rfl, BKgr, BKgo, HO, HB⟩ := hrel
    by_cases hlt : k < 4
    · have hidx := idx4 A c L k hlt
      have hi : (k : Int) < 4 := by omega
      go_wp2_with fail
      refine (clone_calls _ _ _ _ ((HR.out (k + 1) (by omega)).below HB.out) (HL.out (k + 1))).mono ?_
      rintro e w4 ⟨A', c', rfl, ho, hb⟩
      have HO4 := Aside0.mk (HO.out.add (grown_of_below hb none) (k + 1) (Kd.R_lower (Kd.R_mono ho (fun _ _ => trivial)) HB.out.size) (fun k hk => (ho.lt k hk).1) (copyD_new hlt) copyD_old)
      have HB4 := Aside0.mk (below_step HB.out hb)
      have BKgr4 := Aside0.mk (blk_below BKgr.out hb)
      have BKgo4 := Aside0.mk (blk_below BKgo.out hb)
      clear HO HB BKgr BKgo ho hb hidx
      have hold : w4.cell? ⟨go, 2 + k, none⟩ = some (V (k + 1)) := (blk_cell BKgo4.out (2 + k)).trans (bkV_at s V k hlt)
      have hfo := blk_frozen BKgo4.out (2 + k)
      go_wp2_with (first | ((with_reducible refine gate_store (t := 24) (p := 31) rfl ?_); refine store_event (t := 24) (p := 31) (v := ?vo_1) (w1 := (w4.setCell ⟨go, 2 + k, none⟩ (.slice A' (L (k + 1)).length c'))) ?hg ?ho ?hn ?hr ?_; (case ho => rfl); (case hg => rfl); (case hn => rfl); (case hr => first | (go_simp; done) | (go_simp; rfl)); intro w5 hw; have HO := Aside0.mk (show Own w5 w.heap.size (copyD _ L (k + 1)) by rw [hw]; exact HO4.out.set BKgo4.out (by decide) (2 + k) _); have HB := Aside0.mk (show Below w.heap.size w w5 by rw [hw]; exact below_set HB4.out HG0); have BKgr := Aside0.mk (show w5.heap[gr]? = some (.cells #[.int .i64 0, .slice none 0 0, .slice none 0 0, .slice none 0 0, .slice none 0 0, .slice none 0 0, .slice none 0 0, .slice none 0 0, .slice none 0 0] 27 (0, 0)) by rw [hw]; exact blk_far BKgr4.out NRG _); have BKgo := Aside0.mk (show w5.heap[go]? = some (.cells (bkV s _) 27 (0, 0)) by rw [hw]; exact (blk_set BKgo4.out (2 + k) _).trans (by rw [bkV_set s V k _ hlt])); clear hw))
      go_roundg (5 - (k + 1))
      case measure => omega
      case rel => exact ⟨k + 1, _, by omega, rfl, by go_num, BKgr, BKgo, HO, HB⟩
    · have hk4 : k = 4 := by omega
      subst hk4
      have BKgo2 := Aside0.mk (show wr.heap[go]? = some (.cells (bkCells s (fun i => aOf (V i)) (fun i => cOf (V i)) L) 27 (0, 0)) by rw [← HO.out.bkV s]; exact BKgo.out)
      have HOo := Aside0.mk (HO.out.bk (V := V) (fun i hi => Or.inl (copyD_all hi)))
      clear BKgo HO
      go_wp2_with (first | ((with_reducible refine gate_dst (N := 33) rfl ?_); refine Kd.event_run rfl (Row.load_row_run (g := go) (t := 27) (cells := bkCells s (fun i => aOf (V i)) (fun i => cOf (V i)) L) rfl rfl BKgo2.out Try.underlying27 rfl (by kernel_rfl)) ?_) | ((with_reducible refine gate_store (t := 27) (p := 2) rfl ?_); refine store_event (t := 27) (p := 2) (v := ?vo_2) (w1 := wr.setRow gr (bkCells s (fun i => aOf (V i)) (fun i => cOf (V i)) L)) ?hg ?ho ?hn ?hr ?_; (case ho => rfl); (case hg => rfl); (case hn => rfl); (case hr => exact (Row.store_row_run (g := gr) (cells := bkCells s (fun i => aOf (V i)) (fun i => cOf (V i)) L) (t := 27) (old := #[.int .i64 0, .slice none 0 0, .slice none 0 0, .slice none 0 0, .slice none 0 0, .slice none 0 0, .slice none 0 0, .slice none 0 0, .slice none 0 0]) rfl (by rfl) (by rfl) BKgr.out (by kernel_rfl) rfl (by simp [Value.oneCell']))); intro w6 hw; have HO5 := Aside0.mk (show BkO w6 w.heap.size w6.heap.size _ _ L by rw [hw, size_row]; exact VO.row HOo.out BKgr.out (by decide) _); have HB5 := Aside0.mk (Row.row_below hw HB.out HGgr.out); have BK5 := Aside0.mk (Row.row_here hw BKgr.out); clear hw))
      refine bodyPost_ret (results_cell_row rfl _ _ gr 27 (bkCells s (fun i => aOf (V i)) (fun i => cOf (V i)) L) (0, 0) _ rfl BK5.out Try.underlying27 rfl (by kernel_rfl)) rfl ?_
      exact ⟨_, _, rfl, HO5.out, HB5.out⟩


theorem copyD_lit {V : Nat → Value} {L : Nat → List Int} {k : Nat} {v : Value} (hk : k < 4) : copyD (fun i => if i = k + 1 then v else V i) (fun i => if i = k + 1 then [] else L i) (k + 1) (k + 1) = some (v, []) := by
  unfold copyD
  rw [if_pos ⟨by omega, by omega⟩]
  simp
theorem copyD_litold {V : Nat → Value} {L : Nat → List Int} {k : Nat} {v : Value} : ∀ j, j ≠ k + 1 → copyD (fun i => if i = k + 1 then v else V i) (fun i => if i = k + 1 then [] else L i) (k + 1) j = copyD V L k j := by
  intro j hj
  unfold copyD
  simp only [if_neg hj]
  by_cases h : j < 8 ∧ (j = 0 ∨ 5 ≤ j ∨ j ≤ k)
  · rw [if_pos h, if_pos ⟨h.1, by omega⟩]
  · rw [if_neg h, if_neg (fun q => h ⟨q.1, by omega⟩)]
theorem copyD_fin {V : Nat → Value} {L : Nat → List Int} {k : Nat} {v v' : Value} : ∀ j, j ≠ k + 1 → copyD (fun i => if i = k + 1 then v else V i) L (k + 1) j = copyD (fun i => if i = k + 1 then v' else V i) (fun i => if i = k + 1 then [] else L i) (k + 1) j := by
  intro j hj
  unfold copyD
  simp only [if_neg hj]
set_option maxHeartbeats 8000000 in
set_option maxRecDepth 100000 in
theorem l3Copy_calls (s : Int) (A : Nat → Option Addr) (c : Nat → Nat) (L : Nat → List Int) (w : World) (h : BkC w A c L) (hl : ∀ i, (L i).length ≤ 1048576) :
    Calls Try.prog 58 #[.agg (bkCells s A c L)] w fun e w' => ∃ A' c', e = .returned (.agg (bkCells s A' c' L)) ∧ BkO w' w.heap.size w'.heap.size A' c' L ∧ Below w.heap.size w w' := by
  have HR := Aside0.mk h
  have HL := Aside0.mk hl
  clear h hl
  have HB := Aside0.mk (Below.refl w.heap.size w)
  go_enter Try.func58, Try.ntmps58
  go_wp2_with (first | ((with_reducible refine gate_dst (N := 1) rfl ?_); refine box_event rfl (N := 1) rfl (cs := bkCells s A c L) (t := 27) (by first | (go_simp; done) | (go_simp; rfl)) ?_; intro gb hggb w1 hbox hb; have n0_ := Aside0.mk (below_step HB.out hb); have BKgb := Aside0.mk hbox; have HGgb := Aside0.mk (show w.heap.size ≤ gb by rw [hggb]; exact HB.out.size); clear HB; have HB := n0_; clear n0_ hbox hb hggb) | ((with_reducible refine gate_dst (N := 2) rfl ?_); refine box_event rfl (N := 2) rfl (cs := #[.int .i64 0, .slice none 0 0, .slice none 0 0, .slice none 0 0, .slice none 0 0, .slice none 0 0, .slice none 0 0, .slice none 0 0, .slice none 0 0]) (t := 27) (by first | (go_simp; done) | (go_simp; rfl)) ?_; intro gr hggr w2 hbox hb; have n0_ := Aside0.mk (below_step HB.out hb); have BKgr := Aside0.mk hbox; have HGgr := Aside0.mk (show w.heap.size ≤ gr by rw [hggr]; exact HB.out.size); clear HB; have HB := n0_; have NE1 := Aside0.mk (show gb ≠ gr by have := blk_lt BKgb.out; omega); have BKgb := Aside0.mk (blk_below BKgb.out hb); clear n0_ hbox hb hggr))
  have BKd := Aside0.mk (blk_drew BKgb.out)
  have BRd := Aside0.mk (blk_drew BKgr.out)
  have HBd := Aside0.mk (below_drew1 HB.out)
  clear BKgb BKgr HB
  refine start_ (n := 21) (S := fun w' => w'.heap[gb]? = some (.cells (bkCells s A c L) 27 (0, 0))) (ds := []) #[false, false, false, false, false, false, false, false, false, false, false, false, false, false, false, false, false, false, false, false, false] (by kernel_rfl) rfl rfl BKd.out (fun hHeld => ?_)
  generalize w2.drew = wd at BKd BRd HBd hHeld ⊢
  refine pure_ (i := 0) (N := some 5) (v := ?_) (a' := ?_) #[true, false, false, false, false, false, false, false, false, false, false, false, false, false, false, false, false, false, false, false, false] rfl rfl (by kernel_rfl) (fun _ _ _ h => h) (Or.inl ⟨by rfl, ?_⟩) ?_ ?_
  rotate_left
  · intro w'
    go_simp
    with_reducible rfl
  rotate_left
  · simp only [Act.put, List.setIfInBounds_toArray, List.set_cons_zero, List.set_cons_succ, i64_w, i32_w]
    rfl
  refine pure_ (i := 3) (N := some 8) (v := ?_) (a' := ?_) #[true, false, false, true, false, false, false, false, false, false, false, false, false, false, false, false, false, false, false, false, false] rfl rfl (by kernel_rfl) (fun _ _ _ h => h) (Or.inl ⟨by rfl, ?_⟩) ?_ ?_
  rotate_left
  · intro w'
    go_simp
    with_reducible rfl
  rotate_left
  · simp only [Act.put, List.setIfInBounds_toArray, List.set_cons_zero, List.set_cons_succ, i64_w, i32_w]
    rfl
  refine pure_ (i := 7) (N := some 12) (v := ?_) (a' := ?_) #[true, false, false, true, false, false, false, true, false, false, false, false, false, false, false, false, false, false, false, false, false] rfl rfl (by kernel_rfl) (fun _ _ _ h => h) (Or.inl ⟨by rfl, ?_⟩) ?_ ?_
  rotate_left
  · intro w'
    go_simp
    with_reducible rfl
  rotate_left
  · simp only [Act.put, List.setIfInBounds_toArray, List.set_cons_zero, List.set_cons_succ, i64_w, i32_w]
    rfl
  refine pure_ (i := 11) (N := some 16) (v := ?_) (a' := ?_) #[true, false, false, true, false, false, false, true, false, false, false, true, false, false, false, false, false, false, false, false, false] rfl rfl (by kernel_rfl) (fun _ _ _ h => h) (Or.inl ⟨by rfl, ?_⟩) ?_ ?_
  rotate_left
  · intro w'
    go_simp
    with_reducible rfl
  rotate_left
  · simp only [Act.put, List.setIfInBounds_toArray, List.set_cons_zero, List.set_cons_succ, i64_w, i32_w]
    rfl
  refine pure_ (i := 15) (N := some 20) (v := ?_) (a' := ?_) #[true, false, false, true, false, false, false, true, false, false, false, true, false, false, false, true, false, false, false, false, false] rfl rfl (by kernel_rfl) (fun _ _ _ h => h) (Or.inl ⟨by rfl, ?_⟩) ?_ ?_
  rotate_left
  · intro w'
    go_simp
    with_reducible rfl
  rotate_left
  · simp only [Act.put, List.setIfInBounds_toArray, List.set_cons_zero, List.set_cons_succ, i64_w, i32_w]
    rfl
  refine take_ (i := 1) (N := some 6) (v := ?_) (a' := ?_) #[true, true, false, true, false, false, false, true, false, false, false, true, false, false, false, true, false, false, false, false, false] rfl rfl (by kernel_rfl) (fun _ _ _ h => h) (Or.inl ⟨by rfl, ?_⟩) hHeld ?_ ?_
  rotate_left
  · intro w' hS
    have f1 : w'.cell? ⟨gb, 0, none⟩ = some (.int .i64 s) := (blk_cell hS 0).trans rfl
    have z1 := blk_frozen hS 0
    clear hS
    go_simp
    with_reducible rfl
  rotate_left
  · simp only [Act.put, List.setIfInBounds_toArray, List.set_cons_zero, List.set_cons_succ, i64_w, i32_w]
    rfl
  refine take_ (i := 4) (N := some 9) (v := ?_) (a' := ?_) #[true, true, false, true, true, false, false, true, false, false, false, true, false, false, false, true, false, false, false, false, false] rfl rfl (by kernel_rfl) (fun _ _ _ h => h) (Or.inl ⟨by rfl, ?_⟩) hHeld ?_ ?_
  rotate_left
  · intro w' hS
    have f1 : w'.cell? ⟨gb, 1, none⟩ = some (.slice (A 0) (L 0).length (c 0)) := (blk_cell hS 1).trans rfl
    have z1 := blk_frozen hS 1
    clear hS
    go_simp
    with_reducible rfl
  rotate_left
  · simp only [Act.put, List.setIfInBounds_toArray, List.set_cons_zero, List.set_cons_succ, i64_w, i32_w]
    rfl
  refine take_ (i := 8) (N := some 13) (v := ?_) (a' := ?_) #[true, true, false, true, true, false, false, true, true, false, false, true, false, false, false, true, false, false, false, false, false] rfl rfl (by kernel_rfl) (fun _ _ _ h => h) (Or.inl ⟨by rfl, ?_⟩) hHeld ?_ ?_
  rotate_left
  · intro w' hS
    have f1 : w'.cell? ⟨gb, 6, none⟩ = some (.slice (A 5) (L 5).length (c 5)) := (blk_cell hS 6).trans rfl
    have z1 := blk_frozen hS 6
    clear hS
    go_simp
    with_reducible rfl
  rotate_left
  · simp only [Act.put, List.setIfInBounds_toArray, List.set_cons_zero, List.set_cons_succ, i64_w, i32_w]
    rfl
  refine take_ (i := 12) (N := some 17) (v := ?_) (a' := ?_) #[true, true, false, true, true, false, false, true, true, false, false, true, true, false, false, true, false, false, false, false, false] rfl rfl (by kernel_rfl) (fun _ _ _ h => h) (Or.inl ⟨by rfl, ?_⟩) hHeld ?_ ?_
  rotate_left
  · intro w' hS
    have f1 : w'.cell? ⟨gb, 7, none⟩ = some (.slice (A 6) (L 6).length (c 6)) := (blk_cell hS 7).trans rfl
    have z1 := blk_frozen hS 7
    clear hS
    go_simp
    with_reducible rfl
  rotate_left
  · simp only [Act.put, List.setIfInBounds_toArray, List.set_cons_zero, List.set_cons_succ, i64_w, i32_w]
    rfl
  refine take_ (i := 16) (N := some 21) (v := ?_) (a' := ?_) #[true, true, false, true, true, false, false, true, true, false, false, true, true, false, false, true, true, false, false, false, false] rfl rfl (by kernel_rfl) (fun _ _ _ h => h) (Or.inl ⟨by rfl, ?_⟩) hHeld ?_ ?_
  rotate_left
  · intro w' hS
    have f1 : w'.cell? ⟨gb, 8, none⟩ = some (.slice (A 7) (L 7).length (c 7)) := (blk_cell hS 8).trans rfl
    have z1 := blk_frozen hS 8
    clear hS
    go_simp
    with_reducible rfl
  rotate_left
  · simp only [Act.put, List.setIfInBounds_toArray, List.set_cons_zero, List.set_cons_succ, i64_w, i32_w]
    rfl
  refine inv_ (I := fun A0 W0 l a w' => ∃ (b2 b5 b6 b9 b10 b13 b14 b17 b18 b19 : Bool) (x7 x10 x11 x14 x15 x18 x19 x22 x23 x3 : Value), l = #[true, true, b2, true, true, b5, b6, true, true, b9, b10, true, true, b13, b14, true, true, b17, b18, b19, false] ∧ a = putAll A0 [(7, x7), (10, x10), (11, x11), (14, x14), (15, x15), (18, x18), (19, x19), (22, x22), (23, x23), (3, x3)] ∧ Aside0 (Own w' w.heap.size (four8 (bif b5 then some (x10, L 0) else bif b2 then some (x7, []) else none) (bif b9 then some (x14, L 5) else bif b6 then some (x11, []) else none) (bif b13 then some (x18, L 6) else bif b10 then some (x15, []) else none) (bif b17 then some (x22, L 7) else bif b14 then some (x19, []) else none))) ∧ Aside0 (b18 = true → (b5 = true ∧ b9 = true ∧ b13 = true ∧ b17 = true) ∧ x23 = .agg #[.int .i64 s, x10, .slice none 0 0, .slice none 0 0, .slice none 0 0, .slice none 0 0, x14, x18, x22]) ∧ Aside0 (b19 = true → ∃ g, x3 = .pointer (some ⟨g, 0, none⟩) ∧ w'.heap[g]? = some (.cells #[.int .i64 0, .slice none 0 0, .slice none 0 0, .slice none 0 0, .slice none 0 0, .slice none 0 0, .slice none 0 0, .slice none 0 0, .slice none 0 0] 27 (0, 0)) ∧ w.heap.size ≤ g ∧ gb ≠ g ∧ gr ≠ g) ∧ Aside0 (w'.heap[gr]? = some (.cells #[.int .i64 0, .slice none 0 0, .slice none 0 0, .slice none 0 0, .slice none 0 0, .slice none 0 0, .slice none 0 0, .slice none 0 0, .slice none 0 0] 27 (0, 0))) ∧ Aside0 (Below w.heap.size w w') ∧ Aside0 (b5 = true → b2 = true) ∧ Aside0 (b9 = true → b6 = true) ∧ Aside0 (b13 = true → b10 = true) ∧ Aside0 (b17 = true → b14 = true)) (by decide) hHeld ⟨false, false, false, false, false, false, false, false, false, false, undef, undef, undef, undef, undef, undef, undef, undef, undef, undef, rfl, by simp only [putAll, Act.put, List.setIfInBounds_toArray, List.set_cons_zero, List.set_cons_succ], ⟨(Own.nil _ _).congr (fun i => by unfold four8; split <;> rfl)⟩, ⟨fun h => by cases h⟩, ⟨fun h => by cases h⟩, BRd, HBd, ⟨fun h => by cases h⟩, ⟨fun h => by cases h⟩, ⟨fun h => by cases h⟩, ⟨fun h => by cases h⟩⟩ ?_
  clear BKd BRd HBd hHeld
  intro l a wa hS hI
  obtain ⟨b2, b5, b6, b9, b10, b13, b14, b17, b18, b19, x7, x10, x11, x14, x15, x18, x19, x22, x23, x3, rfl, rfl, HO, HU, HA, BR, HB, HT0, HT5, HT6, HT7⟩ := hI
  simp only [putAll, Act.put, List.setIfInBounds_toArray, List.set_cons_zero, List.set_cons_succ]
  by_cases hx : b18 = true ∧ b19 = true
  rotate_left
  · refine Or.inr ⟨?_, fun i hi => ?_⟩
    · cases b2 with
      | false => exact ready_ne (ready_mem (i := 2) rfl rfl (by kernel_rfl))
      | true =>
        · cases b6 with
          | false => exact ready_ne (ready_mem (i := 6) rfl rfl (by kernel_rfl))
          | true =>
            · cases b10 with
              | false => exact ready_ne (ready_mem (i := 10) rfl rfl (by kernel_rfl))
              | true =>
                · cases b14 with
                  | false => exact ready_ne (ready_mem (i := 14) rfl rfl (by kernel_rfl))
                  | true =>
                    · cases b5 with
                      | false => exact ready_ne (ready_mem (i := 5) rfl rfl (by kernel_rfl))
                      | true =>
                        · cases b9 with
                          | false => exact ready_ne (ready_mem (i := 9) rfl rfl (by kernel_rfl))
                          | true =>
                            · cases b13 with
                              | false => exact ready_ne (ready_mem (i := 13) rfl rfl (by kernel_rfl))
                              | true =>
                                · cases b17 with
                                  | false => exact ready_ne (ready_mem (i := 17) rfl rfl (by kernel_rfl))
                                  | true =>
                                    · cases b18 with
                                      | false => exact ready_ne (ready_mem (i := 18) rfl rfl (by kernel_rfl))
                                      | true =>
                                        cases b19 with
                                        | false => exact ready_ne (ready_mem (i := 19) rfl rfl (by kernel_rfl))
                                        | true => exact absurd ⟨rfl, rfl⟩ hx
    · have hlt : i < 21 := ready_lt hi
      match i, hlt, hi with
      | 0, _, hi => exact (nomatch (show true = false from (mem_ready.1 hi).1))
      | 1, _, hi => exact (nomatch (show true = false from (mem_ready.1 hi).1))
      | 3, _, hi => exact (nomatch (show true = false from (mem_ready.1 hi).1))
      | 4, _, hi => exact (nomatch (show true = false from (mem_ready.1 hi).1))
      | 7, _, hi => exact (nomatch (show true = false from (mem_ready.1 hi).1))
      | 8, _, hi => exact (nomatch (show true = false from (mem_ready.1 hi).1))
      | 11, _, hi => exact (nomatch (show true = false from (mem_ready.1 hi).1))
      | 12, _, hi => exact (nomatch (show true = false from (mem_ready.1 hi).1))
      | 15, _, hi => exact (nomatch (show true = false from (mem_ready.1 hi).1))
      | 16, _, hi => exact (nomatch (show true = false from (mem_ready.1 hi).1))
      | 2, _, hi =>
        have h0 : b2 = false := (mem_ready.1 hi).1
        obtain rfl : b5 = false := by cases hq : b5 with
          | false => rfl
          | true => exact absurd (HT0.out hq) (by rw [h0]; simp)
        subst h0
        refine wpOp_step rfl (fun K' hK => ?_)
        refine Kd.R_lit_step (Kd.int .i64) (w0 := w) w.heap.size 3 (by rfl) (N := 7) rfl (xs := ([] : List Int)) (inner := []) (ok := fun _ => True) (okp := fun _ => True) (by first | (go_simp; done) | (go_simp; rfl)) (Reps.none _ _) (fun _ hk => hk) trivial HB.out HB.out.size (by simp) ?_
        intro v1 w5 ho hb hg hnew
        exact hK _ _ ⟨blk_grown hS hg (by simp), true, false, b6, b9, b10, b13, b14, b17, b18, b19, v1, x10, x11, x14, x15, x18, x19, x22, x23, x3, rfl, rfl, ⟨HO.out.add hg 0 ho (fun k hk => by obtain ⟨b, e, hl⟩ := hnew; rw [e] at hk; cases hk; exact hl) rfl four8_ne0⟩, ⟨fun h => by have := (HU.out h).1; simp at this⟩, ⟨fun h => by obtain ⟨g, e, hg', h1, h2, h3⟩ := HA.out h; exact ⟨g, e, blk_grown hg' hg (by simp), h1, h2, h3⟩⟩, ⟨blk_grown BR.out hg (by simp)⟩, ⟨hb⟩, ⟨fun h => by cases h⟩, HT5, HT6, HT7⟩
      | 5, _, hi =>
        have h0 : b5 = false := (mem_ready.1 hi).1
        have d1 : b2 = true := dep_ (j := 2) hi (by kernel_rfl)
        subst h0 d1
        refine wpOp_step rfl (fun K' hK => ?_)
        refine Kd.R_append_rows_step (Kd.int .i64) (w0 := w) w.heap.size (by rfl) (.tmp 7) (.tmp 9) 24 3 (.int .i64 0) 8 rfl Try.underlying24 info3 rfl (by decide) (by omega) x7 [] (L 0) _ _ _ (fun _ => True) (fun _ => False) rfl rfl (HO.out.1 0 _ _ rfl) ((HR.out 0 (by omega)).below HB.out).1 (fun _ _ h => h) (fun _ h => h.elim) (fun _ _ => trivial) HB.out HB.out.size (by have := HL.out 0; simp only [List.length_nil]; omega) ?_
        intro v1 w5 ho hb hg hat
        have hn := fun (g : Nat) (cs : Array Value) (h : wa.heap[g]? = some (.cells cs 27 (0, 0))) => R_ne_blk (HO.out.1 0 _ _ rfl) h (by decide)
        exact hK _ _ ⟨blk_grown hS hg (hn _ _ hS), true, true, b6, b9, b10, b13, b14, b17, b18, b19, x7, v1, x11, x14, x15, x18, x19, x22, x23, x3, rfl, rfl, ⟨HO.out.app 0 rfl hg (by simpa using ho) hat rfl four8_ne0⟩, ⟨fun h => by have := (HU.out h).1; simp at this⟩, ⟨fun h => by obtain ⟨g, e, hg', h1, h2, h3⟩ := HA.out h; exact ⟨g, e, blk_grown hg' hg (hn _ _ hg'), h1, h2, h3⟩⟩, ⟨blk_grown BR.out hg (hn _ _ BR.out)⟩, ⟨hb⟩, ⟨fun _ => rfl⟩, HT5, HT6, HT7⟩
      | 6, _, hi =>
        have h0 : b6 = false := (mem_ready.1 hi).1
        obtain rfl : b9 = false := by cases hq : b9 with
          | false => rfl
          | true => exact absurd (HT5.out hq) (by rw [h0]; simp)
        subst h0
        refine wpOp_step rfl (fun K' hK => ?_)
        refine Kd.R_lit_step (Kd.int .i64) (w0 := w) w.heap.size 3 (by rfl) (N := 11) rfl (xs := ([] : List Int)) (inner := []) (ok := fun _ => True) (okp := fun _ => True) (by first | (go_simp; done) | (go_simp; rfl)) (Reps.none _ _) (fun _ hk => hk) trivial HB.out HB.out.size (by simp) ?_
        intro v1 w5 ho hb hg hnew
        exact hK _ _ ⟨blk_grown hS hg (by simp), b2, b5, true, false, b10, b13, b14, b17, b18, b19, x7, x10, v1, x14, x15, x18, x19, x22, x23, x3, rfl, rfl, ⟨HO.out.add hg 5 ho (fun k hk => by obtain ⟨b, e, hl⟩ := hnew; rw [e] at hk; cases hk; exact hl) rfl four8_ne5⟩, ⟨fun h => by have := (HU.out h).1; simp at this⟩, ⟨fun h => by obtain ⟨g, e, hg', h1, h2, h3⟩ := HA.out h; exact ⟨g, e, blk_grown hg' hg (by simp), h1, h2, h3⟩⟩, ⟨blk_grown BR.out hg (by simp)⟩, ⟨hb⟩, HT0, ⟨fun h => by cases h⟩, HT6, HT7⟩
      | 9, _, hi =>
        have h0 : b9 = false := (mem_ready.1 hi).1
        have d1 : b6 = true := dep_ (j := 6) hi (by kernel_rfl)
        subst h0 d1
        refine wpOp_step rfl (fun K' hK => ?_)
        refine Kd.R_append_rows_step (Kd.int .i64) (w0 := w) w.heap.size (by rfl) (.tmp 11) (.tmp 13) 24 3 (.int .i64 0) 8 rfl Try.underlying24 info3 rfl (by decide) (by omega) x11 [] (L 5) _ _ _ (fun _ => True) (fun _ => False) rfl rfl (HO.out.1 5 _ _ rfl) ((HR.out 5 (by omega)).below HB.out).1 (fun _ _ h => h) (fun _ h => h.elim) (fun _ _ => trivial) HB.out HB.out.size (by have := HL.out 5; simp only [List.length_nil]; omega) ?_
        intro v1 w5 ho hb hg hat
        have hn := fun (g : Nat) (cs : Array Value) (h : wa.heap[g]? = some (.cells cs 27 (0, 0))) => R_ne_blk (HO.out.1 5 _ _ rfl) h (by decide)
        exact hK _ _ ⟨blk_grown hS hg (hn _ _ hS), b2, b5, true, true, b10, b13, b14, b17, b18, b19, x7, x10, x11, v1, x15, x18, x19, x22, x23, x3, rfl, rfl, ⟨HO.out.app 5 rfl hg (by simpa using ho) hat rfl four8_ne5⟩, ⟨fun h => by have := (HU.out h).1; simp at this⟩, ⟨fun h => by obtain ⟨g, e, hg', h1, h2, h3⟩ := HA.out h; exact ⟨g, e, blk_grown hg' hg (hn _ _ hg'), h1, h2, h3⟩⟩, ⟨blk_grown BR.out hg (hn _ _ BR.out)⟩, ⟨hb⟩, HT0, ⟨fun _ => rfl⟩, HT6, HT7⟩
      | 10, _, hi =>
        have h0 : b10 = false := (mem_ready.1 hi).1
        obtain rfl : b13 = false := by cases hq : b13 with
          | false => rfl
          | true => exact absurd (HT6.out hq) (by rw [h0]; simp)
        subst h0
        refine wpOp_step rfl (fun K' hK => ?_)
        refine Kd.R_lit_step (Kd.int .i64) (w0 := w) w.heap.size 3 (by rfl) (N := 15) rfl (xs := ([] : List Int)) (inner := []) (ok := fun _ => True) (okp := fun _ => True) (by first | (go_simp; done) | (go_simp; rfl)) (Reps.none _ _) (fun _ hk => hk) trivial HB.out HB.out.size (by simp) ?_
        intro v1 w5 ho hb hg hnew
        exact hK _ _ ⟨blk_grown hS hg (by simp), b2, b5, b6, b9, true, false, b14, b17, b18, b19, x7, x10, x11, x14, v1, x18, x19, x22, x23, x3, rfl, rfl, ⟨HO.out.add hg 6 ho (fun k hk => by obtain ⟨b, e, hl⟩ := hnew; rw [e] at hk; cases hk; exact hl) rfl four8_ne6⟩, ⟨fun h => by have := (HU.out h).1; simp at this⟩, ⟨fun h => by obtain ⟨g, e, hg', h1, h2, h3⟩ := HA.out h; exact ⟨g, e, blk_grown hg' hg (by simp), h1, h2, h3⟩⟩, ⟨blk_grown BR.out hg (by simp)⟩, ⟨hb⟩, HT0, HT5, ⟨fun h => by cases h⟩, HT7⟩
      | 13, _, hi =>
        have h0 : b13 = false := (mem_ready.1 hi).1
        have d1 : b10 = true := dep_ (j := 10) hi (by kernel_rfl)
        subst h0 d1
        refine wpOp_step rfl (fun K' hK => ?_)
        refine Kd.R_append_rows_step (Kd.int .i64) (w0 := w) w.heap.size (by rfl) (.tmp 15) (.tmp 17) 24 3 (.int .i64 0) 8 rfl Try.underlying24 info3 rfl (by decide) (by omega) x15 [] (L 6) _ _ _ (fun _ => True) (fun _ => False) rfl rfl (HO.out.1 6 _ _ rfl) ((HR.out 6 (by omega)).below HB.out).1 (fun _ _ h => h) (fun _ h => h.elim) (fun _ _ => trivial) HB.out HB.out.size (by have := HL.out 6; simp only [List.length_nil]; omega) ?_
        intro v1 w5 ho hb hg hat
        have hn := fun (g : Nat) (cs : Array Value) (h : wa.heap[g]? = some (.cells cs 27 (0, 0))) => R_ne_blk (HO.out.1 6 _ _ rfl) h (by decide)
        exact hK _ _ ⟨blk_grown hS hg (hn _ _ hS), b2, b5, b6, b9, true, true, b14, b17, b18, b19, x7, x10, x11, x14, x15, v1, x19, x22, x23, x3, rfl, rfl, ⟨HO.out.app 6 rfl hg (by simpa using ho) hat rfl four8_ne6⟩, ⟨fun h => by have := (HU.out h).1; simp at this⟩, ⟨fun h => by obtain ⟨g, e, hg', h1, h2, h3⟩ := HA.out h; exact ⟨g, e, blk_grown hg' hg (hn _ _ hg'), h1, h2, h3⟩⟩, ⟨blk_grown BR.out hg (hn _ _ BR.out)⟩, ⟨hb⟩, HT0, HT5, ⟨fun _ => rfl⟩, HT7⟩
      | 14, _, hi =>
        have h0 : b14 = false := (mem_ready.1 hi).1
        obtain rfl : b17 = false := by cases hq : b17 with
          | false => rfl
          | true => exact absurd (HT7.out hq) (by rw [h0]; simp)
        subst h0
        refine wpOp_step rfl (fun K' hK => ?_)
        refine Kd.R_lit_step (Kd.int .i64) (w0 := w) w.heap.size 3 (by rfl) (N := 19) rfl (xs := ([] : List Int)) (inner := []) (ok := fun _ => True) (okp := fun _ => True) (by first | (go_simp; done) | (go_simp; rfl)) (Reps.none _ _) (fun _ hk => hk) trivial HB.out HB.out.size (by simp) ?_
        intro v1 w5 ho hb hg hnew
        exact hK _ _ ⟨blk_grown hS hg (by simp), b2, b5, b6, b9, b10, b13, true, false, b18, b19, x7, x10, x11, x14, x15, x18, v1, x22, x23, x3, rfl, rfl, ⟨HO.out.add hg 7 ho (fun k hk => by obtain ⟨b, e, hl⟩ := hnew; rw [e] at hk; cases hk; exact hl) rfl four8_ne7⟩, ⟨fun h => by have := (HU.out h).1; simp at this⟩, ⟨fun h => by obtain ⟨g, e, hg', h1, h2, h3⟩ := HA.out h; exact ⟨g, e, blk_grown hg' hg (by simp), h1, h2, h3⟩⟩, ⟨blk_grown BR.out hg (by simp)⟩, ⟨hb⟩, HT0, HT5, HT6, ⟨fun h => by cases h⟩⟩
      | 17, _, hi =>
        have h0 : b17 = false := (mem_ready.1 hi).1
        have d1 : b14 = true := dep_ (j := 14) hi (by kernel_rfl)
        subst h0 d1
        refine wpOp_step rfl (fun K' hK => ?_)
        refine Kd.R_append_rows_step (Kd.int .i64) (w0 := w) w.heap.size (by rfl) (.tmp 19) (.tmp 21) 24 3 (.int .i64 0) 8 rfl Try.underlying24 info3 rfl (by decide) (by omega) x19 [] (L 7) _ _ _ (fun _ => True) (fun _ => False) rfl rfl (HO.out.1 7 _ _ rfl) ((HR.out 7 (by omega)).below HB.out).1 (fun _ _ h => h) (fun _ h => h.elim) (fun _ _ => trivial) HB.out HB.out.size (by have := HL.out 7; simp only [List.length_nil]; omega) ?_
        intro v1 w5 ho hb hg hat
        have hn := fun (g : Nat) (cs : Array Value) (h : wa.heap[g]? = some (.cells cs 27 (0, 0))) => R_ne_blk (HO.out.1 7 _ _ rfl) h (by decide)
        exact hK _ _ ⟨blk_grown hS hg (hn _ _ hS), b2, b5, b6, b9, b10, b13, true, true, b18, b19, x7, x10, x11, x14, x15, x18, x19, v1, x23, x3, rfl, rfl, ⟨HO.out.app 7 rfl hg (by simpa using ho) hat rfl four8_ne7⟩, ⟨fun h => by have := (HU.out h).1; simp at this⟩, ⟨fun h => by obtain ⟨g, e, hg', h1, h2, h3⟩ := HA.out h; exact ⟨g, e, blk_grown hg' hg (hn _ _ hg'), h1, h2, h3⟩⟩, ⟨blk_grown BR.out hg (hn _ _ BR.out)⟩, ⟨hb⟩, HT0, HT5, HT6, ⟨fun _ => rfl⟩⟩
      | 18, _, hi =>
        have h0 : b18 = false := (mem_ready.1 hi).1
        subst h0
        have d5 : b5 = true := dep_ (j := 5) hi (by kernel_rfl)
        have d9 : b9 = true := dep_ (j := 9) hi (by kernel_rfl)
        have d13 : b13 = true := dep_ (j := 13) hi (by kernel_rfl)
        have d17 : b17 = true := dep_ (j := 17) hi (by kernel_rfl)
        subst d5 d9 d13 d17
        refine wpOp_step rfl (fun K' hK => ?_)
        obtain ⟨A0', c0', rfl⟩ := Kd.R_slice (HO.out.1 0 _ _ rfl)
        obtain ⟨A5', c5', rfl⟩ := Kd.R_slice (HO.out.1 5 _ _ rfl)
        obtain ⟨A6', c6', rfl⟩ := Kd.R_slice (HO.out.1 6 _ _ rfl)
        obtain ⟨A7', c7', rfl⟩ := Kd.R_slice (HO.out.1 7 _ _ rfl)
        refine value_ (v := .agg #[.int .i64 s, .slice A0' (L 0).length c0', .slice none 0 0, .slice none 0 0, .slice none 0 0, .slice none 0 0, .slice A5' (L 5).length c5', .slice A6' (L 6).length c6', .slice A7' (L 7).length c7']) (w1 := wa) (by rfl) rfl (by first | (go_simp; done) | (go_simp; rfl)) ?_
        exact hK _ _ ⟨hS, b2, true, b6, true, b10, true, b14, true, true, b19, _, _, _, _, _, _, _, _, _, _, rfl, rfl, HO, ⟨fun _ => ⟨⟨rfl, rfl, rfl, rfl⟩, rfl⟩⟩, HA, BR, HB, HT0, HT5, HT6, HT7⟩
      | 19, _, hi =>
        have h0 : b19 = false := (mem_ready.1 hi).1
        subst h0
        refine wpOp_step rfl (fun K' hK => ?_)
        refine box_step (by rfl) (N := 3) rfl (cs := #[.int .i64 0, .slice none 0 0, .slice none 0 0, .slice none 0 0, .slice none 0 0, .slice none 0 0, .slice none 0 0, .slice none 0 0, .slice none 0 0]) (t := 27) (by first | (go_simp; done) | (go_simp; rfl)) ?_
        intro g hg w5 hbox hb
        exact hK _ _ ⟨blk_below hS hb, b2, b5, b6, b9, b10, b13, b14, b17, b18, true, x7, x10, x11, x14, x15, x18, x19, x22, x23, (.pointer (some ⟨g, 0, none⟩)), rfl, rfl, ⟨HO.out.below hb⟩, HU, ⟨fun _ => ⟨g, rfl, hbox, by rw [hg]; exact HB.out.size, by rw [hg]; exact Nat.ne_of_lt (blk_lt hS), by rw [hg]; exact Nat.ne_of_lt (blk_lt BR.out)⟩⟩, ⟨blk_below BR.out hb⟩, ⟨below_step HB.out hb⟩, HT0, HT5, HT6, HT7⟩
      | j + 21, h, _ => exact absurd h (by omega)
      | 20, _, hi => exact absurd ⟨dep_ (j := 18) hi (by kernel_rfl), dep_ (j := 19) hi (by kernel_rfl)⟩ hx
  obtain ⟨rfl, rfl⟩ := hx
  obtain ⟨⟨rfl, rfl, rfl, rfl⟩, hu⟩ := HU.out rfl
  obtain rfl : b2 = true := HT0.out rfl
  obtain rfl : b6 = true := HT5.out rfl
  obtain rfl : b10 = true := HT6.out rfl
  obtain rfl : b14 = true := HT7.out rfl
  obtain ⟨go, hp, BG, HG0, NBG, NRG⟩ := HA.out rfl
  obtain ⟨A0', c0', rfl⟩ := Kd.R_slice (HO.out.1 0 _ _ rfl)
  obtain ⟨A5', c5', rfl⟩ := Kd.R_slice (HO.out.1 5 _ _ rfl)
  obtain ⟨A6', c6', rfl⟩ := Kd.R_slice (HO.out.1 6 _ _ rfl)
  obtain ⟨A7', c7', rfl⟩ := Kd.R_slice (HO.out.1 7 _ _ rfl)
  subst hu hp
  clear HU HA HT0 HT5 HT6 HT7
  refine Or.inl fun fuel hm => ?_
  obtain ⟨fuel, rfl⟩ : ∃ k, fuel = k + 1 := ⟨fuel - 1, by have h1 : 1 ≤ fuel := hm; omega⟩
  refine one_ (i := 20) (N := none) #[true, true, true, true, true, true, true, true, true, true, true, true, true, true, true, true, true, true, true, true, true] rfl rfl (by kernel_rfl) (by decide) (fun K hK => ?_)
  refine skip_ (w1 := wa.setRow go #[.int .i64 s, .slice A0' (L 0).length c0', .slice none 0 0, .slice none 0 0, .slice none 0 0, .slice none 0 0, .slice A5' (L 5).length c5', .slice A6' (L 6).length c6', .slice A7' (L 7).length c7']) (by rfl) rfl (Row.store_row_run (g := go) (cells := #[.int .i64 s, .slice A0' (L 0).length c0', .slice none 0 0, .slice none 0 0, .slice none 0 0, .slice none 0 0, .slice A5' (L 5).length c5', .slice A6' (L 6).length c6', .slice A7' (L 7).length c7']) (t := 27) (old := #[.int .i64 0, .slice none 0 0, .slice none 0 0, .slice none 0 0, .slice none 0 0, .slice none 0 0, .slice none 0 0, .slice none 0 0, .slice none 0 0]) rfl (by rfl) (by rfl) BG (by kernel_rfl) rfl (by simp [Value.oneCell'])) ?_
  refine hK.out _ _ (Row.row_there rfl hS NBG) (fun _ => done_ (by kernel_rfl) ?_)
  clear hK
  have HOw := Aside0.mk (HO.out.row BG (by decide) #[.int .i64 s, .slice A0' (L 0).length c0', .slice none 0 0, .slice none 0 0, .slice none 0 0, .slice none 0 0, .slice A5' (L 5).length c5', .slice A6' (L 6).length c6', .slice A7' (L 7).length c7'])
  have BKgb : Aside0 ((wa.setRow go #[.int .i64 s, .slice A0' (L 0).length c0', .slice none 0 0, .slice none 0 0, .slice none 0 0, .slice none 0 0, .slice A5' (L 5).length c5', .slice A6' (L 6).length c6', .slice A7' (L 7).length c7']).heap[gb]? = some (.cells (bkCells s A c L) 27 (0, 0))) := ⟨Row.row_there rfl hS NBG⟩
  have BKgr : Aside0 ((wa.setRow go #[.int .i64 s, .slice A0' (L 0).length c0', .slice none 0 0, .slice none 0 0, .slice none 0 0, .slice none 0 0, .slice A5' (L 5).length c5', .slice A6' (L 6).length c6', .slice A7' (L 7).length c7']).heap[gr]? = some (.cells #[.int .i64 0, .slice none 0 0, .slice none 0 0, .slice none 0 0, .slice none 0 0, .slice none 0 0, .slice none 0 0, .slice none 0 0, .slice none 0 0] 27 (0, 0))) := ⟨Row.row_there rfl BR.out NRG⟩
  have BKgo : Aside0 ((wa.setRow go #[.int .i64 s, .slice A0' (L 0).length c0', .slice none 0 0, .slice none 0 0, .slice none 0 0, .slice none 0 0, .slice A5' (L 5).length c5', .slice A6' (L 6).length c6', .slice A7' (L 7).length c7']).heap[go]? = some (.cells #[.int .i64 s, .slice A0' (L 0).length c0', .slice none 0 0, .slice none 0 0, .slice none 0 0, .slice none 0 0, .slice A5' (L 5).length c5', .slice A6' (L 6).length c6', .slice A7' (L 7).length c7'] 27 (0, 0))) := ⟨Row.row_here rfl BG⟩
  have HBw : Aside0 (Below w.heap.size w (wa.setRow go #[.int .i64 s, .slice A0' (L 0).length c0', .slice none 0 0, .slice none 0 0, .slice none 0 0, .slice none 0 0, .slice A5' (L 5).length c5', .slice A6' (L 6).length c6', .slice A7' (L 7).length c7'])) := ⟨Row.row_below rfl HB.out HG0⟩
  clear HO BR HB hS BG
  generalize wa.setRow go #[.int .i64 s, .slice A0' (L 0).length c0', .slice none 0 0, .slice none 0 0, .slice none 0 0, .slice none 0 0, .slice A5' (L 5).length c5', .slice A6' (L 6).length c6', .slice A7' (L 7).length c7'] = w9 at HOw BKgb BKgr BKgo HBw ⊢
  have HO := HOw
  have HB := HBw
  clear HOw HBw
  have HO0 := Aside0.mk (HO.out.congr (D' := copyD (vals8 (.slice A0' (L 0).length c0') (.slice A5' (L 5).length c5') (.slice A6' (L 6).length c6') (.slice A7' (L 7).length c7')) L 0) copyD_four)
  have BKgo0 : Aside0 (w9.heap[go]? = some (.cells (bkV s (vals8 (.slice A0' (L 0).length c0') (.slice A5' (L 5).length c5') (.slice A6' (L 6).length c6') (.slice A7' (L 7).length c7'))) 27 (0, 0))) := ⟨BKgo.out⟩
  clear HO BKgo
  have HO := HO0
  have BKgo := BKgo0
  clear HO0 BKgo0
  generalize (vals8 (.slice A0' (L 0).length c0') (.slice A5' (L 5).length c5') (.slice A6' (L 6).length c6') (.slice A7' (L 7).length c7')) = V at HO BKgo ⊢
  go_wp2_with fail
  go_loopg [4] 5 (fun kq v4 w' => ∃ (k : Nat) (V : Nat → Value), k ≤ 4 ∧ kq = 5 - k ∧ v4 = .int .i64 k ∧ Aside0 (w'.heap[gb]? = some (.cells (bkCells s A c L) 27 (0, 0))) ∧ Aside0 (w'.heap[gr]? = some (.cells #[.int .i64 0, .slice none 0 0, .slice none 0 0, .slice none 0 0, .slice none 0 0, .slice none 0 0, .slice none 0 0, .slice none 0 0, .slice none 0 0] 27 (0, 0))) ∧ Aside0 (w'.heap[go]? = some (.cells (bkV s V) 27 (0, 0))) ∧ Aside0 (Own w' w.heap.size (copyD V L k)) ∧ Aside0 (Below w.heap.size w w'))
  case atStart => exact ⟨0, V, by omega, by omega, rfl, BKgb, BKgr, BKgo, HO, HB⟩
  case round =>
    clear HB BKgb BKgr BKgo HO V
    obtain ⟨k, V, hk, rfl, rfl, BKgb, BKgr, BKgo, HO, HB⟩ := hrel
    by_cases hlt : k < 4
    · have hcell : wr.cell? ⟨gb, 2 + k, none⟩ = some (.slice (A (k + 1)) (L (k + 1)).length (c (k + 1))) := (blk_cell BKgb.out (2 + k)).trans (bkCells_at s A c L k hlt)
      have hfz := blk_frozen BKgb.out (2 + k)
      have hi : (k : Int) < 4 := by omega
      go_wp2_with (first | ((with_reducible refine gate_dst (N := 29) rfl ?_); refine Kd.R_lit (Kd.int .i64) (w0 := w) w.heap.size 3 ?hg (N := 29) ?hd (xs := ([] : List Int)) (inner := []) (ok := fun _ => True) (okp := fun _ => True) ?hr ?hp (fun _ hk => hk) trivial HB.out HB.out.size (by simp) ?_; (case hd => rfl); (case hg => rfl); (case hr => first | (go_simp; done) | (go_simp; rfl)); (case hp => exact (Reps.none _ _)); intro v0 w4 ho hb hg hnew; have HO4 := Aside0.mk (HO.out.add (D' := copyD (fun i => if i = k + 1 then v0 else V i) (fun i => if i = k + 1 then [] else L i) (k + 1)) hg (k + 1) ho (fun k hk => by obtain ⟨b, e, hl⟩ := hnew; rw [e] at hk; cases hk; exact hl) (copyD_lit hlt) copyD_litold); have HVX := Aside0.mk ho; have BKgb4 := Aside0.mk (blk_grown BKgb.out hg (by simp)); have BKgr4 := Aside0.mk (blk_grown BKgr.out hg (by simp)); have BKgo4 := Aside0.mk (blk_grown BKgo.out hg (by simp)); have HB4 := Aside0.mk hb; clear HO HB BKgb BKgr BKgo hb hg hnew hcell hfz ho; have hcell : w4.cell? ⟨gb, 2 + k, none⟩ = some (.slice (A (k + 1)) (L (k + 1)).length (c (k + 1))) := (blk_cell BKgb4.out (2 + k)).trans (bkCells_at s A c L k hlt); have hfz := blk_frozen BKgb4.out (2 + k)) | ((with_reducible refine gate_builtin (b := .append) (xs := #[.tmp 29, .tmp 33]) rfl ?_); at_builtin; refine Kd.R_append_rows (Kd.int .i64) (w0 := w) w.heap.size rfl (.tmp 29) (.tmp 33) 24 3 (.int .i64 0) 8 rfl Try.underlying24 info3 rfl (by decide) (by omega) v0 [] (L (k + 1)) _ _ _ (fun _ => True) (fun _ => False) rfl rfl HVX.out ((HR.out (k + 1) (by omega)).below HB4.out).1 (fun _ _ h => h) (fun _ h => h.elim) (fun _ _ => trivial) HB4.out HB4.out.size (by have := HL.out (k + 1); simp only [List.length_nil]; omega) ?_; intro v1 w5 ho hb hg hat; rw [List.nil_append] at ho; obtain ⟨A', c', hv1⟩ := Kd.R_slice ho; subst hv1; have hn := fun (g : Nat) (cs : Array Value) (h : w4.heap[g]? = some (.cells cs 27 (0, 0))) => R_ne_blk HVX.out h (by decide); have HO5 := Aside0.mk (HO4.out.app (D' := copyD (fun i => if i = k + 1 then .slice A' (L (k + 1)).length c' else V i) L (k + 1)) (k + 1) (copyD_lit hlt) hg ho hat (copyD_new hlt) copyD_fin); have BKgb5 := Aside0.mk (blk_grown BKgb4.out hg (hn _ _ BKgb4.out)); have BKgr5 := Aside0.mk (blk_grown BKgr4.out hg (hn _ _ BKgr4.out)); have BKgo5 := Aside0.mk (blk_grown BKgo4.out hg (hn _ _ BKgo4.out)); have HB5 := Aside0.mk hb; clear HO4 HVX HB4 BKgb4 BKgr4 BKgo4 hb hg hat ho hn hcell hfz; have hold : w5.cell? ⟨go, 2 + k, none⟩ = some (V (k + 1)) := (blk_cell BKgo5.out (2 + k)).trans (bkV_at s V k hlt); have hfo := blk_frozen BKgo5.out (2 + k)) | ((with_reducible refine gate_store (t := 24) (p := 36) rfl ?_); refine store_event (t := 24) (p := 36) (v := ?vo_1) (w1 := (w5.setCell ⟨go, 2 + k, none⟩ (.slice A' (L (k + 1)).length c'))) ?hg ?ho ?hn ?hr ?_; (case ho => rfl); (case hg => rfl); (case hn => rfl); (case hr => first | (go_simp; done) | (go_simp; rfl)); intro w6 hw; have HO := Aside0.mk (show Own w6 w.heap.size (copyD _ L (k + 1)) by rw [hw]; exact HO5.out.set BKgo5.out (by decide) (2 + k) _); have HB := Aside0.mk (show Below w.heap.size w w6 by rw [hw]; exact below_set HB5.out HG0); have BKgb := Aside0.mk (show w6.heap[gb]? = some (.cells (bkCells s A c L) 27 (0, 0)) by rw [hw]; exact blk_far BKgb5.out NBG _); have BKgr := Aside0.mk (show w6.heap[gr]? = some (.cells #[.int .i64 0, .slice none 0 0, .slice none 0 0, .slice none 0 0, .slice none 0 0, .slice none 0 0, .slice none 0 0, .slice none 0 0, .slice none 0 0] 27 (0, 0)) by rw [hw]; exact blk_far BKgr5.out NRG _); have BKgo := Aside0.mk (show w6.heap[go]? = some (.cells (bkV s _) 27 (0, 0)) by rw [hw]; exact (blk_set BKgo5.out (2 + k) _).trans (by rw [bkV_set s V k _ hlt])); clear hw))
      go_roundg (5 - (k + 1))
      case measure => omega
      case rel => exact ⟨k + 1, _, by omega, rfl, by go_num, BKgb, BKgr, BKgo, HO, HB⟩
    · have hk4 : k = 4 := by omega
      subst hk4
      have BKgo2 := Aside0.mk (show wr.heap[go]? = some (.cells (bkCells s (fun i => aOf (V i)) (fun i => cOf (V i)) L) 27 (0, 0)) by rw [← HO.out.bkV s]; exact BKgo.out)
      have HOo := Aside0.mk (HO.out.bk (V := V) (fun i hi => Or.inl (copyD_all hi)))
      clear BKgo HO
      go_wp2_with (first | ((with_reducible refine gate_dst (N := 37) rfl ?_); refine Kd.event_run rfl (Row.load_row_run (g := go) (t := 27) (cells := bkCells s (fun i => aOf (V i)) (fun i => cOf (V i)) L) rfl rfl BKgo2.out Try.underlying27 rfl (by kernel_rfl)) ?_) | ((with_reducible refine gate_store (t := 27) (p := 2) rfl ?_); refine store_event (t := 27) (p := 2) (v := ?vo_2) (w1 := wr.setRow gr (bkCells s (fun i => aOf (V i)) (fun i => cOf (V i)) L)) ?hg ?ho ?hn ?hr ?_; (case ho => rfl); (case hg => rfl); (case hn => rfl); (case hr => exact (Row.store_row_run (g := gr) (cells := bkCells s (fun i => aOf (V i)) (fun i => cOf (V i)) L) (t := 27) (old := #[.int .i64 0, .slice none 0 0, .slice none 0 0, .slice none 0 0, .slice none 0 0, .slice none 0 0, .slice none 0 0, .slice none 0 0, .slice none 0 0]) rfl (by rfl) (by rfl) BKgr.out (by kernel_rfl) rfl (by simp [Value.oneCell']))); intro w6 hw; have HO5 := Aside0.mk (show BkO w6 w.heap.size w6.heap.size _ _ L by rw [hw, size_row]; exact VO.row HOo.out BKgr.out (by decide) _); have HB5 := Aside0.mk (Row.row_below hw HB.out HGgr.out); have BK5 := Aside0.mk (Row.row_here hw BKgr.out); clear hw))
      refine bodyPost_ret (results_cell_row rfl _ _ gr 27 (bkCells s (fun i => aOf (V i)) (fun i => cOf (V i)) L) (0, 0) _ rfl BK5.out Try.underlying27 rfl (by kernel_rfl)) rfl ?_
      exact ⟨_, _, rfl, HO5.out, HB5.out⟩


def CutC (s : Int) (L : Nat → List Int) (x : Int) : Prop := 0 ≤ x ∧ x < s ∧ (L 6).getD x.toNat 0 = 1
def cutL (L : Nat → List Int) (x : Int) : Nat → List Int := upd L 6 ((L 6).set x.toNat 2)
/-- What comes of cutting. -/
def CutP (s : Int) (L : Nat → List Int) (x : Int) (s' : Int) (L' : Nat → List Int) : Prop := (BookP s L → s' = s ∧ (CutC s L x → L' = cutL L x) ∧ (¬ CutC s L x → L' = L)) ∧ (¬ BookP s L → s' = 0 ∧ L' = fun _ => [])
def RetK (s : Int) (L : Nat → List Int) (x : Int) (w : World) (e : Ending) (w' : World) : Prop := ∃ s' L' A' c', e = .returned (.agg (bkCells s' A' c' L')) ∧ CutP s L x s' L' ∧ BkO w' w.heap.size w'.heap.size A' c' L' ∧ Below w.heap.size w w'
theorem CutP.one {s : Int} {L : Nat → List Int} {x s1 s2 : Int} {L1 L2 : Nat → List Int} (h1 : CutP s L x s1 L1) (h2 : CutP s L x s2 L2) : s1 = s2 ∧ L1 = L2 := by
  by_cases hb : BookP s L
  · obtain ⟨a, b, c⟩ := h1.1 hb
    obtain ⟨a', b', c'⟩ := h2.1 hb
    refine ⟨a.trans a'.symm, ?_⟩
    by_cases hc : CutC s L x
    · rw [b hc, b' hc]
    · rw [c hc, c' hc]
  · obtain ⟨a, b⟩ := h1.2 hb
    obtain ⟨a', b'⟩ := h2.2 hb
    exact ⟨a.trans a'.symm, b.trans b'.symm⟩
theorem SlO.elem {w : World} {lo hi : Nat} {A : Option Addr} {c : Nat} {l : List Int} (h : SlO w lo hi A c l) (k : Nat) (hk : k < l.length) : ∃ g, A = some ⟨g, 0, none⟩ ∧ w.cell? ⟨g, k, none⟩ = some (.int .i64 (l.getD k 0)) ∧ w.frozen? ⟨g, k, none⟩ = false ∧ lo ≤ g ∧ (∃ cells, w.heap[g]? = some (.cells cells 3 (0, 0))) ∧ ∀ u, SlO (w.setCell ⟨g, k, none⟩ (.int .i64 u)) lo hi A c (l.set k u) := by
  obtain ⟨g, co, eo, hg, gl, cl⟩ := Kd.R_form h (by omega)
  have eA : A = some ⟨g, 0, none⟩ := by injection eo
  subst eA
  obtain ⟨ad, e1, hc⟩ := at_nat h.c k hk
  cases e1
  obtain ⟨hx, hf⟩ := Kd.R_celln 0 h (k : Int) (by omega) (by omega)
  rw [Int.toNat_natCast] at hx hf
  have hc2 : w.cell? ⟨g, k, none⟩ = some (.int .i64 (l.getD k 0)) := by rw [← hc]; congr 1; unfold Addr.add; split <;> simp_all
  refine ⟨g, rfl, hc2, hf, hg, cl, fun u => ?_⟩
  have HP := Kd.R_putg h (k : Int) u
  rw [Int.toNat_natCast] at HP
  unfold SlO
  rw [List.length_set]
  exact HP.1
theorem bkO_cut {w : World} {lo hi : Nat} {A : Nat → Option Addr} {c : Nat → Nat} {L : Nat → List Int} (h : BkO w lo hi A c L) (k g : Nat) (hg : A 6 = some ⟨g, 0, none⟩) (hs : SlO (w.setCell ⟨g, k, none⟩ (.int .i64 2)) lo hi (A 6) (c 6) ((L 6).set k 2)) : BkO (w.setCell ⟨g, k, none⟩ (.int .i64 2)) lo hi A c (cutL L (k : Int)) := by
  unfold cutL
  rw [Int.toNat_natCast]
  refine BkO.mark h 6 (by omega) (by simp) hs ?_
  rw [hg]
  exact (KeepV.refl _ w).set k _
theorem cutL_len (L : Nat → List Int) (x : Int) (i : Nat) : (cutL L x i).length = (L i).length := upd_len L 6 _ (by simp) i
theorem bkCells_len {s : Int} {A : Nat → Option Addr} {c : Nat → Nat} {L L' : Nat → List Int} (h : ∀ i, (L' i).length = (L i).length) : bkCells s A c L = bkCells s A c L' := by simp only [bkCells, h]
theorem bkO_none (w : World) (lo hi : Nat) : BkO w lo hi (fun _ => none) (fun _ => 0) (fun _ => []) := ⟨fun i hi => ⟨none, 0, rfl, Kd.R_nil _ _ _ _ _⟩, fun i j hi hj hne k hk => by simp [slV, Value.ownBlock] at hk⟩
set_option maxHeartbeats 8000000 in
set_option maxRecDepth 100000 in
theorem specCut_calls (s : Int) (A : Nat → Option Addr) (c : Nat → Nat) (L : Nat → List Int) (x : Int) (w : World) (h : BkC w A c L) (hl : ∀ i, (L i).length ≤ 1048576) (hw : ∀ i, Wf64 (L i)) (hx : -9223372036854775808 ≤ x ∧ x ≤ 9223372036854775807) :
    Calls Try.prog 30 #[.agg (bkCells s A c L), .int .i64 x] w (RetK s L x w) := by
  have HR := Aside0.mk h
  have HL := Aside0.mk hl
  have HW := Aside0.mk hw
  have HL2 : Aside0 (∀ i, (L i).length ≤ 35184372088832) := ⟨fun i => by have := hl i; omega⟩
  clear h hl hw
  have HB := Aside0.mk (Below.refl w.heap.size w)
  go_enter Try.func30, Try.ntmps30
  go_wp2_with (first | ((with_reducible refine gate_dst (N := 2) rfl ?_); refine box_event rfl (N := 2) rfl (cs := bkCells s A c L) (t := 27) (by first | (go_simp; done) | (go_simp; rfl)) ?_; intro gb hggb w1 hbox hb; have n0_ := Aside0.mk (below_step HB.out hb); have BKgb := Aside0.mk hbox; have HGgb := Aside0.mk (show w.heap.size ≤ gb by rw [hggb]; exact HB.out.size); clear HB; have HB := n0_; have fgbs0 : w1.cell? ⟨gb, 0, none⟩ = some (.int .i64 _) := (blk_cell BKgb.out 0).trans rfl; have fgb1 : w1.cell? ⟨gb, 1, none⟩ = some (.slice (A 0) (L 0).length (c 0)) := (blk_cell BKgb.out 1).trans rfl; have fgb2 : w1.cell? ⟨gb, 2, none⟩ = some (.slice (A 1) (L 1).length (c 1)) := (blk_cell BKgb.out 2).trans rfl; have fgb3 : w1.cell? ⟨gb, 3, none⟩ = some (.slice (A 2) (L 2).length (c 2)) := (blk_cell BKgb.out 3).trans rfl; have fgb4 : w1.cell? ⟨gb, 4, none⟩ = some (.slice (A 3) (L 3).length (c 3)) := (blk_cell BKgb.out 4).trans rfl; have fgb5 : w1.cell? ⟨gb, 5, none⟩ = some (.slice (A 4) (L 4).length (c 4)) := (blk_cell BKgb.out 5).trans rfl; have fgb6 : w1.cell? ⟨gb, 6, none⟩ = some (.slice (A 5) (L 5).length (c 5)) := (blk_cell BKgb.out 6).trans rfl; have fgb7 : w1.cell? ⟨gb, 7, none⟩ = some (.slice (A 6) (L 6).length (c 6)) := (blk_cell BKgb.out 7).trans rfl; have fgb8 : w1.cell? ⟨gb, 8, none⟩ = some (.slice (A 7) (L 7).length (c 7)) := (blk_cell BKgb.out 8).trans rfl; have fgbz0 := blk_frozen BKgb.out 0; have fgbz1 := blk_frozen BKgb.out 1; have fgbz2 := blk_frozen BKgb.out 2; have fgbz3 := blk_frozen BKgb.out 3; have fgbz4 := blk_frozen BKgb.out 4; have fgbz5 := blk_frozen BKgb.out 5; have fgbz6 := blk_frozen BKgb.out 6; have fgbz7 := blk_frozen BKgb.out 7; have fgbz8 := blk_frozen BKgb.out 8; clear n0_ hbox hb hggb) | ((with_reducible refine gate_dst (N := 4) rfl ?_); refine box_event rfl (N := 4) rfl (cs := #[.int .i64 0, .slice none 0 0, .slice none 0 0, .slice none 0 0, .slice none 0 0, .slice none 0 0, .slice none 0 0, .slice none 0 0, .slice none 0 0]) (t := 27) (by first | (go_simp; done) | (go_simp; rfl)) ?_; intro gr hggr w2 hbox hb; have n0_ := Aside0.mk (below_step HB.out hb); have BKgr := Aside0.mk hbox; have HGgr := Aside0.mk (show w.heap.size ≤ gr by rw [hggr]; exact HB.out.size); clear HB; have HB := n0_; have NE := Aside0.mk (show gb ≠ gr by have := blk_lt BKgb.out; omega); have BKgbn := Aside0.mk (blk_below BKgb.out hb); clear BKgb fgbs0 fgbz0 fgb1 fgbz1 fgb2 fgbz2 fgb3 fgbz3 fgb4 fgbz4 fgb5 fgbz5 fgb6 fgbz6 fgb7 fgbz7 fgb8 fgbz8; have BKgb := BKgbn; clear BKgbn; have fgbs0 : w2.cell? ⟨gb, 0, none⟩ = some (.int .i64 _) := (blk_cell BKgb.out 0).trans rfl; have fgb1 : w2.cell? ⟨gb, 1, none⟩ = some (.slice (A 0) (L 0).length (c 0)) := (blk_cell BKgb.out 1).trans rfl; have fgb2 : w2.cell? ⟨gb, 2, none⟩ = some (.slice (A 1) (L 1).length (c 1)) := (blk_cell BKgb.out 2).trans rfl; have fgb3 : w2.cell? ⟨gb, 3, none⟩ = some (.slice (A 2) (L 2).length (c 2)) := (blk_cell BKgb.out 3).trans rfl; have fgb4 : w2.cell? ⟨gb, 4, none⟩ = some (.slice (A 3) (L 3).length (c 3)) := (blk_cell BKgb.out 4).trans rfl; have fgb5 : w2.cell? ⟨gb, 5, none⟩ = some (.slice (A 4) (L 4).length (c 4)) := (blk_cell BKgb.out 5).trans rfl; have fgb6 : w2.cell? ⟨gb, 6, none⟩ = some (.slice (A 5) (L 5).length (c 5)) := (blk_cell BKgb.out 6).trans rfl; have fgb7 : w2.cell? ⟨gb, 7, none⟩ = some (.slice (A 6) (L 6).length (c 6)) := (blk_cell BKgb.out 7).trans rfl; have fgb8 : w2.cell? ⟨gb, 8, none⟩ = some (.slice (A 7) (L 7).length (c 7)) := (blk_cell BKgb.out 8).trans rfl; have fgbz0 := blk_frozen BKgb.out 0; have fgbz1 := blk_frozen BKgb.out 1; have fgbz2 := blk_frozen BKgb.out 2; have fgbz3 := blk_frozen BKgb.out 3; have fgbz4 := blk_frozen BKgb.out 4; have fgbz5 := blk_frozen BKgb.out 5; have fgbz6 := blk_frozen BKgb.out 6; have fgbz7 := blk_frozen BKgb.out 7; have fgbz8 := blk_frozen BKgb.out 8; clear n0_ hbox hb hggr))
  refine (specBookOk_calls s A c L _ (HR.out.below HB.out) HL2.out (HW.out 0)).mono ?_
  rintro e w3 ⟨r, rfl, hr, hb⟩
  clear fgbs0 fgbz0 fgb1 fgbz1 fgb2 fgbz2 fgb3 fgbz3 fgb4 fgbz4 fgb5 fgbz5 fgb6 fgbz6 fgb7 fgbz7 fgb8 fgbz8
  have HBn := Aside0.mk (below_step HB.out hb)
  have BKgbn := Aside0.mk (blk_below BKgb.out hb)
  have BKgrn := Aside0.mk (blk_below BKgr.out hb)
  clear HB BKgb BKgr hb
  have HB := HBn
  have BKgb := BKgbn
  have BKgr := BKgrn
  clear HBn BKgbn BKgrn
  have HRR := Aside0.mk hr
  clear hr
  cases r with
  | false =>
    have HN : Aside0 (¬ BookP s L) := ⟨fun q => by have := HRR.out.mpr q; cases this⟩
    go_wp2_with (first | ((with_reducible refine gate_store (t := 27) (p := 4) rfl ?_); refine store_event (t := 27) (p := 4) (v := ?vo_1) (w1 := w3.setRow gr (#[.int .i64 0, .slice none 0 0, .slice none 0 0, .slice none 0 0, .slice none 0 0, .slice none 0 0, .slice none 0 0, .slice none 0 0, .slice none 0 0])) ?hg ?ho ?hn ?hr ?_; (case ho => rfl); (case hg => rfl); (case hn => rfl); (case hr => exact (Row.store_row_run (g := gr) (cells := #[.int .i64 0, .slice none 0 0, .slice none 0 0, .slice none 0 0, .slice none 0 0, .slice none 0 0, .slice none 0 0, .slice none 0 0, .slice none 0 0]) (t := 27) (old := #[.int .i64 0, .slice none 0 0, .slice none 0 0, .slice none 0 0, .slice none 0 0, .slice none 0 0, .slice none 0 0, .slice none 0 0, .slice none 0 0]) rfl (by rfl) (by rfl) BKgr.out (by kernel_rfl) rfl (by simp [Value.oneCell']))); intro w5 hw; have HB5 := Aside0.mk (Row.row_below hw HB.out HGgr.out); have BK5 := Aside0.mk (Row.row_here hw BKgr.out); clear hw))
    refine bodyPost_ret (results_cell_row rfl _ _ gr 27 #[.int .i64 0, .slice none 0 0, .slice none 0 0, .slice none 0 0, .slice none 0 0, .slice none 0 0, .slice none 0 0, .slice none 0 0, .slice none 0 0] (0, 0) _ rfl BK5.out Try.underlying27 rfl (by kernel_rfl)) rfl ?_
    exact ⟨0, fun _ => [], fun _ => none, fun _ => 0, rfl, ⟨fun q => absurd q HN.out, fun _ => ⟨rfl, rfl⟩⟩, bkO_none _ _ _, HB5.out⟩
  | true =>
    have HP : Aside0 (BookP s L) := ⟨HRR.out.mp rfl⟩
    clear HRR
    have hs0 : 1 ≤ s := by have := HP.out.1.1.1; omega
    have hs4 : s ≤ 4 := by have := HP.out.1.1.2.1; omega
    have HS6 : Aside0 (((L 6).length : Int) = s) := ⟨HP.out.1.1.2.2.1⟩
    have fgbs0 : w3.cell? ⟨gb, 0, none⟩ = some (.int .i64 _) := (blk_cell BKgb.out 0).trans rfl; have fgb1 : w3.cell? ⟨gb, 1, none⟩ = some (.slice (A 0) (L 0).length (c 0)) := (blk_cell BKgb.out 1).trans rfl; have fgb2 : w3.cell? ⟨gb, 2, none⟩ = some (.slice (A 1) (L 1).length (c 1)) := (blk_cell BKgb.out 2).trans rfl; have fgb3 : w3.cell? ⟨gb, 3, none⟩ = some (.slice (A 2) (L 2).length (c 2)) := (blk_cell BKgb.out 3).trans rfl; have fgb4 : w3.cell? ⟨gb, 4, none⟩ = some (.slice (A 3) (L 3).length (c 3)) := (blk_cell BKgb.out 4).trans rfl; have fgb5 : w3.cell? ⟨gb, 5, none⟩ = some (.slice (A 4) (L 4).length (c 4)) := (blk_cell BKgb.out 5).trans rfl; have fgb6 : w3.cell? ⟨gb, 6, none⟩ = some (.slice (A 5) (L 5).length (c 5)) := (blk_cell BKgb.out 6).trans rfl; have fgb7 : w3.cell? ⟨gb, 7, none⟩ = some (.slice (A 6) (L 6).length (c 6)) := (blk_cell BKgb.out 7).trans rfl; have fgb8 : w3.cell? ⟨gb, 8, none⟩ = some (.slice (A 7) (L 7).length (c 7)) := (blk_cell BKgb.out 8).trans rfl; have fgbz0 := blk_frozen BKgb.out 0; have fgbz1 := blk_frozen BKgb.out 1; have fgbz2 := blk_frozen BKgb.out 2; have fgbz3 := blk_frozen BKgb.out 3; have fgbz4 := blk_frozen BKgb.out 4; have fgbz5 := blk_frozen BKgb.out 5; have fgbz6 := blk_frozen BKgb.out 6; have fgbz7 := blk_frozen BKgb.out 7; have fgbz8 := blk_frozen BKgb.out 8
    go_wp2_with fail
    refine (l3Copy_calls s A c L _ (HR.out.below HB.out) HL.out).mono ?_
    rintro e w4 ⟨A', c', rfl, ho, hb⟩
    have HI : Aside0 (w.heap.size ≤ w3.heap.size) := ⟨HB.out.size⟩
    clear fgbs0 fgbz0 fgb1 fgbz1 fgb2 fgbz2 fgb3 fgbz3 fgb4 fgbz4 fgb5 fgbz5 fgb6 fgbz6 fgb7 fgbz7 fgb8 fgbz8
    have HO := Aside0.mk ho
    have HBn := Aside0.mk (below_step HB.out hb)
    have BKgbn := Aside0.mk (blk_below BKgb.out hb)
    have BKgrn := Aside0.mk (blk_below BKgr.out hb)
    clear HB BKgb BKgr hb ho
    have HB := HBn
    have BKgb := BKgbn
    have BKgr := BKgrn
    clear HBn BKgbn BKgrn
    by_cases hx0 : 0 ≤ x
    · obtain ⟨k, rfl⟩ := Int.eq_ofNat_of_zero_le hx0
      have hd0 : decide (0 ≤ (k : Int)) = true := decide_eq_true hx0
      by_cases hx1 : (k : Int) < s
      · have hd1 : decide ((k : Int) < s) = true := decide_eq_true hx1
        have hk6 : (k : Int) < ((L 6).length : Int) := by have := HS6.out; omega
        obtain ⟨v, hv⟩ : ∃ v, (L 6).getD k 0 = v := ⟨_, rfl⟩
        have HV := Aside0.mk hv
        clear hv
        by_cases hv1 : v = 1
        · subst hv1
          have HC : Aside0 (CutC s L (k : Int)) := ⟨⟨hx0, hx1, by rw [Int.toNat_natCast]; exact HV.out⟩⟩
          go_wp2_with (first | ((with_reducible refine gate_store (t := 27) (p := 2) rfl ?_); refine store_event (t := 27) (p := 2) (v := ?vo_2) (w1 := w4.setRow gb (bkCells s A' c' L)) ?hg ?ho ?hn ?hr ?_; (case ho => rfl); (case hg => rfl); (case hn => rfl); (case hr => exact (Row.store_row_run (g := gb) (cells := bkCells s A' c' L) (t := 27) (old := bkCells s A c L) rfl (by rfl) (by rfl) BKgb.out (by kernel_rfl) rfl (by simp [Value.oneCell']))); intro w5 hw; have HB5 := Aside0.mk (Row.row_below hw HB.out HGgb.out); have BKgr5 := Aside0.mk (Row.row_there hw BKgr.out (Ne.symm NE.out)); have HO5 := Aside0.mk (show BkO w5 w3.heap.size w4.heap.size A' c' L by rw [hw]; exact VO.row HO.out BKgb.out (by decide) _); have HS5 : Aside0 (w4.heap.size ≤ w5.heap.size) := ⟨by rw [hw, size_row]; exact Nat.le_refl _⟩; have BKgb5 := Aside0.mk (Row.row_here hw BKgb.out); clear HB BKgr HO BKgb; have f0 : w5.cell? ⟨gb, 0, none⟩ = some (.int .i64 s) := (blk_cell BKgb5.out 0).trans rfl; have z0 := blk_frozen BKgb5.out 0; obtain ⟨g, hg6, he, hf, hge, ⟨cs6, hcs⟩, hput⟩ := (VO.s HO5.out 6 (by omega)).elem k (by have := HS6.out; omega); have HG6 := Aside0.mk hg6; have HGE := Aside0.mk hge; have HCS := Aside0.mk hcs; have HPUT := Aside0.mk hput; have f7 : w5.cell? ⟨gb, 7, none⟩ = some (.slice (some ⟨g, 0, none⟩) (L 6).length (c' 6)) := (blk_cell BKgb5.out 7).trans (by rw [← HG6.out]; rfl); have z7 := blk_frozen BKgb5.out 7; have HVV := Aside0.mk he; clear hg6 hge hcs hput he; have he : w5.cell? ⟨g, k, none⟩ = some (.int .i64 1) := HVV.out.trans (congrArg (fun q => some (Value.int .i64 q)) HV.out); clear hw) | ((with_reducible refine gate_store (t := 3) (p := 30) rfl ?_); refine store_event (t := 3) (p := 30) (v := ?vo_3) (w1 := (w5.setCell ⟨g, k, none⟩ (.int .i64 2))) ?hg ?ho ?hn ?hr ?_; (case ho => rfl); (case hg => rfl); (case hn => rfl); (case hr => first | (go_simp; done) | (go_simp; rfl)); intro w8 hw; have HO8 := Aside0.mk (show BkO w8 w3.heap.size w4.heap.size A' c' (cutL L (k : Int)) by rw [hw]; exact bkO_cut HO5.out k g HG6.out (HPUT.out 2)); have HB8 := Aside0.mk (show Below w.heap.size w w8 by rw [hw]; exact below_set HB5.out (Nat.le_trans HI.out HGE.out)); have HS8 : Aside0 (w4.heap.size ≤ w8.heap.size) := ⟨by rw [hw, size_set]; exact HS5.out⟩; have BKgb58 := Aside0.mk ((show w8.heap[gb]? = w5.heap[gb]? by rw [hw]; exact (Below.heap_setCell w5 ⟨g, k, none⟩ _ gb (fun e => by have h1 := HCS.out; have e2 : gb = g := e; rw [← e2, BKgb5.out] at h1; simp at h1))).trans BKgb5.out); have BKgr58 := Aside0.mk ((show w8.heap[gr]? = w5.heap[gr]? by rw [hw]; exact (Below.heap_setCell w5 ⟨g, k, none⟩ _ gr (fun e => by have h1 := HCS.out; have e2 : gr = g := e; rw [← e2, BKgr5.out] at h1; simp at h1))).trans BKgr5.out); clear hw) | ((with_reducible refine gate_dst (N := 31) rfl ?_); refine Kd.event_run rfl (Row.load_row_run (g := gb) (t := 27) (cells := bkCells s A' c' L) rfl rfl BKgb58.out Try.underlying27 rfl (by kernel_rfl)) ?_) | ((with_reducible refine gate_store (t := 27) (p := 4) rfl ?_); refine store_event (t := 27) (p := 4) (v := ?vo_4) (w1 := w8.setRow gr (bkCells s A' c' L)) ?hg ?ho ?hn ?hr ?_; (case ho => rfl); (case hg => rfl); (case hn => rfl); (case hr => exact (Row.store_row_run (g := gr) (cells := bkCells s A' c' L) (t := 27) (old := #[.int .i64 0, .slice none 0 0, .slice none 0 0, .slice none 0 0, .slice none 0 0, .slice none 0 0, .slice none 0 0, .slice none 0 0, .slice none 0 0]) rfl (by rfl) (by rfl) BKgr58.out (by kernel_rfl) rfl (by simp [Value.oneCell']))); intro w9 hw; have HB9 := Aside0.mk (Row.row_below hw HB8.out HGgr.out); have HO9 := Aside0.mk (show BkO w9 w.heap.size w9.heap.size A' c' (cutL L (k : Int)) by rw [hw, size_row]; exact VO.row (VO.wide HO8.out HI.out HS8.out) BKgr58.out (by decide) _); have BK9 := Aside0.mk (Row.row_here hw BKgr58.out); clear hw))
          refine bodyPost_ret (results_cell_row rfl _ _ gr 27 (bkCells s A' c' L) (0, 0) _ rfl BK9.out Try.underlying27 rfl (by kernel_rfl)) rfl ?_
          exact ⟨s, cutL L (k : Int), A', c', by rw [← bkCells_len (s := s) (A := A') (c := c') (cutL_len L (k : Int))], ⟨fun _ => ⟨rfl, fun _ => rfl, fun q => absurd HC.out q⟩, fun q => absurd HP.out q⟩, HO9.out, HB9.out⟩
        · have hdv : decide (v = 1) = false := decide_eq_false hv1
          have HC : Aside0 (¬ CutC s L (k : Int)) := ⟨fun q => hv1 (by have := q.2.2; rw [Int.toNat_natCast, HV.out] at this; exact this)⟩
          go_wp2_with (first | ((with_reducible refine gate_store (t := 27) (p := 2) rfl ?_); refine store_event (t := 27) (p := 2) (v := ?vo_5) (w1 := w4.setRow gb (bkCells s A' c' L)) ?hg ?ho ?hn ?hr ?_; (case ho => rfl); (case hg => rfl); (case hn => rfl); (case hr => exact (Row.store_row_run (g := gb) (cells := bkCells s A' c' L) (t := 27) (old := bkCells s A c L) rfl (by rfl) (by rfl) BKgb.out (by kernel_rfl) rfl (by simp [Value.oneCell']))); intro w5 hw; have HB5 := Aside0.mk (Row.row_below hw HB.out HGgb.out); have BKgr5 := Aside0.mk (Row.row_there hw BKgr.out (Ne.symm NE.out)); have HO5 := Aside0.mk (show BkO w5 w3.heap.size w4.heap.size A' c' L by rw [hw]; exact VO.row HO.out BKgb.out (by decide) _); have HS5 : Aside0 (w4.heap.size ≤ w5.heap.size) := ⟨by rw [hw, size_row]; exact Nat.le_refl _⟩; have BKgb5 := Aside0.mk (Row.row_here hw BKgb.out); clear HB BKgr HO BKgb; have f0 : w5.cell? ⟨gb, 0, none⟩ = some (.int .i64 s) := (blk_cell BKgb5.out 0).trans rfl; have z0 := blk_frozen BKgb5.out 0; obtain ⟨g, hg6, he, hf, hge, ⟨cs6, hcs⟩, hput⟩ := (VO.s HO5.out 6 (by omega)).elem k (by have := HS6.out; omega); have HG6 := Aside0.mk hg6; have HGE := Aside0.mk hge; have HCS := Aside0.mk hcs; have HPUT := Aside0.mk hput; have f7 : w5.cell? ⟨gb, 7, none⟩ = some (.slice (some ⟨g, 0, none⟩) (L 6).length (c' 6)) := (blk_cell BKgb5.out 7).trans (by rw [← HG6.out]; rfl); have z7 := blk_frozen BKgb5.out 7; have HVV := Aside0.mk he; clear hg6 hge hcs hput he; have he : w5.cell? ⟨g, k, none⟩ = some (.int .i64 v) := HVV.out.trans (congrArg (fun q => some (Value.int .i64 q)) HV.out); clear hw) | ((with_reducible refine gate_dst (N := 31) rfl ?_); refine Kd.event_run rfl (Row.load_row_run (g := gb) (t := 27) (cells := bkCells s A' c' L) rfl rfl BKgb5.out Try.underlying27 rfl (by kernel_rfl)) ?_) | ((with_reducible refine gate_store (t := 27) (p := 4) rfl ?_); refine store_event (t := 27) (p := 4) (v := ?vo_6) (w1 := w5.setRow gr (bkCells s A' c' L)) ?hg ?ho ?hn ?hr ?_; (case ho => rfl); (case hg => rfl); (case hn => rfl); (case hr => exact (Row.store_row_run (g := gr) (cells := bkCells s A' c' L) (t := 27) (old := #[.int .i64 0, .slice none 0 0, .slice none 0 0, .slice none 0 0, .slice none 0 0, .slice none 0 0, .slice none 0 0, .slice none 0 0, .slice none 0 0]) rfl (by rfl) (by rfl) BKgr5.out (by kernel_rfl) rfl (by simp [Value.oneCell']))); intro w9 hw; have HB9 := Aside0.mk (Row.row_below hw HB5.out HGgr.out); have HO9 := Aside0.mk (show BkO w9 w.heap.size w9.heap.size A' c' (L) by rw [hw, size_row]; exact VO.row (VO.wide HO5.out HI.out HS5.out) BKgr5.out (by decide) _); have BK9 := Aside0.mk (Row.row_here hw BKgr5.out); clear hw))
          refine bodyPost_ret (results_cell_row rfl _ _ gr 27 (bkCells s A' c' L) (0, 0) _ rfl BK9.out Try.underlying27 rfl (by kernel_rfl)) rfl ?_
          exact ⟨s, L, A', c', rfl, ⟨fun _ => ⟨rfl, fun q => absurd q HC.out, fun _ => rfl⟩, fun q => absurd HP.out q⟩, HO9.out, HB9.out⟩
      · have hd1 : decide ((k : Int) < s) = false := decide_eq_false hx1
        have HC : Aside0 (¬ CutC s L (k : Int)) := ⟨fun q => hx1 q.2.1⟩
        go_wp2_with (first | ((with_reducible refine gate_store (t := 27) (p := 2) rfl ?_); refine store_event (t := 27) (p := 2) (v := ?vo_7) (w1 := w4.setRow gb (bkCells s A' c' L)) ?hg ?ho ?hn ?hr ?_; (case ho => rfl); (case hg => rfl); (case hn => rfl); (case hr => exact (Row.store_row_run (g := gb) (cells := bkCells s A' c' L) (t := 27) (old := bkCells s A c L) rfl (by rfl) (by rfl) BKgb.out (by kernel_rfl) rfl (by simp [Value.oneCell']))); intro w5 hw; have HB5 := Aside0.mk (Row.row_below hw HB.out HGgb.out); have BKgr5 := Aside0.mk (Row.row_there hw BKgr.out (Ne.symm NE.out)); have HO5 := Aside0.mk (show BkO w5 w3.heap.size w4.heap.size A' c' L by rw [hw]; exact VO.row HO.out BKgb.out (by decide) _); have HS5 : Aside0 (w4.heap.size ≤ w5.heap.size) := ⟨by rw [hw, size_row]; exact Nat.le_refl _⟩; have BKgb5 := Aside0.mk (Row.row_here hw BKgb.out); clear HB BKgr HO BKgb; have f0 : w5.cell? ⟨gb, 0, none⟩ = some (.int .i64 s) := (blk_cell BKgb5.out 0).trans rfl; have z0 := blk_frozen BKgb5.out 0; clear hw) | ((with_reducible refine gate_dst (N := 31) rfl ?_); refine Kd.event_run rfl (Row.load_row_run (g := gb) (t := 27) (cells := bkCells s A' c' L) rfl rfl BKgb5.out Try.underlying27 rfl (by kernel_rfl)) ?_) | ((with_reducible refine gate_store (t := 27) (p := 4) rfl ?_); refine store_event (t := 27) (p := 4) (v := ?vo_8) (w1 := w5.setRow gr (bkCells s A' c' L)) ?hg ?ho ?hn ?hr ?_; (case ho => rfl); (case hg => rfl); (case hn => rfl); (case hr => exact (Row.store_row_run (g := gr) (cells := bkCells s A' c' L) (t := 27) (old := #[.int .i64 0, .slice none 0 0, .slice none 0 0, .slice none 0 0, .slice none 0 0, .slice none 0 0, .slice none 0 0, .slice none 0 0, .slice none 0 0]) rfl (by rfl) (by rfl) BKgr5.out (by kernel_rfl) rfl (by simp [Value.oneCell']))); intro w9 hw; have HB9 := Aside0.mk (Row.row_below hw HB5.out HGgr.out); have HO9 := Aside0.mk (show BkO w9 w.heap.size w9.heap.size A' c' (L) by rw [hw, size_row]; exact VO.row (VO.wide HO5.out HI.out HS5.out) BKgr5.out (by decide) _); have BK9 := Aside0.mk (Row.row_here hw BKgr5.out); clear hw))
        refine bodyPost_ret (results_cell_row rfl _ _ gr 27 (bkCells s A' c' L) (0, 0) _ rfl BK9.out Try.underlying27 rfl (by kernel_rfl)) rfl ?_
        exact ⟨s, L, A', c', rfl, ⟨fun _ => ⟨rfl, fun q => absurd q HC.out, fun _ => rfl⟩, fun q => absurd HP.out q⟩, HO9.out, HB9.out⟩
    · have hd0 : decide (0 ≤ x) = false := decide_eq_false hx0
      have HC : Aside0 (¬ CutC s L x) := ⟨fun q => hx0 q.1⟩
      go_wp2_with (first | ((with_reducible refine gate_store (t := 27) (p := 2) rfl ?_); refine store_event (t := 27) (p := 2) (v := ?vo_9) (w1 := w4.setRow gb (bkCells s A' c' L)) ?hg ?ho ?hn ?hr ?_; (case ho => rfl); (case hg => rfl); (case hn => rfl); (case hr => exact (Row.store_row_run (g := gb) (cells := bkCells s A' c' L) (t := 27) (old := bkCells s A c L) rfl (by rfl) (by rfl) BKgb.out (by kernel_rfl) rfl (by simp [Value.oneCell']))); intro w5 hw; have HB5 := Aside0.mk (Row.row_below hw HB.out HGgb.out); have BKgr5 := Aside0.mk (Row.row_there hw BKgr.out (Ne.symm NE.out)); have HO5 := Aside0.mk (show BkO w5 w3.heap.size w4.heap.size A' c' L by rw [hw]; exact VO.row HO.out BKgb.out (by decide) _); have HS5 : Aside0 (w4.heap.size ≤ w5.heap.size) := ⟨by rw [hw, size_row]; exact Nat.le_refl _⟩; have BKgb5 := Aside0.mk (Row.row_here hw BKgb.out); clear HB BKgr HO BKgb; have f0 : w5.cell? ⟨gb, 0, none⟩ = some (.int .i64 s) := (blk_cell BKgb5.out 0).trans rfl; have z0 := blk_frozen BKgb5.out 0; clear hw) | ((with_reducible refine gate_dst (N := 31) rfl ?_); refine Kd.event_run rfl (Row.load_row_run (g := gb) (t := 27) (cells := bkCells s A' c' L) rfl rfl BKgb5.out Try.underlying27 rfl (by kernel_rfl)) ?_) | ((with_reducible refine gate_store (t := 27) (p := 4) rfl ?_); refine store_event (t := 27) (p := 4) (v := ?vo_10) (w1 := w5.setRow gr (bkCells s A' c' L)) ?hg ?ho ?hn ?hr ?_; (case ho => rfl); (case hg => rfl); (case hn => rfl); (case hr => exact (Row.store_row_run (g := gr) (cells := bkCells s A' c' L) (t := 27) (old := #[.int .i64 0, .slice none 0 0, .slice none 0 0, .slice none 0 0, .slice none 0 0, .slice none 0 0, .slice none 0 0, .slice none 0 0, .slice none 0 0]) rfl (by rfl) (by rfl) BKgr5.out (by kernel_rfl) rfl (by simp [Value.oneCell']))); intro w9 hw; have HB9 := Aside0.mk (Row.row_below hw HB5.out HGgr.out); have HO9 := Aside0.mk (show BkO w9 w.heap.size w9.heap.size A' c' (L) by rw [hw, size_row]; exact VO.row (VO.wide HO5.out HI.out HS5.out) BKgr5.out (by decide) _); have BK9 := Aside0.mk (Row.row_here hw BKgr5.out); clear hw))
      refine bodyPost_ret (results_cell_row rfl _ _ gr 27 (bkCells s A' c' L) (0, 0) _ rfl BK9.out Try.underlying27 rfl (by kernel_rfl)) rfl ?_
      exact ⟨s, L, A', c', rfl, ⟨fun _ => ⟨rfl, fun q => absurd q HC.out, fun _ => rfl⟩, fun q => absurd HP.out q⟩, HO9.out, HB9.out⟩
set_option maxHeartbeats 8000000 in
set_option maxRecDepth 100000 in
theorem implCut_calls (s : Int) (A : Nat → Option Addr) (c : Nat → Nat) (L : Nat → List Int) (x : Int) (w : World) (h : BkC w A c L) (hl : ∀ i, (L i).length ≤ 1048576) (hw : ∀ i, Wf64 (L i)) (hx : -9223372036854775808 ≤ x ∧ x ≤ 9223372036854775807) :
    Calls Try.prog 31 #[.agg (bkCells s A c L), .int .i64 x] w (RetK s L x w) := by
  have HR := Aside0.mk h
  have HL := Aside0.mk hl
  have HW := Aside0.mk hw
  have HL2 : Aside0 (∀ i, (L i).length ≤ 35184372088832) := ⟨fun i => by have := hl i; omega⟩
  clear h hl hw
  have HB := Aside0.mk (Below.refl w.heap.size w)
  go_enter Try.func31, Try.ntmps31
  go_wp2_with (first | ((with_reducible refine gate_dst (N := 2) rfl ?_); refine box_event rfl (N := 2) rfl (cs := bkCells s A c L) (t := 27) (by first | (go_simp; done) | (go_simp; rfl)) ?_; intro gb hggb w1 hbox hb; have n0_ := Aside0.mk (below_step HB.out hb); have BKgb := Aside0.mk hbox; have HGgb := Aside0.mk (show w.heap.size ≤ gb by rw [hggb]; exact HB.out.size); clear HB; have HB := n0_; have fgbs0 : w1.cell? ⟨gb, 0, none⟩ = some (.int .i64 _) := (blk_cell BKgb.out 0).trans rfl; have fgb1 : w1.cell? ⟨gb, 1, none⟩ = some (.slice (A 0) (L 0).length (c 0)) := (blk_cell BKgb.out 1).trans rfl; have fgb2 : w1.cell? ⟨gb, 2, none⟩ = some (.slice (A 1) (L 1).length (c 1)) := (blk_cell BKgb.out 2).trans rfl; have fgb3 : w1.cell? ⟨gb, 3, none⟩ = some (.slice (A 2) (L 2).length (c 2)) := (blk_cell BKgb.out 3).trans rfl; have fgb4 : w1.cell? ⟨gb, 4, none⟩ = some (.slice (A 3) (L 3).length (c 3)) := (blk_cell BKgb.out 4).trans rfl; have fgb5 : w1.cell? ⟨gb, 5, none⟩ = some (.slice (A 4) (L 4).length (c 4)) := (blk_cell BKgb.out 5).trans rfl; have fgb6 : w1.cell? ⟨gb, 6, none⟩ = some (.slice (A 5) (L 5).length (c 5)) := (blk_cell BKgb.out 6).trans rfl; have fgb7 : w1.cell? ⟨gb, 7, none⟩ = some (.slice (A 6) (L 6).length (c 6)) := (blk_cell BKgb.out 7).trans rfl; have fgb8 : w1.cell? ⟨gb, 8, none⟩ = some (.slice (A 7) (L 7).length (c 7)) := (blk_cell BKgb.out 8).trans rfl; have fgbz0 := blk_frozen BKgb.out 0; have fgbz1 := blk_frozen BKgb.out 1; have fgbz2 := blk_frozen BKgb.out 2; have fgbz3 := blk_frozen BKgb.out 3; have fgbz4 := blk_frozen BKgb.out 4; have fgbz5 := blk_frozen BKgb.out 5; have fgbz6 := blk_frozen BKgb.out 6; have fgbz7 := blk_frozen BKgb.out 7; have fgbz8 := blk_frozen BKgb.out 8; clear n0_ hbox hb hggb) | ((with_reducible refine gate_dst (N := 4) rfl ?_); refine box_event rfl (N := 4) rfl (cs := #[.int .i64 0, .slice none 0 0, .slice none 0 0, .slice none 0 0, .slice none 0 0, .slice none 0 0, .slice none 0 0, .slice none 0 0, .slice none 0 0]) (t := 27) (by first | (go_simp; done) | (go_simp; rfl)) ?_; intro gr hggr w2 hbox hb; have n0_ := Aside0.mk (below_step HB.out hb); have BKgr := Aside0.mk hbox; have HGgr := Aside0.mk (show w.heap.size ≤ gr by rw [hggr]; exact HB.out.size); clear HB; have HB := n0_; have NE := Aside0.mk (show gb ≠ gr by have := blk_lt BKgb.out; omega); have BKgbn := Aside0.mk (blk_below BKgb.out hb); clear BKgb fgbs0 fgbz0 fgb1 fgbz1 fgb2 fgbz2 fgb3 fgbz3 fgb4 fgbz4 fgb5 fgbz5 fgb6 fgbz6 fgb7 fgbz7 fgb8 fgbz8; have BKgb := BKgbn; clear BKgbn; have fgbs0 : w2.cell? ⟨gb, 0, none⟩ = some (.int .i64 _) := (blk_cell BKgb.out 0).trans rfl; have fgb1 : w2.cell? ⟨gb, 1, none⟩ = some (.slice (A 0) (L 0).length (c 0)) := (blk_cell BKgb.out 1).trans rfl; have fgb2 : w2.cell? ⟨gb, 2, none⟩ = some (.slice (A 1) (L 1).length (c 1)) := (blk_cell BKgb.out 2).trans rfl; have fgb3 : w2.cell? ⟨gb, 3, none⟩ = some (.slice (A 2) (L 2).length (c 2)) := (blk_cell BKgb.out 3).trans rfl; have fgb4 : w2.cell? ⟨gb, 4, none⟩ = some (.slice (A 3) (L 3).length (c 3)) := (blk_cell BKgb.out 4).trans rfl; have fgb5 : w2.cell? ⟨gb, 5, none⟩ = some (.slice (A 4) (L 4).length (c 4)) := (blk_cell BKgb.out 5).trans rfl; have fgb6 : w2.cell? ⟨gb, 6, none⟩ = some (.slice (A 5) (L 5).length (c 5)) := (blk_cell BKgb.out 6).trans rfl; have fgb7 : w2.cell? ⟨gb, 7, none⟩ = some (.slice (A 6) (L 6).length (c 6)) := (blk_cell BKgb.out 7).trans rfl; have fgb8 : w2.cell? ⟨gb, 8, none⟩ = some (.slice (A 7) (L 7).length (c 7)) := (blk_cell BKgb.out 8).trans rfl; have fgbz0 := blk_frozen BKgb.out 0; have fgbz1 := blk_frozen BKgb.out 1; have fgbz2 := blk_frozen BKgb.out 2; have fgbz3 := blk_frozen BKgb.out 3; have fgbz4 := blk_frozen BKgb.out 4; have fgbz5 := blk_frozen BKgb.out 5; have fgbz6 := blk_frozen BKgb.out 6; have fgbz7 := blk_frozen BKgb.out 7; have fgbz8 := blk_frozen BKgb.out 8; clear n0_ hbox hb hggr))
  refine (implBookOk_calls s A c L _ (HR.out.below HB.out) HL2.out (HW.out 0) (HW.out 5)).mono ?_
  rintro e w3 ⟨r, rfl, hr, hb⟩
  clear fgbs0 fgbz0 fgb1 fgbz1 fgb2 fgbz2 fgb3 fgbz3 fgb4 fgbz4 fgb5 fgbz5 fgb6 fgbz6 fgb7 fgbz7 fgb8 fgbz8
  have HBn := Aside0.mk (below_step HB.out hb)
  have BKgbn := Aside0.mk (blk_below BKgb.out hb)
  have BKgrn := Aside0.mk (blk_below BKgr.out hb)
  clear HB BKgb BKgr hb
  have HB := HBn
  have BKgb := BKgbn
  have BKgr := BKgrn
  clear HBn BKgbn BKgrn
  have HRR := Aside0.mk hr
  clear hr
  cases r with
  | false =>
    have HN : Aside0 (¬ BookP s L) := ⟨fun q => by have := HRR.out.mpr ((book_iff s L).1 q); cases this⟩
    go_wp2_with (first | ((with_reducible refine gate_store (t := 27) (p := 4) rfl ?_); refine store_event (t := 27) (p := 4) (v := ?vo_11) (w1 := w3.setRow gr (#[.int .i64 0, .slice none 0 0, .slice none 0 0, .slice none 0 0, .slice none 0 0, .slice none 0 0, .slice none 0 0, .slice none 0 0, .slice none 0 0])) ?hg ?ho ?hn ?hr ?_; (case ho => rfl); (case hg => rfl); (case hn => rfl); (case hr => exact (Row.store_row_run (g := gr) (cells := #[.int .i64 0, .slice none 0 0, .slice none 0 0, .slice none 0 0, .slice none 0 0, .slice none 0 0, .slice none 0 0, .slice none 0 0, .slice none 0 0]) (t := 27) (old := #[.int .i64 0, .slice none 0 0, .slice none 0 0, .slice none 0 0, .slice none 0 0, .slice none 0 0, .slice none 0 0, .slice none 0 0, .slice none 0 0]) rfl (by rfl) (by rfl) BKgr.out (by kernel_rfl) rfl (by simp [Value.oneCell']))); intro w5 hw; have HB5 := Aside0.mk (Row.row_below hw HB.out HGgr.out); have BK5 := Aside0.mk (Row.row_here hw BKgr.out); clear hw))
    refine bodyPost_ret (results_cell_row rfl _ _ gr 27 #[.int .i64 0, .slice none 0 0, .slice none 0 0, .slice none 0 0, .slice none 0 0, .slice none 0 0, .slice none 0 0, .slice none 0 0, .slice none 0 0] (0, 0) _ rfl BK5.out Try.underlying27 rfl (by kernel_rfl)) rfl ?_
    exact ⟨0, fun _ => [], fun _ => none, fun _ => 0, rfl, ⟨fun q => absurd q HN.out, fun _ => ⟨rfl, rfl⟩⟩, bkO_none _ _ _, HB5.out⟩
  | true =>
    have HP : Aside0 (BookP s L) := ⟨(book_iff s L).2 (HRR.out.mp rfl)⟩
    clear HRR
    have hs0 : 1 ≤ s := by have := HP.out.1.1.1; omega
    have hs4 : s ≤ 4 := by have := HP.out.1.1.2.1; omega
    have HS6 : Aside0 (((L 6).length : Int) = s) := ⟨HP.out.1.1.2.2.1⟩
    have fgbs0 : w3.cell? ⟨gb, 0, none⟩ = some (.int .i64 _) := (blk_cell BKgb.out 0).trans rfl; have fgb1 : w3.cell? ⟨gb, 1, none⟩ = some (.slice (A 0) (L 0).length (c 0)) := (blk_cell BKgb.out 1).trans rfl; have fgb2 : w3.cell? ⟨gb, 2, none⟩ = some (.slice (A 1) (L 1).length (c 1)) := (blk_cell BKgb.out 2).trans rfl; have fgb3 : w3.cell? ⟨gb, 3, none⟩ = some (.slice (A 2) (L 2).length (c 2)) := (blk_cell BKgb.out 3).trans rfl; have fgb4 : w3.cell? ⟨gb, 4, none⟩ = some (.slice (A 3) (L 3).length (c 3)) := (blk_cell BKgb.out 4).trans rfl; have fgb5 : w3.cell? ⟨gb, 5, none⟩ = some (.slice (A 4) (L 4).length (c 4)) := (blk_cell BKgb.out 5).trans rfl; have fgb6 : w3.cell? ⟨gb, 6, none⟩ = some (.slice (A 5) (L 5).length (c 5)) := (blk_cell BKgb.out 6).trans rfl; have fgb7 : w3.cell? ⟨gb, 7, none⟩ = some (.slice (A 6) (L 6).length (c 6)) := (blk_cell BKgb.out 7).trans rfl; have fgb8 : w3.cell? ⟨gb, 8, none⟩ = some (.slice (A 7) (L 7).length (c 7)) := (blk_cell BKgb.out 8).trans rfl; have fgbz0 := blk_frozen BKgb.out 0; have fgbz1 := blk_frozen BKgb.out 1; have fgbz2 := blk_frozen BKgb.out 2; have fgbz3 := blk_frozen BKgb.out 3; have fgbz4 := blk_frozen BKgb.out 4; have fgbz5 := blk_frozen BKgb.out 5; have fgbz6 := blk_frozen BKgb.out 6; have fgbz7 := blk_frozen BKgb.out 7; have fgbz8 := blk_frozen BKgb.out 8
    go_wp2_with fail
    refine (own_calls s A c L _ (HR.out.below HB.out) HL.out).mono ?_
    rintro e w4 ⟨A', c', rfl, ho, hb⟩
    have HI : Aside0 (w.heap.size ≤ w3.heap.size) := ⟨HB.out.size⟩
    clear fgbs0 fgbz0 fgb1 fgbz1 fgb2 fgbz2 fgb3 fgbz3 fgb4 fgbz4 fgb5 fgbz5 fgb6 fgbz6 fgb7 fgbz7 fgb8 fgbz8
    have HO := Aside0.mk ho
    have HBn := Aside0.mk (below_step HB.out hb)
    have BKgbn := Aside0.mk (blk_below BKgb.out hb)
    have BKgrn := Aside0.mk (blk_below BKgr.out hb)
    clear HB BKgb BKgr hb ho
    have HB := HBn
    have BKgb := BKgbn
    have BKgr := BKgrn
    clear HBn BKgbn BKgrn
    go_wp2_with (first | ((with_reducible refine gate_dst (N := 5) rfl ?_); refine box_event rfl (N := 5) rfl (cs := #[.int .i64 0, .slice none 0 0, .slice none 0 0, .slice none 0 0, .slice none 0 0, .slice none 0 0, .slice none 0 0, .slice none 0 0, .slice none 0 0]) (t := 27) (by first | (go_simp; done) | (go_simp; rfl)) ?_; intro go hggo w5 hbox hb; have n0_ := Aside0.mk (below_step HB.out hb); have BKgo := Aside0.mk hbox; have HGgo := Aside0.mk (show w.heap.size ≤ go by rw [hggo]; exact HB.out.size); clear HB; have HB := n0_; have HX5 : Aside0 (w4.heap.size ≤ go) := ⟨by omega⟩; have NEr := Aside0.mk (show gr ≠ go by have := blk_lt BKgr.out; omega); have BKgrm := Aside0.mk (blk_below BKgr.out hb); have HOm := Aside0.mk (BkO.below HO.out hb); clear BKgr HO; clear n0_ hbox hb hggo) | ((with_reducible refine gate_store (t := 27) (p := 5) rfl ?_); refine store_event (t := 27) (p := 5) (v := ?vo_12) (w1 := w5.setRow go (bkCells s A' c' L)) ?hg ?ho ?hn ?hr ?_; (case ho => rfl); (case hg => rfl); (case hn => rfl); (case hr => exact (Row.store_row_run (g := go) (cells := bkCells s A' c' L) (t := 27) (old := #[.int .i64 0, .slice none 0 0, .slice none 0 0, .slice none 0 0, .slice none 0 0, .slice none 0 0, .slice none 0 0, .slice none 0 0, .slice none 0 0]) rfl (by rfl) (by rfl) BKgo.out (by kernel_rfl) rfl (by simp [Value.oneCell']))); intro w6 hw; have HB6 := Aside0.mk (Row.row_below hw HB.out HGgo.out); have BKgr6 := Aside0.mk (Row.row_there hw BKgrm.out NEr.out); have HO6 := Aside0.mk (show BkO w6 w3.heap.size w4.heap.size A' c' L by rw [hw]; exact VO.row HOm.out BKgo.out (by decide) _); have BKgo6 := Aside0.mk (Row.row_here hw BKgo.out); have HS6b : Aside0 (w4.heap.size ≤ w6.heap.size) := ⟨by have := blk_lt BKgo6.out; have := HX5.out; omega⟩; clear HB BKgrm HOm BKgo; have fgos0 : w6.cell? ⟨go, 0, none⟩ = some (.int .i64 _) := (blk_cell BKgo6.out 0).trans rfl; have fgo1 : w6.cell? ⟨go, 1, none⟩ = some (.slice (A' 0) (L 0).length (c' 0)) := (blk_cell BKgo6.out 1).trans rfl; have fgo2 : w6.cell? ⟨go, 2, none⟩ = some (.slice (A' 1) (L 1).length (c' 1)) := (blk_cell BKgo6.out 2).trans rfl; have fgo3 : w6.cell? ⟨go, 3, none⟩ = some (.slice (A' 2) (L 2).length (c' 2)) := (blk_cell BKgo6.out 3).trans rfl; have fgo4 : w6.cell? ⟨go, 4, none⟩ = some (.slice (A' 3) (L 3).length (c' 3)) := (blk_cell BKgo6.out 4).trans rfl; have fgo5 : w6.cell? ⟨go, 5, none⟩ = some (.slice (A' 4) (L 4).length (c' 4)) := (blk_cell BKgo6.out 5).trans rfl; have fgo6 : w6.cell? ⟨go, 6, none⟩ = some (.slice (A' 5) (L 5).length (c' 5)) := (blk_cell BKgo6.out 6).trans rfl; have fgo7 : w6.cell? ⟨go, 7, none⟩ = some (.slice (A' 6) (L 6).length (c' 6)) := (blk_cell BKgo6.out 7).trans rfl; have fgo8 : w6.cell? ⟨go, 8, none⟩ = some (.slice (A' 7) (L 7).length (c' 7)) := (blk_cell BKgo6.out 8).trans rfl; have fgoz0 := blk_frozen BKgo6.out 0; have fgoz1 := blk_frozen BKgo6.out 1; have fgoz2 := blk_frozen BKgo6.out 2; have fgoz3 := blk_frozen BKgo6.out 3; have fgoz4 := blk_frozen BKgo6.out 4; have fgoz5 := blk_frozen BKgo6.out 5; have fgoz6 := blk_frozen BKgo6.out 6; have fgoz7 := blk_frozen BKgo6.out 7; have fgoz8 := blk_frozen BKgo6.out 8; clear hw))
    refine (isSlot_calls s A' c' L x _ hs0 hs4).mono ?_
    rintro e w7 ⟨rfl, hb⟩
    clear fgos0 fgoz0 fgo1 fgoz1 fgo2 fgoz2 fgo3 fgoz3 fgo4 fgoz4 fgo5 fgoz5 fgo6 fgoz6 fgo7 fgoz7 fgo8 fgoz8
    have HB7 := Aside0.mk (below_step HB6.out hb)
    have HO7 := Aside0.mk (BkO.below HO6.out hb)
    have BKgr7 := Aside0.mk (blk_below BKgr6.out hb)
    have BKgo7 := Aside0.mk (blk_below BKgo6.out hb)
    have HS7 : Aside0 (w4.heap.size ≤ w7.heap.size) := ⟨Nat.le_trans HS6b.out hb.size⟩
    clear HB6 HO6 BKgr6 BKgo6 hb
    by_cases hx0 : 0 ≤ x ∧ x ≤ s - 1
    · rw [show withinB x 0 (s - 1) = true from within_t.2 hx0]
      obtain ⟨k, rfl⟩ := Int.eq_ofNat_of_zero_le hx0.1
      have hk6 : (k : Int) < ((L 6).length : Int) := by have := HS6.out; have := hx0.2; omega
      obtain ⟨v, hv⟩ : ∃ v, (L 6).getD k 0 = v := ⟨_, rfl⟩
      have HV := Aside0.mk hv
      have HX0 := Aside0.mk hx0
      clear hv hx0
      by_cases hv1 : v = 1
      · subst hv1
        have HC : Aside0 (CutC s L (k : Int)) := ⟨⟨HX0.out.1, by have := HX0.out.2; omega, by rw [Int.toNat_natCast]; exact HV.out⟩⟩
        obtain ⟨g, hg6, he, hf, hge, ⟨cs6, hcs⟩, hput⟩ := (VO.s HO7.out 6 (by omega)).elem k (by have := HS6.out; omega)
        have HG6 := Aside0.mk hg6
        have HGE := Aside0.mk hge
        have HCS := Aside0.mk hcs
        have HPUT := Aside0.mk hput
        have f7 : w7.cell? ⟨go, 7, none⟩ = some (.slice (some ⟨g, 0, none⟩) (L 6).length (c' 6)) := (blk_cell BKgo7.out 7).trans (by rw [← HG6.out]; rfl)
        have z7 := blk_frozen BKgo7.out 7
        have HVV := Aside0.mk he
        clear hg6 hge hcs hput he
        have he : w7.cell? ⟨g, k, none⟩ = some (.int .i64 1) := HVV.out.trans (congrArg (fun q => some (Value.int .i64 q)) HV.out)
        go_wp2_with (first | ((with_reducible refine gate_store (t := 3) (p := 26) rfl ?_); refine store_event (t := 3) (p := 26) (v := ?vo_13) (w1 := (w7.setCell ⟨g, k, none⟩ (.int .i64 2))) ?hg ?ho ?hn ?hr ?_; (case ho => rfl); (case hg => rfl); (case hn => rfl); (case hr => first | (go_simp; done) | (go_simp; rfl)); intro w8 hw; have HO8 := Aside0.mk (show BkO w8 w3.heap.size w4.heap.size A' c' (cutL L (k : Int)) by rw [hw]; exact bkO_cut HO7.out k g HG6.out (HPUT.out 2)); have HB8 := Aside0.mk (show Below w.heap.size w w8 by rw [hw]; exact below_set HB7.out (Nat.le_trans HI.out HGE.out)); have HS8 : Aside0 (w4.heap.size ≤ w8.heap.size) := ⟨by rw [hw, size_set]; exact HS7.out⟩; have BKgo78 := Aside0.mk ((show w8.heap[go]? = w7.heap[go]? by rw [hw]; exact (Below.heap_setCell w7 ⟨g, k, none⟩ _ go (fun e => by have h1 := HCS.out; have e2 : go = g := e; rw [← e2, BKgo7.out] at h1; simp at h1))).trans BKgo7.out); have BKgr78 := Aside0.mk ((show w8.heap[gr]? = w7.heap[gr]? by rw [hw]; exact (Below.heap_setCell w7 ⟨g, k, none⟩ _ gr (fun e => by have h1 := HCS.out; have e2 : gr = g := e; rw [← e2, BKgr7.out] at h1; simp at h1))).trans BKgr7.out); clear hw) | ((with_reducible refine gate_dst (N := 27) rfl ?_); refine Kd.event_run rfl (Row.load_row_run (g := go) (t := 27) (cells := bkCells s A' c' L) rfl rfl BKgo78.out Try.underlying27 rfl (by kernel_rfl)) ?_) | ((with_reducible refine gate_store (t := 27) (p := 4) rfl ?_); refine store_event (t := 27) (p := 4) (v := ?vo_14) (w1 := w8.setRow gr (bkCells s A' c' L)) ?hg ?ho ?hn ?hr ?_; (case ho => rfl); (case hg => rfl); (case hn => rfl); (case hr => exact (Row.store_row_run (g := gr) (cells := bkCells s A' c' L) (t := 27) (old := #[.int .i64 0, .slice none 0 0, .slice none 0 0, .slice none 0 0, .slice none 0 0, .slice none 0 0, .slice none 0 0, .slice none 0 0, .slice none 0 0]) rfl (by rfl) (by rfl) BKgr78.out (by kernel_rfl) rfl (by simp [Value.oneCell']))); intro w9 hw; have HB9 := Aside0.mk (Row.row_below hw HB8.out HGgr.out); have HO9 := Aside0.mk (show BkO w9 w.heap.size w9.heap.size A' c' (cutL L (k : Int)) by rw [hw, size_row]; exact VO.row (VO.wide HO8.out HI.out HS8.out) BKgr78.out (by decide) _); have BK9 := Aside0.mk (Row.row_here hw BKgr78.out); clear hw))
        refine bodyPost_ret (results_cell_row rfl _ _ gr 27 (bkCells s A' c' L) (0, 0) _ rfl BK9.out Try.underlying27 rfl (by kernel_rfl)) rfl ?_
        exact ⟨s, cutL L (k : Int), A', c', by rw [← bkCells_len (s := s) (A := A') (c := c') (cutL_len L (k : Int))], ⟨fun _ => ⟨rfl, fun _ => rfl, fun q => absurd HC.out q⟩, fun q => absurd HP.out q⟩, HO9.out, HB9.out⟩
      · have hdv : decide (v = 1) = false := decide_eq_false hv1
        have HC : Aside0 (¬ CutC s L (k : Int)) := ⟨fun q => hv1 (by have := q.2.2; rw [Int.toNat_natCast, HV.out] at this; exact this)⟩
        obtain ⟨g, hg6, he, hf, hge, ⟨cs6, hcs⟩, hput⟩ := (VO.s HO7.out 6 (by omega)).elem k (by have := HS6.out; omega)
        have HG6 := Aside0.mk hg6
        have HGE := Aside0.mk hge
        have HCS := Aside0.mk hcs
        have HPUT := Aside0.mk hput
        have f7 : w7.cell? ⟨go, 7, none⟩ = some (.slice (some ⟨g, 0, none⟩) (L 6).length (c' 6)) := (blk_cell BKgo7.out 7).trans (by rw [← HG6.out]; rfl)
        have z7 := blk_frozen BKgo7.out 7
        have HVV := Aside0.mk he
        clear hg6 hge hcs hput he
        have he : w7.cell? ⟨g, k, none⟩ = some (.int .i64 v) := HVV.out.trans (congrArg (fun q => some (Value.int .i64 q)) HV.out)
        go_wp2_with (first | ((with_reducible refine gate_dst (N := 27) rfl ?_); refine Kd.event_run rfl (Row.load_row_run (g := go) (t := 27) (cells := bkCells s A' c' L) rfl rfl BKgo7.out Try.underlying27 rfl (by kernel_rfl)) ?_) | ((with_reducible refine gate_store (t := 27) (p := 4) rfl ?_); refine store_event (t := 27) (p := 4) (v := ?vo_15) (w1 := w7.setRow gr (bkCells s A' c' L)) ?hg ?ho ?hn ?hr ?_; (case ho => rfl); (case hg => rfl); (case hn => rfl); (case hr => exact (Row.store_row_run (g := gr) (cells := bkCells s A' c' L) (t := 27) (old := #[.int .i64 0, .slice none 0 0, .slice none 0 0, .slice none 0 0, .slice none 0 0, .slice none 0 0, .slice none 0 0, .slice none 0 0, .slice none 0 0]) rfl (by rfl) (by rfl) BKgr7.out (by kernel_rfl) rfl (by simp [Value.oneCell']))); intro w9 hw; have HB9 := Aside0.mk (Row.row_below hw HB7.out HGgr.out); have HO9 := Aside0.mk (show BkO w9 w.heap.size w9.heap.size A' c' (L) by rw [hw, size_row]; exact VO.row (VO.wide HO7.out HI.out HS7.out) BKgr7.out (by decide) _); have BK9 := Aside0.mk (Row.row_here hw BKgr7.out); clear hw))
        refine bodyPost_ret (results_cell_row rfl _ _ gr 27 (bkCells s A' c' L) (0, 0) _ rfl BK9.out Try.underlying27 rfl (by kernel_rfl)) rfl ?_
        exact ⟨s, L, A', c', rfl, ⟨fun _ => ⟨rfl, fun q => absurd q HC.out, fun _ => rfl⟩, fun q => absurd HP.out q⟩, HO9.out, HB9.out⟩
    · rw [show withinB x 0 (s - 1) = false by cases hq : withinB x 0 (s - 1) with | false => rfl | true => exact absurd (within_t.1 hq) hx0]
      have HC : Aside0 (¬ CutC s L x) := ⟨fun q => hx0 ⟨q.1, by have := q.2.1; omega⟩⟩
      clear hx0
      go_wp2_with (first | ((with_reducible refine gate_dst (N := 27) rfl ?_); refine Kd.event_run rfl (Row.load_row_run (g := go) (t := 27) (cells := bkCells s A' c' L) rfl rfl BKgo7.out Try.underlying27 rfl (by kernel_rfl)) ?_) | ((with_reducible refine gate_store (t := 27) (p := 4) rfl ?_); refine store_event (t := 27) (p := 4) (v := ?vo_16) (w1 := w7.setRow gr (bkCells s A' c' L)) ?hg ?ho ?hn ?hr ?_; (case ho => rfl); (case hg => rfl); (case hn => rfl); (case hr => exact (Row.store_row_run (g := gr) (cells := bkCells s A' c' L) (t := 27) (old := #[.int .i64 0, .slice none 0 0, .slice none 0 0, .slice none 0 0, .slice none 0 0, .slice none 0 0, .slice none 0 0, .slice none 0 0, .slice none 0 0]) rfl (by rfl) (by rfl) BKgr7.out (by kernel_rfl) rfl (by simp [Value.oneCell']))); intro w9 hw; have HB9 := Aside0.mk (Row.row_below hw HB7.out HGgr.out); have HO9 := Aside0.mk (show BkO w9 w.heap.size w9.heap.size A' c' (L) by rw [hw, size_row]; exact VO.row (VO.wide HO7.out HI.out HS7.out) BKgr7.out (by decide) _); have BK9 := Aside0.mk (Row.row_here hw BKgr7.out); clear hw))
      refine bodyPost_ret (results_cell_row rfl _ _ gr 27 (bkCells s A' c' L) (0, 0) _ rfl BK9.out Try.underlying27 rfl (by kernel_rfl)) rfl ?_
      exact ⟨s, L, A', c', rfl, ⟨fun _ => ⟨rfl, fun q => absurd q HC.out, fun _ => rfl⟩, fun q => absurd HP.out q⟩, HO9.out, HB9.out⟩


theorem BkO.kept2 {w w1 : World} {lo hi lo' hi' : Nat} {A : Nat → Option Addr} {c : Nat → Nat} {L : Nat → List Int} (h : BkO w lo hi A c L) (hk : Keep lo' hi' w w1) (hd : hi ≤ lo' ∨ hi' ≤ lo) : BkO w1 lo hi A c L := VO.map h fun ho => ho.kept hk hd
theorem CutP.len {s : Int} {L : Nat → List Int} {x s' : Int} {L' : Nat → List Int} (h : CutP s L x s' L') (i : Nat) : (L' i).length ≤ (L i).length := by
  by_cases hb : BookP s L
  · by_cases hc : CutC s L x
    · rw [(h.1 hb).2.1 hc, cutL_len]; exact Nat.le_refl _
    · rw [(h.1 hb).2.2 hc]; exact Nat.le_refl _
  · rw [(h.2 hb).2]; simp
set_option maxHeartbeats 8000000 in
set_option maxRecDepth 100000 in
theorem lawBookCut_calls (s : Int) (A : Nat → Option Addr) (c : Nat → Nat) (L : Nat → List Int) (x : Int) (w : World) (h : BkC w A c L) (hl : ∀ i, (L i).length ≤ 9223372036854775807) (h8 : ∀ i, 8 ≤ i → L i = []) (hw : ∀ i, Wf64 (L i)) (hx : -9223372036854775808 ≤ x ∧ x ≤ 9223372036854775807) :
    Calls Try.prog 8 #[.agg (bkCells s A c L), .int .i64 x] w fun e w' => e = .returned (.bool true) ∧ Below w.heap.size w w' := by
  have HR := Aside0.mk h
  have HL := Aside0.mk hl
  have HW := Aside0.mk hw
  have HX := Aside0.mk hx
  have HN : Aside0 (0 ≤ szB L 1048576 → ∀ i, (L i).length ≤ 1048576) := ⟨fun q => (szB_nn L 1048576 (by omega) h8 q).1⟩
  obtain ⟨z, hz⟩ : ∃ z, szB L 1048576 = z := ⟨_, rfl⟩
  rw [hz] at HN
  have HZ := Aside0.mk hz
  clear h hl h8 hw hz hx
  have HB := Aside0.mk (Below.refl w.heap.size w)
  by_cases hz0 : z < 0
  · go_enter Try.func8, Try.ntmps8
    go_wp2_with (first | ((with_reducible refine gate_dst (N := 2) rfl ?_); refine box_event rfl (N := 2) rfl (cs := bkCells s A c L) (t := 34) (by first | (go_simp; done) | (go_simp; rfl)) ?_; intro gb hggb w1 hbox hb; have n0_ := Aside0.mk (below_step HB.out hb); have BKgb := Aside0.mk hbox; have HGgb := Aside0.mk (show w.heap.size ≤ gb by rw [hggb]; exact HB.out.size); clear HB; have HB := n0_; have fgbs0 : w1.cell? ⟨gb, 0, none⟩ = some (.int .i64 _) := (blk_cell BKgb.out 0).trans rfl; have fgb1 : w1.cell? ⟨gb, 1, none⟩ = some (.slice (A 0) (L 0).length (c 0)) := (blk_cell BKgb.out 1).trans rfl; have fgb2 : w1.cell? ⟨gb, 2, none⟩ = some (.slice (A 1) (L 1).length (c 1)) := (blk_cell BKgb.out 2).trans rfl; have fgb3 : w1.cell? ⟨gb, 3, none⟩ = some (.slice (A 2) (L 2).length (c 2)) := (blk_cell BKgb.out 3).trans rfl; have fgb4 : w1.cell? ⟨gb, 4, none⟩ = some (.slice (A 3) (L 3).length (c 3)) := (blk_cell BKgb.out 4).trans rfl; have fgb5 : w1.cell? ⟨gb, 5, none⟩ = some (.slice (A 4) (L 4).length (c 4)) := (blk_cell BKgb.out 5).trans rfl; have fgb6 : w1.cell? ⟨gb, 6, none⟩ = some (.slice (A 5) (L 5).length (c 5)) := (blk_cell BKgb.out 6).trans rfl; have fgb7 : w1.cell? ⟨gb, 7, none⟩ = some (.slice (A 6) (L 6).length (c 6)) := (blk_cell BKgb.out 7).trans rfl; have fgb8 : w1.cell? ⟨gb, 8, none⟩ = some (.slice (A 7) (L 7).length (c 7)) := (blk_cell BKgb.out 8).trans rfl; have fgbz0 := blk_frozen BKgb.out 0; have fgbz1 := blk_frozen BKgb.out 1; have fgbz2 := blk_frozen BKgb.out 2; have fgbz3 := blk_frozen BKgb.out 3; have fgbz4 := blk_frozen BKgb.out 4; have fgbz5 := blk_frozen BKgb.out 5; have fgbz6 := blk_frozen BKgb.out 6; have fgbz7 := blk_frozen BKgb.out 7; have fgbz8 := blk_frozen BKgb.out 8; clear n0_ hbox hb hggb) | (go_at_call 17; refine (szBook_calls s A c L 1048576 _ (by omega) (by omega) HL.out).mono ?_; rintro e w2 ⟨rfl, hb⟩; rw [HZ.out]; have HB2 := Aside0.mk (below_step HB.out hb); clear hb HB; have HB := HB2; clear HB2))
    go_ret
    exact ⟨rfl, HB.out⟩
  have hz1 := nn_of hz0
  have HM : Aside0 (∀ i, (L i).length ≤ 1048576) := ⟨HN.out hz1⟩
  have HM2 : Aside0 (∀ i, (L i).length ≤ 35184372088832) := ⟨fun i => by have := HM.out i; omega⟩
  clear HN hz0
  go_enter Try.func8, Try.ntmps8
  go_wp2_with (first | ((with_reducible refine gate_dst (N := 2) rfl ?_); refine box_event rfl (N := 2) rfl (cs := bkCells s A c L) (t := 34) (by first | (go_simp; done) | (go_simp; rfl)) ?_; intro gb hggb w1 hbox hb; have n0_ := Aside0.mk (below_step HB.out hb); have BKgb := Aside0.mk hbox; have HGgb := Aside0.mk (show w.heap.size ≤ gb by rw [hggb]; exact HB.out.size); clear HB; have HB := n0_; have fgbs0 : w1.cell? ⟨gb, 0, none⟩ = some (.int .i64 _) := (blk_cell BKgb.out 0).trans rfl; have fgb1 : w1.cell? ⟨gb, 1, none⟩ = some (.slice (A 0) (L 0).length (c 0)) := (blk_cell BKgb.out 1).trans rfl; have fgb2 : w1.cell? ⟨gb, 2, none⟩ = some (.slice (A 1) (L 1).length (c 1)) := (blk_cell BKgb.out 2).trans rfl; have fgb3 : w1.cell? ⟨gb, 3, none⟩ = some (.slice (A 2) (L 2).length (c 2)) := (blk_cell BKgb.out 3).trans rfl; have fgb4 : w1.cell? ⟨gb, 4, none⟩ = some (.slice (A 3) (L 3).length (c 3)) := (blk_cell BKgb.out 4).trans rfl; have fgb5 : w1.cell? ⟨gb, 5, none⟩ = some (.slice (A 4) (L 4).length (c 4)) := (blk_cell BKgb.out 5).trans rfl; have fgb6 : w1.cell? ⟨gb, 6, none⟩ = some (.slice (A 5) (L 5).length (c 5)) := (blk_cell BKgb.out 6).trans rfl; have fgb7 : w1.cell? ⟨gb, 7, none⟩ = some (.slice (A 6) (L 6).length (c 6)) := (blk_cell BKgb.out 7).trans rfl; have fgb8 : w1.cell? ⟨gb, 8, none⟩ = some (.slice (A 7) (L 7).length (c 7)) := (blk_cell BKgb.out 8).trans rfl; have fgbz0 := blk_frozen BKgb.out 0; have fgbz1 := blk_frozen BKgb.out 1; have fgbz2 := blk_frozen BKgb.out 2; have fgbz3 := blk_frozen BKgb.out 3; have fgbz4 := blk_frozen BKgb.out 4; have fgbz5 := blk_frozen BKgb.out 5; have fgbz6 := blk_frozen BKgb.out 6; have fgbz7 := blk_frozen BKgb.out 7; have fgbz8 := blk_frozen BKgb.out 8; clear n0_ hbox hb hggb))
  refine (szBook_calls s A c L 1048576 _ (by omega) (by omega) HL.out).mono ?_
  rintro e w2 ⟨rfl, hb⟩
  rw [HZ.out]
  clear fgbs0 fgbz0 fgb1 fgbz1 fgb2 fgbz2 fgb3 fgbz3 fgb4 fgbz4 fgb5 fgbz5 fgb6 fgbz6 fgb7 fgbz7 fgb8 fgbz8
  have HBn := Aside0.mk (below_step HB.out hb)
  have BKgbn := Aside0.mk (blk_below BKgb.out hb)
  clear HB BKgb
  have HB := HBn
  have BKgb := BKgbn
  clear HBn BKgbn
  have HGB : Aside0 (gb < w2.heap.size) := ⟨blk_lt BKgb.out⟩
  clear hb
  have fgbs0 : w2.cell? ⟨gb, 0, none⟩ = some (.int .i64 _) := (blk_cell BKgb.out 0).trans rfl; have fgb1 : w2.cell? ⟨gb, 1, none⟩ = some (.slice (A 0) (L 0).length (c 0)) := (blk_cell BKgb.out 1).trans rfl; have fgb2 : w2.cell? ⟨gb, 2, none⟩ = some (.slice (A 1) (L 1).length (c 1)) := (blk_cell BKgb.out 2).trans rfl; have fgb3 : w2.cell? ⟨gb, 3, none⟩ = some (.slice (A 2) (L 2).length (c 2)) := (blk_cell BKgb.out 3).trans rfl; have fgb4 : w2.cell? ⟨gb, 4, none⟩ = some (.slice (A 3) (L 3).length (c 3)) := (blk_cell BKgb.out 4).trans rfl; have fgb5 : w2.cell? ⟨gb, 5, none⟩ = some (.slice (A 4) (L 4).length (c 4)) := (blk_cell BKgb.out 5).trans rfl; have fgb6 : w2.cell? ⟨gb, 6, none⟩ = some (.slice (A 5) (L 5).length (c 5)) := (blk_cell BKgb.out 6).trans rfl; have fgb7 : w2.cell? ⟨gb, 7, none⟩ = some (.slice (A 6) (L 6).length (c 6)) := (blk_cell BKgb.out 7).trans rfl; have fgb8 : w2.cell? ⟨gb, 8, none⟩ = some (.slice (A 7) (L 7).length (c 7)) := (blk_cell BKgb.out 8).trans rfl; have fgbz0 := blk_frozen BKgb.out 0; have fgbz1 := blk_frozen BKgb.out 1; have fgbz2 := blk_frozen BKgb.out 2; have fgbz3 := blk_frozen BKgb.out 3; have fgbz4 := blk_frozen BKgb.out 4; have fgbz5 := blk_frozen BKgb.out 5; have fgbz6 := blk_frozen BKgb.out 6; have fgbz7 := blk_frozen BKgb.out 7; have fgbz8 := blk_frozen BKgb.out 8
  go_wp2_with fail
  refine (toBook_calls s A c L _ (HR.out.below HB.out) HM2.out).mono ?_
  rintro e w3 ⟨A1, c1, rfl, ho, hb⟩
  clear fgbs0 fgbz0 fgb1 fgbz1 fgb2 fgbz2 fgb3 fgbz3 fgb4 fgbz4 fgb5 fgbz5 fgb6 fgbz6 fgb7 fgbz7 fgb8 fgbz8
  have HBn := Aside0.mk (below_step HB.out hb)
  have BKgbn := Aside0.mk (blk_below BKgb.out hb)
  clear HB BKgb
  have HB := HBn
  have BKgb := BKgbn
  clear HBn BKgbn
  have HGB3 : Aside0 (gb < w3.heap.size) := ⟨blk_lt BKgb.out⟩
  have HO1 := Aside0.mk ho.c
  clear hb ho
  go_wp2_with fail
  refine (specCut_calls s A1 c1 L x _ HO1.out HM.out HW.out HX.out).mono ?_
  rintro e w4 ⟨s0, L0, A0, c0, rfl, hp0, ho0, hb⟩
  have HP0 := Aside0.mk hp0
  have H0 := Aside0.mk ho0
  have HM0 : Aside0 (∀ i, (L0 i).length ≤ 1048576) := ⟨fun i => Nat.le_trans (hp0.len i) (HM.out i)⟩
  have HL0 : Aside0 (∀ i, (L0 i).length ≤ 9223372036854775807) := ⟨fun i => by have := HM0.out i; omega⟩
  have Z3 : Aside0 (w.heap.size ≤ w3.heap.size) := ⟨HB.out.size⟩
  have HBn := Aside0.mk (below_step HB.out hb)
  have BKgbn := Aside0.mk (blk_below BKgb.out hb)
  clear HB BKgb
  have HB := HBn
  have BKgb := BKgbn
  clear HBn BKgbn
  have Z4 : Aside0 (w3.heap.size ≤ w4.heap.size) := ⟨hb.size⟩
  clear hb ho0 hp0 HO1
  go_wp2_with (first | ((with_reducible refine gate_dst (N := 6) rfl ?_); refine box_event rfl (N := 6) rfl (cs := #[.int .i64 0, .slice none 0 0, .slice none 0 0, .slice none 0 0, .slice none 0 0, .slice none 0 0, .slice none 0 0, .slice none 0 0, .slice none 0 0]) (t := 27) (by first | (go_simp; done) | (go_simp; rfl)) ?_; intro g6 hgg6 w5 hbox hb; have n0_ := Aside0.mk (below_step HB.out hb); have BKg6 := Aside0.mk hbox; have HGg6 := Aside0.mk (show w.heap.size ≤ g6 by rw [hgg6]; exact HB.out.size); clear HB; have HB := n0_; have HXg6 : Aside0 (w4.heap.size ≤ g6) := ⟨by omega⟩; have NEgbg6 := Aside0.mk (show gb ≠ g6 by have := blk_lt BKgb.out; omega); have BKgbm := Aside0.mk (blk_below BKgb.out hb); have H0m := Aside0.mk (BkO.below H0.out hb); clear BKgb H0; clear n0_ hbox hb hgg6) | ((with_reducible refine gate_store (t := 27) (p := 6) rfl ?_); refine store_event (t := 27) (p := 6) (v := ?vo_1) (w1 := w5.setRow g6 (bkCells s0 A0 c0 L0)) ?hg ?ho ?hn ?hr ?_; (case ho => rfl); (case hg => rfl); (case hn => rfl); (case hr => exact (Row.store_row_run (g := g6) (cells := bkCells s0 A0 c0 L0) (t := 27) (old := #[.int .i64 0, .slice none 0 0, .slice none 0 0, .slice none 0 0, .slice none 0 0, .slice none 0 0, .slice none 0 0, .slice none 0 0, .slice none 0 0]) rfl (by rfl) (by rfl) BKg6.out (by kernel_rfl) rfl (by simp [Value.oneCell']))); intro w6 hw; have HBv := Aside0.mk (Row.row_below hw HB.out HGg6.out); have BKg6v := Aside0.mk (Row.row_here hw BKg6.out); have BKgb := Aside0.mk (Row.row_there hw BKgbm.out NEgbg6.out); have H0 := Aside0.mk (show BkO w6 w3.heap.size w4.heap.size A0 c0 L0 by rw [hw]; exact VO.row H0m.out BKg6.out (by decide) _); clear HB BKg6 BKgbm H0m; have HB := HBv; have BKg6 := BKg6v; clear HBv BKg6v; have fgbs0 : w6.cell? ⟨gb, 0, none⟩ = some (.int .i64 _) := (blk_cell BKgb.out 0).trans rfl; have fgb1 : w6.cell? ⟨gb, 1, none⟩ = some (.slice (A 0) (L 0).length (c 0)) := (blk_cell BKgb.out 1).trans rfl; have fgb2 : w6.cell? ⟨gb, 2, none⟩ = some (.slice (A 1) (L 1).length (c 1)) := (blk_cell BKgb.out 2).trans rfl; have fgb3 : w6.cell? ⟨gb, 3, none⟩ = some (.slice (A 2) (L 2).length (c 2)) := (blk_cell BKgb.out 3).trans rfl; have fgb4 : w6.cell? ⟨gb, 4, none⟩ = some (.slice (A 3) (L 3).length (c 3)) := (blk_cell BKgb.out 4).trans rfl; have fgb5 : w6.cell? ⟨gb, 5, none⟩ = some (.slice (A 4) (L 4).length (c 4)) := (blk_cell BKgb.out 5).trans rfl; have fgb6 : w6.cell? ⟨gb, 6, none⟩ = some (.slice (A 5) (L 5).length (c 5)) := (blk_cell BKgb.out 6).trans rfl; have fgb7 : w6.cell? ⟨gb, 7, none⟩ = some (.slice (A 6) (L 6).length (c 6)) := (blk_cell BKgb.out 7).trans rfl; have fgb8 : w6.cell? ⟨gb, 8, none⟩ = some (.slice (A 7) (L 7).length (c 7)) := (blk_cell BKgb.out 8).trans rfl; have fgbz0 := blk_frozen BKgb.out 0; have fgbz1 := blk_frozen BKgb.out 1; have fgbz2 := blk_frozen BKgb.out 2; have fgbz3 := blk_frozen BKgb.out 3; have fgbz4 := blk_frozen BKgb.out 4; have fgbz5 := blk_frozen BKgb.out 5; have fgbz6 := blk_frozen BKgb.out 6; have fgbz7 := blk_frozen BKgb.out 7; have fgbz8 := blk_frozen BKgb.out 8; clear hw))
  have Z6 : Aside0 (w4.heap.size ≤ w6.heap.size) := ⟨by have := HXg6.out; have := blk_lt BKg6.out; omega⟩
  refine (toBook_calls s A c L _ (HR.out.below HB.out) HM2.out).mono ?_
  rintro e w7 ⟨A2, c2, rfl, ho, hb⟩
  have HGB6 : Aside0 (gb < w6.heap.size) := ⟨blk_lt BKgb.out⟩
  have HG66 : Aside0 (g6 < w6.heap.size) := ⟨blk_lt BKg6.out⟩
  clear fgbs0 fgbz0 fgb1 fgbz1 fgb2 fgbz2 fgb3 fgbz3 fgb4 fgbz4 fgb5 fgbz5 fgb6 fgbz6 fgb7 fgbz7 fgb8 fgbz8
  have HBn := Aside0.mk (below_step HB.out hb)
  have H0n := Aside0.mk (BkO.below H0.out hb)
  have BKgbn := Aside0.mk (blk_below BKgb.out hb)
  have BKg6n := Aside0.mk (blk_below BKg6.out hb)
  clear HB H0 BKgb BKg6
  have HB := HBn
  have H0 := H0n
  have BKgb := BKgbn
  have BKg6 := BKg6n
  clear HBn H0n BKgbn BKg6n
  have Z7 : Aside0 (w6.heap.size ≤ w7.heap.size) := ⟨hb.size⟩
  have HX2 := Aside0.mk ho
  clear hb ho
  go_wp2_with (first | ((with_reducible refine gate_dst (N := 7) rfl ?_); refine box_event rfl (N := 7) rfl (cs := #[.int .i64 0, .slice none 0 0, .slice none 0 0, .slice none 0 0, .slice none 0 0, .slice none 0 0, .slice none 0 0, .slice none 0 0, .slice none 0 0]) (t := 27) (by first | (go_simp; done) | (go_simp; rfl)) ?_; intro gx hggx w8 hbox hb; have n0_ := Aside0.mk (below_step HB.out hb); have BKgx := Aside0.mk hbox; have HGgx := Aside0.mk (show w.heap.size ≤ gx by rw [hggx]; exact HB.out.size); clear HB; have HB := n0_; have HXgx : Aside0 (w7.heap.size ≤ gx) := ⟨by omega⟩; have NEgbgx := Aside0.mk (show gb ≠ gx by have := blk_lt BKgb.out; omega); have BKgbm := Aside0.mk (blk_below BKgb.out hb); have NEg6gx := Aside0.mk (show g6 ≠ gx by have := blk_lt BKg6.out; omega); have BKg6m := Aside0.mk (blk_below BKg6.out hb); have H0m := Aside0.mk (BkO.below H0.out hb); have HX2m := Aside0.mk (BkO.below HX2.out hb); clear BKgb BKg6 H0 HX2; clear n0_ hbox hb hggx) | ((with_reducible refine gate_store (t := 27) (p := 7) rfl ?_); refine store_event (t := 27) (p := 7) (v := ?vo_2) (w1 := w8.setRow gx (bkCells s A2 c2 L)) ?hg ?ho ?hn ?hr ?_; (case ho => rfl); (case hg => rfl); (case hn => rfl); (case hr => exact (Row.store_row_run (g := gx) (cells := bkCells s A2 c2 L) (t := 27) (old := #[.int .i64 0, .slice none 0 0, .slice none 0 0, .slice none 0 0, .slice none 0 0, .slice none 0 0, .slice none 0 0, .slice none 0 0, .slice none 0 0]) rfl (by rfl) (by rfl) BKgx.out (by kernel_rfl) rfl (by simp [Value.oneCell']))); intro w9 hw; have HBv := Aside0.mk (Row.row_below hw HB.out HGgx.out); have BKgxv := Aside0.mk (Row.row_here hw BKgx.out); have BKgb := Aside0.mk (Row.row_there hw BKgbm.out NEgbgx.out); have BKg6 := Aside0.mk (Row.row_there hw BKg6m.out NEg6gx.out); have H0 := Aside0.mk (show BkO w9 w3.heap.size w4.heap.size A0 c0 L0 by rw [hw]; exact VO.row H0m.out BKgx.out (by decide) _); have HX2 := Aside0.mk (show BkO w9 w6.heap.size w7.heap.size A2 c2 L by rw [hw]; exact VO.row HX2m.out BKgx.out (by decide) _); clear HB BKgx BKgbm BKg6m H0m HX2m; have HB := HBv; have BKgx := BKgxv; clear HBv BKgxv; have fgxs0 : w9.cell? ⟨gx, 0, none⟩ = some (.int .i64 _) := (blk_cell BKgx.out 0).trans rfl; have fgx1 : w9.cell? ⟨gx, 1, none⟩ = some (.slice (A2 0) (L 0).length (c2 0)) := (blk_cell BKgx.out 1).trans rfl; have fgx2 : w9.cell? ⟨gx, 2, none⟩ = some (.slice (A2 1) (L 1).length (c2 1)) := (blk_cell BKgx.out 2).trans rfl; have fgx3 : w9.cell? ⟨gx, 3, none⟩ = some (.slice (A2 2) (L 2).length (c2 2)) := (blk_cell BKgx.out 3).trans rfl; have fgx4 : w9.cell? ⟨gx, 4, none⟩ = some (.slice (A2 3) (L 3).length (c2 3)) := (blk_cell BKgx.out 4).trans rfl; have fgx5 : w9.cell? ⟨gx, 5, none⟩ = some (.slice (A2 4) (L 4).length (c2 4)) := (blk_cell BKgx.out 5).trans rfl; have fgx6 : w9.cell? ⟨gx, 6, none⟩ = some (.slice (A2 5) (L 5).length (c2 5)) := (blk_cell BKgx.out 6).trans rfl; have fgx7 : w9.cell? ⟨gx, 7, none⟩ = some (.slice (A2 6) (L 6).length (c2 6)) := (blk_cell BKgx.out 7).trans rfl; have fgx8 : w9.cell? ⟨gx, 8, none⟩ = some (.slice (A2 7) (L 7).length (c2 7)) := (blk_cell BKgx.out 8).trans rfl; have fgxz0 := blk_frozen BKgx.out 0; have fgxz1 := blk_frozen BKgx.out 1; have fgxz2 := blk_frozen BKgx.out 2; have fgxz3 := blk_frozen BKgx.out 3; have fgxz4 := blk_frozen BKgx.out 4; have fgxz5 := blk_frozen BKgx.out 5; have fgxz6 := blk_frozen BKgx.out 6; have fgxz7 := blk_frozen BKgx.out 7; have fgxz8 := blk_frozen BKgx.out 8; clear hw))
  have Z9 : Aside0 (w7.heap.size ≤ w9.heap.size) := ⟨by have := HXgx.out; have := blk_lt BKgx.out; omega⟩
  refine (implCut_calls s A2 c2 L x _ HX2.out.c HM.out HW.out HX.out).mono ?_
  rintro e w10 ⟨s1, L1, A3, c3, rfl, hp1, ho1, hb⟩
  obtain ⟨es, eL⟩ := HP0.out.one hp1
  subst es eL
  have HGB9 : Aside0 (gb < w9.heap.size) := ⟨blk_lt BKgb.out⟩
  have HG69 : Aside0 (g6 < w9.heap.size) := ⟨blk_lt BKg6.out⟩
  clear fgxs0 fgxz0 fgx1 fgxz1 fgx2 fgxz2 fgx3 fgxz3 fgx4 fgxz4 fgx5 fgxz5 fgx6 fgxz6 fgx7 fgxz7 fgx8 fgxz8
  have HBn := Aside0.mk (below_step HB.out hb)
  have H0n := Aside0.mk (BkO.below H0.out hb)
  have HX2n := Aside0.mk (BkO.below HX2.out hb)
  have BKgbn := Aside0.mk (blk_below BKgb.out hb)
  have BKg6n := Aside0.mk (blk_below BKg6.out hb)
  have BKgxn := Aside0.mk (blk_below BKgx.out hb)
  clear HB H0 HX2 BKgb BKg6 BKgx
  have HB := HBn
  have H0 := H0n
  have HX2 := HX2n
  have BKgb := BKgbn
  have BKg6 := BKg6n
  have BKgx := BKgxn
  clear HBn H0n HX2n BKgbn BKg6n BKgxn
  have Z10 : Aside0 (w9.heap.size ≤ w10.heap.size) := ⟨hb.size⟩
  have H1 := Aside0.mk ho1
  clear hb ho1 hp1
  go_wp2_with (first | ((with_reducible refine gate_dst (N := 8) rfl ?_); refine box_event rfl (N := 8) rfl (cs := #[.int .i64 0, .slice none 0 0, .slice none 0 0, .slice none 0 0, .slice none 0 0, .slice none 0 0, .slice none 0 0, .slice none 0 0, .slice none 0 0]) (t := 27) (by first | (go_simp; done) | (go_simp; rfl)) ?_; intro g8 hgg8 w11 hbox hb; have n0_ := Aside0.mk (below_step HB.out hb); have BKg8 := Aside0.mk hbox; have HGg8 := Aside0.mk (show w.heap.size ≤ g8 by rw [hgg8]; exact HB.out.size); clear HB; have HB := n0_; have HXg8 : Aside0 (w10.heap.size ≤ g8) := ⟨by omega⟩; have NEgbg8 := Aside0.mk (show gb ≠ g8 by have := blk_lt BKgb.out; omega); have BKgbm := Aside0.mk (blk_below BKgb.out hb); have NEg6g8 := Aside0.mk (show g6 ≠ g8 by have := blk_lt BKg6.out; omega); have BKg6m := Aside0.mk (blk_below BKg6.out hb); have NEgxg8 := Aside0.mk (show gx ≠ g8 by have := blk_lt BKgx.out; omega); have BKgxm := Aside0.mk (blk_below BKgx.out hb); have H0m := Aside0.mk (BkO.below H0.out hb); have HX2m := Aside0.mk (BkO.below HX2.out hb); have H1m := Aside0.mk (BkO.below H1.out hb); clear BKgb BKg6 BKgx H0 HX2 H1; clear n0_ hbox hb hgg8) | ((with_reducible refine gate_store (t := 27) (p := 8) rfl ?_); refine store_event (t := 27) (p := 8) (v := ?vo_3) (w1 := w11.setRow g8 (bkCells s0 A3 c3 L0)) ?hg ?ho ?hn ?hr ?_; (case ho => rfl); (case hg => rfl); (case hn => rfl); (case hr => exact (Row.store_row_run (g := g8) (cells := bkCells s0 A3 c3 L0) (t := 27) (old := #[.int .i64 0, .slice none 0 0, .slice none 0 0, .slice none 0 0, .slice none 0 0, .slice none 0 0, .slice none 0 0, .slice none 0 0, .slice none 0 0]) rfl (by rfl) (by rfl) BKg8.out (by kernel_rfl) rfl (by simp [Value.oneCell']))); intro w12 hw; have HBv := Aside0.mk (Row.row_below hw HB.out HGg8.out); have BKg8v := Aside0.mk (Row.row_here hw BKg8.out); have BKgb := Aside0.mk (Row.row_there hw BKgbm.out NEgbg8.out); have BKg6 := Aside0.mk (Row.row_there hw BKg6m.out NEg6g8.out); have BKgx := Aside0.mk (Row.row_there hw BKgxm.out NEgxg8.out); have H0 := Aside0.mk (show BkO w12 w3.heap.size w4.heap.size A0 c0 L0 by rw [hw]; exact VO.row H0m.out BKg8.out (by decide) _); have HX2 := Aside0.mk (show BkO w12 w6.heap.size w7.heap.size A2 c2 L by rw [hw]; exact VO.row HX2m.out BKg8.out (by decide) _); have H1 := Aside0.mk (show BkO w12 w9.heap.size w10.heap.size A3 c3 L0 by rw [hw]; exact VO.row H1m.out BKg8.out (by decide) _); clear HB BKg8 BKgbm BKg6m BKgxm H0m HX2m H1m; have HB := HBv; have BKg8 := BKg8v; clear HBv BKg8v; have fg8s0 : w12.cell? ⟨g8, 0, none⟩ = some (.int .i64 _) := (blk_cell BKg8.out 0).trans rfl; have fg81 : w12.cell? ⟨g8, 1, none⟩ = some (.slice (A3 0) (L0 0).length (c3 0)) := (blk_cell BKg8.out 1).trans rfl; have fg82 : w12.cell? ⟨g8, 2, none⟩ = some (.slice (A3 1) (L0 1).length (c3 1)) := (blk_cell BKg8.out 2).trans rfl; have fg83 : w12.cell? ⟨g8, 3, none⟩ = some (.slice (A3 2) (L0 2).length (c3 2)) := (blk_cell BKg8.out 3).trans rfl; have fg84 : w12.cell? ⟨g8, 4, none⟩ = some (.slice (A3 3) (L0 3).length (c3 3)) := (blk_cell BKg8.out 4).trans rfl; have fg85 : w12.cell? ⟨g8, 5, none⟩ = some (.slice (A3 4) (L0 4).length (c3 4)) := (blk_cell BKg8.out 5).trans rfl; have fg86 : w12.cell? ⟨g8, 6, none⟩ = some (.slice (A3 5) (L0 5).length (c3 5)) := (blk_cell BKg8.out 6).trans rfl; have fg87 : w12.cell? ⟨g8, 7, none⟩ = some (.slice (A3 6) (L0 6).length (c3 6)) := (blk_cell BKg8.out 7).trans rfl; have fg88 : w12.cell? ⟨g8, 8, none⟩ = some (.slice (A3 7) (L0 7).length (c3 7)) := (blk_cell BKg8.out 8).trans rfl; have fg8z0 := blk_frozen BKg8.out 0; have fg8z1 := blk_frozen BKg8.out 1; have fg8z2 := blk_frozen BKg8.out 2; have fg8z3 := blk_frozen BKg8.out 3; have fg8z4 := blk_frozen BKg8.out 4; have fg8z5 := blk_frozen BKg8.out 5; have fg8z6 := blk_frozen BKg8.out 6; have fg8z7 := blk_frozen BKg8.out 7; have fg8z8 := blk_frozen BKg8.out 8; have fg6s0 : w12.cell? ⟨g6, 0, none⟩ = some (.int .i64 _) := (blk_cell BKg6.out 0).trans rfl; have fg61 : w12.cell? ⟨g6, 1, none⟩ = some (.slice (A0 0) (L0 0).length (c0 0)) := (blk_cell BKg6.out 1).trans rfl; have fg62 : w12.cell? ⟨g6, 2, none⟩ = some (.slice (A0 1) (L0 1).length (c0 1)) := (blk_cell BKg6.out 2).trans rfl; have fg63 : w12.cell? ⟨g6, 3, none⟩ = some (.slice (A0 2) (L0 2).length (c0 2)) := (blk_cell BKg6.out 3).trans rfl; have fg64 : w12.cell? ⟨g6, 4, none⟩ = some (.slice (A0 3) (L0 3).length (c0 3)) := (blk_cell BKg6.out 4).trans rfl; have fg65 : w12.cell? ⟨g6, 5, none⟩ = some (.slice (A0 4) (L0 4).length (c0 4)) := (blk_cell BKg6.out 5).trans rfl; have fg66 : w12.cell? ⟨g6, 6, none⟩ = some (.slice (A0 5) (L0 5).length (c0 5)) := (blk_cell BKg6.out 6).trans rfl; have fg67 : w12.cell? ⟨g6, 7, none⟩ = some (.slice (A0 6) (L0 6).length (c0 6)) := (blk_cell BKg6.out 7).trans rfl; have fg68 : w12.cell? ⟨g6, 8, none⟩ = some (.slice (A0 7) (L0 7).length (c0 7)) := (blk_cell BKg6.out 8).trans rfl; have fg6z0 := blk_frozen BKg6.out 0; have fg6z1 := blk_frozen BKg6.out 1; have fg6z2 := blk_frozen BKg6.out 2; have fg6z3 := blk_frozen BKg6.out 3; have fg6z4 := blk_frozen BKg6.out 4; have fg6z5 := blk_frozen BKg6.out 5; have fg6z6 := blk_frozen BKg6.out 6; have fg6z7 := blk_frozen BKg6.out 7; have fg6z8 := blk_frozen BKg6.out 8; clear hw))
  have Z12 : Aside0 (w10.heap.size ≤ w12.heap.size) := ⟨by have := HXg8.out; have := blk_lt BKg8.out; omega⟩
  refine (eqBook_same s0 A3 c3 A0 c0 L0 _ H1.out.c H0.out.c HL0.out).mono ?_
  rintro e w13 ⟨rfl, hb⟩
  clear fg8s0 fg8z0 fg81 fg8z1 fg82 fg8z2 fg83 fg8z3 fg84 fg8z4 fg85 fg8z5 fg86 fg8z6 fg87 fg8z7 fg88 fg8z8
  clear fg6s0 fg6z0 fg61 fg6z1 fg62 fg6z2 fg63 fg6z3 fg64 fg6z4 fg65 fg6z5 fg66 fg6z6 fg67 fg6z7 fg68 fg6z8
  have HBn := Aside0.mk (below_step HB.out hb)
  have H0n := Aside0.mk (BkO.below H0.out hb)
  have HX2n := Aside0.mk (BkO.below HX2.out hb)
  have H1n := Aside0.mk (BkO.below H1.out hb)
  have BKgbn := Aside0.mk (blk_below BKgb.out hb)
  have BKg6n := Aside0.mk (blk_below BKg6.out hb)
  have BKgxn := Aside0.mk (blk_below BKgx.out hb)
  have BKg8n := Aside0.mk (blk_below BKg8.out hb)
  clear HB H0 HX2 H1 BKgb BKg6 BKgx BKg8
  have HB := HBn
  have H0 := H0n
  have HX2 := HX2n
  have H1 := H1n
  have BKgb := BKgbn
  have BKg6 := BKg6n
  have BKgx := BKgxn
  have BKg8 := BKg8n
  clear HBn H0n HX2n H1n BKgbn BKg6n BKgxn BKg8n
  have Z13 : Aside0 (w12.heap.size ≤ w13.heap.size) := ⟨hb.size⟩
  clear hb
  have fgbs0 : w13.cell? ⟨gb, 0, none⟩ = some (.int .i64 _) := (blk_cell BKgb.out 0).trans rfl; have fgb1 : w13.cell? ⟨gb, 1, none⟩ = some (.slice (A 0) (L 0).length (c 0)) := (blk_cell BKgb.out 1).trans rfl; have fgb2 : w13.cell? ⟨gb, 2, none⟩ = some (.slice (A 1) (L 1).length (c 1)) := (blk_cell BKgb.out 2).trans rfl; have fgb3 : w13.cell? ⟨gb, 3, none⟩ = some (.slice (A 2) (L 2).length (c 2)) := (blk_cell BKgb.out 3).trans rfl; have fgb4 : w13.cell? ⟨gb, 4, none⟩ = some (.slice (A 3) (L 3).length (c 3)) := (blk_cell BKgb.out 4).trans rfl; have fgb5 : w13.cell? ⟨gb, 5, none⟩ = some (.slice (A 4) (L 4).length (c 4)) := (blk_cell BKgb.out 5).trans rfl; have fgb6 : w13.cell? ⟨gb, 6, none⟩ = some (.slice (A 5) (L 5).length (c 5)) := (blk_cell BKgb.out 6).trans rfl; have fgb7 : w13.cell? ⟨gb, 7, none⟩ = some (.slice (A 6) (L 6).length (c 6)) := (blk_cell BKgb.out 7).trans rfl; have fgb8 : w13.cell? ⟨gb, 8, none⟩ = some (.slice (A 7) (L 7).length (c 7)) := (blk_cell BKgb.out 8).trans rfl; have fgbz0 := blk_frozen BKgb.out 0; have fgbz1 := blk_frozen BKgb.out 1; have fgbz2 := blk_frozen BKgb.out 2; have fgbz3 := blk_frozen BKgb.out 3; have fgbz4 := blk_frozen BKgb.out 4; have fgbz5 := blk_frozen BKgb.out 5; have fgbz6 := blk_frozen BKgb.out 6; have fgbz7 := blk_frozen BKgb.out 7; have fgbz8 := blk_frozen BKgb.out 8
  have fgxs0 : w13.cell? ⟨gx, 0, none⟩ = some (.int .i64 _) := (blk_cell BKgx.out 0).trans rfl; have fgx1 : w13.cell? ⟨gx, 1, none⟩ = some (.slice (A2 0) (L 0).length (c2 0)) := (blk_cell BKgx.out 1).trans rfl; have fgx2 : w13.cell? ⟨gx, 2, none⟩ = some (.slice (A2 1) (L 1).length (c2 1)) := (blk_cell BKgx.out 2).trans rfl; have fgx3 : w13.cell? ⟨gx, 3, none⟩ = some (.slice (A2 2) (L 2).length (c2 2)) := (blk_cell BKgx.out 3).trans rfl; have fgx4 : w13.cell? ⟨gx, 4, none⟩ = some (.slice (A2 3) (L 3).length (c2 3)) := (blk_cell BKgx.out 4).trans rfl; have fgx5 : w13.cell? ⟨gx, 5, none⟩ = some (.slice (A2 4) (L 4).length (c2 4)) := (blk_cell BKgx.out 5).trans rfl; have fgx6 : w13.cell? ⟨gx, 6, none⟩ = some (.slice (A2 5) (L 5).length (c2 5)) := (blk_cell BKgx.out 6).trans rfl; have fgx7 : w13.cell? ⟨gx, 7, none⟩ = some (.slice (A2 6) (L 6).length (c2 6)) := (blk_cell BKgx.out 7).trans rfl; have fgx8 : w13.cell? ⟨gx, 8, none⟩ = some (.slice (A2 7) (L 7).length (c2 7)) := (blk_cell BKgx.out 8).trans rfl; have fgxz0 := blk_frozen BKgx.out 0; have fgxz1 := blk_frozen BKgx.out 1; have fgxz2 := blk_frozen BKgx.out 2; have fgxz3 := blk_frozen BKgx.out 3; have fgxz4 := blk_frozen BKgx.out 4; have fgxz5 := blk_frozen BKgx.out 5; have fgxz6 := blk_frozen BKgx.out 6; have fgxz7 := blk_frozen BKgx.out 7; have fgxz8 := blk_frozen BKgx.out 8
  have HRb := Aside0.mk (HR.out.below HB.out)
  go_wp2_with fail
  go_region_held3 (fun w' => w'.cell? ⟨gx, 0, none⟩ = some (.int .i64 s) ∧ w'.cell? ⟨gx, 1, none⟩ = some (.slice (A2 0) (L 0).length (c2 0)) ∧ w'.cell? ⟨gx, 2, none⟩ = some (.slice (A2 1) (L 1).length (c2 1)) ∧ w'.cell? ⟨gx, 3, none⟩ = some (.slice (A2 2) (L 2).length (c2 2)) ∧ w'.cell? ⟨gx, 4, none⟩ = some (.slice (A2 3) (L 3).length (c2 3)) ∧ w'.cell? ⟨gx, 5, none⟩ = some (.slice (A2 4) (L 4).length (c2 4)) ∧ w'.cell? ⟨gx, 6, none⟩ = some (.slice (A2 5) (L 5).length (c2 5)) ∧ w'.cell? ⟨gx, 7, none⟩ = some (.slice (A2 6) (L 6).length (c2 6)) ∧ w'.cell? ⟨gx, 8, none⟩ = some (.slice (A2 7) (L 7).length (c2 7)) ∧ w'.cell? ⟨gb, 0, none⟩ = some (.int .i64 s) ∧ w'.cell? ⟨gb, 1, none⟩ = some (.slice (A 0) (L 0).length (c 0)) ∧ w'.cell? ⟨gb, 2, none⟩ = some (.slice (A 1) (L 1).length (c 1)) ∧ w'.cell? ⟨gb, 3, none⟩ = some (.slice (A 2) (L 2).length (c 2)) ∧ w'.cell? ⟨gb, 4, none⟩ = some (.slice (A 3) (L 3).length (c 3)) ∧ w'.cell? ⟨gb, 5, none⟩ = some (.slice (A 4) (L 4).length (c 4)) ∧ w'.cell? ⟨gb, 6, none⟩ = some (.slice (A 5) (L 5).length (c 5)) ∧ w'.cell? ⟨gb, 7, none⟩ = some (.slice (A 6) (L 6).length (c 6)) ∧ w'.cell? ⟨gb, 8, none⟩ = some (.slice (A 7) (L 7).length (c 7)))
    (first
      | go_keep
      | (refine ⟨?_, ?_, ?_, ?_, ?_, ?_, ?_, ?_, ?_, ?_, ?_, ?_, ?_, ?_, ?_, ?_, ?_, ?_⟩ <;> (rw [hb14.cell (by simp only [World.drew]; first | exact blk_lt BKgb.out | exact blk_lt BKgx.out)]; assumption))
      | (refine ⟨?_, ?_, ?_, ?_, ?_, ?_, ?_, ?_, ?_, ?_, ?_, ?_, ?_, ?_, ?_, ?_, ?_, ?_⟩ <;> (rw [hb15.cell (by first | exact Nat.lt_of_lt_of_le (blk_lt BKgb.out) hb14.size | exact Nat.lt_of_lt_of_le (blk_lt BKgx.out) hb14.size), hb14.cell (by simp only [World.drew]; first | exact blk_lt BKgb.out | exact blk_lt BKgx.out)]; assumption)))
    (first
      | (go_at_call 19; refine (toBook_calls s A c L _ (HRb.out.below (below_drew (Below.refl _ _))) HM2.out).mono ?_; rintro e w14 ⟨A4, c4, rfl, ho14, hb14⟩)
      | (go_at_call 14; refine (eqBook_same s A2 c2 A4 c4 L _ (BkC.below (show BkC w13.drew A2 c2 L from HX2.out.c) hb14) ho14.c HL.out).mono ?_; rintro e w15 ⟨rfl, hb15⟩))
  have hbd : Below w13.heap.size w13 w15 := below_step (below_step (below_drew (Below.refl _ _)) hb14) hb15
  clear hb14 hb15 ho14 HRb
  clear fgbs0 fgbz0 fgb1 fgbz1 fgb2 fgbz2 fgb3 fgbz3 fgb4 fgbz4 fgb5 fgbz5 fgb6 fgbz6 fgb7 fgbz7 fgb8 fgbz8
  clear fgxs0 fgxz0 fgx1 fgxz1 fgx2 fgxz2 fgx3 fgxz3 fgx4 fgxz4 fgx5 fgxz5 fgx6 fgxz6 fgx7 fgxz7 fgx8 fgxz8
  have HBn := Aside0.mk (below_step HB.out hbd)
  have H0n := Aside0.mk (BkO.below H0.out hbd)
  have HX2n := Aside0.mk (BkO.below HX2.out hbd)
  have H1n := Aside0.mk (BkO.below H1.out hbd)
  have BKgbn := Aside0.mk (blk_below BKgb.out hbd)
  have BKg6n := Aside0.mk (blk_below BKg6.out hbd)
  have BKgxn := Aside0.mk (blk_below BKgx.out hbd)
  have BKg8n := Aside0.mk (blk_below BKg8.out hbd)
  clear HB H0 HX2 H1 BKgb BKg6 BKgx BKg8
  have HB := HBn
  have H0 := H0n
  have HX2 := HX2n
  have H1 := H1n
  have BKgb := BKgbn
  have BKg6 := BKg6n
  have BKgx := BKgxn
  have BKg8 := BKg8n
  clear HBn H0n HX2n H1n BKgbn BKg6n BKgxn BKg8n
  have Z15 : Aside0 (w13.heap.size ≤ w15.heap.size) := ⟨hbd.size⟩
  clear hbd
  have fgxs0 : w15.cell? ⟨gx, 0, none⟩ = some (.int .i64 _) := (blk_cell BKgx.out 0).trans rfl; have fgx1 : w15.cell? ⟨gx, 1, none⟩ = some (.slice (A2 0) (L 0).length (c2 0)) := (blk_cell BKgx.out 1).trans rfl; have fgx2 : w15.cell? ⟨gx, 2, none⟩ = some (.slice (A2 1) (L 1).length (c2 1)) := (blk_cell BKgx.out 2).trans rfl; have fgx3 : w15.cell? ⟨gx, 3, none⟩ = some (.slice (A2 2) (L 2).length (c2 2)) := (blk_cell BKgx.out 3).trans rfl; have fgx4 : w15.cell? ⟨gx, 4, none⟩ = some (.slice (A2 3) (L 3).length (c2 3)) := (blk_cell BKgx.out 4).trans rfl; have fgx5 : w15.cell? ⟨gx, 5, none⟩ = some (.slice (A2 4) (L 4).length (c2 4)) := (blk_cell BKgx.out 5).trans rfl; have fgx6 : w15.cell? ⟨gx, 6, none⟩ = some (.slice (A2 5) (L 5).length (c2 5)) := (blk_cell BKgx.out 6).trans rfl; have fgx7 : w15.cell? ⟨gx, 7, none⟩ = some (.slice (A2 6) (L 6).length (c2 6)) := (blk_cell BKgx.out 7).trans rfl; have fgx8 : w15.cell? ⟨gx, 8, none⟩ = some (.slice (A2 7) (L 7).length (c2 7)) := (blk_cell BKgx.out 8).trans rfl; have fgxz0 := blk_frozen BKgx.out 0; have fgxz1 := blk_frozen BKgx.out 1; have fgxz2 := blk_frozen BKgx.out 2; have fgxz3 := blk_frozen BKgx.out 3; have fgxz4 := blk_frozen BKgx.out 4; have fgxz5 := blk_frozen BKgx.out 5; have fgxz6 := blk_frozen BKgx.out 6; have fgxz7 := blk_frozen BKgx.out 7; have fgxz8 := blk_frozen BKgx.out 8
  go_wp2_with fail
  refine (markBook_calls s A2 c2 L 1 w6.heap.size w7.heap.size _ HX2.out (by have := Z3.out; have := Z4.out; have := Z6.out; have := Z7.out; have := Z9.out; have := Z10.out; have := Z12.out; have := Z13.out; have := Z15.out; omega) (by omega) (by have := off8_le HM.out; omega)).mono ?_
  rintro e w16 ⟨L2, rfl, hlL, hmk, hbo, hkp⟩
  have hk1 : (0 : Int) ≤ 1 + ((off L 8 : Nat) : Int) := by omega
  clear fgxs0 fgxz0 fgx1 fgxz1 fgx2 fgxz2 fgx3 fgxz3 fgx4 fgxz4 fgx5 fgxz5 fgx6 fgxz6 fgx7 fgxz7 fgx8 fgxz8
  have HBn := Aside0.mk (Keep.below HB.out hkp (by have := Z3.out; have := Z4.out; have := Z6.out; have := Z7.out; have := Z9.out; have := Z10.out; have := Z12.out; have := Z13.out; have := Z15.out; omega))
  have H0n := Aside0.mk (H0.out.kept2 hkp (Or.inl (by have := Z3.out; have := Z4.out; have := Z6.out; have := Z7.out; have := Z9.out; have := Z10.out; have := Z12.out; have := Z13.out; have := Z15.out; omega)))
  have H1n := Aside0.mk (H1.out.kept2 hkp (Or.inr (by have := Z3.out; have := Z4.out; have := Z6.out; have := Z7.out; have := Z9.out; have := Z10.out; have := Z12.out; have := Z13.out; have := Z15.out; omega)))
  have BKgbn := Aside0.mk (hkp.blk BKgb.out (by have := HGB6.out; have := Z3.out; have := Z4.out; have := Z6.out; have := Z7.out; have := Z9.out; have := Z10.out; have := Z12.out; have := Z13.out; have := Z15.out; omega))
  have BKg6n := Aside0.mk (hkp.blk BKg6.out (by have := HG66.out; have := Z3.out; have := Z4.out; have := Z6.out; have := Z7.out; have := Z9.out; have := Z10.out; have := Z12.out; have := Z13.out; have := Z15.out; omega))
  have BKg8n := Aside0.mk (hkp.blk BKg8.out (by have := HXg8.out; have := Z3.out; have := Z4.out; have := Z6.out; have := Z7.out; have := Z9.out; have := Z10.out; have := Z12.out; have := Z13.out; have := Z15.out; omega))
  have Z16 : Aside0 (w15.heap.size ≤ w16.heap.size) := ⟨hkp.size⟩
  clear HB H0 H1 BKgb BKg6 BKg8 BKgx HX2 hlL hmk hbo hkp
  have HB := HBn
  have H0 := H0n
  have H1 := H1n
  have BKgb := BKgbn
  have BKg6 := BKg6n
  have BKg8 := BKg8n
  clear HBn H0n H1n BKgbn BKg6n BKg8n
  have fg8s0 : w16.cell? ⟨g8, 0, none⟩ = some (.int .i64 _) := (blk_cell BKg8.out 0).trans rfl; have fg81 : w16.cell? ⟨g8, 1, none⟩ = some (.slice (A3 0) (L0 0).length (c3 0)) := (blk_cell BKg8.out 1).trans rfl; have fg82 : w16.cell? ⟨g8, 2, none⟩ = some (.slice (A3 1) (L0 1).length (c3 1)) := (blk_cell BKg8.out 2).trans rfl; have fg83 : w16.cell? ⟨g8, 3, none⟩ = some (.slice (A3 2) (L0 2).length (c3 2)) := (blk_cell BKg8.out 3).trans rfl; have fg84 : w16.cell? ⟨g8, 4, none⟩ = some (.slice (A3 3) (L0 3).length (c3 3)) := (blk_cell BKg8.out 4).trans rfl; have fg85 : w16.cell? ⟨g8, 5, none⟩ = some (.slice (A3 4) (L0 4).length (c3 4)) := (blk_cell BKg8.out 5).trans rfl; have fg86 : w16.cell? ⟨g8, 6, none⟩ = some (.slice (A3 5) (L0 5).length (c3 5)) := (blk_cell BKg8.out 6).trans rfl; have fg87 : w16.cell? ⟨g8, 7, none⟩ = some (.slice (A3 6) (L0 6).length (c3 6)) := (blk_cell BKg8.out 7).trans rfl; have fg88 : w16.cell? ⟨g8, 8, none⟩ = some (.slice (A3 7) (L0 7).length (c3 7)) := (blk_cell BKg8.out 8).trans rfl; have fg8z0 := blk_frozen BKg8.out 0; have fg8z1 := blk_frozen BKg8.out 1; have fg8z2 := blk_frozen BKg8.out 2; have fg8z3 := blk_frozen BKg8.out 3; have fg8z4 := blk_frozen BKg8.out 4; have fg8z5 := blk_frozen BKg8.out 5; have fg8z6 := blk_frozen BKg8.out 6; have fg8z7 := blk_frozen BKg8.out 7; have fg8z8 := blk_frozen BKg8.out 8
  have fg6s0 : w16.cell? ⟨g6, 0, none⟩ = some (.int .i64 _) := (blk_cell BKg6.out 0).trans rfl; have fg61 : w16.cell? ⟨g6, 1, none⟩ = some (.slice (A0 0) (L0 0).length (c0 0)) := (blk_cell BKg6.out 1).trans rfl; have fg62 : w16.cell? ⟨g6, 2, none⟩ = some (.slice (A0 1) (L0 1).length (c0 1)) := (blk_cell BKg6.out 2).trans rfl; have fg63 : w16.cell? ⟨g6, 3, none⟩ = some (.slice (A0 2) (L0 2).length (c0 2)) := (blk_cell BKg6.out 3).trans rfl; have fg64 : w16.cell? ⟨g6, 4, none⟩ = some (.slice (A0 3) (L0 3).length (c0 3)) := (blk_cell BKg6.out 4).trans rfl; have fg65 : w16.cell? ⟨g6, 5, none⟩ = some (.slice (A0 4) (L0 4).length (c0 4)) := (blk_cell BKg6.out 5).trans rfl; have fg66 : w16.cell? ⟨g6, 6, none⟩ = some (.slice (A0 5) (L0 5).length (c0 5)) := (blk_cell BKg6.out 6).trans rfl; have fg67 : w16.cell? ⟨g6, 7, none⟩ = some (.slice (A0 6) (L0 6).length (c0 6)) := (blk_cell BKg6.out 7).trans rfl; have fg68 : w16.cell? ⟨g6, 8, none⟩ = some (.slice (A0 7) (L0 7).length (c0 7)) := (blk_cell BKg6.out 8).trans rfl; have fg6z0 := blk_frozen BKg6.out 0; have fg6z1 := blk_frozen BKg6.out 1; have fg6z2 := blk_frozen BKg6.out 2; have fg6z3 := blk_frozen BKg6.out 3; have fg6z4 := blk_frozen BKg6.out 4; have fg6z5 := blk_frozen BKg6.out 5; have fg6z6 := blk_frozen BKg6.out 6; have fg6z7 := blk_frozen BKg6.out 7; have fg6z8 := blk_frozen BKg6.out 8
  go_wp2_with fail
  refine (eqBook_same s0 A3 c3 A0 c0 L0 _ H1.out.c H0.out.c HL0.out).mono ?_
  rintro e w17 ⟨rfl, hb⟩
  clear fg8s0 fg8z0 fg81 fg8z1 fg82 fg8z2 fg83 fg8z3 fg84 fg8z4 fg85 fg8z5 fg86 fg8z6 fg87 fg8z7 fg88 fg8z8
  clear fg6s0 fg6z0 fg61 fg6z1 fg62 fg6z2 fg63 fg6z3 fg64 fg6z4 fg65 fg6z5 fg66 fg6z6 fg67 fg6z7 fg68 fg6z8
  have HBn := Aside0.mk (below_step HB.out hb)
  have H0n := Aside0.mk (BkO.below H0.out hb)
  have H1n := Aside0.mk (BkO.below H1.out hb)
  have BKgbn := Aside0.mk (blk_below BKgb.out hb)
  have BKg6n := Aside0.mk (blk_below BKg6.out hb)
  have BKg8n := Aside0.mk (blk_below BKg8.out hb)
  clear HB H0 H1 BKgb BKg6 BKg8
  have HB := HBn
  have H0 := H0n
  have H1 := H1n
  have BKgb := BKgbn
  have BKg6 := BKg6n
  have BKg8 := BKg8n
  clear HBn H0n H1n BKgbn BKg6n BKg8n
  have Z17 : Aside0 (w16.heap.size ≤ w17.heap.size) := ⟨hb.size⟩
  clear hb
  have fg8s0 : w17.cell? ⟨g8, 0, none⟩ = some (.int .i64 _) := (blk_cell BKg8.out 0).trans rfl; have fg81 : w17.cell? ⟨g8, 1, none⟩ = some (.slice (A3 0) (L0 0).length (c3 0)) := (blk_cell BKg8.out 1).trans rfl; have fg82 : w17.cell? ⟨g8, 2, none⟩ = some (.slice (A3 1) (L0 1).length (c3 1)) := (blk_cell BKg8.out 2).trans rfl; have fg83 : w17.cell? ⟨g8, 3, none⟩ = some (.slice (A3 2) (L0 2).length (c3 2)) := (blk_cell BKg8.out 3).trans rfl; have fg84 : w17.cell? ⟨g8, 4, none⟩ = some (.slice (A3 3) (L0 3).length (c3 3)) := (blk_cell BKg8.out 4).trans rfl; have fg85 : w17.cell? ⟨g8, 5, none⟩ = some (.slice (A3 4) (L0 4).length (c3 4)) := (blk_cell BKg8.out 5).trans rfl; have fg86 : w17.cell? ⟨g8, 6, none⟩ = some (.slice (A3 5) (L0 5).length (c3 5)) := (blk_cell BKg8.out 6).trans rfl; have fg87 : w17.cell? ⟨g8, 7, none⟩ = some (.slice (A3 6) (L0 6).length (c3 6)) := (blk_cell BKg8.out 7).trans rfl; have fg88 : w17.cell? ⟨g8, 8, none⟩ = some (.slice (A3 7) (L0 7).length (c3 7)) := (blk_cell BKg8.out 8).trans rfl; have fg8z0 := blk_frozen BKg8.out 0; have fg8z1 := blk_frozen BKg8.out 1; have fg8z2 := blk_frozen BKg8.out 2; have fg8z3 := blk_frozen BKg8.out 3; have fg8z4 := blk_frozen BKg8.out 4; have fg8z5 := blk_frozen BKg8.out 5; have fg8z6 := blk_frozen BKg8.out 6; have fg8z7 := blk_frozen BKg8.out 7; have fg8z8 := blk_frozen BKg8.out 8
  go_wp2_with fail
  refine (markBook_calls s0 A3 c3 L0 1 w9.heap.size w10.heap.size _ H1.out (by have := Z3.out; have := Z4.out; have := Z6.out; have := Z7.out; have := Z9.out; have := Z10.out; have := Z12.out; have := Z13.out; have := Z15.out; have := Z16.out; have := Z17.out; omega) (by omega) (by have := off8_le HM0.out; omega)).mono ?_
  rintro e w18 ⟨L', rfl, hlL, hmk, hbo, hkp⟩
  have hk2 : (0 : Int) ≤ 1 + ((off L0 8 : Nat) : Int) := by omega
  clear fg8s0 fg8z0 fg81 fg8z1 fg82 fg8z2 fg83 fg8z3 fg84 fg8z4 fg85 fg8z5 fg86 fg8z6 fg87 fg8z7 fg88 fg8z8
  have HBn := Aside0.mk (Keep.below HB.out hkp (by have := Z3.out; have := Z4.out; have := Z6.out; have := Z7.out; have := Z9.out; have := Z10.out; have := Z12.out; have := Z13.out; have := Z15.out; have := Z16.out; have := Z17.out; omega))
  have H0n := Aside0.mk (H0.out.kept2 hkp (Or.inl (by have := Z3.out; have := Z4.out; have := Z6.out; have := Z7.out; have := Z9.out; have := Z10.out; have := Z12.out; have := Z13.out; have := Z15.out; have := Z16.out; have := Z17.out; omega)))
  have BKgbn := Aside0.mk (hkp.blk BKgb.out (by have := HGB9.out; have := Z3.out; have := Z4.out; have := Z6.out; have := Z7.out; have := Z9.out; have := Z10.out; have := Z12.out; have := Z13.out; have := Z15.out; have := Z16.out; have := Z17.out; omega))
  have BKg6n := Aside0.mk (hkp.blk BKg6.out (by have := HG69.out; have := Z3.out; have := Z4.out; have := Z6.out; have := Z7.out; have := Z9.out; have := Z10.out; have := Z12.out; have := Z13.out; have := Z15.out; have := Z16.out; have := Z17.out; omega))
  have BKg8n := Aside0.mk (hkp.blk BKg8.out (by have := HXg8.out; have := Z3.out; have := Z4.out; have := Z6.out; have := Z7.out; have := Z9.out; have := Z10.out; have := Z12.out; have := Z13.out; have := Z15.out; have := Z16.out; have := Z17.out; omega))
  have Z18 : Aside0 (w17.heap.size ≤ w18.heap.size) := ⟨hkp.size⟩
  have H1n := Aside0.mk hbo
  have HLL := Aside0.mk hlL
  have HMK := Aside0.mk hmk
  clear HB H0 H1 BKgb BKg6 BKg8 hlL hmk hbo hkp
  have HB := HBn
  have H0 := H0n
  have H1 := H1n
  have BKgb := BKgbn
  have BKg6 := BKg6n
  have BKg8 := BKg8n
  clear HBn H0n H1n BKgbn BKg6n BKg8n
  have fg8s0 : w18.cell? ⟨g8, 0, none⟩ = some (.int .i64 _) := (blk_cell BKg8.out 0).trans rfl; have fg81 : w18.cell? ⟨g8, 1, none⟩ = some (.slice (A3 0) (L0 0).length (c3 0)) := (blk_cell BKg8.out 1).trans rfl; have fg82 : w18.cell? ⟨g8, 2, none⟩ = some (.slice (A3 1) (L0 1).length (c3 1)) := (blk_cell BKg8.out 2).trans rfl; have fg83 : w18.cell? ⟨g8, 3, none⟩ = some (.slice (A3 2) (L0 2).length (c3 2)) := (blk_cell BKg8.out 3).trans rfl; have fg84 : w18.cell? ⟨g8, 4, none⟩ = some (.slice (A3 3) (L0 3).length (c3 3)) := (blk_cell BKg8.out 4).trans rfl; have fg85 : w18.cell? ⟨g8, 5, none⟩ = some (.slice (A3 4) (L0 4).length (c3 4)) := (blk_cell BKg8.out 5).trans rfl; have fg86 : w18.cell? ⟨g8, 6, none⟩ = some (.slice (A3 5) (L0 5).length (c3 5)) := (blk_cell BKg8.out 6).trans rfl; have fg87 : w18.cell? ⟨g8, 7, none⟩ = some (.slice (A3 6) (L0 6).length (c3 6)) := (blk_cell BKg8.out 7).trans rfl; have fg88 : w18.cell? ⟨g8, 8, none⟩ = some (.slice (A3 7) (L0 7).length (c3 7)) := (blk_cell BKg8.out 8).trans rfl; have fg8z0 := blk_frozen BKg8.out 0; have fg8z1 := blk_frozen BKg8.out 1; have fg8z2 := blk_frozen BKg8.out 2; have fg8z3 := blk_frozen BKg8.out 3; have fg8z4 := blk_frozen BKg8.out 4; have fg8z5 := blk_frozen BKg8.out 5; have fg8z6 := blk_frozen BKg8.out 6; have fg8z7 := blk_frozen BKg8.out 7; have fg8z8 := blk_frozen BKg8.out 8
  go_wp2_with fail
  refine calls_of_args (args' := #[.agg (bkCells s0 A3 c3 L'), .int .i64 1]) (by rw [← bkCells_len (s := s0) (A := A3) (c := c3) HLL.out]) ?_
  refine (heldBook_calls s0 A3 c3 L' 1 _ H1.out.c (by omega) (by rw [off_same HLL.out]; have := off8_le HM0.out; omega) (fun i hi => (HMK.out i hi).same (fun j => (HLL.out j).symm))).mono ?_
  rintro e w19 ⟨rfl, hb⟩
  rw [off_same HLL.out]
  clear fg8s0 fg8z0 fg81 fg8z1 fg82 fg8z2 fg83 fg8z3 fg84 fg8z4 fg85 fg8z5 fg86 fg8z6 fg87 fg8z7 fg88 fg8z8
  have HBn := Aside0.mk (below_step HB.out hb)
  have H0n := Aside0.mk (BkO.below H0.out hb)
  have H1n := Aside0.mk (BkO.below H1.out hb)
  have BKgbn := Aside0.mk (blk_below BKgb.out hb)
  have BKg6n := Aside0.mk (blk_below BKg6.out hb)
  have BKg8n := Aside0.mk (blk_below BKg8.out hb)
  clear HB H0 H1 BKgb BKg6 BKg8
  have HB := HBn
  have H0 := H0n
  have H1 := H1n
  have BKgb := BKgbn
  have BKg6 := BKg6n
  have BKg8 := BKg8n
  clear HBn H0n H1n BKgbn BKg6n BKg8n
  clear hb
  have fgbs0 : w19.cell? ⟨gb, 0, none⟩ = some (.int .i64 _) := (blk_cell BKgb.out 0).trans rfl; have fgb1 : w19.cell? ⟨gb, 1, none⟩ = some (.slice (A 0) (L 0).length (c 0)) := (blk_cell BKgb.out 1).trans rfl; have fgb2 : w19.cell? ⟨gb, 2, none⟩ = some (.slice (A 1) (L 1).length (c 1)) := (blk_cell BKgb.out 2).trans rfl; have fgb3 : w19.cell? ⟨gb, 3, none⟩ = some (.slice (A 2) (L 2).length (c 2)) := (blk_cell BKgb.out 3).trans rfl; have fgb4 : w19.cell? ⟨gb, 4, none⟩ = some (.slice (A 3) (L 3).length (c 3)) := (blk_cell BKgb.out 4).trans rfl; have fgb5 : w19.cell? ⟨gb, 5, none⟩ = some (.slice (A 4) (L 4).length (c 4)) := (blk_cell BKgb.out 5).trans rfl; have fgb6 : w19.cell? ⟨gb, 6, none⟩ = some (.slice (A 5) (L 5).length (c 5)) := (blk_cell BKgb.out 6).trans rfl; have fgb7 : w19.cell? ⟨gb, 7, none⟩ = some (.slice (A 6) (L 6).length (c 6)) := (blk_cell BKgb.out 7).trans rfl; have fgb8 : w19.cell? ⟨gb, 8, none⟩ = some (.slice (A 7) (L 7).length (c 7)) := (blk_cell BKgb.out 8).trans rfl; have fgbz0 := blk_frozen BKgb.out 0; have fgbz1 := blk_frozen BKgb.out 1; have fgbz2 := blk_frozen BKgb.out 2; have fgbz3 := blk_frozen BKgb.out 3; have fgbz4 := blk_frozen BKgb.out 4; have fgbz5 := blk_frozen BKgb.out 5; have fgbz6 := blk_frozen BKgb.out 6; have fgbz7 := blk_frozen BKgb.out 7; have fgbz8 := blk_frozen BKgb.out 8
  go_wp2_with fail
  refine (toBook_calls s A c L _ (HR.out.below HB.out) HM2.out).mono ?_
  rintro e w20 ⟨A5, c5, rfl, ho, hb⟩
  clear fgbs0 fgbz0 fgb1 fgbz1 fgb2 fgbz2 fgb3 fgbz3 fgb4 fgbz4 fgb5 fgbz5 fgb6 fgbz6 fgb7 fgbz7 fgb8 fgbz8
  have HO5 := Aside0.mk ho.c
  clear BKgb
  have HBn := Aside0.mk (below_step HB.out hb)
  have H0n := Aside0.mk (BkO.below H0.out hb)
  have H1n := Aside0.mk (BkO.below H1.out hb)
  have BKg6n := Aside0.mk (blk_below BKg6.out hb)
  have BKg8n := Aside0.mk (blk_below BKg8.out hb)
  clear HB H0 H1 BKg6 BKg8
  have HB := HBn
  have H0 := H0n
  have H1 := H1n
  have BKg6 := BKg6n
  have BKg8 := BKg8n
  clear HBn H0n H1n BKg6n BKg8n
  clear hb ho
  go_wp2_with fail
  refine (implCut_calls s A5 c5 L x _ HO5.out HM.out HW.out HX.out).mono ?_
  rintro e w21 ⟨s3, L3, A6, c6, rfl, hp3, ho3, hb⟩
  obtain ⟨es, eL⟩ := HP0.out.one hp3
  subst es eL
  have HBn := Aside0.mk (below_step HB.out hb)
  have H0n := Aside0.mk (BkO.below H0.out hb)
  have H1n := Aside0.mk (BkO.below H1.out hb)
  have BKg6n := Aside0.mk (blk_below BKg6.out hb)
  have BKg8n := Aside0.mk (blk_below BKg8.out hb)
  clear HB H0 H1 BKg6 BKg8
  have HB := HBn
  have H0 := H0n
  have H1 := H1n
  have BKg6 := BKg6n
  have BKg8 := BKg8n
  clear HBn H0n H1n BKg6n BKg8n
  have H3 := Aside0.mk ho3
  clear hb ho3 hp3 HO5
  go_wp2_with (first | ((with_reducible refine gate_dst (N := 12) rfl ?_); refine box_event rfl (N := 12) rfl (cs := #[.int .i64 0, .slice none 0 0, .slice none 0 0, .slice none 0 0, .slice none 0 0, .slice none 0 0, .slice none 0 0, .slice none 0 0, .slice none 0 0]) (t := 27) (by first | (go_simp; done) | (go_simp; rfl)) ?_; intro g12 hgg12 w22 hbox hb; have n0_ := Aside0.mk (below_step HB.out hb); have BKg12 := Aside0.mk hbox; have HGg12 := Aside0.mk (show w.heap.size ≤ g12 by rw [hgg12]; exact HB.out.size); clear HB; have HB := n0_; have HXg12 : Aside0 (w21.heap.size ≤ g12) := ⟨by omega⟩; have NEg6g12 := Aside0.mk (show g6 ≠ g12 by have := blk_lt BKg6.out; omega); have BKg6m := Aside0.mk (blk_below BKg6.out hb); have NEg8g12 := Aside0.mk (show g8 ≠ g12 by have := blk_lt BKg8.out; omega); have BKg8m := Aside0.mk (blk_below BKg8.out hb); have H0m := Aside0.mk (BkO.below H0.out hb); have H1m := Aside0.mk (BkO.below H1.out hb); have H3m := Aside0.mk (BkO.below H3.out hb); clear BKg6 BKg8 H0 H1 H3; clear n0_ hbox hb hgg12) | ((with_reducible refine gate_store (t := 27) (p := 12) rfl ?_); refine store_event (t := 27) (p := 12) (v := ?vo_4) (w1 := w22.setRow g12 (bkCells s0 A6 c6 L0)) ?hg ?ho ?hn ?hr ?_; (case ho => rfl); (case hg => rfl); (case hn => rfl); (case hr => exact (Row.store_row_run (g := g12) (cells := bkCells s0 A6 c6 L0) (t := 27) (old := #[.int .i64 0, .slice none 0 0, .slice none 0 0, .slice none 0 0, .slice none 0 0, .slice none 0 0, .slice none 0 0, .slice none 0 0, .slice none 0 0]) rfl (by rfl) (by rfl) BKg12.out (by kernel_rfl) rfl (by simp [Value.oneCell']))); intro w23 hw; have HBv := Aside0.mk (Row.row_below hw HB.out HGg12.out); have BKg12v := Aside0.mk (Row.row_here hw BKg12.out); have BKg6 := Aside0.mk (Row.row_there hw BKg6m.out NEg6g12.out); have BKg8 := Aside0.mk (Row.row_there hw BKg8m.out NEg8g12.out); have H0 := Aside0.mk (show BkO w23 w3.heap.size w4.heap.size A0 c0 L0 by rw [hw]; exact VO.row H0m.out BKg12.out (by decide) _); have H1 := Aside0.mk (show BkO w23 w9.heap.size w10.heap.size A3 c3 L' by rw [hw]; exact VO.row H1m.out BKg12.out (by decide) _); have H3 := Aside0.mk (show BkO w23 w20.heap.size w21.heap.size A6 c6 L0 by rw [hw]; exact VO.row H3m.out BKg12.out (by decide) _); clear HB BKg12 BKg6m BKg8m H0m H1m H3m; have HB := HBv; have BKg12 := BKg12v; clear HBv BKg12v; have fg12s0 : w23.cell? ⟨g12, 0, none⟩ = some (.int .i64 _) := (blk_cell BKg12.out 0).trans rfl; have fg121 : w23.cell? ⟨g12, 1, none⟩ = some (.slice (A6 0) (L0 0).length (c6 0)) := (blk_cell BKg12.out 1).trans rfl; have fg122 : w23.cell? ⟨g12, 2, none⟩ = some (.slice (A6 1) (L0 1).length (c6 1)) := (blk_cell BKg12.out 2).trans rfl; have fg123 : w23.cell? ⟨g12, 3, none⟩ = some (.slice (A6 2) (L0 2).length (c6 2)) := (blk_cell BKg12.out 3).trans rfl; have fg124 : w23.cell? ⟨g12, 4, none⟩ = some (.slice (A6 3) (L0 3).length (c6 3)) := (blk_cell BKg12.out 4).trans rfl; have fg125 : w23.cell? ⟨g12, 5, none⟩ = some (.slice (A6 4) (L0 4).length (c6 4)) := (blk_cell BKg12.out 5).trans rfl; have fg126 : w23.cell? ⟨g12, 6, none⟩ = some (.slice (A6 5) (L0 5).length (c6 5)) := (blk_cell BKg12.out 6).trans rfl; have fg127 : w23.cell? ⟨g12, 7, none⟩ = some (.slice (A6 6) (L0 6).length (c6 6)) := (blk_cell BKg12.out 7).trans rfl; have fg128 : w23.cell? ⟨g12, 8, none⟩ = some (.slice (A6 7) (L0 7).length (c6 7)) := (blk_cell BKg12.out 8).trans rfl; have fg12z0 := blk_frozen BKg12.out 0; have fg12z1 := blk_frozen BKg12.out 1; have fg12z2 := blk_frozen BKg12.out 2; have fg12z3 := blk_frozen BKg12.out 3; have fg12z4 := blk_frozen BKg12.out 4; have fg12z5 := blk_frozen BKg12.out 5; have fg12z6 := blk_frozen BKg12.out 6; have fg12z7 := blk_frozen BKg12.out 7; have fg12z8 := blk_frozen BKg12.out 8; have fg6s0 : w23.cell? ⟨g6, 0, none⟩ = some (.int .i64 _) := (blk_cell BKg6.out 0).trans rfl; have fg61 : w23.cell? ⟨g6, 1, none⟩ = some (.slice (A0 0) (L0 0).length (c0 0)) := (blk_cell BKg6.out 1).trans rfl; have fg62 : w23.cell? ⟨g6, 2, none⟩ = some (.slice (A0 1) (L0 1).length (c0 1)) := (blk_cell BKg6.out 2).trans rfl; have fg63 : w23.cell? ⟨g6, 3, none⟩ = some (.slice (A0 2) (L0 2).length (c0 2)) := (blk_cell BKg6.out 3).trans rfl; have fg64 : w23.cell? ⟨g6, 4, none⟩ = some (.slice (A0 3) (L0 3).length (c0 3)) := (blk_cell BKg6.out 4).trans rfl; have fg65 : w23.cell? ⟨g6, 5, none⟩ = some (.slice (A0 4) (L0 4).length (c0 4)) := (blk_cell BKg6.out 5).trans rfl; have fg66 : w23.cell? ⟨g6, 6, none⟩ = some (.slice (A0 5) (L0 5).length (c0 5)) := (blk_cell BKg6.out 6).trans rfl; have fg67 : w23.cell? ⟨g6, 7, none⟩ = some (.slice (A0 6) (L0 6).length (c0 6)) := (blk_cell BKg6.out 7).trans rfl; have fg68 : w23.cell? ⟨g6, 8, none⟩ = some (.slice (A0 7) (L0 7).length (c0 7)) := (blk_cell BKg6.out 8).trans rfl; have fg6z0 := blk_frozen BKg6.out 0; have fg6z1 := blk_frozen BKg6.out 1; have fg6z2 := blk_frozen BKg6.out 2; have fg6z3 := blk_frozen BKg6.out 3; have fg6z4 := blk_frozen BKg6.out 4; have fg6z5 := blk_frozen BKg6.out 5; have fg6z6 := blk_frozen BKg6.out 6; have fg6z7 := blk_frozen BKg6.out 7; have fg6z8 := blk_frozen BKg6.out 8; clear hw))
  have Z23 : Aside0 (w21.heap.size ≤ w23.heap.size) := ⟨by have := HXg12.out; have := blk_lt BKg12.out; omega⟩
  refine (eqBook_same s0 A6 c6 A0 c0 L0 _ H3.out.c H0.out.c HL0.out).mono ?_
  rintro e w24 ⟨rfl, hb⟩
  clear fg12s0 fg12z0 fg121 fg12z1 fg122 fg12z2 fg123 fg12z3 fg124 fg12z4 fg125 fg12z5 fg126 fg12z6 fg127 fg12z7 fg128 fg12z8
  clear fg6s0 fg6z0 fg61 fg6z1 fg62 fg6z2 fg63 fg6z3 fg64 fg6z4 fg65 fg6z5 fg66 fg6z6 fg67 fg6z7 fg68 fg6z8
  have HBn := Aside0.mk (below_step HB.out hb)
  have H1n := Aside0.mk (BkO.below H1.out hb)
  have BKg8n := Aside0.mk (blk_below BKg8.out hb)
  clear HB H1 BKg8
  have HB := HBn
  have H1 := H1n
  have BKg8 := BKg8n
  clear HBn H1n BKg8n
  clear hb
  have fg8s0 : w24.cell? ⟨g8, 0, none⟩ = some (.int .i64 _) := (blk_cell BKg8.out 0).trans rfl; have fg81 : w24.cell? ⟨g8, 1, none⟩ = some (.slice (A3 0) (L0 0).length (c3 0)) := (blk_cell BKg8.out 1).trans rfl; have fg82 : w24.cell? ⟨g8, 2, none⟩ = some (.slice (A3 1) (L0 1).length (c3 1)) := (blk_cell BKg8.out 2).trans rfl; have fg83 : w24.cell? ⟨g8, 3, none⟩ = some (.slice (A3 2) (L0 2).length (c3 2)) := (blk_cell BKg8.out 3).trans rfl; have fg84 : w24.cell? ⟨g8, 4, none⟩ = some (.slice (A3 3) (L0 3).length (c3 3)) := (blk_cell BKg8.out 4).trans rfl; have fg85 : w24.cell? ⟨g8, 5, none⟩ = some (.slice (A3 4) (L0 4).length (c3 4)) := (blk_cell BKg8.out 5).trans rfl; have fg86 : w24.cell? ⟨g8, 6, none⟩ = some (.slice (A3 5) (L0 5).length (c3 5)) := (blk_cell BKg8.out 6).trans rfl; have fg87 : w24.cell? ⟨g8, 7, none⟩ = some (.slice (A3 6) (L0 6).length (c3 6)) := (blk_cell BKg8.out 7).trans rfl; have fg88 : w24.cell? ⟨g8, 8, none⟩ = some (.slice (A3 7) (L0 7).length (c3 7)) := (blk_cell BKg8.out 8).trans rfl; have fg8z0 := blk_frozen BKg8.out 0; have fg8z1 := blk_frozen BKg8.out 1; have fg8z2 := blk_frozen BKg8.out 2; have fg8z3 := blk_frozen BKg8.out 3; have fg8z4 := blk_frozen BKg8.out 4; have fg8z5 := blk_frozen BKg8.out 5; have fg8z6 := blk_frozen BKg8.out 6; have fg8z7 := blk_frozen BKg8.out 7; have fg8z8 := blk_frozen BKg8.out 8
  go_wp2_with fail
  refine calls_of_args (args' := #[.agg (bkCells s0 A3 c3 L'), .int .i64 1]) (by rw [← bkCells_len (s := s0) (A := A3) (c := c3) HLL.out]) ?_
  refine (heldBook_calls s0 A3 c3 L' 1 _ H1.out.c (by omega) (by rw [off_same HLL.out]; have := off8_le HM0.out; omega) (fun i hi => (HMK.out i hi).same (fun j => (HLL.out j).symm))).mono ?_
  rintro e w25 ⟨rfl, hb⟩
  rw [off_same HLL.out]
  clear fg8s0 fg8z0 fg81 fg8z1 fg82 fg8z2 fg83 fg8z3 fg84 fg8z4 fg85 fg8z5 fg86 fg8z6 fg87 fg8z7 fg88 fg8z8
  have HBn := Aside0.mk (below_step HB.out hb)
  go_wp2
  go_ret
  exact ⟨rfl, HBn.out⟩
end Go.Proofs.Ytekneicikmaplaa.Bk

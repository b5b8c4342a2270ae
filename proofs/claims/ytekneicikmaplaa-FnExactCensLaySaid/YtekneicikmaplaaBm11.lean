/- Books of a slab allocator: walks and plain laws, part 11. -/
import Derived.Test.YtekneicikmaplaaBm10
import Derived.Test.YtekneicikmaplaaBm3
import Derived.Test.YtekneicikmaplaaBm1
import Derived.Test.YtekneicikmaplaaBm4
set_option linter.unusedVariables false
set_option linter.unusedSimpArgs false
namespace Go.Proofs.Ytekneicikmaplaa.Bk
open Go.RowKit Go.Proofs.YtekneicikmaplaaW.PrintWords Go.Proofs.YtekneicikmaplaaW.PrintLast Go.Proofs.YtekneicikmaplaaW.PrintMore

open Kd in
/-- copy(v[off:], l), v a row of ints of the call's own. -/
theorem copy_at {P : Program} {W : World} {base : Nat} (t t' ty : TypeId) (ht : P.underlying t = some (.slice 3)) (hinfo : (P.info? 3).map (·.size) = some 1)
    {go N co off : Nat} {v l : List Int} {A dp : Option Addr} {c : Nat}
    (HO : Kd.R (Kd.int .i64) 3 W base (fun _ => True) (.slice (some ⟨go, 0, none⟩) N co) v) (HR : Kd.C (Kd.int .i64) W A l.length l) (hfit : off + l.length ≤ N)
    (hdp : 0 < l.length → dp = some ⟨go, off, none⟩) :
    ∃ w1, (Builtin.copy_ #[t, t'] ty #[.slice dp (N - off) (co - off), .slice A l.length c]).run P W = .ok (goInt ((l.length : Nat) : Int)) w1 ∧ Kd.R (Kd.int .i64) 3 w1 base (fun _ => True) (.slice (some ⟨go, 0, none⟩) N co) (setN (fun i => off + i) (fun i => l.getD i 0) l.length v) ∧ W.grownBy w1 (some go) := by
  have hNv : N = v.length := (R_reads' HO).1
  by_cases h0 : l.length = 0
  · refine ⟨W, ?_, by rw [h0]; exact HO, World.grownBy.refl W _⟩
    rw [h0]
    exact run_copy_none W t t' ty 3 dp A (N - off) (co - off) 0 c ht hinfo (by simp)
  · rw [hdp (by omega)]
    have hR := reads_of_C (enc := Value.int .i64) (d := (0 : Int)) (h1 := fun _ => rfl) HR
    obtain ⟨ad, hA, hc⟩ := hR.2.2 (by omega)
    have hown := own_of_R (enc := Value.int .i64) (h1 := fun _ => rfl) HO
    rcases hown.2 with ⟨hv, _⟩ | ⟨g, cap, cur, hv, hb, hh, hnc, hcm, hcs, htake⟩
    · cases hv
    injection hv with ha _ hcap
    injection ha with ha
    injection ha with hg
    subst hg; subst hcap
    have hkl : (encs (Value.int .i64) l).length = l.length := encs_length _
    have hcs1 : cur.size = co := by rw [hcs]; simp
    have hr := run_copy_cells (P := P) W t t' ty 3 go off (N - off) (co - off) ad l.length c (encs (Value.int .i64) l) ht hinfo (by rw [hkl]; exact (Nat.min_eq_left (by omega)).symm) (fun j u hu => by
        have hj : j < l.length := by
          rcases Nat.lt_or_ge j l.length with h | h
          · exact h
          · rw [List.getElem?_eq_none (by rw [hkl]; exact h)] at hu; cases hu
        rw [encs_get (d := (0 : Int)) _ j hj] at hu
        rw [hc j hj, ← hu])
      (fun j hj => by rw [cell_of_row W go _ cur 3 (0, 0) hh]; simp; omega) (fun j _ => blk_frozen hh _) (by intro u hu; simp only [encs, List.mem_map] at hu; obtain ⟨q, _, rfl⟩ := hu; rfl)
    obtain ⟨cur', h3, h4, h5⟩ := setCells_row (encs (Value.int .i64) l) off W cur hh (by rw [hkl]; omega)
    obtain ⟨s1, s2, s3, s4⟩ := setCells_same go (encs (Value.int .i64) l) off W
    rw [hkl] at hr
    refine ⟨_, by rw [hA]; exact hr, ?_, ⟨s1, s2, s3, by rw [s4]; exact Nat.le_refl _, fun k _ hk => setCells_far _ _ k (fun he => hk (by rw [he]))⟩⟩
    have hln : (setN (fun i => off + i) (fun i => l.getD i 0) l.length v).length = v.length := setN_len _ _ _ _
    refine R_of_own (enc := Value.int .i64) (h1 := fun _ => rfl) ?_ (fun _ _ => trivial)
    rw [hln]
    refine ⟨by rw [encs_length, hln, Nat.mul_one], .inr ⟨go, co, cur', by rw [← hNv], hb, h3, by omega, hcm, by rw [h4, hcs], ?_⟩⟩
    rw [setN_splice off l v (by omega), h5, hkl, Nat.mul_one]
    have htk : cur.toList.take v.length = encs (Value.int .i64) v := by rw [← htake, Nat.mul_one]
    have e1 : encs (Value.int .i64) (v.take off ++ l ++ v.drop (off + l.length)) = (encs (Value.int .i64) v).take off ++ encs (Value.int .i64) l ++ (encs (Value.int .i64) v).drop (off + l.length) := by simp [encs, List.map_take, List.map_drop]
    rw [e1, ← htk, List.take_take, Nat.min_eq_left (by omega), List.drop_take]
    have hlen : (cur.toList.take off ++ encs (Value.int .i64) l).length = off + l.length := by rw [List.length_append, List.length_take, hkl, Array.length_toList]; omega
    rw [List.take_append, hlen, List.take_of_length_le (by rw [hlen]; omega)]
theorem copy_step {P : Program} {ops : Array Oper} {o : Oper} {a : Act} {Q : Exit → Act → World → Prop} {K : Act → World → Prop} {W : World} {base : Nat} (hw : Region.wanted o (yielded ops a.tmps) = true) {Nn : Option Tmp} (hN : o.dst = Nn) (s x : Operand) (t t' : TypeId)
    (ho : o.op = .call { callee := .builtin .copy, args := #[s, x], argTypes := #[t, t'] }) (ht : P.underlying t = some (.slice 3)) (hinfo : (P.info? 3).map (·.size) = some 1)
    {go N co off : Nat} {v l : List Int} {A dp : Option Addr} {c : Nat} (hs : a.eval s = .slice dp (N - off) (co - off)) (hx : a.eval x = .slice A l.length c)
    (HO : Kd.R (Kd.int .i64) 3 W base (fun _ => True) (.slice (some ⟨go, 0, none⟩) N co) v) (HR : Kd.C (Kd.int .i64) W A l.length l) (hfit : off + l.length ≤ N)
    (hdp : 0 < l.length → dp = some ⟨go, off, none⟩)
    (h : ∀ w1, Kd.R (Kd.int .i64) 3 w1 base (fun _ => True) (.slice (some ⟨go, 0, none⟩) N co) (setN (fun i => off + i) (fun i => l.getD i 0) l.length v) → W.grownBy w1 (some go) → K (a.put Nn (goInt ((l.length : Nat) : Int))) w1) :
    if Region.wanted o (yielded ops a.tmps) = true then Oper.wp P o a W K Q else K (a.put Nn undef) W := by
  obtain ⟨w1, hrun, h1, h2⟩ := copy_at (P := P) (c := c) t t' o.type ht hinfo HO HR hfit hdp
  refine value_ hw hN ?_ (h w1 h1 h2)
  unfold execOp
  simp only [ho, resolve, invoke, builtin, Sem.run_bind, Sem.run_pure, Result.andThen_ok, List.map_toArray, List.map_cons, List.map_nil, hs, hx, hrun]
theorem cut_at {go N co off : Nat} (h : off < N) (hc : N ≤ co) : (if co = off then (some (⟨go, 0, none⟩ : Addr)) else (some (⟨go, 0, none⟩ : Addr)).map (·.add (off * 1))) = some ⟨go, off, none⟩ := by
  rw [if_neg (by omega), Option.map_some, Nat.mul_one]
  unfold Addr.add
  split <;> simp_all
set_option maxHeartbeats 2000000 in
set_option maxRecDepth 100000 in
theorem lay_calls (a b : Nat) (d s : Int) (A : Nat → Option Addr) (c : Nat → Nat) (L : Nat → List Int) (w : World) (h : BkC w A c L) (hok : okC a b d = true) (h0 : (L 0).length = b) (h5 : (L 5).length = 8 * b) (h6 : (L 6).length = a) (h7 : (L 7).length = a) (hin : ∀ k, k < 4 → ∀ i, i < (L (k + 1)).length → 0 ≤ (L (k + 1)).getD i 0 ∧ (L (k + 1)).getD i 0 < 8 * (b : Int)) :
    Calls Try.prog 62 #[cfgV a b d, .agg (bkCells s A c L)] w fun e w' => ∃ A' c', e = .returned (.slice A' (layV a b L).length c') ∧ SlO w' w.heap.size w'.heap.size A' c' (layV a b L) ∧ Below w.heap.size w w' := by
  have HR := Aside0.mk h
  have HOK := Aside0.mk hok
  have HIN := Aside0.mk hin
  have HLE := Aside0.mk (okC_le hok)
  have H0 := Aside0.mk h0
  have H5 := Aside0.mk h5
  have H6 := Aside0.mk h6
  have H7 := Aside0.mk h7
  clear h hok h0 h5 h6 h7 hin
  have HB := Aside0.mk (Below.refl w.heap.size w)
  go_enter Try.func62, Try.ntmps62
  go_wp2_with (first | ((with_reducible refine gate_dst (N := 2) rfl ?_); refine box_event rfl (N := 2) rfl (cs := #[.int .i64 a, .int .i64 b, .int .i64 d]) (t := 29) (by first | (go_simp; done) | (go_simp; rfl)) ?_; intro gc hggc w1 hbox hb; have n0_ := Aside0.mk (below_step HB.out hb); have BKgc := Aside0.mk hbox; have HGgc := Aside0.mk (show w.heap.size ≤ gc by rw [hggc]; exact HB.out.size); clear HB; have HB := n0_; have fc0 : w1.cell? ⟨gc, 0, none⟩ = some (.int .i64 a) := (blk_cell BKgc.out 0).trans rfl; have fc1 : w1.cell? ⟨gc, 1, none⟩ = some (.int .i64 b) := (blk_cell BKgc.out 1).trans rfl; have fc2 : w1.cell? ⟨gc, 2, none⟩ = some (.int .i64 d) := (blk_cell BKgc.out 2).trans rfl; have zc0 := blk_frozen BKgc.out 0; have zc1 := blk_frozen BKgc.out 1; have zc2 := blk_frozen BKgc.out 2; clear n0_ hbox hb hggc) | ((with_reducible refine gate_dst (N := 3) rfl ?_); refine box_event rfl (N := 3) rfl (cs := bkCells s A c L) (t := 27) (by first | (go_simp; done) | (go_simp; rfl)) ?_; intro gb hggb w2 hbox hb; have n0_ := Aside0.mk (below_step HB.out hb); have BKgb := Aside0.mk hbox; have HGgb := Aside0.mk (show w.heap.size ≤ gb by rw [hggb]; exact HB.out.size); clear HB; have HB := n0_; have BKgcn := Aside0.mk (blk_below BKgc.out hb); clear BKgc fc0 fc1 fc2 zc0 zc1 zc2; have BKgc := BKgcn; clear BKgcn; have fc0 : w2.cell? ⟨gc, 0, none⟩ = some (.int .i64 a) := (blk_cell BKgc.out 0).trans rfl; have fc1 : w2.cell? ⟨gc, 1, none⟩ = some (.int .i64 b) := (blk_cell BKgc.out 1).trans rfl; have fc2 : w2.cell? ⟨gc, 2, none⟩ = some (.int .i64 d) := (blk_cell BKgc.out 2).trans rfl; have zc0 := blk_frozen BKgc.out 0; have zc1 := blk_frozen BKgc.out 1; have zc2 := blk_frozen BKgc.out 2; clear n0_ hbox hb hggb))
  refine (deskAt_calls a b d HLE.out.1 HLE.out.2 _).mono ?_
  rintro e w3 ⟨rfl, hb⟩
  clear fc0 fc1 fc2 zc0 zc1 zc2
  have HBn := Aside0.mk (below_step HB.out hb)
  have BKgbn := Aside0.mk (blk_below BKgb.out hb)
  have BKgcn := Aside0.mk (blk_below BKgc.out hb)
  clear HB BKgb BKgc hb
  have HB := HBn
  have BKgb := BKgbn
  have BKgc := BKgcn
  clear HBn BKgbn BKgcn
  go_wp2_with (first | ((with_reducible refine gate_dst (N := 14) rfl ?_); refine Kd.R_make (Kd.int .i64) _ 3 rfl (N := 14) rfl 24 _ _ rfl (7 + 2 * (a : Int) + 17 * (b : Int)) rfl rfl Try.underlying24 (.int .i64 0) 8 info3 rfl (by decide) (by omega) 0 (ok := fun _ => True) (okp := fun _ => True) rfl (fun _ hk => hk) trivial (by omega) (by have := HLE.out; omega) (Below.refl _ _) (Nat.le_refl _) ?_; intro v1 w4 ho hb hg_ hnew_; clear hg_ hnew_; have HO := Aside0.mk (Kd.R_lower ho HB.out.size); have HBn := Aside0.mk (below_step HB.out hb); have BKgbn := Aside0.mk (blk_below BKgb.out hb); have BKgcn := Aside0.mk (blk_below BKgc.out hb); clear HB BKgb BKgc ho hb; have HB := HBn; have BKgb := BKgbn; have BKgc := BKgcn; clear HBn BKgbn BKgcn; have fc0 : w4.cell? ⟨gc, 0, none⟩ = some (.int .i64 a) := (blk_cell BKgc.out 0).trans rfl; have fc1 : w4.cell? ⟨gc, 1, none⟩ = some (.int .i64 b) := (blk_cell BKgc.out 1).trans rfl; have fc2 : w4.cell? ⟨gc, 2, none⟩ = some (.int .i64 d) := (blk_cell BKgc.out 2).trans rfl; have zc0 := blk_frozen BKgc.out 0; have zc1 := blk_frozen BKgc.out 1; have zc2 := blk_frozen BKgc.out 2))
  obtain ⟨go, co, eo, hgo, gl, cl⟩ := Kd.R_form HO.out (by rw [List.length_replicate]; have := HLE.out; omega)
  subst eo
  have HGo := Aside0.mk hgo
  obtain ⟨v0, hv0⟩ : ∃ v0 : List Int, List.replicate (7 + 2 * (a : Int) + 17 * (b : Int)).toNat (0 : Int) = v0 := ⟨_, rfl⟩
  have HV0 := Aside0.mk hv0
  rw [hv0] at HO ⊢
  have HN : Aside0 (v0.length = 7 + 2 * a + 17 * b) := ⟨by rw [← hv0, List.length_replicate]; omega⟩
  obtain ⟨N, hN⟩ : ∃ N, v0.length = N := ⟨_, rfl⟩
  rw [hN] at HO ⊢
  have HNN := Aside0.mk hN
  have NBO := Aside0.mk (show gb ≠ go from fun e => by obtain ⟨cs, hcs⟩ := cl; rw [← e, BKgb.out] at hcs; simp at hcs)
  have NCO := Aside0.mk (show gc ≠ go from fun e => by obtain ⟨cs, hcs⟩ := cl; rw [← e, BKgc.out] at hcs; simp at hcs)
  clear hgo gl cl hv0 hN
  clear fc0 fc1 fc2 zc0 zc1 zc2
  go_loopg [17] (a + 1) (fun kq v17 w' => ∃ (k : Nat), k ≤ a ∧ kq = a + 1 - k ∧ v17 = .int .i64 k ∧ Aside0 (w'.heap[gc]? = some (.cells #[.int .i64 a, .int .i64 b, .int .i64 d] 29 (0, 0))) ∧ Aside0 (w'.heap[gb]? = some (.cells (bkCells s A c L) 27 (0, 0))) ∧ Aside0 (Kd.R (Kd.int .i64) 3 w' w.heap.size (fun _ => True) (.slice (some ⟨go, 0, none⟩) N co) (setN (fun i => 3 + i) (regV (L 6) (L 7)) k v0)) ∧ Aside0 (Below w.heap.size w w'))
  case atStart => exact ⟨0, by omega, by omega, rfl, BKgc, BKgb, HO, HB⟩
  case round =>
    clear HB BKgc BKgb HO
    obtain ⟨k, hk, rfl, rfl, BKgc, BKgb, HO, HB⟩ := hrel
    have fc0 : wr.cell? ⟨gc, 0, none⟩ = some (.int .i64 a) := (blk_cell BKgc.out 0).trans rfl
    have fc1 : wr.cell? ⟨gc, 1, none⟩ = some (.int .i64 b) := (blk_cell BKgc.out 1).trans rfl
    have fc2 : wr.cell? ⟨gc, 2, none⟩ = some (.int .i64 d) := (blk_cell BKgc.out 2).trans rfl
    have zc0 := blk_frozen BKgc.out 0
    have zc1 := blk_frozen BKgc.out 1
    have zc2 := blk_frozen BKgc.out 2
    by_cases hlt : k < a
    · have hi : (k : Int) < (a : Int) := by omega
      have hi6 : (k : Int) < ((L 6).length : Int) := by have := H6.out; omega
      have hi7 : (k : Int) < ((L 7).length : Int) := by have := H7.out; omega
      obtain ⟨ad6, e6, hc6⟩ := at_nat ((HR.out 6 (by omega)).below HB.out) k (by have := H6.out; omega)
      obtain ⟨ad7, e7, hc7⟩ := at_nat ((HR.out 7 (by omega)).below HB.out) k (by have := H7.out; omega)
      have f7 : wr.cell? ⟨gb, 7, none⟩ = some (.slice (some ad6) (L 6).length (c 6)) := (blk_cell BKgb.out 7).trans (by rw [← e6]; rfl)
      have f8 : wr.cell? ⟨gb, 8, none⟩ = some (.slice (some ad7) (L 7).length (c 7)) := (blk_cell BKgb.out 8).trans (by rw [← e7]; rfl)
      obtain ⟨p, hp⟩ : ∃ p, (L 6).getD k 0 = p := ⟨_, rfl⟩
      obtain ⟨q, hq⟩ : ∃ q, (L 7).getD k 0 = q := ⟨_, rfl⟩
      rw [hp] at hc6
      rw [hq] at hc7
      have HPQ := Aside0.mk (And.intro hp hq)
      clear hp hq e6 e7
      have hN1 : (3 : Int) + (k : Int) < (N : Int) := by have := HN.out; have := HNN.out; omega
      have hN0 : (0 : Int) ≤ 3 + (k : Int) := by omega
      have hNt : ((3 : Int) + (k : Int)).toNat = 3 + k := by omega
      have hw3 : wrap64 (3 + (k : Int)) = 3 + (k : Int) := by have := HLE.out; unfold wrap64; omega
      go_wp2_with fail
      refine start_ (n := 19) (S := fun w' => w'.cell? ⟨gc, 0, none⟩ = some (.int .i64 a) ∧ w'.cell? ⟨gc, 1, none⟩ = some (.int .i64 b) ∧ w'.cell? ⟨gc, 2, none⟩ = some (.int .i64 d) ∧ w'.cell? ⟨gb, 7, none⟩ = some (.slice (some ad6) (L 6).length (c 6)) ∧ w'.cell? ⟨gb, 8, none⟩ = some (.slice (some ad7) (L 7).length (c 7)) ∧ w'.cell? (ad6.add k) = some (.int .i64 p) ∧ w'.cell? (ad7.add k) = some (.int .i64 q)) (ds := [18]) #[false, false, false, false, false, false, false, false, false, false, false, false, false, false, false, false, false, false, false] (by kernel_rfl) rfl rfl (⟨fc0, fc1, fc2, f7, f8, hc6, hc7⟩) (fun hHeld => ?_)
      refine pure_ (i := 0) (N := some 20) (v := ?_) (a' := ?_) #[true, false, false, false, false, false, false, false, false, false, false, false, false, false, false, false, false, false, false] rfl rfl (by kernel_rfl) (fun _ _ _ h => h) (Or.inl ⟨by rfl, ?_⟩) ?_ ?_
      rotate_left
      · intro w'
        go_simp
        with_reducible rfl
      rotate_left
      · simp only [Act.put, List.setIfInBounds_toArray, List.set_cons_zero, List.set_cons_succ, i64_w, i32_w]
        rfl
      refine pure_ (i := 3) (N := some 23) (v := ?_) (a' := ?_) #[true, false, false, true, false, false, false, false, false, false, false, false, false, false, false, false, false, false, false] rfl rfl (by kernel_rfl) (fun _ _ _ h => h) (Or.inl ⟨by rfl, ?_⟩) ?_ ?_
      rotate_left
      · intro w'
        go_simp
        with_reducible rfl
      rotate_left
      · simp only [Act.put, List.setIfInBounds_toArray, List.set_cons_zero, List.set_cons_succ, i64_w, i32_w]
        rfl
      refine pure_ (i := 5) (N := some 25) (v := ?_) (a' := ?_) #[true, false, false, true, false, true, false, false, false, false, false, false, false, false, false, false, false, false, false] rfl rfl (by kernel_rfl) (fun _ _ _ h => h) (Or.inl ⟨by rfl, ?_⟩) ?_ ?_
      rotate_left
      · intro w'
        go_simp
        with_reducible rfl
      rotate_left
      · simp only [Act.put, List.setIfInBounds_toArray, List.set_cons_zero, List.set_cons_succ, i64_w, i32_w]
        rfl
      refine pure_ (i := 7) (N := some 27) (v := ?_) (a' := ?_) #[true, false, false, true, false, true, false, true, false, false, false, false, false, false, false, false, false, false, false] rfl rfl (by kernel_rfl) (fun _ _ _ h => h) (Or.inl ⟨by rfl, ?_⟩) ?_ ?_
      rotate_left
      · intro w'
        go_simp
        with_reducible rfl
      rotate_left
      · simp only [Act.put, List.setIfInBounds_toArray, List.set_cons_zero, List.set_cons_succ, i64_w, i32_w]
        rfl
      refine pure_ (i := 10) (N := some 30) (v := ?_) (a' := ?_) #[true, false, false, true, false, true, false, true, false, false, true, false, false, false, false, false, false, false, false] rfl rfl (by kernel_rfl) (fun _ _ _ h => h) (Or.inl ⟨by rfl, ?_⟩) ?_ ?_
      rotate_left
      · intro w'
        go_simp
        with_reducible rfl
      rotate_left
      · simp only [Act.put, List.setIfInBounds_toArray, List.set_cons_zero, List.set_cons_succ, i64_w, i32_w]
        rfl
      refine pure_ (i := 12) (N := some 32) (v := ?_) (a' := ?_) #[true, false, false, true, false, true, false, true, false, false, true, false, true, false, false, false, false, false, false] rfl rfl (by kernel_rfl) (fun _ _ _ h => h) (Or.inl ⟨by rfl, ?_⟩) ?_ ?_
      rotate_left
      · intro w'
        go_simp
        with_reducible rfl
      rotate_left
      · simp only [Act.put, List.setIfInBounds_toArray, List.set_cons_zero, List.set_cons_succ, i64_w, i32_w]
        rfl
      refine take_ (i := 1) (N := some 21) (v := ?_) (a' := ?_) #[true, true, false, true, false, true, false, true, false, false, true, false, true, false, false, false, false, false, false] rfl rfl (by kernel_rfl) (fun _ _ _ h => h) (Or.inl ⟨by rfl, ?_⟩) hHeld ?_ ?_
      rotate_left
      · rintro w' ⟨s0, s1, s2, s3, s4, s5, s6⟩
        go_simp
        with_reducible rfl
      rotate_left
      · simp only [Act.put, List.setIfInBounds_toArray, List.set_cons_zero, List.set_cons_succ, i64_w, i32_w]
        rfl
      refine take_ (i := 6) (N := some 26) (v := ?_) (a' := ?_) #[true, true, false, true, false, true, true, true, false, false, true, false, true, false, false, false, false, false, false] rfl rfl (by kernel_rfl) (fun _ _ _ h => h) (Or.inl ⟨by rfl, ?_⟩) hHeld ?_ ?_
      rotate_left
      · rintro w' ⟨s0, s1, s2, s3, s4, s5, s6⟩
        go_simp
        with_reducible rfl
      rotate_left
      · simp only [Act.put, List.setIfInBounds_toArray, List.set_cons_zero, List.set_cons_succ, i64_w, i32_w]
        rfl
      refine take_ (i := 11) (N := some 31) (v := ?_) (a' := ?_) #[true, true, false, true, false, true, true, true, false, false, true, true, true, false, false, false, false, false, false] rfl rfl (by kernel_rfl) (fun _ _ _ h => h) (Or.inl ⟨by rfl, ?_⟩) hHeld ?_ ?_
      rotate_left
      · rintro w' ⟨s0, s1, s2, s3, s4, s5, s6⟩
        go_simp
        with_reducible rfl
      rotate_left
      · simp only [Act.put, List.setIfInBounds_toArray, List.set_cons_zero, List.set_cons_succ, i64_w, i32_w]
        rfl
      refine pure_ (i := 8) (N := some 28) (v := ?_) (a' := ?_) #[true, true, false, true, false, true, true, true, true, false, true, true, true, false, false, false, false, false, false] rfl rfl (by kernel_rfl) (fun _ _ _ h => h) (Or.inl ⟨by rfl, ?_⟩) ?_ ?_
      rotate_left
      · intro w'
        go_simp
        with_reducible rfl
      rotate_left
      · simp only [Act.put, List.setIfInBounds_toArray, List.set_cons_zero, List.set_cons_succ, i64_w, i32_w]
        rfl
      refine pure_ (i := 13) (N := some 33) (v := ?_) (a' := ?_) #[true, true, false, true, false, true, true, true, true, false, true, true, true, true, false, false, false, false, false] rfl rfl (by kernel_rfl) (fun _ _ _ h => h) (Or.inl ⟨by rfl, ?_⟩) ?_ ?_
      rotate_left
      · intro w'
        go_simp
        with_reducible rfl
      rotate_left
      · simp only [Act.put, List.setIfInBounds_toArray, List.set_cons_zero, List.set_cons_succ, i64_w, i32_w]
        rfl
      refine take_ (i := 9) (N := some 29) (v := ?_) (a' := ?_) #[true, true, false, true, false, true, true, true, true, true, true, true, true, true, false, false, false, false, false] rfl rfl (by kernel_rfl) (fun _ _ _ h => h) (Or.inl ⟨by rfl, ?_⟩) hHeld ?_ ?_
      rotate_left
      · rintro w' ⟨s0, s1, s2, s3, s4, s5, s6⟩
        go_simp
        with_reducible rfl
      rotate_left
      · simp only [Act.put, List.setIfInBounds_toArray, List.set_cons_zero, List.set_cons_succ, i64_w, i32_w]
        rfl
      refine take_ (i := 14) (N := some 34) (v := ?_) (a' := ?_) #[true, true, false, true, false, true, true, true, true, true, true, true, true, true, true, false, false, false, false] rfl rfl (by kernel_rfl) (fun _ _ _ h => h) (Or.inl ⟨by rfl, ?_⟩) hHeld ?_ ?_
      rotate_left
      · rintro w' ⟨s0, s1, s2, s3, s4, s5, s6⟩
        go_simp
        with_reducible rfl
      rotate_left
      · simp only [Act.put, List.setIfInBounds_toArray, List.set_cons_zero, List.set_cons_succ, i64_w, i32_w]
        rfl
      refine pure_ (i := 15) (N := some 35) (v := ?_) (a' := ?_) #[true, true, false, true, false, true, true, true, true, true, true, true, true, true, true, true, false, false, false] rfl rfl (by kernel_rfl) (fun _ _ _ h => h) (Or.inl ⟨by rfl, ?_⟩) ?_ ?_
      rotate_left
      · intro w'
        go_simp
        with_reducible rfl
      rotate_left
      · simp only [Act.put, List.setIfInBounds_toArray, List.set_cons_zero, List.set_cons_succ, i64_w, i32_w]
        rfl
      refine pure_ (i := 16) (N := some 36) (v := ?_) (a' := ?_) #[true, true, false, true, false, true, true, true, true, true, true, true, true, true, true, true, true, false, false] rfl rfl (by kernel_rfl) (fun _ _ _ h => h) (Or.inl ⟨by rfl, ?_⟩) ?_ ?_
      rotate_left
      · intro w'
        go_simp
        with_reducible rfl
      rotate_left
      · simp only [Act.put, List.setIfInBounds_toArray, List.set_cons_zero, List.set_cons_succ, i64_w, i32_w]
        rfl
      refine one_ (i := 2) (N := some 22) #[true, true, true, true, false, true, true, true, true, true, true, true, true, true, true, true, true, false, false] rfl rfl (by kernel_rfl) (by decide) (fun K hK => ?_)
      refine goes_ Try.func82 (by kernel_rfl) rfl #[cfgV a b d] (by rfl) rfl rfl (by (try simp only [List.map_toArray, List.map_cons, List.map_nil]); first | done | rfl) ?_
      refine (regAt_calls a b d _).mono ?_
      rintro e w5 ⟨rfl, hb⟩
      refine ⟨_, rfl, hK.out _ _ ⟨(hb.cell (World.block_lt_of_cell? _ _ hHeld.1)).trans hHeld.1, (hb.cell (World.block_lt_of_cell? _ _ hHeld.2.1)).trans hHeld.2.1, (hb.cell (World.block_lt_of_cell? _ _ hHeld.2.2.1)).trans hHeld.2.2.1, (hb.cell (World.block_lt_of_cell? _ _ hHeld.2.2.2.1)).trans hHeld.2.2.2.1, (hb.cell (World.block_lt_of_cell? _ _ hHeld.2.2.2.2.1)).trans hHeld.2.2.2.2.1, (hb.cell (World.block_lt_of_cell? _ _ hHeld.2.2.2.2.2.1)).trans hHeld.2.2.2.2.2.1, (hb.cell (World.block_lt_of_cell? _ _ hHeld.2.2.2.2.2.2)).trans hHeld.2.2.2.2.2.2⟩ (fun hHeld => ?_)⟩
      clear hK K
      refine norm_ (a' := ?_) ?_ ?_
      rotate_left
      · show Act.put _ (some 22) _ = _
        simp only [Act.put, List.setIfInBounds_toArray, List.set_cons_zero, List.set_cons_succ, i64_w, i32_w]
        rfl
      refine pure_ (i := 4) (N := some 24) (v := ?_) (a' := ?_) #[true, true, true, true, true, true, true, true, true, true, true, true, true, true, true, true, true, false, false] rfl rfl (by kernel_rfl) (fun _ _ _ h => h) (Or.inl ⟨by rfl, ?_⟩) ?_ ?_
      rotate_left
      · intro w'
        go_simp
        with_reducible rfl
      rotate_left
      · simp only [Act.put, List.setIfInBounds_toArray, List.set_cons_zero, List.set_cons_succ, i64_w, i32_w]
        rfl
      refine pure_ (i := 17) (N := some 37) (v := ?_) (a' := ?_) #[true, true, true, true, true, true, true, true, true, true, true, true, true, true, true, true, true, true, false] rfl rfl (by kernel_rfl) (fun _ _ _ h => h) (Or.inl ⟨by rfl, ?_⟩) ?_ ?_
      rotate_left
      · intro w'
        go_simp
        with_reducible rfl
      rotate_left
      · simp only [Act.put, List.setIfInBounds_toArray, List.set_cons_zero, List.set_cons_succ, i64_w, i32_w]
        rfl
      have hbd : Below wr.heap.size wr w5 := below_step (below_drew (Below.refl _ _)) hb
      have HO5 := Kd.R_below HO.out hbd
      obtain ⟨hx, hf⟩ := Kd.R_celln 0 HO5 ((3 + k : Nat) : Int) (by omega) (by omega)
      have HPT := Kd.R_putg HO5 ((3 + k : Nat) : Int) (wrap64 (p + wrap64 (4 * q)))
      rw [Int.toNat_natCast] at hx hf HPT
      refine last_ (i := 18) (N := none) #[true, true, true, true, true, true, true, true, true, true, true, true, true, true, true, true, true, true, true] rfl rfl (by kernel_rfl) (by decide) (fun K hK => ?_)
      refine skip_ (w1 := w5.setCell ⟨go, 3 + k, none⟩ (.int .i64 (wrap64 (p + wrap64 (4 * q))))) (by rfl) rfl (by first | (go_simp; done) | (go_simp; rfl)) ?_
      refine hK.out _ _ (done_ (by kernel_rfl) ?_)
      clear hK K
      have HOv := HPT.1
      have HBd := below_step HB.out hbd
      obtain ⟨w6, hw⟩ : ∃ w6, w5.setCell ⟨go, 3 + k, none⟩ (.int .i64 (wrap64 (p + wrap64 (4 * q)))) = w6 := ⟨_, rfl⟩
      have HB6 := Aside0.mk (show Below w.heap.size w w6 by rw [← hw]; exact below_set HBd HGo.out)
      have BKb6 := Aside0.mk (show w6.heap[gb]? = some (.cells (bkCells s A c L) 27 (0, 0)) by rw [← hw]; exact blk_far (blk_below BKgb.out hbd) NBO.out _)
      have BKc6 := Aside0.mk (show w6.heap[gc]? = some (.cells #[.int .i64 a, .int .i64 b, .int .i64 d] 29 (0, 0)) by rw [← hw]; exact blk_far (blk_below BKgc.out hbd) NCO.out _)
      have HO6 := Aside0.mk (show Kd.R (Kd.int .i64) 3 w6 w.heap.size (fun _ => True) (.slice (some ⟨go, 0, none⟩) N co) (setN (fun i => 3 + i) (regV (L 6) (L 7)) (k + 1) v0) by rw [← hw, setN, regV, HPQ.out.1, HPQ.out.2]; exact HOv)
      rw [hw]
      clear hw3 hN0 hNt HOv HPT HBd hbd HO5 hx hf hw hb hHeld f7 f8 hc6 hc7 HO HB BKgb BKgc fc0 fc1 fc2 zc0 zc1 zc2
      go_wp2
      go_roundg (a + 1 - (k + 1))
      case measure => omega
      case rel => exact ⟨k + 1, by omega, rfl, congrArg (Value.int .i64) (show _ = ((k + 1 : Nat) : Int) by have := HLE.out; unfold wrap64; omega), BKc6, BKb6, HO6, HB6⟩
    · have hka : a = k := by omega
      subst hka
      clear hlt
      go_wp2_with fail
      have fc0 : wr.cell? ⟨gc, 0, none⟩ = some (.int .i64 a) := (blk_cell BKgc.out 0).trans rfl
      have fc1 : wr.cell? ⟨gc, 1, none⟩ = some (.int .i64 b) := (blk_cell BKgc.out 1).trans rfl
      have fc2 : wr.cell? ⟨gc, 2, none⟩ = some (.int .i64 d) := (blk_cell BKgc.out 2).trans rfl
      have zc0 := blk_frozen BKgc.out 0
      have zc1 := blk_frozen BKgc.out 1
      have zc2 := blk_frozen BKgc.out 2
      have f7 : wr.cell? ⟨gb, 1, none⟩ = some (.slice (A 0) (L 0).length (c 0)) := (blk_cell BKgb.out 1).trans rfl
      have hco : N ≤ co := (Kd.R_reads' HO.out).2.1
      have hNo : 7 + 2 * a + (L 0).length ≤ N := by have := HN.out; have := HNN.out; have := HLE.out; have := H0.out; omega
      have hNo1 : 7 + 2 * a < N := by have := HN.out; have := HNN.out; have := HLE.out; omega
      obtain ⟨i0z, hi0z, _, hszz, _⟩ := info_parts info3
      obtain ⟨dp, hdp⟩ : ∃ dp, (if co = (7 + 2 * (a : Int)).toNat then (some (⟨go, 0, none⟩ : Addr)) else (some (⟨go, 0, none⟩ : Addr)).map (·.add ((7 + 2 * (a : Int)).toNat * 1))) = dp := ⟨_, rfl⟩
      have hcut := cut_from (P := Try.prog) 24 3 .i64 Try.underlying24 hi0z 1 hszz (some ⟨go, 0, none⟩) N co (7 + 2 * (a : Int)) (by omega) (by omega)
      have hoff : (7 + 2 * (a : Int)).toNat = 7 + 2 * a := by omega
      rw [hdp] at hcut
      rw [hoff] at hdp hcut
      have HDP := Aside0.mk (show dp = some ⟨go, 7 + 2 * a, none⟩ by rw [← hdp]; exact cut_at hNo1 hco)
      clear hdp hi0z hszz hoff
      refine start_ (n := 7) (S := fun w' => w'.cell? ⟨gc, 0, none⟩ = some (.int .i64 a) ∧ w'.cell? ⟨gc, 1, none⟩ = some (.int .i64 b) ∧ w'.cell? ⟨gc, 2, none⟩ = some (.int .i64 d) ∧ w'.cell? ⟨gb, 1, none⟩ = some (.slice (A 0) (L 0).length (c 0))) (ds := [6]) #[false, false, false, false, false, false, false] (by kernel_rfl) rfl rfl (⟨fc0, fc1, fc2, f7⟩) (fun hHeld => ?_)
      refine pure_ (i := 0) (N := some 39) (v := ?_) (a' := ?_) #[true, false, false, false, false, false, false] rfl rfl (by kernel_rfl) (fun _ _ _ h => h) (Or.inl ⟨by rfl, ?_⟩) ?_ ?_
      rotate_left
      · intro w'
        go_simp
        with_reducible rfl
      rotate_left
      · simp only [Act.put, List.setIfInBounds_toArray, List.set_cons_zero, List.set_cons_succ, i64_w, i32_w]
        rfl
      refine pure_ (i := 4) (N := some 43) (v := ?_) (a' := ?_) #[true, false, false, false, true, false, false] rfl rfl (by kernel_rfl) (fun _ _ _ h => h) (Or.inl ⟨by rfl, ?_⟩) ?_ ?_
      rotate_left
      · intro w'
        go_simp
        with_reducible rfl
      rotate_left
      · simp only [Act.put, List.setIfInBounds_toArray, List.set_cons_zero, List.set_cons_succ, i64_w, i32_w]
        rfl
      refine take_ (i := 1) (N := some 40) (v := ?_) (a' := ?_) #[true, true, false, false, true, false, false] rfl rfl (by kernel_rfl) (fun _ _ _ h => h) (Or.inl ⟨by rfl, ?_⟩) hHeld ?_ ?_
      rotate_left
      · rintro w' ⟨s0, s1, s2, s3⟩
        go_simp
        with_reducible rfl
      rotate_left
      · simp only [Act.put, List.setIfInBounds_toArray, List.set_cons_zero, List.set_cons_succ, i64_w, i32_w]
        rfl
      refine take_ (i := 5) (N := some 44) (v := ?_) (a' := ?_) #[true, true, false, false, true, true, false] rfl rfl (by kernel_rfl) (fun _ _ _ h => h) (Or.inl ⟨by rfl, ?_⟩) hHeld ?_ ?_
      rotate_left
      · rintro w' ⟨s0, s1, s2, s3⟩
        go_simp
        with_reducible rfl
      rotate_left
      · simp only [Act.put, List.setIfInBounds_toArray, List.set_cons_zero, List.set_cons_succ, i64_w, i32_w]
        rfl
      refine one_ (i := 2) (N := some 41) #[true, true, true, false, true, true, false] rfl rfl (by kernel_rfl) (by decide) (fun K hK => ?_)
      refine goes_ Try.func83 (by kernel_rfl) rfl #[cfgV a b d] (by rfl) rfl rfl (by (try simp only [List.map_toArray, List.map_cons, List.map_nil]); first | done | rfl) ?_
      refine (pageAt_calls a b d HLE.out.1 HLE.out.2 _).mono ?_
      rintro e w5 ⟨rfl, hb⟩
      refine ⟨_, rfl, hK.out _ _ ⟨(hb.cell (World.block_lt_of_cell? _ _ hHeld.1)).trans hHeld.1, (hb.cell (World.block_lt_of_cell? _ _ hHeld.2.1)).trans hHeld.2.1, (hb.cell (World.block_lt_of_cell? _ _ hHeld.2.2.1)).trans hHeld.2.2.1, (hb.cell (World.block_lt_of_cell? _ _ hHeld.2.2.2)).trans hHeld.2.2.2⟩ (fun hHeld => ?_)⟩
      clear hK K
      refine norm_ (a' := ?_) ?_ ?_
      rotate_left
      · show Act.put _ (some 41) _ = _
        simp only [Act.put, List.setIfInBounds_toArray, List.set_cons_zero, List.set_cons_succ, i64_w, i32_w]
        rfl
      refine pure_ (i := 3) (N := some 42) (v := ?_) (a' := ?_) #[true, true, true, true, true, true, false] rfl rfl (by kernel_rfl) (fun _ _ _ h => h) (Or.inl ⟨by rfl, ?_⟩) ?_ ?_
      rotate_left
      · intro w'
        go_simp
        with_reducible rfl
      rotate_left
      · simp only [Act.put, List.setIfInBounds_toArray, List.set_cons_zero, List.set_cons_succ, i64_w, i32_w]
        rfl
      have hbd : Below wr.heap.size wr w5 := below_step (below_drew (Below.refl _ _)) hb
      refine last_ (i := 6) (N := some 45) #[true, true, true, true, true, true, true] rfl rfl (by kernel_rfl) (by decide) (fun K hK => ?_)
      refine copy_step (go := go) (N := N) (co := co) (off := 7 + 2 * a) (l := L 0) (A := A 0) (c := c 0) (dp := dp) (by rfl) rfl (.tmp 42) (.tmp 44) 24 24 rfl Try.underlying24 (by kernel_rfl) (by rfl) (by rfl) (Kd.R_below HO.out hbd) ((HR.out 0 (by omega)).below (below_step HB.out hbd)).1 hNo (fun _ => HDP.out) ?_
      intro w6 hO6 hg6
      refine hK.out _ _ (done_ (by kernel_rfl) ?_)
      have HO6 := Aside0.mk hO6
      have HB6 := Aside0.mk ((below_step HB.out hbd).grown hg6 (below_step HB.out hbd).size (fun k hk => by injection hk with hk; rw [← hk]; exact HGo.out))
      have BKb6 := Aside0.mk (blk_grown (blk_below BKgb.out hbd) hg6 (fun e => NBO.out (Option.some.inj e)))
      have BKc6 := Aside0.mk (blk_grown (blk_below BKgc.out hbd) hg6 (fun e => NCO.out (Option.some.inj e)))
      clear hK K hbd hb hHeld hcut HO HB BKgb BKgc f7 hO6 hg6 fc0 fc1 fc2 zc0 zc1 zc2
      have HO := HO6
      have HB := HB6
      have BKgb := BKb6
      have BKgc := BKc6
      clear HO6 HB6 BKb6 BKc6
      go_wp2_with fail
      have fc0 : w6.cell? ⟨gc, 0, none⟩ = some (.int .i64 a) := (blk_cell BKgc.out 0).trans rfl
      have fc1 : w6.cell? ⟨gc, 1, none⟩ = some (.int .i64 b) := (blk_cell BKgc.out 1).trans rfl
      have fc2 : w6.cell? ⟨gc, 2, none⟩ = some (.int .i64 d) := (blk_cell BKgc.out 2).trans rfl
      have zc0 := blk_frozen BKgc.out 0
      have zc1 := blk_frozen BKgc.out 1
      have zc2 := blk_frozen BKgc.out 2
      have f7 : w6.cell? ⟨gb, 6, none⟩ = some (.slice (A 5) (L 5).length (c 5)) := (blk_cell BKgb.out 6).trans rfl
      have hco : N ≤ co := (Kd.R_reads' HO.out).2.1
      have hNo : 7 + 2 * a + b + (L 5).length ≤ N := by have := HN.out; have := HNN.out; have := HLE.out; have := H5.out; omega
      have hNo1 : 7 + 2 * a + b < N := by have := HN.out; have := HNN.out; have := HLE.out; omega
      obtain ⟨i0z, hi0z, _, hszz, _⟩ := info_parts info3
      obtain ⟨dp, hdp⟩ : ∃ dp, (if co = (7 + 2 * (a : Int) + (b : Int)).toNat then (some (⟨go, 0, none⟩ : Addr)) else (some (⟨go, 0, none⟩ : Addr)).map (·.add ((7 + 2 * (a : Int) + (b : Int)).toNat * 1))) = dp := ⟨_, rfl⟩
      have hcut := cut_from (P := Try.prog) 24 3 .i64 Try.underlying24 hi0z 1 hszz (some ⟨go, 0, none⟩) N co (7 + 2 * (a : Int) + (b : Int)) (by omega) (by omega)
      have hoff : (7 + 2 * (a : Int) + (b : Int)).toNat = 7 + 2 * a + b := by omega
      rw [hdp] at hcut
      rw [hoff] at hdp hcut
      have HDP := Aside0.mk (show dp = some ⟨go, 7 + 2 * a + b, none⟩ by rw [← hdp]; exact cut_at hNo1 hco)
      clear hdp hi0z hszz hoff
      refine start_ (n := 7) (S := fun w' => w'.cell? ⟨gc, 0, none⟩ = some (.int .i64 a) ∧ w'.cell? ⟨gc, 1, none⟩ = some (.int .i64 b) ∧ w'.cell? ⟨gc, 2, none⟩ = some (.int .i64 d) ∧ w'.cell? ⟨gb, 6, none⟩ = some (.slice (A 5) (L 5).length (c 5))) (ds := [6]) #[false, false, false, false, false, false, false] (by kernel_rfl) rfl rfl (⟨fc0, fc1, fc2, f7⟩) (fun hHeld => ?_)
      refine pure_ (i := 0) (N := some 46) (v := ?_) (a' := ?_) #[true, false, false, false, false, false, false] rfl rfl (by kernel_rfl) (fun _ _ _ h => h) (Or.inl ⟨by rfl, ?_⟩) ?_ ?_
      rotate_left
      · intro w'
        go_simp
        with_reducible rfl
      rotate_left
      · simp only [Act.put, List.setIfInBounds_toArray, List.set_cons_zero, List.set_cons_succ, i64_w, i32_w]
        rfl
      refine pure_ (i := 4) (N := some 50) (v := ?_) (a' := ?_) #[true, false, false, false, true, false, false] rfl rfl (by kernel_rfl) (fun _ _ _ h => h) (Or.inl ⟨by rfl, ?_⟩) ?_ ?_
      rotate_left
      · intro w'
        go_simp
        with_reducible rfl
      rotate_left
      · simp only [Act.put, List.setIfInBounds_toArray, List.set_cons_zero, List.set_cons_succ, i64_w, i32_w]
        rfl
      refine take_ (i := 1) (N := some 47) (v := ?_) (a' := ?_) #[true, true, false, false, true, false, false] rfl rfl (by kernel_rfl) (fun _ _ _ h => h) (Or.inl ⟨by rfl, ?_⟩) hHeld ?_ ?_
      rotate_left
      · rintro w' ⟨s0, s1, s2, s3⟩
        go_simp
        with_reducible rfl
      rotate_left
      · simp only [Act.put, List.setIfInBounds_toArray, List.set_cons_zero, List.set_cons_succ, i64_w, i32_w]
        rfl
      refine take_ (i := 5) (N := some 51) (v := ?_) (a' := ?_) #[true, true, false, false, true, true, false] rfl rfl (by kernel_rfl) (fun _ _ _ h => h) (Or.inl ⟨by rfl, ?_⟩) hHeld ?_ ?_
      rotate_left
      · rintro w' ⟨s0, s1, s2, s3⟩
        go_simp
        with_reducible rfl
      rotate_left
      · simp only [Act.put, List.setIfInBounds_toArray, List.set_cons_zero, List.set_cons_succ, i64_w, i32_w]
        rfl
      refine one_ (i := 2) (N := some 48) #[true, true, true, false, true, true, false] rfl rfl (by kernel_rfl) (by decide) (fun K hK => ?_)
      refine goes_ Try.func84 (by kernel_rfl) rfl #[cfgV a b d] (by rfl) rfl rfl (by (try simp only [List.map_toArray, List.map_cons, List.map_nil]); first | done | rfl) ?_
      refine (tagAt_calls a b d HLE.out.1 HLE.out.2 _).mono ?_
      rintro e w5 ⟨rfl, hb⟩
      refine ⟨_, rfl, hK.out _ _ ⟨(hb.cell (World.block_lt_of_cell? _ _ hHeld.1)).trans hHeld.1, (hb.cell (World.block_lt_of_cell? _ _ hHeld.2.1)).trans hHeld.2.1, (hb.cell (World.block_lt_of_cell? _ _ hHeld.2.2.1)).trans hHeld.2.2.1, (hb.cell (World.block_lt_of_cell? _ _ hHeld.2.2.2)).trans hHeld.2.2.2⟩ (fun hHeld => ?_)⟩
      clear hK K
      refine norm_ (a' := ?_) ?_ ?_
      rotate_left
      · show Act.put _ (some 48) _ = _
        simp only [Act.put, List.setIfInBounds_toArray, List.set_cons_zero, List.set_cons_succ, i64_w, i32_w]
        rfl
      refine pure_ (i := 3) (N := some 49) (v := ?_) (a' := ?_) #[true, true, true, true, true, true, false] rfl rfl (by kernel_rfl) (fun _ _ _ h => h) (Or.inl ⟨by rfl, ?_⟩) ?_ ?_
      rotate_left
      · intro w'
        go_simp
        with_reducible rfl
      rotate_left
      · simp only [Act.put, List.setIfInBounds_toArray, List.set_cons_zero, List.set_cons_succ, i64_w, i32_w]
        rfl
      have hbd : Below w6.heap.size w6 w5 := below_step (below_drew (Below.refl _ _)) hb
      refine last_ (i := 6) (N := some 52) #[true, true, true, true, true, true, true] rfl rfl (by kernel_rfl) (by decide) (fun K hK => ?_)
      refine copy_step (go := go) (N := N) (co := co) (off := 7 + 2 * a + b) (l := L 5) (A := A 5) (c := c 5) (dp := dp) (by rfl) rfl (.tmp 49) (.tmp 51) 24 24 rfl Try.underlying24 (by kernel_rfl) (by rfl) (by rfl) (Kd.R_below HO.out hbd) ((HR.out 5 (by omega)).below (below_step HB.out hbd)).1 hNo (fun _ => HDP.out) ?_
      intro w7 hO6 hg6
      refine hK.out _ _ (done_ (by kernel_rfl) ?_)
      have HO6 := Aside0.mk hO6
      have HB6 := Aside0.mk ((below_step HB.out hbd).grown hg6 (below_step HB.out hbd).size (fun k hk => by injection hk with hk; rw [← hk]; exact HGo.out))
      have BKb6 := Aside0.mk (blk_grown (blk_below BKgb.out hbd) hg6 (fun e => NBO.out (Option.some.inj e)))
      have BKc6 := Aside0.mk (blk_grown (blk_below BKgc.out hbd) hg6 (fun e => NCO.out (Option.some.inj e)))
      clear hK K hbd hb hHeld hcut HO HB BKgb BKgc f7 hO6 hg6 fc0 fc1 fc2 zc0 zc1 zc2
      have HO := HO6
      have HB := HB6
      have BKgb := BKb6
      have BKgc := BKc6
      clear HO6 HB6 BKb6 BKc6
      obtain ⟨v3, hv3⟩ : ∃ v3, setN (fun i => 7 + 2 * a + b + i) (fun i => (L 5).getD i 0) (L 5).length (setN (fun i => 7 + 2 * a + i) (fun i => (L 0).getD i 0) (L 0).length (setN (fun i => 3 + i) (regV (L 6) (L 7)) a v0)) = v3 := ⟨_, rfl⟩
      have HV3 := Aside0.mk hv3
      rw [hv3] at HO
      clear hv3
      have g2 : w7.cell? ⟨gb, 2, none⟩ = some (.slice (A 1) (L 1).length (c 1)) := (blk_cell BKgb.out 2).trans rfl
      have g3 : w7.cell? ⟨gb, 3, none⟩ = some (.slice (A 2) (L 2).length (c 2)) := (blk_cell BKgb.out 3).trans rfl
      have g4 : w7.cell? ⟨gb, 4, none⟩ = some (.slice (A 3) (L 3).length (c 3)) := (blk_cell BKgb.out 4).trans rfl
      have g5 : w7.cell? ⟨gb, 5, none⟩ = some (.slice (A 4) (L 4).length (c 4)) := (blk_cell BKgb.out 5).trans rfl
      go_wp2_with fail
      clear g2 g3 g4 g5
      go_loopg [55] 5 (fun kq v55 w' => ∃ (k : Nat), k ≤ 4 ∧ kq = 5 - k ∧ v55 = .int .i64 k ∧ Aside0 (w'.heap[gc]? = some (.cells #[.int .i64 a, .int .i64 b, .int .i64 d] 29 (0, 0))) ∧ Aside0 (w'.heap[gb]? = some (.cells (bkCells s A c L) 27 (0, 0))) ∧ Aside0 (Kd.R (Kd.int .i64) 3 w' w.heap.size (fun _ => True) (.slice (some ⟨go, 0, none⟩) N co) (layH a b L k v3)) ∧ Aside0 (Below w.heap.size w w'))
      case atStart => exact ⟨0, by omega, by omega, rfl, BKgc, BKgb, HO, HB⟩
      case round =>
        clear HB BKgc BKgb HO
        obtain ⟨k, hk4, rfl, rfl, BKgc, BKgb, HO, HB⟩ := hrel
        by_cases hlt : k < 4
        · have hi4 : (k : Int) < 4 := by omega
          have k0 : (0 : Int) ≤ (k : Int) := by omega
          have hax := index4 A c L k hlt
          have fc0 : wr.cell? ⟨gc, 0, none⟩ = some (.int .i64 a) := (blk_cell BKgc.out 0).trans rfl
          have fc1 : wr.cell? ⟨gc, 1, none⟩ = some (.int .i64 b) := (blk_cell BKgc.out 1).trans rfl
          have fc2 : wr.cell? ⟨gc, 2, none⟩ = some (.int .i64 d) := (blk_cell BKgc.out 2).trans rfl
          have zc0 := blk_frozen BKgc.out 0
          have zc1 := blk_frozen BKgc.out 1
          have zc2 := blk_frozen BKgc.out 2
          go_wp2_with fail
          refine (headAt_calls a b d HLE.out.1 HLE.out.2 _).mono ?_
          rintro e w5 ⟨rfl, hb⟩
          have HO5 := Aside0.mk (Kd.R_below HO.out hb)
          have HB5 := Aside0.mk (below_step HB.out hb)
          have BKb5 := Aside0.mk (blk_below BKgb.out hb)
          have BKc5 := Aside0.mk (blk_below BKgc.out hb)
          clear hb fc0 fc1 fc2 zc0 zc1 zc2 HO HB BKgb BKgc hax
          have hl64 : ((L (k + 1)).length : Int) ≤ 9223372036854775807 := by have := (HR.out (k + 1) (by omega)).1.2.1; omega
          have ha4 : (a : Int) ≤ 4 := by have := HLE.out; omega
          go_wp2_with fail
          go_loopg [9, 65] ((L (k + 1)).length + 1) (fun kq v9 v65 w' => ∃ (i t : Nat), i ≤ (L (k + 1)).length ∧ kq = (L (k + 1)).length + 1 - i ∧ v65 = .int .i64 i ∧ v9 = .int .i64 t ∧ Aside0 ((chainAt (3 + 2 * a + k) (7 + 2 * a + 9 * b) (L (k + 1))) i = t) ∧ Aside0 (w'.heap[gc]? = some (.cells #[.int .i64 a, .int .i64 b, .int .i64 d] 29 (0, 0))) ∧ Aside0 (w'.heap[gb]? = some (.cells (bkCells s A c L) 27 (0, 0))) ∧ Aside0 (Kd.R (Kd.int .i64) 3 w' w.heap.size (fun _ => True) (.slice (some ⟨go, 0, none⟩) N co) (setN (chainAt (3 + 2 * a + k) (7 + 2 * a + 9 * b) (L (k + 1))) (fun i => wrap64 ((L (k + 1)).getD i 0 + 1)) i (layH a b L k v3))) ∧ Aside0 (Below w.heap.size w w'))
          case atStart => exact ⟨0, 3 + 2 * a + k, by omega, by omega, rfl, congrArg (Value.int .i64) (by omega), ⟨rfl⟩, BKc5, BKb5, HO5, HB5⟩
          case round =>
            clear HB5 BKc5 BKb5 HO5
            obtain ⟨i, t, hil, rfl, rfl, rfl, HT, BKgc, BKgb, HO, HB⟩ := hrel
            by_cases hlti : i < (L (k + 1)).length
            · have i0 : (0 : Int) ≤ (i : Int) := by omega
              have i1 : (i : Int) < ((L (k + 1)).length : Int) := by omega
              obtain ⟨ad, eak, hxk⟩ := at_nat ((HR.out (k + 1) (by omega)).below HB.out) i hlti
              obtain ⟨hx0, hx1⟩ := HIN.out k hlt i hlti
              have hb6 : (b : Int) ≤ 6 := by have := HLE.out; omega
              obtain ⟨x, hx⟩ : ∃ x, (L (k + 1)).getD i 0 = x := ⟨_, rfl⟩
              rw [hx] at hxk hx0 hx1
              have HX := Aside0.mk hx
              have ht : t < N := by
                rw [← HT.out]
                refine Nat.lt_of_lt_of_le (chainAt_lt a b L k i hlt (fun j hj => HIN.out k hlt j (by omega))) ?_
                have := HN.out; have := HNN.out; omega
              have ht0 : (0 : Int) ≤ (t : Int) := by omega
              have ht1 : (t : Int) < (N : Int) := by omega
              have hwx : wrap64 (x + 1) = x + 1 := by unfold wrap64; omega
              have HWX := Aside0.mk hwx
              obtain ⟨hx9, hf9⟩ := Kd.R_celln 0 HO.out (t : Int) ht0 ht1
              have HPT := Kd.R_putg HO.out (t : Int) (x + 1)
              rw [Int.toNat_natCast] at hx9 hf9 HPT
              have HP := Aside0.mk HPT.1
              rw [eak]
              clear hx hwx HPT ht
              go_wp2_with (first | ((with_reducible refine gate_store (t := 3) (p := 73) rfl ?_); refine store_event (t := 3) (p := 73) (v := ?vo_1) (w1 := (wr.setCell ⟨go, t, none⟩ (.int .i64 (x + 1)))) ?hg ?ho ?hn ?hr ?_; (case ho => rfl); (case hg => rfl); (case hn => rfl); (case hr => first | (go_simp; done) | (go_simp; rfl)); intro w6 hw; have HO6 := Aside0.mk (show Kd.R (Kd.int .i64) 3 w6 w.heap.size (fun _ => True) (.slice (some ⟨go, 0, none⟩) N co) (setN (chainAt (3 + 2 * a + k) (7 + 2 * a + 9 * b) (L (k + 1))) (fun i => wrap64 ((L (k + 1)).getD i 0 + 1)) (i + 1) (layH a b L k v3)) by rw [hw, setN, HX.out, HWX.out, HT.out]; exact HP.out); have HB6 := Aside0.mk (show Below w.heap.size w w6 by rw [hw]; exact below_set HB.out HGo.out); have BKb6 := Aside0.mk (show w6.heap[gb]? = some (.cells (bkCells s A c L) 27 (0, 0)) by rw [hw]; exact blk_far BKgb.out NBO.out _); have BKc6 := Aside0.mk (show w6.heap[gc]? = some (.cells #[.int .i64 a, .int .i64 b, .int .i64 d] 29 (0, 0)) by rw [hw]; exact blk_far BKgc.out NCO.out _); clear HP HO HB BKgb BKgc hxk hx9 hf9; have fc0 : w6.cell? ⟨gc, 0, none⟩ = some (.int .i64 a) := (blk_cell BKc6.out 0).trans rfl; have fc1 : w6.cell? ⟨gc, 1, none⟩ = some (.int .i64 b) := (blk_cell BKc6.out 1).trans rfl; have fc2 : w6.cell? ⟨gc, 2, none⟩ = some (.int .i64 d) := (blk_cell BKc6.out 2).trans rfl; have zc0 := blk_frozen BKc6.out 0; have zc1 := blk_frozen BKc6.out 1; have zc2 := blk_frozen BKc6.out 2; clear hw))
              refine (linkAt_calls a b d HLE.out.1 HLE.out.2 _).mono ?_
              rintro e w7 ⟨rfl, hbd⟩
              have HO7 := Aside0.mk (Kd.R_below HO6.out hbd)
              have HB7 := Aside0.mk (below_step HB6.out hbd)
              have BKb7 := Aside0.mk (blk_below BKb6.out hbd)
              have BKc7 := Aside0.mk (blk_below BKc6.out hbd)
              clear hbd HO6 HB6 BKb6 BKc6 fc0 fc1 fc2 zc0 zc1 zc2 HWX
              have hln := (HR.out (k + 1) (by omega)).1.2.1
              go_wp2
              rw [← eak]
              clear eak
              go_roundg ((L (k + 1)).length + 1 - (i + 1))
              case measure => omega
              case rel => exact ⟨i + 1, 7 + 2 * a + 9 * b + x.toNat, by omega, rfl, congrArg (Value.int .i64) (by (try unfold wrap64); omega), congrArg (Value.int .i64) (by (try unfold wrap64); omega), ⟨by rw [chainAt, HX.out]⟩, BKc7, BKb7, HO7, HB7⟩
            · have hil2 : i = (L (k + 1)).length := by omega
              subst hil2
              have HOn := Aside0.mk (show Kd.R (Kd.int .i64) 3 wr w.heap.size (fun _ => True) (.slice (some ⟨go, 0, none⟩) N co) (layH a b L (k + 1) v3) from HO.out)
              clear HO
              go_wp2
              go_roundg (5 - (k + 1))
              case measure => omega
              case rel => exact ⟨k + 1, by omega, rfl, by go_num, BKgc, BKgb, HOn, HB⟩
        · have hk4 : k = 4 := by omega
          subst hk4
          clear hlt
          have hfin : layH a b L 4 v3 = layV a b L := by
            unfold layV
            rw [← HV3.out, ← HV0.out]
            congr 6
            try omega
          have HF := Aside0.mk hfin
          clear hfin
          go_wp2
          go_ret
          obtain ⟨A', c', hv, ho⟩ := SlO.of HO.out
          rw [HF.out] at hv ho
          exact ⟨A', c', by rw [← hv]; rfl, ho, HB.out⟩


/-- What is known of the blocks from lo on and below hi. -/
structure Res where
  lo : Nat
  hi : Nat
  P : World → Prop
def Res.Stable (r : Res) : Prop := ∀ w w' : World, r.P w → w.heap.size ≤ w'.heap.size → (∀ k, r.lo ≤ k → k < r.hi → w'.heap[k]? = w.heap[k]?) → r.P w'
def blkP (g : Nat) (cs : Array Value) (t : TypeId) (w : World) : Prop := w.heap[g]? = some (.cells cs t (0, 0))
abbrev Blk (g : Nat) (cs : Array Value) (t : TypeId) : Res := ⟨g, g + 1, blkP g cs t⟩
theorem Blk.stable (g : Nat) (cs : Array Value) (t : TypeId) : (Blk g cs t).Stable := fun w w' h _ hk => (hk g (Nat.le_refl g) (Nat.lt_succ_self g)).trans h
/-- A walk's memory: what was there is as it was; what is known of what was made. -/
structure St (w0 w : World) (rs : List Res) : Prop where
  base : Below w0.heap.size w0 w
  has : ∀ r ∈ rs, r.P w ∧ r.Stable ∧ w0.heap.size ≤ r.lo ∧ r.lo ≤ r.hi ∧ r.hi ≤ w.heap.size
  apart : rs.Pairwise fun r q => r.hi ≤ q.lo ∨ q.hi ≤ r.lo
namespace St
variable {w0 w w' : World} {rs : List Res}
theorem start (w : World) : St w w [] := ⟨Below.refl _ _, fun r h => (by cases h), List.Pairwise.nil⟩
theorem call (h : St w0 w rs) (hb : Below w.heap.size w w') : St w0 w' rs :=
  ⟨below_step h.base hb, fun r hr => by
    obtain ⟨h1, h2, h3, h4, h5⟩ := h.has r hr
    exact ⟨h2 w w' h1 hb.size (fun k hk hk' => hb.block k (by omega)), h2, h3, h4, Nat.le_trans h5 hb.size⟩, h.apart⟩
theorem drew (h : St w0 w rs) : St w0 w.drew rs := ⟨below_drew h.base, fun r hr => by
    obtain ⟨h1, h2, h3, h4, h5⟩ := h.has r hr
    exact ⟨h2 w _ h1 (Nat.le_refl _) (fun k hk hk' => rfl), h2, h3, h4, h5⟩, h.apart⟩
theorem drewN (h : St w0 w rs) (n : Nat) : St w0 (w.drewN n) rs := ⟨pw_below_drewN h.base n, fun r hr => by
    obtain ⟨h1, h2, h3, h4, h5⟩ := h.has r hr
    exact ⟨h2 w _ h1 (Nat.le_refl _) (fun k hk hk' => rfl), h2, h3, h4, h5⟩, h.apart⟩
theorem size (h : St w0 w rs) : w0.heap.size ≤ w.heap.size := h.base.size
theorem mem {r : Res} (h : St w0 w rs) (i : Nat) (hi : rs[i]? = some r) : r.P w ∧ r.Stable ∧ w0.heap.size ≤ r.lo ∧ r.lo ≤ r.hi ∧ r.hi ≤ w.heap.size := h.has r (List.mem_of_getElem? hi)
theorem get {r : Res} (h : St w0 w rs) (i : Nat) (hi : rs[i]? = some r) : r.P w := (h.mem i hi).1
theorem le {r : Res} (h : St w0 w rs) (i : Nat) (hi : rs[i]? = some r) : r.hi ≤ w.heap.size := (h.mem i hi).2.2.2.2
theorem ge {r : Res} (h : St w0 w rs) (i : Nat) (hi : rs[i]? = some r) : w0.heap.size ≤ r.lo := (h.mem i hi).2.2.1
theorem blk {g : Nat} {cs : Array Value} {t : TypeId} (h : St w0 w rs) (i : Nat) (hi : rs[i]? = some (Blk g cs t)) : w.heap[g]? = some (.cells cs t (0, 0)) := (h.mem i hi).1
theorem cell {g : Nat} {cs : Array Value} {t : TypeId} (h : St w0 w rs) (i : Nat) (hi : rs[i]? = some (Blk g cs t)) (j : Nat) : w.cell? ⟨g, j, none⟩ = cs[j]? := blk_cell (h.blk i hi) j
theorem frozen {g : Nat} {cs : Array Value} {t : TypeId} (h : St w0 w rs) (i : Nat) (hi : rs[i]? = some (Blk g cs t)) (j : Nat) : w.frozen? ⟨g, j, none⟩ = false := blk_frozen (h.blk i hi) j
/-- What is new lies behind all that was. -/
theorem new (h : St w0 w rs) (hb : Below w.heap.size w w') {P : World → Prop} (hP : P w') (hs : Res.Stable ⟨w.heap.size, w'.heap.size, P⟩) : St w0 w' (⟨w.heap.size, w'.heap.size, P⟩ :: rs) := by
  have h1 := h.call hb
  refine ⟨h1.base, fun r hr => ?_, List.pairwise_cons.2 ⟨fun r hr => Or.inr (h.has r hr).2.2.2.2, h.apart⟩⟩
  rcases List.mem_cons.1 hr with rfl | hr
  · exact ⟨hP, hs, h.base.size, hb.size, Nat.le_refl _⟩
  · exact h1.has r hr
theorem box (h : St w0 w rs) {g : Nat} {cs : Array Value} {t : TypeId} (hg : g = w.heap.size) (hbox : w'.heap[g]? = some (.cells cs t (0, 0))) (hb : Below w.heap.size w w') : St w0 w' (Blk g cs t :: rs) := by
  have h1 := h.call hb
  refine ⟨h1.base, fun r hr => ?_, List.pairwise_cons.2 ⟨fun r hr => Or.inr (by rw [hg]; exact (h.has r hr).2.2.2.2), h.apart⟩⟩
  rcases List.mem_cons.1 hr with rfl | hr
  · exact ⟨hbox, Blk.stable g cs t, by rw [hg]; exact h.base.size, Nat.le_succ g, blk_lt hbox⟩
  · exact h1.has r hr
theorem drop1 {r : Res} (h : St w0 w (r :: rs)) : St w0 w rs := ⟨h.base, fun q hq => h.has q (List.mem_cons_of_mem _ hq), (List.pairwise_cons.1 h.apart).2⟩
theorem drop (h : St w0 w rs) (i : Nat) {rs' : List Res} (e : rs.eraseIdx i = rs') : St w0 w rs' := by
  subst e
  exact ⟨h.base, fun q hq => h.has q (List.mem_of_mem_eraseIdx hq), h.apart.sublist (List.eraseIdx_sublist ..)⟩
theorem nil (h : St w0 w rs) : St w0 w [] := ⟨h.base, fun r h => (by cases h), List.Pairwise.nil⟩
theorem pair_set {R : Res → Res → Prop} : ∀ {rs : List Res} {i : Nat} {r q : Res}, rs.Pairwise R → rs[i]? = some r → (∀ x, R r x → R q x) → (∀ x, R x r → R x q) → (rs.set i q).Pairwise R
  | [], _, _, _, h, hi, _, _ => by cases hi
  | x :: rs, 0, r, q, h, hi, h1, h2 => by
    simp only [List.getElem?_cons_zero, Option.some.injEq] at hi
    subst hi
    exact List.pairwise_cons.2 ⟨fun y hy => h1 y ((List.pairwise_cons.1 h).1 y hy), (List.pairwise_cons.1 h).2⟩
  | x :: rs, i + 1, r, q, h, hi, h1, h2 => by
    simp only [List.getElem?_cons_succ] at hi
    refine List.pairwise_cons.2 ⟨fun y hy => ?_, pair_set (List.pairwise_cons.1 h).2 hi h1 h2⟩
    rcases List.mem_or_eq_of_mem_set hy with hy | rfl
    · exact (List.pairwise_cons.1 h).1 y hy
    · exact h2 x ((List.pairwise_cons.1 h).1 r (List.mem_of_getElem? hi))
theorem apart_of : ∀ {rs : List Res} {i j : Nat} {r q : Res}, rs.Pairwise (fun r q => r.hi ≤ q.lo ∨ q.hi ≤ r.lo) → rs[i]? = some r → rs[j]? = some q → i ≠ j → r.hi ≤ q.lo ∨ q.hi ≤ r.lo
  | [], _, _, _, _, _, hi, _, _ => by cases hi
  | x :: rs, 0, 0, _, _, _, _, _, hn => absurd rfl hn
  | x :: rs, 0, j + 1, r, q, h, hi, hj, _ => by
    simp only [List.getElem?_cons_zero, Option.some.injEq] at hi
    subst hi
    simp only [List.getElem?_cons_succ] at hj
    exact (List.pairwise_cons.1 h).1 q (List.mem_of_getElem? hj)
  | x :: rs, i + 1, 0, r, q, h, hi, hj, _ => by
    simp only [List.getElem?_cons_zero, Option.some.injEq] at hj
    subst hj
    simp only [List.getElem?_cons_succ] at hi
    exact ((List.pairwise_cons.1 h).1 r (List.mem_of_getElem? hi)).symm
  | x :: rs, i + 1, j + 1, r, q, h, hi, hj, hn => by
    simp only [List.getElem?_cons_succ] at hi hj
    exact apart_of (List.pairwise_cons.1 h).2 hi hj (fun e => hn (by rw [e]))
theorem ne {r q : Res} (h : St w0 w rs) (i j : Nat) (hi : rs[i]? = some r) (hj : rs[j]? = some q) (hn : i ≠ j) : r.hi ≤ q.lo ∨ q.hi ≤ r.lo := apart_of h.apart hi hj hn
/-- Written: only blocks of the i-th resource have changed. -/
theorem put {r : Res} (h : St w0 w rs) (i : Nat) (hi : rs[i]? = some r) (hk : Keep r.lo r.hi w w') {P : World → Prop} (hP : P w') (hs : Res.Stable ⟨r.lo, r.hi, P⟩) {rs' : List Res} (e : rs.set i ⟨r.lo, r.hi, P⟩ = rs') : St w0 w' rs' := by
  subst e
  have hm := h.mem i hi
  refine ⟨Keep.below h.base hk hm.2.2.1, fun q hq => ?_, pair_set h.apart hi (fun _ hx => hx) (fun _ hx => hx)⟩
  obtain ⟨j, hj⟩ := List.mem_iff_getElem?.1 hq
  by_cases hij : i = j
  · subst hij
    have hlt : i < rs.length := (List.getElem?_eq_some_iff.1 hi).1
    rw [List.getElem?_set_self hlt] at hj
    obtain rfl := Option.some.inj hj
    exact ⟨hP, hs, hm.2.2.1, hm.2.2.2.1, Nat.le_trans hm.2.2.2.2 hk.size⟩
  · rw [List.getElem?_set_ne hij] at hj
    obtain ⟨h1, h2, h3, h4, h5⟩ := h.mem j hj
    have hd := h.ne i j hi hj hij
    exact ⟨h2 w w' h1 hk.size (fun k hk1 hk2 => hk.block k (by omega) (by omega)), h2, h3, h4, Nat.le_trans h5 hk.size⟩
/-- Written in the i-th resource, and something new. -/
theorem setCell {g : Nat} {cs cs' : Array Value} {t : TypeId} (h : St w0 w rs) (i : Nat) (hi : rs[i]? = some (Blk g cs t)) (j : Nat) (u : Value) (e : cs.setIfInBounds j u = cs') {rs' : List Res} (e2 : rs.set i (Blk g cs' t) = rs') : St w0 (w.setCell ⟨g, j, none⟩ u) rs' := by
  subst e
  exact h.put i hi ((Keep.refl g (g + 1) w).set (Nat.le_refl g) (Nat.lt_succ_self g) j u) (blk_set (h.blk i hi) j u) (Blk.stable g _ t) e2
theorem keep_row (w : World) (g : Nat) (cs : Array Value) : Keep g (g + 1) w (w.setRow g cs) := ⟨rfl, rfl, rfl, by simp, fun k hk hn => setRow_other w g k cs (by omega)⟩
theorem setRow {g : Nat} {cs cs' : Array Value} {t : TypeId} (h : St w0 w rs) (i : Nat) (hi : rs[i]? = some (Blk g cs t)) {rs' : List Res} (e2 : rs.set i (Blk g cs' t) = rs') : St w0 (w.setRow g cs') rs' :=
  h.put i hi (keep_row w g cs') (setRow_heap w g cs cs' t (0, 0) (h.blk i hi)) (Blk.stable g _ t) e2
/-- A resource of one's own, of another's: the blocks are others. -/
theorem ne_blk {g g' : Nat} {cs cs' : Array Value} {t t' : TypeId} (h : St w0 w rs) (i j : Nat) (hi : rs[i]? = some (Blk g cs t)) (hj : rs[j]? = some (Blk g' cs' t')) (hn : i ≠ j) : g ≠ g' := by
  have := h.ne i j hi hj hn
  simp only at this
  omega
theorem of {w1 : World} (h : St w0 w rs) (e : w1 = w) : St w0 w1 rs := e ▸ h
end St
theorem SlO.stable (lo hi : Nat) (A : Option Addr) (c : Nat) (l : List Int) : Res.Stable ⟨lo, hi, fun w => SlO w lo hi A c l⟩ := fun w w' h _ hk => SlO.move h (fun k h1 h2 _ => hk k h1 h2)
theorem VO.stable (lo hi : Nat) (L : Nat → List Int) (n : Nat) (V : Nat → Value) : Res.Stable ⟨lo, hi, fun w => VO w lo hi L n V⟩ := fun w w' h _ hk => VO.move h (fun k h1 h2 _ => hk k h1 h2)


def LayP (a b d s : Int) (L : Nat → List Int) (r : List Int) : Prop := (FitP a b d s L → r = layV a.toNat b.toNat L) ∧ (¬ FitP a b d s L → r = [])
theorem LayP.one {a b d s : Int} {L : Nat → List Int} {r q : List Int} (h : LayP a b d s L r) (k : LayP a b d s L q) : r = q := by
  by_cases hf : FitP a b d s L
  · rw [h.1 hf, k.1 hf]
  · rw [h.2 hf, k.2 hf]
theorem fit_facts {a b d s : Int} {L : Nat → List Int} (h : FitP a b d s L) : ∃ a' b' : Nat, a = a' ∧ b = b' ∧ a' ≤ 4 ∧ b' ≤ 6 ∧ (L 0).length = b' ∧ (L 5).length = 8 * b' ∧ (L 6).length = a' ∧ (L 7).length = a' ∧ ∀ k, k < 4 → ∀ i, i < (L (k + 1)).length → 0 ≤ (L (k + 1)).getD i 0 ∧ (L (k + 1)).getD i 0 < 8 * (b' : Int) := by
  obtain ⟨hok, ⟨⟨hz, _⟩, hl, _⟩, hs, hb⟩ := h
  have hle := okC_le hok
  obtain ⟨h1, h2, h3, h4, h5, h6, h7⟩ := hz
  obtain ⟨a', rfl⟩ := Int.eq_ofNat_of_zero_le (show 0 ≤ a by omega)
  obtain ⟨b', rfl⟩ := Int.eq_ofNat_of_zero_le (show 0 ≤ b by omega)
  refine ⟨a', b', rfl, rfl, by omega, by omega, by omega, by omega, by omega, by omega, fun k hk i hi => ?_⟩
  obtain ⟨e1, e2, _⟩ := (hl k hk).2 i hi
  omega
theorem LayP.len {a b d s : Int} {L : Nat → List Int} {r : List Int} (h : LayP a b d s L r) : r.length ≤ 1000 := by
  by_cases hf : FitP a b d s L
  · obtain ⟨a', b', rfl, rfl, ha, hb, _⟩ := fit_facts hf
    rw [h.1 hf, layV_len]
    simp only [Int.toNat_natCast]
    omega
  · rw [h.2 hf]; simp
def RetL (a b d s : Int) (L : Nat → List Int) (w : World) (e : Ending) (w' : World) : Prop := ∃ r A' c', e = .returned (.slice A' r.length c') ∧ LayP a b d s L r ∧ SlO w' w.heap.size w'.heap.size A' c' r ∧ Below w.heap.size w w'
theorem slO_wide {w w1 w2 : World} {A : Option Addr} {c : Nat} {l : List Int} (h : SlO w2 w1.heap.size w2.heap.size A c l) (hb : Below w.heap.size w w1) : SlO w2 w.heap.size w2.heap.size A c l := h.wide hb.size (Nat.le_refl _)
set_option maxHeartbeats 2000000 in
set_option maxRecDepth 100000 in
theorem specLay_calls (a b d s : Int) (A : Nat → Option Addr) (c : Nat → Nat) (L : Nat → List Int) (w : World) (h : BkC w A c L) (hl : ∀ i, (L i).length ≤ 35184372088832) (hw : ∀ i, Wf64 (L i)) :
    Calls Try.prog 32 #[cfgV a b d, .agg (bkCells s A c L)] w (RetL a b d s L w) := by
  have HR := Aside0.mk h
  have HL := Aside0.mk hl
  have HW := Aside0.mk hw
  clear h hl hw
  have S := Aside0.mk (St.start w)
  go_enter Try.func32, Try.ntmps32
  go_wp2_with (first | ((with_reducible refine gate_dst (N := 2) rfl ?_); refine box_event rfl (N := 2) rfl (cs := #[.int .i64 a, .int .i64 b, .int .i64 d]) (t := 29) (by first | (go_simp; done) | (go_simp; rfl)) ?_; intro gc hg_ w1 hbox_ hb_; have Sn_ := Aside0.mk (S.out.box hg_ hbox_ hb_); clear hbox_ hb_ hg_ S; have S := Sn_; clear Sn_) | ((with_reducible refine gate_dst (N := 3) rfl ?_); refine box_event rfl (N := 3) rfl (cs := bkCells s A c L) (t := 27) (by first | (go_simp; done) | (go_simp; rfl)) ?_; intro gb hg_ w2 hbox_ hb_; have Sn_ := Aside0.mk (S.out.box hg_ hbox_ hb_); clear hbox_ hb_ hg_ S; have S := Sn_; clear Sn_) | ((with_reducible refine gate_dst (N := 5) rfl ?_); refine Kd.event_run rfl (Row.load_row_run (g := gc) (t := 29) (cells := #[.int .i64 a, .int .i64 b, .int .i64 d]) rfl rfl (S.out.blk 1 rfl) Try.underlying29 rfl (by kernel_rfl)) ?_) | ((with_reducible refine gate_dst (N := 6) rfl ?_); refine Kd.event_run rfl (Row.load_row_run (g := gb) (t := 27) (cells := bkCells s A c L) rfl rfl (S.out.blk 0 rfl) Try.underlying27 rfl (by kernel_rfl)) ?_))
  refine (l4Fit_calls a b d s A c L _ (HR.out.below S.out.base) HL.out (HW.out 0)).mono ?_
  rintro e w3 ⟨r, rfl, hr, hb⟩
  have HRR := Aside0.mk hr
  clear hr
  have Sn_ := Aside0.mk (S.out.call hb)
  clear S hb
  have S := Sn_
  clear Sn_
  cases r with
  | false =>
    go_wp2
    have HN : Aside0 (¬ FitP a b d s L) := ⟨fun q => by have := HRR.out.mpr q; cases this⟩
    go_ret
    exact ⟨[], none, 0, rfl, ⟨fun q => absurd q HN.out, fun _ => rfl⟩, Kd.R_nil _ _ _ _ _, S.out.base⟩
  | true =>
    have HYY : Aside0 (FitP a b d s L) := ⟨HRR.out.mp rfl⟩
    clear HRR
    have HF : Aside0 (FitP a b d s L) := ⟨HYY.out⟩
    obtain ⟨h0, h5, h6, h7⟩ : (L 0).length = b.toNat ∧ (L 5).length = 8 * b.toNat ∧ (L 6).length = a.toNat ∧ (L 7).length = a.toNat := by
      obtain ⟨a', b', ea, eb, _, _, h0, h5, h6, h7, _⟩ := fit_facts HYY.out
      rw [ea, eb, Int.toNat_natCast, Int.toNat_natCast]
      exact ⟨h0, h5, h6, h7⟩
    have HI : Aside0 (∀ k, k < 4 → ∀ i, i < (L (k + 1)).length → 0 ≤ (L (k + 1)).getD i 0 ∧ (L (k + 1)).getD i 0 < 8 * (b.toNat : Int)) := ⟨by
      obtain ⟨a', b', ea, eb, _, _, _, _, _, _, hin⟩ := fit_facts HYY.out
      rw [eb, Int.toNat_natCast]
      exact hin⟩
    have HA := Aside0.mk (And.intro h0 (And.intro h5 (And.intro h6 h7)))
    have HP : Aside0 (((a.toNat : Nat) : Int) = a ∧ ((b.toNat : Nat) : Int) = b) := ⟨by
      obtain ⟨a', b', ea, eb, _⟩ := fit_facts HYY.out
      rw [ea, eb]
      simp⟩
    clear h0 h5 h6 h7
    go_wp2_with (first | ((with_reducible refine gate_dst (N := 9) rfl ?_); refine Kd.event_run rfl (Row.load_row_run (g := gc) (t := 29) (cells := #[.int .i64 a, .int .i64 b, .int .i64 d]) rfl rfl (S.out.blk 1 rfl) Try.underlying29 rfl (by kernel_rfl)) ?_) | ((with_reducible refine gate_dst (N := 10) rfl ?_); refine Kd.event_run rfl (Row.load_row_run (g := gb) (t := 27) (cells := bkCells s A c L) rfl rfl (S.out.blk 0 rfl) Try.underlying27 rfl (by kernel_rfl)) ?_))
    refine calls_of_args (args' := #[cfgV (a.toNat : Nat) (b.toNat : Nat) d, .agg (bkCells s A c L)]) (by rw [HP.out.1, HP.out.2]) ?_
    refine (l4Lay_calls a.toNat b.toNat d s A c L _ (HR.out.below S.out.base) (by rw [HP.out.1, HP.out.2]; exact HF.out.1) HA.out.1 HA.out.2.1 HA.out.2.2.1 HA.out.2.2.2 HI.out).mono ?_
    rintro e w4 ⟨A', c', rfl, ho, hb⟩
    have HO := Aside0.mk (slO_wide ho S.out.base)
    clear ho
    have Sn_ := Aside0.mk (S.out.call hb)
    clear S hb
    have S := Sn_
    clear Sn_
    go_wp2_with fail
    go_ret
    exact ⟨layV a.toNat b.toNat L, A', c', rfl, ⟨fun _ => rfl, fun q => absurd HF.out q⟩, HO.out, S.out.base⟩
set_option maxHeartbeats 2000000 in
set_option maxRecDepth 100000 in
theorem implLay_calls (a b d s : Int) (A : Nat → Option Addr) (c : Nat → Nat) (L : Nat → List Int) (w : World) (h : BkC w A c L) (hl : ∀ i, (L i).length ≤ 35184372088832) (hw : ∀ i, Wf64 (L i)) :
    Calls Try.prog 33 #[cfgV a b d, .agg (bkCells s A c L)] w (RetL a b d s L w) := by
  have HR := Aside0.mk h
  have HL := Aside0.mk hl
  have HW := Aside0.mk hw
  clear h hl hw
  have S := Aside0.mk (St.start w)
  go_enter Try.func33, Try.ntmps33
  go_wp2_with (first | ((with_reducible refine gate_dst (N := 2) rfl ?_); refine box_event rfl (N := 2) rfl (cs := #[.int .i64 a, .int .i64 b, .int .i64 d]) (t := 29) (by first | (go_simp; done) | (go_simp; rfl)) ?_; intro gc hg_ w1 hbox_ hb_; have Sn_ := Aside0.mk (S.out.box hg_ hbox_ hb_); clear hbox_ hb_ hg_ S; have S := Sn_; clear Sn_) | ((with_reducible refine gate_dst (N := 3) rfl ?_); refine box_event rfl (N := 3) rfl (cs := bkCells s A c L) (t := 27) (by first | (go_simp; done) | (go_simp; rfl)) ?_; intro gb hg_ w2 hbox_ hb_; have Sn_ := Aside0.mk (S.out.box hg_ hbox_ hb_); clear hbox_ hb_ hg_ S; have S := Sn_; clear Sn_) | ((with_reducible refine gate_dst (N := 5) rfl ?_); refine Kd.event_run rfl (Row.load_row_run (g := gc) (t := 29) (cells := #[.int .i64 a, .int .i64 b, .int .i64 d]) rfl rfl (S.out.blk 1 rfl) Try.underlying29 rfl (by kernel_rfl)) ?_))
  refine (implOkC_calls a b d _).mono ?_
  rintro e w3 ⟨rfl, hb⟩
  have Sn_ := Aside0.mk (S.out.call hb)
  clear S hb
  have S := Sn_
  clear Sn_
  cases hok : okC a b d with
  | false =>
    have HOK := Aside0.mk hok
    clear hok
    go_wp2
    have HN : Aside0 (¬ FitP a b d s L) := ⟨fun q => by have := q.1; rw [HOK.out] at this; cases this⟩
    go_ret
    exact ⟨[], none, 0, rfl, ⟨fun q => absurd q HN.out, fun _ => rfl⟩, Kd.R_nil _ _ _ _ _, S.out.base⟩
  | true =>
    have HOK := Aside0.mk hok
    clear hok
    go_wp2_with (first | ((with_reducible refine gate_dst (N := 9) rfl ?_); refine gate_guard (by rfl) ?_; refine Kd.event_run rfl (Row.load_row_run (g := gb) (t := 27) (cells := bkCells s A c L) rfl rfl (S.out.blk 0 rfl) Try.underlying27 rfl (by kernel_rfl)) ?_))
    refine (implBookOk_calls s A c L _ (HR.out.below S.out.base) HL.out (HW.out 0) (HW.out 5)).mono ?_
    rintro e w4 ⟨r, rfl, hr, hb⟩
    have HRR : Aside0 (r = true ↔ BookP s L) := ⟨hr.trans (book_iff s L).symm⟩
    clear hr
    have Sn_ := Aside0.mk (S.out.call hb)
    clear S hb
    have S := Sn_
    clear Sn_
    cases r with
    | false =>
      go_wp2
      have HN : Aside0 (¬ FitP a b d s L) := ⟨fun q => by have := HRR.out.mpr q.2.1; cases this⟩
      go_ret
      exact ⟨[], none, 0, rfl, ⟨fun q => absurd q HN.out, fun _ => rfl⟩, Kd.R_nil _ _ _ _ _, S.out.base⟩
    | true =>
      have HB := HRR.out.mp rfl
      have HBK := Aside0.mk HB
      clear HRR HB
      have f_gb_0 : w4.cell? ⟨gb, 0, none⟩ = some (.int .i64 s) := (S.out.cell 0 rfl 0).trans rfl
      have z_gb_0 := S.out.frozen 0 rfl 0
      have f_gb_1 : w4.cell? ⟨gb, 1, none⟩ = some (.slice (A 0) (L 0).length (c 0)) := (S.out.cell 0 rfl 1).trans rfl
      have z_gb_1 := S.out.frozen 0 rfl 1
      have f_gc_0 : w4.cell? ⟨gc, 0, none⟩ = some (.int .i64 a) := (S.out.cell 1 rfl 0).trans rfl
      have z_gc_0 := S.out.frozen 1 rfl 0
      have f_gc_1 : w4.cell? ⟨gc, 1, none⟩ = some (.int .i64 b) := (S.out.cell 1 rfl 1).trans rfl
      have z_gc_1 := S.out.frozen 1 rfl 1
      by_cases e1 : s = a
      rotate_left
      · have e1b : (s != a) = true := bne_iff_ne.mpr e1
        have e1X := Aside0.mk e1
        clear e1
        go_wp2
        have HN : Aside0 (¬ FitP a b d s L) := ⟨fun q => e1X.out q.2.2.1⟩
        go_ret
        exact ⟨[], none, 0, rfl, ⟨fun q => absurd q HN.out, fun _ => rfl⟩, Kd.R_nil _ _ _ _ _, S.out.base⟩
      have e1b : (s != a) = false := bne_eq_false_iff_eq.mpr e1
      have e1X := Aside0.mk e1
      clear e1
      by_cases e2 : ((L 0).length : Int) = b
      rotate_left
      · have e2b : (((L 0).length : Int) != b) = true := bne_iff_ne.mpr e2
        have e2X := Aside0.mk e2
        clear e2
        go_wp2
        have HN : Aside0 (¬ FitP a b d s L) := ⟨fun q => e2X.out q.2.2.2⟩
        go_ret
        exact ⟨[], none, 0, rfl, ⟨fun q => absurd q HN.out, fun _ => rfl⟩, Kd.R_nil _ _ _ _ _, S.out.base⟩
      have e2b : (((L 0).length : Int) != b) = false := bne_eq_false_iff_eq.mpr e2
      have e2X := Aside0.mk e2
      clear e2
      have HY : FitP a b d s L := ⟨HOK.out, HBK.out, e1X.out, e2X.out⟩
      have HYY := Aside0.mk HY
      clear HY
      have HF : Aside0 (FitP a b d s L) := ⟨HYY.out⟩
      obtain ⟨h0, h5, h6, h7⟩ : (L 0).length = b.toNat ∧ (L 5).length = 8 * b.toNat ∧ (L 6).length = a.toNat ∧ (L 7).length = a.toNat := by
        obtain ⟨a', b', ea, eb, _, _, h0, h5, h6, h7, _⟩ := fit_facts HYY.out
        rw [ea, eb, Int.toNat_natCast, Int.toNat_natCast]
        exact ⟨h0, h5, h6, h7⟩
      have HI : Aside0 (∀ k, k < 4 → ∀ i, i < (L (k + 1)).length → 0 ≤ (L (k + 1)).getD i 0 ∧ (L (k + 1)).getD i 0 < 8 * (b.toNat : Int)) := ⟨by
        obtain ⟨a', b', ea, eb, _, _, _, _, _, _, hin⟩ := fit_facts HYY.out
        rw [eb, Int.toNat_natCast]
        exact hin⟩
      have HA := Aside0.mk (And.intro h0 (And.intro h5 (And.intro h6 h7)))
      have HP : Aside0 (((a.toNat : Nat) : Int) = a ∧ ((b.toNat : Nat) : Int) = b) := ⟨by
        obtain ⟨a', b', ea, eb, _⟩ := fit_facts HYY.out
        rw [ea, eb]
        simp⟩
      clear h0 h5 h6 h7
      go_wp2_with (first | ((with_reducible refine gate_dst (N := 28) rfl ?_); refine Kd.event_run rfl (Row.load_row_run (g := gc) (t := 29) (cells := #[.int .i64 a, .int .i64 b, .int .i64 d]) rfl rfl (S.out.blk 1 rfl) Try.underlying29 rfl (by kernel_rfl)) ?_) | ((with_reducible refine gate_dst (N := 29) rfl ?_); refine Kd.event_run rfl (Row.load_row_run (g := gb) (t := 27) (cells := bkCells s A c L) rfl rfl (S.out.blk 0 rfl) Try.underlying27 rfl (by kernel_rfl)) ?_))
      refine calls_of_args (args' := #[cfgV (a.toNat : Nat) (b.toNat : Nat) d, .agg (bkCells s A c L)]) (by rw [HP.out.1, HP.out.2]) ?_
      refine (lay_calls a.toNat b.toNat d s A c L _ (HR.out.below S.out.base) (by rw [HP.out.1, HP.out.2]; exact HF.out.1) HA.out.1 HA.out.2.1 HA.out.2.2.1 HA.out.2.2.2 HI.out).mono ?_
      rintro e w5 ⟨A', c', rfl, ho, hb⟩
      have HO := Aside0.mk (slO_wide ho S.out.base)
      clear ho
      clear f_gb_0 z_gb_0 f_gb_1 z_gb_1 f_gc_0 z_gc_0 f_gc_1 z_gc_1
      have Sn_ := Aside0.mk (S.out.call hb)
      clear S hb
      have S := Sn_
      clear Sn_
      go_wp2_with fail
      go_ret
      exact ⟨layV a.toNat b.toNat L, A', c', rfl, ⟨fun _ => rfl, fun q => absurd HF.out q⟩, HO.out, S.out.base⟩


set_option maxHeartbeats 8000000 in
set_option maxRecDepth 100000 in
theorem lawCensLay_calls (a b d s : Int) (A : Nat → Option Addr) (c : Nat → Nat) (L : Nat → List Int) (w : World) (h : BkC w A c L) (hl : ∀ i, (L i).length ≤ 9223372036854775807) (h8 : ∀ i, 8 ≤ i → L i = []) (hw : ∀ i, Wf64 (L i)) (_ha : -9223372036854775808 ≤ a ∧ a ≤ 9223372036854775807) (_hb : -9223372036854775808 ≤ b ∧ b ≤ 9223372036854775807) (_hd : -9223372036854775808 ≤ d ∧ d ≤ 9223372036854775807) :
    Calls Try.prog 9 #[.agg #[.int .i64 a, .int .i64 b, .int .i64 d], .agg (bkCells s A c L)] w fun e w' => e = .returned (.bool true) ∧ Below w.heap.size w w' := by
  clear _ha _hb _hd
  have HR := Aside0.mk h
  have HL := Aside0.mk hl
  have HW := Aside0.mk hw
  have HN : Aside0 (0 ≤ szB L 1048576 → ∀ i, (L i).length ≤ 1048576) := ⟨fun q => (szB_nn L 1048576 (by omega) h8 q).1⟩
  obtain ⟨z, hz⟩ : ∃ z, szB L 1048576 = z := ⟨_, rfl⟩
  rw [hz] at HN
  have HZ := Aside0.mk hz
  clear h hl h8 hw hz
  by_cases hz0 : z < 0
  · skip
    have S := Aside0.mk (St.start w)
    go_enter Try.func9, Try.ntmps9
    go_wp2_with (first | ((with_reducible refine gate_dst (N := 2) rfl ?_); refine box_event rfl (N := 2) rfl (cs := #[.int .i64 a, .int .i64 b, .int .i64 d]) (t := 23) (by first | (go_simp; done) | (go_simp; rfl)) ?_; intro gc hg_ w1 hbox_ hb_; have Sn_ := Aside0.mk (S.out.box hg_ hbox_ hb_); clear hbox_ hb_ hg_ S; have S := Sn_; clear Sn_) | ((with_reducible refine gate_dst (N := 3) rfl ?_); refine box_event rfl (N := 3) rfl (cs := bkCells s A c L) (t := 34) (by first | (go_simp; done) | (go_simp; rfl)) ?_; intro gb hg_ w2 hbox_ hb_; have Sn_ := Aside0.mk (S.out.box hg_ hbox_ hb_); clear hbox_ hb_ hg_ S; have S := Sn_; clear Sn_) | ((with_reducible refine gate_dst (N := 13) rfl ?_); refine Kd.event_run rfl (Row.load_row_run (g := gb) (t := 34) (cells := bkCells s A c L) rfl rfl (S.out.blk 0 rfl) Try.underlying34 rfl (by kernel_rfl)) ?_))
    refine (szBook_calls s A c L 1048576 _ (by omega) (by omega) HL.out).mono ?_
    rintro e w3 ⟨rfl, hb⟩
    rw [HZ.out]
    have Sn_ := Aside0.mk (S.out.call hb)
    clear S hb
    have S := Sn_
    clear Sn_
    go_wp2
    go_ret
    exact ⟨rfl, S.out.base⟩
  have hz1 := nn_of hz0
  have HM : Aside0 (∀ i, (L i).length ≤ 1048576) := ⟨HN.out hz1⟩
  have HM2 : Aside0 (∀ i, (L i).length ≤ 35184372088832) := ⟨fun i => by have := HM.out i; omega⟩
  clear HN hz0
  have S := Aside0.mk (St.start w)
  go_enter Try.func9, Try.ntmps9
  go_wp2_with (first | ((with_reducible refine gate_dst (N := 2) rfl ?_); refine box_event rfl (N := 2) rfl (cs := #[.int .i64 a, .int .i64 b, .int .i64 d]) (t := 23) (by first | (go_simp; done) | (go_simp; rfl)) ?_; intro gc hg_ w1 hbox_ hb_; have Sn_ := Aside0.mk (S.out.box hg_ hbox_ hb_); clear hbox_ hb_ hg_ S; have S := Sn_; clear Sn_) | ((with_reducible refine gate_dst (N := 3) rfl ?_); refine box_event rfl (N := 3) rfl (cs := bkCells s A c L) (t := 34) (by first | (go_simp; done) | (go_simp; rfl)) ?_; intro gb hg_ w2 hbox_ hb_; have Sn_ := Aside0.mk (S.out.box hg_ hbox_ hb_); clear hbox_ hb_ hg_ S; have S := Sn_; clear Sn_) | ((with_reducible refine gate_dst (N := 13) rfl ?_); refine Kd.event_run rfl (Row.load_row_run (g := gb) (t := 34) (cells := bkCells s A c L) rfl rfl (S.out.blk 0 rfl) Try.underlying34 rfl (by kernel_rfl)) ?_))
  refine (szBook_calls s A c L 1048576 _ (by omega) (by omega) HL.out).mono ?_
  rintro e w3 ⟨rfl, hb⟩
  rw [HZ.out]
  have Sn_ := Aside0.mk (S.out.call hb)
  clear S hb
  have S := Sn_
  clear Sn_
  go_wp2_with fail
  refine start_ (n := 6) (S := fun w_ => St w w_ [Blk gb (bkCells s A c L) 34, Blk gc (#[.int .i64 a, .int .i64 b, .int .i64 d]) 23]) (ds := []) #[false, false, false, false, false, false] (by kernel_rfl) rfl rfl S.out.drew (fun hH_ => ?_)
  refine take_ (i := 0) (N := some 18) (v := .agg (#[.int .i64 a, .int .i64 b, .int .i64 d])) (a' := ?_) #[true, false, false, false, false, false] rfl rfl (by kernel_rfl) (fun _ _ _ h => h) (Or.inl ⟨by rfl, fun w' s0 => Row.load_row_run (g := gc) (t := 23) (cells := #[.int .i64 a, .int .i64 b, .int .i64 d]) rfl rfl (s0.blk 1 rfl) Try.underlying23 rfl (by kernel_rfl)⟩) hH_ ?_ ?_
  rotate_left
  · simp only [Act.put, List.setIfInBounds_toArray, List.set_cons_zero, List.set_cons_succ, i64_w, i32_w]
    rfl
  refine take_ (i := 2) (N := some 20) (v := .agg (bkCells s A c L)) (a' := ?_) #[true, false, true, false, false, false] rfl rfl (by kernel_rfl) (fun _ _ _ h => h) (Or.inl ⟨by rfl, fun w' s0 => Row.load_row_run (g := gb) (t := 34) (cells := bkCells s A c L) rfl rfl (s0.blk 0 rfl) Try.underlying34 rfl (by kernel_rfl)⟩) hH_ ?_ ?_
  rotate_left
  · simp only [Act.put, List.setIfInBounds_toArray, List.set_cons_zero, List.set_cons_succ, i64_w, i32_w]
    rfl
  refine one_ (i := 1) (N := some 19) #[true, true, true, false, false, false] rfl rfl (by kernel_rfl) (by decide) (fun K hK => ?_)
  refine goes_ Try.func12 (by kernel_rfl) rfl #[.agg #[.int .i64 a, .int .i64 b, .int .i64 d]] (by rfl) rfl rfl (by (try simp only [List.map_toArray, List.map_cons, List.map_nil]); first | done | rfl) ?_
  refine (toCfgC_calls a b d _).mono ?_
  rintro e w4 ⟨rfl, hb⟩
  have hHw4_ := hH_.call hb
  refine ⟨_, rfl, hK.out _ _ hHw4_ (fun _ => ?_)⟩
  clear hK K
  refine norm_ (a' := ?_) ?_ ?_
  rotate_left
  · show Act.put _ (some 19) _ = _
    simp only [Act.put, List.setIfInBounds_toArray, List.set_cons_zero, List.set_cons_succ, i64_w, i32_w]
    rfl
  clear hb
  refine one_ (i := 3) (N := some 21) #[true, true, true, true, false, false] rfl rfl (by kernel_rfl) (by decide) (fun K hK => ?_)
  refine goes_ Try.func19 (by kernel_rfl) rfl #[.agg (bkCells s A c L)] (by rfl) rfl rfl (by (try simp only [List.map_toArray, List.map_cons, List.map_nil]); first | done | rfl) ?_
  refine (toBook_calls s A c L _ (HR.out.below hHw4_.base) HM2.out).mono ?_
  rintro e w5 ⟨A1, c1, rfl, ho, hb⟩
  have HO1 := Aside0.mk ho.c
  clear ho
  have hHw5_ := hHw4_.call hb
  refine ⟨_, rfl, hK.out _ _ hHw5_ (fun _ => ?_)⟩
  clear hK K
  refine norm_ (a' := ?_) ?_ ?_
  rotate_left
  · show Act.put _ (some 21) _ = _
    simp only [Act.put, List.setIfInBounds_toArray, List.set_cons_zero, List.set_cons_succ, i64_w, i32_w]
    rfl
  clear hb
  refine one_ (i := 4) (N := some 22) #[true, true, true, true, true, false] rfl rfl (by kernel_rfl) (by decide) (fun K hK => ?_)
  refine goes_ Try.func32 (by kernel_rfl) rfl #[.agg #[.int .i64 a, .int .i64 b, .int .i64 d], .agg (bkCells s A1 c1 L)] (by rfl) rfl rfl (by (try simp only [List.map_toArray, List.map_cons, List.map_nil]); first | done | rfl) ?_
  refine (specLay_calls a b d s A1 c1 L _ HO1.out HM2.out HW.out).mono ?_
  rintro e w6 ⟨r, A0, c0, rfl, hp0, ho0, hb⟩
  have HP0 := Aside0.mk hp0
  clear hp0
  have hHw6_ := hHw5_.call hb
  refine ⟨_, rfl, hK.out _ _ hHw6_ (fun _ => ?_)⟩
  clear hK K
  refine norm_ (a' := ?_) ?_ ?_
  rotate_left
  · show Act.put _ (some 22) _ = _
    simp only [Act.put, List.setIfInBounds_toArray, List.set_cons_zero, List.set_cons_succ, i64_w, i32_w]
    rfl
  refine pure_ (i := 5) (N := some 6) (v := ?_) (a' := ?_) #[true, true, true, true, true, true] rfl rfl (by kernel_rfl) (fun _ _ _ h => h) (Or.inl ⟨by rfl, ?_⟩) ?_ ?_
  rotate_left
  · intro w'
    go_simp
    with_reducible rfl
  rotate_left
  · simp only [Act.put, List.setIfInBounds_toArray, List.set_cons_zero, List.set_cons_succ, i64_w, i32_w]
    rfl
  refine done_ (by kernel_rfl) ?_
  have Sn_ := Aside0.mk (hHw5_.new (P := fun w_ => SlO w_ w5.heap.size w6.heap.size A0 c0 r) hb ho0 (SlO.stable _ _ _ _ _))
  clear S hb
  have S := Sn_
  clear Sn_
  clear HO1 ho0
  have HLN : Aside0 (r.length ≤ 1000) := ⟨HP0.out.len⟩
  go_wp2_with (first | ((with_reducible refine gate_dst (N := 23) rfl ?_); refine Kd.event_run rfl (Row.load_row_run (g := gb) (t := 34) (cells := bkCells s A c L) rfl rfl (S.out.blk 1 rfl) Try.underlying34 rfl (by kernel_rfl)) ?_))
  refine (toBook_calls s A c L _ (HR.out.below S.out.base) HM2.out).mono ?_
  rintro e w7 ⟨A2, c2, rfl, ho, hb⟩
  have Sn_ := Aside0.mk (S.out.new (P := fun w_ => BkO w_ w6.heap.size w7.heap.size A2 c2 L) hb ho (VO.stable _ _ _ _ _))
  clear S hb ho
  have S := Sn_
  clear Sn_
  go_wp2_with (first | ((with_reducible refine gate_dst (N := 7) rfl ?_); refine box_event rfl (N := 7) rfl (cs := #[.int .i64 0, .slice none 0 0, .slice none 0 0, .slice none 0 0, .slice none 0 0, .slice none 0 0, .slice none 0 0, .slice none 0 0, .slice none 0 0]) (t := 27) (by first | (go_simp; done) | (go_simp; rfl)) ?_; intro gx hg_ w8 hbox_ hb_; have Sn_ := Aside0.mk (S.out.box hg_ hbox_ hb_); clear hbox_ hb_ hg_ S; have S := Sn_; clear Sn_) | ((with_reducible refine gate_store (t := 27) (p := 7) rfl ?_); refine store_event (t := 27) (p := 7) (v := ?vo_1) (w1 := w8.setRow gx (bkCells s A2 c2 L)) ?hg ?ho ?hn ?hr ?_; (case ho => rfl); (case hg => rfl); (case hn => rfl); (case hr => exact (Row.store_row_run (g := gx) (cells := bkCells s A2 c2 L) (t := 27) (old := #[.int .i64 0, .slice none 0 0, .slice none 0 0, .slice none 0 0, .slice none 0 0, .slice none 0 0, .slice none 0 0, .slice none 0 0, .slice none 0 0]) rfl (by rfl) (by rfl) (S.out.blk 0 rfl) (by kernel_rfl) rfl (by simp [Value.oneCell']))); intro w9 hw_; have Sn_ := Aside0.mk ((S.out.setRow (cs' := bkCells s A2 c2 L) 0 rfl rfl).of hw_); clear S hw_; have S := Sn_; clear Sn_))
  refine start_ (n := 5) (S := fun w_ => St w w_ [Blk gx (bkCells s A2 c2 L) 27, ⟨w6.heap.size, w7.heap.size, fun w_ => BkO w_ w6.heap.size w7.heap.size A2 c2 L⟩, ⟨w5.heap.size, w6.heap.size, fun w_ => SlO w_ w5.heap.size w6.heap.size A0 c0 r⟩, Blk gb (bkCells s A c L) 34, Blk gc (#[.int .i64 a, .int .i64 b, .int .i64 d]) 23]) (ds := []) #[false, false, false, false, false] (by kernel_rfl) rfl rfl S.out.drew (fun hH_ => ?_)
  refine take_ (i := 0) (N := some 25) (v := .agg (#[.int .i64 a, .int .i64 b, .int .i64 d])) (a' := ?_) #[true, false, false, false, false] rfl rfl (by kernel_rfl) (fun _ _ _ h => h) (Or.inl ⟨by rfl, fun w' s0 => Row.load_row_run (g := gc) (t := 23) (cells := #[.int .i64 a, .int .i64 b, .int .i64 d]) rfl rfl (s0.blk 4 rfl) Try.underlying23 rfl (by kernel_rfl)⟩) hH_ ?_ ?_
  rotate_left
  · simp only [Act.put, List.setIfInBounds_toArray, List.set_cons_zero, List.set_cons_succ, i64_w, i32_w]
    rfl
  refine take_ (i := 2) (N := some 27) (v := .agg (bkCells s A2 c2 L)) (a' := ?_) #[true, false, true, false, false] rfl rfl (by kernel_rfl) (fun _ _ _ h => h) (Or.inl ⟨by rfl, fun w' s0 => Row.load_row_run (g := gx) (t := 27) (cells := bkCells s A2 c2 L) rfl rfl (s0.blk 0 rfl) Try.underlying27 rfl (by kernel_rfl)⟩) hH_ ?_ ?_
  rotate_left
  · simp only [Act.put, List.setIfInBounds_toArray, List.set_cons_zero, List.set_cons_succ, i64_w, i32_w]
    rfl
  refine one_ (i := 1) (N := some 26) #[true, true, true, false, false] rfl rfl (by kernel_rfl) (by decide) (fun K hK => ?_)
  refine goes_ Try.func12 (by kernel_rfl) rfl #[.agg #[.int .i64 a, .int .i64 b, .int .i64 d]] (by rfl) rfl rfl (by (try simp only [List.map_toArray, List.map_cons, List.map_nil]); first | done | rfl) ?_
  refine (toCfgC_calls a b d _).mono ?_
  rintro e w10 ⟨rfl, hb⟩
  have hHw10_ := hH_.call hb
  refine ⟨_, rfl, hK.out _ _ hHw10_ (fun _ => ?_)⟩
  clear hK K
  refine norm_ (a' := ?_) ?_ ?_
  rotate_left
  · show Act.put _ (some 26) _ = _
    simp only [Act.put, List.setIfInBounds_toArray, List.set_cons_zero, List.set_cons_succ, i64_w, i32_w]
    rfl
  clear hb
  refine one_ (i := 3) (N := some 28) #[true, true, true, true, false] rfl rfl (by kernel_rfl) (by decide) (fun K hK => ?_)
  refine goes_ Try.func33 (by kernel_rfl) rfl #[.agg #[.int .i64 a, .int .i64 b, .int .i64 d], .agg (bkCells s A2 c2 L)] (by rfl) rfl rfl (by (try simp only [List.map_toArray, List.map_cons, List.map_nil]); first | done | rfl) ?_
  refine (implLay_calls a b d s A2 c2 L _ (BkO.c (hHw10_.get 1 rfl)) HM2.out HW.out).mono ?_
  rintro e w11 ⟨r1, A3, c3, rfl, hp1, ho0, hb⟩
  obtain rfl : r = r1 := (hp1.one HP0.out).symm
  clear hp1
  have hHw11_ := hHw10_.call hb
  refine ⟨_, rfl, hK.out _ _ hHw11_ (fun _ => ?_)⟩
  clear hK K
  refine norm_ (a' := ?_) ?_ ?_
  rotate_left
  · show Act.put _ (some 28) _ = _
    simp only [Act.put, List.setIfInBounds_toArray, List.set_cons_zero, List.set_cons_succ, i64_w, i32_w]
    rfl
  refine pure_ (i := 4) (N := some 8) (v := ?_) (a' := ?_) #[true, true, true, true, true] rfl rfl (by kernel_rfl) (fun _ _ _ h => h) (Or.inl ⟨by rfl, ?_⟩) ?_ ?_
  rotate_left
  · intro w'
    go_simp
    with_reducible rfl
  rotate_left
  · simp only [Act.put, List.setIfInBounds_toArray, List.set_cons_zero, List.set_cons_succ, i64_w, i32_w]
    rfl
  refine done_ (by kernel_rfl) ?_
  have Sn_ := Aside0.mk (hHw10_.new (P := fun w_ => SlO w_ w10.heap.size w11.heap.size A3 c3 r) hb ho0 (SlO.stable _ _ _ _ _))
  clear S hb
  have S := Sn_
  clear Sn_
  clear ho0
  go_wp2_with fail
  refine (eqIntS_same A3 c3 A0 c0 r _ (SlO.c (S.out.get 0 rfl)) (SlO.c (S.out.get 3 rfl)) (by have := HLN.out; omega)).mono ?_
  rintro e w12 ⟨rfl, hd⟩
  have hb := hd.below
  clear hd
  have Sn_ := Aside0.mk (S.out.call hb)
  clear S hb
  have S := Sn_
  clear Sn_
  go_wp2_with fail
  refine start_ (n := 5) (S := fun w_ => St w w_ [⟨w10.heap.size, w11.heap.size, fun w_ => SlO w_ w10.heap.size w11.heap.size A3 c3 r⟩, Blk gx (bkCells s A2 c2 L) 27, ⟨w6.heap.size, w7.heap.size, fun w_ => BkO w_ w6.heap.size w7.heap.size A2 c2 L⟩, ⟨w5.heap.size, w6.heap.size, fun w_ => SlO w_ w5.heap.size w6.heap.size A0 c0 r⟩, Blk gb (bkCells s A c L) 34, Blk gc (#[.int .i64 a, .int .i64 b, .int .i64 d]) 23]) (ds := []) #[false, false, false, false, false] (by kernel_rfl) rfl rfl S.out.drew (fun hH_ => ?_)
  refine take_ (i := 0) (N := some 33) (v := .agg (bkCells s A2 c2 L)) (a' := ?_) #[true, false, false, false, false] rfl rfl (by kernel_rfl) (fun _ _ _ h => h) (Or.inl ⟨by rfl, fun w' s0 => Row.load_row_run (g := gx) (t := 27) (cells := bkCells s A2 c2 L) rfl rfl (s0.blk 1 rfl) Try.underlying27 rfl (by kernel_rfl)⟩) hH_ ?_ ?_
  rotate_left
  · simp only [Act.put, List.setIfInBounds_toArray, List.set_cons_zero, List.set_cons_succ, i64_w, i32_w]
    rfl
  refine take_ (i := 1) (N := some 34) (v := .agg (bkCells s A c L)) (a' := ?_) #[true, true, false, false, false] rfl rfl (by kernel_rfl) (fun _ _ _ h => h) (Or.inl ⟨by rfl, fun w' s0 => Row.load_row_run (g := gb) (t := 34) (cells := bkCells s A c L) rfl rfl (s0.blk 4 rfl) Try.underlying34 rfl (by kernel_rfl)⟩) hH_ ?_ ?_
  rotate_left
  · simp only [Act.put, List.setIfInBounds_toArray, List.set_cons_zero, List.set_cons_succ, i64_w, i32_w]
    rfl
  refine one_ (i := 2) (N := some 35) #[true, true, true, false, false] rfl rfl (by kernel_rfl) (by decide) (fun K hK => ?_)
  refine goes_ Try.func19 (by kernel_rfl) rfl #[.agg (bkCells s A c L)] (by rfl) rfl rfl (by (try simp only [List.map_toArray, List.map_cons, List.map_nil]); first | done | rfl) ?_
  refine (toBook_calls s A c L _ (HR.out.below hH_.base) HM2.out).mono ?_
  rintro e w13 ⟨A4, c4, rfl, ho, hb⟩
  have HO4 := Aside0.mk ho.c
  clear ho
  have hHw13_ := hH_.call hb
  refine ⟨_, rfl, hK.out _ _ hHw13_ (fun _ => ?_)⟩
  clear hK K
  refine norm_ (a' := ?_) ?_ ?_
  rotate_left
  · show Act.put _ (some 35) _ = _
    simp only [Act.put, List.setIfInBounds_toArray, List.set_cons_zero, List.set_cons_succ, i64_w, i32_w]
    rfl
  clear hb
  refine one_ (i := 3) (N := some 36) #[true, true, true, true, false] rfl rfl (by kernel_rfl) (by decide) (fun K hK => ?_)
  refine goes_ Try.func14 (by kernel_rfl) rfl #[.agg (bkCells s A2 c2 L), .agg (bkCells s A4 c4 L)] (by rfl) rfl rfl (by (try simp only [List.map_toArray, List.map_cons, List.map_nil]); first | done | rfl) ?_
  refine (eqBook_same s A2 c2 A4 c4 L _ (BkO.c (hHw13_.get 2 rfl)) HO4.out HL.out).mono ?_
  rintro e w14 ⟨rfl, hb⟩
  have hHw14_ := hHw13_.call hb
  refine ⟨_, rfl, hK.out _ _ hHw14_ (fun _ => ?_)⟩
  clear hK K
  refine norm_ (a' := ?_) ?_ ?_
  rotate_left
  · show Act.put _ (some 36) _ = _
    simp only [Act.put, List.setIfInBounds_toArray, List.set_cons_zero, List.set_cons_succ, i64_w, i32_w]
    rfl
  clear hb
  refine pure_ (i := 4) (N := some 37) (v := ?_) (a' := ?_) #[true, true, true, true, true] rfl rfl (by kernel_rfl) (fun _ _ _ h => h) (Or.inl ⟨by rfl, ?_⟩) ?_ ?_
  rotate_left
  · intro w'
    go_simp
    with_reducible rfl
  rotate_left
  · simp only [Act.put, List.setIfInBounds_toArray, List.set_cons_zero, List.set_cons_succ, i64_w, i32_w]
    rfl
  refine done_ (by kernel_rfl) ?_
  have Sn_ := Aside0.mk (hHw14_)
  clear S
  have S := Sn_
  clear Sn_
  clear HO4
  go_wp2_with (first | ((with_reducible refine gate_dst (N := 38) rfl ?_); refine Kd.event_run rfl (Row.load_row_run (g := gx) (t := 27) (cells := bkCells s A2 c2 L) rfl rfl (S.out.blk 1 rfl) Try.underlying27 rfl (by kernel_rfl)) ?_))
  refine (markBook_calls s A2 c2 L 1 w6.heap.size w7.heap.size _ (S.out.get 2 rfl) (S.out.le 2 rfl) (by omega) (by have := off8_le HM.out; omega)).mono ?_
  rintro e w15 ⟨L2, rfl, hlL, hmk, hbo, hkp⟩
  have Sn_ := Aside0.mk (S.out.put (P := fun w_ => BkO w_ w6.heap.size w7.heap.size A2 c2 L2) 2 rfl hkp hbo (VO.stable _ _ _ _ _) rfl)
  clear S hkp hbo hmk hlL
  have S := Sn_
  clear Sn_
  have hk1 : (0 : Int) ≤ 1 + ((off L 8 : Nat) : Int) := by omega
  have Sn_ := Aside0.mk (S.out.drop 2 rfl)
  clear S
  have S := Sn_
  clear Sn_
  have Sn_ := Aside0.mk (S.out.drop 1 rfl)
  clear S
  have S := Sn_
  clear Sn_
  go_wp2_with fail
  refine (eqIntS_same A3 c3 A0 c0 r _ (SlO.c (S.out.get 0 rfl)) (SlO.c (S.out.get 1 rfl)) (by have := HLN.out; omega)).mono ?_
  rintro e w16 ⟨rfl, hd⟩
  have hb := hd.below
  clear hd
  have Sn_ := Aside0.mk (S.out.call hb)
  clear S hb
  have S := Sn_
  clear Sn_
  go_wp2_with fail
  refine (markIntS_calls A3 c3 r 1 w10.heap.size w11.heap.size _ (S.out.get 0 rfl) (by omega) (by have := HLN.out; omega)).mono ?_
  rintro e w17 ⟨l2, rfl, hl2, hm2, hs2, hkv⟩
  have hkp := KeepV.keep (S.out.get 0 rfl) hkv
  have HL2 := Aside0.mk hl2
  have HM22 := Aside0.mk hm2
  clear hl2 hm2 hkv
  have Sn_ := Aside0.mk (S.out.put (P := fun w_ => SlO w_ w10.heap.size w11.heap.size A3 c3 l2) 0 rfl hkp hs2 (SlO.stable _ _ _ _ _) rfl)
  clear S hkp hs2
  have S := Sn_
  clear Sn_
  have hk2 : (0 : Int) ≤ 1 + (r.length : Int) := by omega
  go_wp2_with fail
  refine calls_of_args (args' := #[.slice A3 l2.length c3, .int .i64 1]) (by rw [HL2.out]) ?_
  refine (heldIntS_calls A3 c3 l2 1 _ (SlO.c (S.out.get 0 rfl)) (by omega) (by have := HLN.out; have := HL2.out; omega) (fun j hj => HM22.out j (by have := HL2.out; omega))).mono ?_
  rintro e wz1 ⟨rfl, rfl⟩
  rw [HL2.out]
  go_wp2_with fail
  refine start_ (n := 6) (S := fun w_ => St w w_ [⟨w10.heap.size, w11.heap.size, fun w_ => SlO w_ w10.heap.size w11.heap.size A3 c3 l2⟩, ⟨w5.heap.size, w6.heap.size, fun w_ => SlO w_ w5.heap.size w6.heap.size A0 c0 r⟩, Blk gb (bkCells s A c L) 34, Blk gc (#[.int .i64 a, .int .i64 b, .int .i64 d]) 23]) (ds := []) #[false, false, false, false, false, false] (by kernel_rfl) rfl rfl S.out.drew (fun hH_ => ?_)
  refine take_ (i := 0) (N := some 60) (v := .agg (#[.int .i64 a, .int .i64 b, .int .i64 d])) (a' := ?_) #[true, false, false, false, false, false] rfl rfl (by kernel_rfl) (fun _ _ _ h => h) (Or.inl ⟨by rfl, fun w' s0 => Row.load_row_run (g := gc) (t := 23) (cells := #[.int .i64 a, .int .i64 b, .int .i64 d]) rfl rfl (s0.blk 3 rfl) Try.underlying23 rfl (by kernel_rfl)⟩) hH_ ?_ ?_
  rotate_left
  · simp only [Act.put, List.setIfInBounds_toArray, List.set_cons_zero, List.set_cons_succ, i64_w, i32_w]
    rfl
  refine take_ (i := 2) (N := some 62) (v := .agg (bkCells s A c L)) (a' := ?_) #[true, false, true, false, false, false] rfl rfl (by kernel_rfl) (fun _ _ _ h => h) (Or.inl ⟨by rfl, fun w' s0 => Row.load_row_run (g := gb) (t := 34) (cells := bkCells s A c L) rfl rfl (s0.blk 2 rfl) Try.underlying34 rfl (by kernel_rfl)⟩) hH_ ?_ ?_
  rotate_left
  · simp only [Act.put, List.setIfInBounds_toArray, List.set_cons_zero, List.set_cons_succ, i64_w, i32_w]
    rfl
  refine one_ (i := 1) (N := some 61) #[true, true, true, false, false, false] rfl rfl (by kernel_rfl) (by decide) (fun K hK => ?_)
  refine goes_ Try.func12 (by kernel_rfl) rfl #[.agg #[.int .i64 a, .int .i64 b, .int .i64 d]] (by rfl) rfl rfl (by (try simp only [List.map_toArray, List.map_cons, List.map_nil]); first | done | rfl) ?_
  refine (toCfgC_calls a b d _).mono ?_
  rintro e w18 ⟨rfl, hb⟩
  have hHw18_ := hH_.call hb
  refine ⟨_, rfl, hK.out _ _ hHw18_ (fun _ => ?_)⟩
  clear hK K
  refine norm_ (a' := ?_) ?_ ?_
  rotate_left
  · show Act.put _ (some 61) _ = _
    simp only [Act.put, List.setIfInBounds_toArray, List.set_cons_zero, List.set_cons_succ, i64_w, i32_w]
    rfl
  clear hb
  refine one_ (i := 3) (N := some 63) #[true, true, true, true, false, false] rfl rfl (by kernel_rfl) (by decide) (fun K hK => ?_)
  refine goes_ Try.func19 (by kernel_rfl) rfl #[.agg (bkCells s A c L)] (by rfl) rfl rfl (by (try simp only [List.map_toArray, List.map_cons, List.map_nil]); first | done | rfl) ?_
  refine (toBook_calls s A c L _ (HR.out.below hHw18_.base) HM2.out).mono ?_
  rintro e w19 ⟨A5, c5, rfl, ho, hb⟩
  have HO5 := Aside0.mk ho.c
  clear ho
  have hHw19_ := hHw18_.call hb
  refine ⟨_, rfl, hK.out _ _ hHw19_ (fun _ => ?_)⟩
  clear hK K
  refine norm_ (a' := ?_) ?_ ?_
  rotate_left
  · show Act.put _ (some 63) _ = _
    simp only [Act.put, List.setIfInBounds_toArray, List.set_cons_zero, List.set_cons_succ, i64_w, i32_w]
    rfl
  clear hb
  refine one_ (i := 4) (N := some 64) #[true, true, true, true, true, false] rfl rfl (by kernel_rfl) (by decide) (fun K hK => ?_)
  refine goes_ Try.func33 (by kernel_rfl) rfl #[.agg #[.int .i64 a, .int .i64 b, .int .i64 d], .agg (bkCells s A5 c5 L)] (by rfl) rfl rfl (by (try simp only [List.map_toArray, List.map_cons, List.map_nil]); first | done | rfl) ?_
  refine (implLay_calls a b d s A5 c5 L _ HO5.out HM2.out HW.out).mono ?_
  rintro e w20 ⟨r3, A6, c6, rfl, hp3, ho0, hb⟩
  obtain rfl : r = r3 := (hp3.one HP0.out).symm
  clear hp3
  have hHw20_ := hHw19_.call hb
  refine ⟨_, rfl, hK.out _ _ hHw20_ (fun _ => ?_)⟩
  clear hK K
  refine norm_ (a' := ?_) ?_ ?_
  rotate_left
  · show Act.put _ (some 64) _ = _
    simp only [Act.put, List.setIfInBounds_toArray, List.set_cons_zero, List.set_cons_succ, i64_w, i32_w]
    rfl
  refine pure_ (i := 5) (N := some 12) (v := ?_) (a' := ?_) #[true, true, true, true, true, true] rfl rfl (by kernel_rfl) (fun _ _ _ h => h) (Or.inl ⟨by rfl, ?_⟩) ?_ ?_
  rotate_left
  · intro w'
    go_simp
    with_reducible rfl
  rotate_left
  · simp only [Act.put, List.setIfInBounds_toArray, List.set_cons_zero, List.set_cons_succ, i64_w, i32_w]
    rfl
  refine done_ (by kernel_rfl) ?_
  have Sn_ := Aside0.mk (hHw19_.new (P := fun w_ => SlO w_ w19.heap.size w20.heap.size A6 c6 r) hb ho0 (SlO.stable _ _ _ _ _))
  clear S hb
  have S := Sn_
  clear Sn_
  clear HO5 ho0
  go_wp2_with fail
  refine (eqIntS_same A6 c6 A0 c0 r _ (SlO.c (S.out.get 0 rfl)) (SlO.c (S.out.get 2 rfl)) (by have := HLN.out; omega)).mono ?_
  rintro e w21 ⟨rfl, hd⟩
  have hb := hd.below
  clear hd
  have Sn_ := Aside0.mk (S.out.call hb)
  clear S hb
  have S := Sn_
  clear Sn_
  go_wp2_with fail
  refine calls_of_args (args' := #[.slice A3 l2.length c3, .int .i64 1]) (by rw [HL2.out]) ?_
  refine (heldIntS_calls A3 c3 l2 1 _ (SlO.c (S.out.get 1 rfl)) (by omega) (by have := HLN.out; have := HL2.out; omega) (fun j hj => HM22.out j (by have := HL2.out; omega))).mono ?_
  rintro e wz2 ⟨rfl, rfl⟩
  rw [HL2.out]
  go_wp2
  go_ret
  exact ⟨rfl, S.out.base⟩
end Go.Proofs.Ytekneicikmaplaa.Bk

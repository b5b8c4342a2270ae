/- For all words, the program and the reference carry out the same committed changes in memory of their own, and leave the words as they were; at most 2^20 words, else the law answers true at once. -/
import Derived.Test.YtfpdccaomhjpjaaPFnExactCensDonex8
import Derived.Test.YtfpdccaomhjpjaaPl
set_option linter.unusedVariables false
set_option linter.unusedSimpArgs false
namespace Go.Proofs.Ytfpdccaomhjpjaa.Pure
open Go.RowKit Go.Proofs.Ytfpdccaomhjpjaa.PFnExactCensDone Go.Proofs.YtfpdccaomhjpjaaW.PrintWords Go.Proofs.YtfpdccaomhjpjaaW.PrintLast Go.Proofs.YtfpdccaomhjpjaaW.PrintMore Go.Proofs.Ytfpdccaomhjpjaa.Pl

theorem to64_l (x : List Int) (hn : x.length ≤ 35184372088832) (d : Nat) : ∀ (k i : Nat), i ≤ x.length → x.length - i = d → d < k → laws_toUint64S.l0 k x (x.take i ++ List.replicate (x.length - i) 0) i = some x := by
  induction d with
  | zero =>
    intro k i hi hd hk
    obtain ⟨k, rfl⟩ : ∃ m, k = m + 1 := ⟨k - 1, by omega⟩
    have e : i = x.length := by omega
    subst e
    simp only [laws_toUint64S.l0]
    rw [if_neg (by omega)]; simp
  | succ d ih =>
    intro k i hi hd hk
    obtain ⟨k, rfl⟩ : ∃ m, k = m + 1 := ⟨k - 1, by omega⟩
    simp only [laws_toUint64S.l0]
    rw [if_pos (by omega), if_pos (by omega), if_pos (by rw [List.length_append, List.length_take, List.length_replicate]; omega), Int.toNat_natCast, rd_nat x i (by omega), take_set x 0 i (by omega), w64 (by omega) (by omega), succ_cast]
    exact ih k (i + 1) (by omega) (by omega) (by omega)
theorem to64 (x : List Int) (hn : x.length ≤ 35184372088832) (k : Nat) (hk : x.length < k) : laws_toUint64S.f k x = some x := by
  unfold laws_toUint64S.f
  rw [if_pos (by omega), if_pos (by omega), Int.toNat_natCast]
  have := to64_l x hn x.length k 0 (by omega) (by omega) (by omega)
  simpa using this
theorem eq64_l (x : List Int) (hn : x.length ≤ 35184372088832) (d : Nat) : ∀ (k i : Nat), i ≤ x.length → x.length - i = d → d < k → laws_eqUint64S.l0 k x x i = some true := by
  induction d with
  | zero =>
    intro k i hi hd hk
    obtain ⟨k, rfl⟩ : ∃ m, k = m + 1 := ⟨k - 1, by omega⟩
    simp only [laws_eqUint64S.l0]
    rw [if_neg (by omega)]
  | succ d ih =>
    intro k i hi hd hk
    obtain ⟨k, rfl⟩ : ∃ m, k = m + 1 := ⟨k - 1, by omega⟩
    simp only [laws_eqUint64S.l0]
    rw [if_pos (by omega), if_pos (by omega), if_pos (by omega), if_pos trivial, w64 (by omega) (by omega), succ_cast]
    exact ih k (i + 1) (by omega) (by omega) (by omega)
theorem eq64 (x : List Int) (hn : x.length ≤ 35184372088832) (k : Nat) (hk : x.length < k) : laws_eqUint64S.f k x x = some true := by
  unfold laws_eqUint64S.f
  rw [if_pos rfl]
  exact eq64_l x hn x.length k 0 (by omega) (by omega) (by omega)
theorem mark64_l (x : List Int) (a : Int) (ha : 0 ≤ a) (han : a + x.length ≤ 4611686018427387904) (d : Nat) : ∀ (k i : Nat), i ≤ x.length → x.length - i = d → d < k → laws_markUint64S.l0 k (marked i a ++ x.drop i) (a + i) i = some (a + x.length, marked x.length a) := by
  induction d with
  | zero =>
    intro k i hi hd hk
    obtain ⟨k, rfl⟩ : ∃ m, k = m + 1 := ⟨k - 1, by omega⟩
    have e : i = x.length := by omega
    subst e
    simp only [laws_markUint64S.l0]
    rw [if_neg (by rw [List.length_append, marked_length, List.length_drop]; omega)]; simp
  | succ d ih =>
    intro k i hi hd hk
    obtain ⟨k, rfl⟩ : ∃ m, k = m + 1 := ⟨k - 1, by omega⟩
    simp only [laws_markUint64S.l0]
    rw [if_pos (by rw [List.length_append, marked_length, List.length_drop]; omega), if_pos (by omega), Int.toNat_natCast, mark_set x a i (by omega), w64 (n := a + (i : Int) + 1) (by omega) (by omega), w64 (by omega) (by omega), succ_cast, show a + (i : Int) + 1 = a + ((i + 1 : Nat) : Int) from by omega]
    exact ih k (i + 1) (by omega) (by omega) (by omega)
theorem mark64 (x : List Int) (a : Int) (ha : 0 ≤ a) (han : a + x.length ≤ 4611686018427387904) (k : Nat) (hk : x.length < k) : laws_markUint64S.f k x a = some (a + x.length, marked x.length a) := by
  unfold laws_markUint64S.f
  have := mark64_l x a ha han x.length k 0 (by omega) (by omega) (by omega)
  simpa [marked] using this
theorem held64_l (n : Nat) (a : Int) (ha : 0 ≤ a) (han : a + n ≤ 4611686018427387904) (d : Nat) : ∀ (k i : Nat), i ≤ n → n - i = d → d < k → laws_heldUint64S.l0 k (marked n a) (a + i) i = some (a + n) := by
  induction d with
  | zero =>
    intro k i hi hd hk
    obtain ⟨k, rfl⟩ : ∃ m, k = m + 1 := ⟨k - 1, by omega⟩
    have e : i = n := by omega
    subst e
    simp only [laws_heldUint64S.l0]
    rw [if_neg (by rw [marked_length]; omega)]
  | succ d ih =>
    intro k i hi hd hk
    obtain ⟨k, rfl⟩ : ∃ m, k = m + 1 := ⟨k - 1, by omega⟩
    simp only [laws_heldUint64S.l0]
    rw [if_pos (by rw [marked_length]; omega), if_pos (by omega), if_pos (by rw [rd_nat _ i (by rw [marked_length]; omega), marked_get n a i (by omega)]), w64 (n := a + (i : Int) + 1) (by omega) (by omega), w64 (by omega) (by omega), succ_cast, show a + (i : Int) + 1 = a + ((i + 1 : Nat) : Int) from by omega]
    exact ih k (i + 1) (by omega) (by omega) (by omega)
theorem held64 (n : Nat) (a : Int) (ha : 0 ≤ a) (han : a + n ≤ 4611686018427387904) (k : Nat) (hk : n < k) : laws_heldUint64S.f k (marked n a) a = some (a + n) := by
  unfold laws_heldUint64S.f
  have := held64_l n a ha han n k 0 (by omega) (by omega) (by omega)
  simpa using this
theorem clone64 (l : List Int) (h : l.length < 17592186044416) : slices_Clone_uint64_uint64.f l = some l := by
  unfold slices_Clone_uint64_uint64.f
  simp only [Option.bind_some, List.length_nil, Nat.zero_add, List.nil_append]
  rw [if_pos h]
theorem low_eq (n m : Int) : spec_l1Low.f n m = some (cl n m) := by
  unfold spec_l1Low.f cl
  by_cases a : n < 0
  · rw [if_pos a, if_pos a]
  · rw [if_neg a, if_neg a]
    by_cases b : n > m
    · rw [if_pos b, if_pos b]
    · rw [if_neg b, if_neg b]
theorem spack_eq (v s : Int) : spec_CellPack.f v s = some (pack v s) := by
  unfold spec_CellPack.f; simp only [low_eq, Option.bind_some]; rw [pack_spec]
theorem clamp_eq (n m : Int) (h : 0 ≤ m) : impl_clamp.f n m = some (cl n m) := by
  unfold impl_clamp.f; rw [cl_mx n m h]
theorem ipack_eq (v s : Int) : impl_CellPack.f v s = some (pack v s) := by
  unfold impl_CellPack.f; rw [clamp_eq _ _ (by omega), clamp_eq _ _ (by omega)]; simp only [Option.bind_some]; rw [pack_impl]
theorem sval_eq {w : Int} (h : 0 ≤ w) : spec_CellVal.f w = some (wval w) := by
  unfold spec_CellVal.f; rw [val_spec h]
theorem ival_eq {w : Int} (h : 0 ≤ w) (h1 : w ≤ 18446744073709551615) : impl_CellVal.f w = some (wval w) := by
  unfold impl_CellVal.f; rw [val_impl h h1]
theorem sstamp_eq {w : Int} (h : 0 ≤ w) (h1 : w ≤ 18446744073709551615) : spec_CellStamp.f w = some (wstamp w) := by
  unfold spec_CellStamp.f; rw [stamp_spec h h1]
theorem istamp_eq {w : Int} (h : 0 ≤ w) (h1 : w ≤ 18446744073709551615) : impl_CellStamp.f w = some (wstamp w) := by
  unfold impl_CellStamp.f; rw [stamp_impl h h1]
def Words (l : List Int) : Prop := ∀ x ∈ l, 0 ≤ x ∧ x ≤ 18446744073709551615
/-- A change carried out. -/
def putE (l : List Int) (e : Int) : List Int :=
  if wval e / 1048576 < (l.length : Int) ∧ wstamp (rd l (wval e / 1048576)) < wstamp e then l.set (wval e / 1048576).toNat (pack (wval e % 1048576) (wstamp e)) else l
theorem putE_len (l : List Int) (e : Int) : (putE l e).length = l.length := by
  unfold putE
  split
  · exact List.length_set
  · rfl
theorem putE_words {l : List Int} (h : Words l) (e : Int) : Words (putE l e) := by
  unfold putE
  split
  · intro x hx
    rcases List.mem_or_eq_of_mem_set hx with hx | rfl
    · exact h x hx
    · exact ⟨pack_lo _ _, pack_hi _ _⟩
  · exact h
theorem sput_eq {l : List Int} (h : Words l) {e : Int} (e0 : 0 ≤ e) (e1 : e ≤ 18446744073709551615) (k : Nat) (hk : 0 < k) : spec_l4Put.f k l e = some (putE l e) := by
  obtain ⟨k, rfl⟩ : ∃ m, k = m + 1 := ⟨k - 1, by omega⟩
  have a := wval_lo e
  have b := wval_hi e
  unfold spec_l4Put.f spec_CellEntryOf.f putE
  rw [sval_eq e0]
  simp only [Option.bind_some]
  rw [tdivp a, tmodp a, w64 (n := wval e / 1048576) (by omega) (by omega)]
  by_cases c : wval e / 1048576 < (l.length : Int)
  · obtain ⟨w0, w1⟩ := h _ (rd_mem l (i := wval e / 1048576) (by omega) c)
    rw [if_pos c, if_pos (by omega), sstamp_eq w0 w1, sstamp_eq e0 e1]
    simp only [Option.bind_some, spec_l4Put.j0]
    by_cases d : wstamp (rd l (wval e / 1048576)) < wstamp e
    · rw [decide_eq_true d, if_pos rfl, sstamp_eq e0 e1]
      simp only [Option.bind_some]
      rw [spack_eq]
      simp only [Option.bind_some]
      rw [if_pos (by omega), if_pos c, if_pos ⟨c, d⟩]
    · rw [decide_eq_false d, if_neg (by decide), if_neg (fun h => d h.2)]
  · rw [if_neg c, if_neg (fun h => c h.1)]
    simp only [spec_l4Put.j0, Bool.false_eq_true, if_false]
theorem iput_eq {l : List Int} (h : Words l) {e : Int} (e0 : 0 ≤ e) (e1 : e ≤ 18446744073709551615) (k : Nat) (hk : 0 < k) : impl_applied.f k l e = some (putE l e) := by
  obtain ⟨k, rfl⟩ : ∃ m, k = m + 1 := ⟨k - 1, by omega⟩
  have a := wval_lo e
  have b := wval_hi e
  unfold impl_applied.f impl_CellEntryOf.f putE
  rw [ival_eq e0 e1]
  simp only [Option.bind_some]
  rw [tdivp a, tmodp a, w64 (n := wval e / 1048576) (by omega) (by omega)]
  by_cases c : wval e / 1048576 < (l.length : Int)
  · obtain ⟨w0, w1⟩ := h _ (rd_mem l (i := wval e / 1048576) (by omega) c)
    rw [if_pos c, if_pos (by omega), istamp_eq w0 w1, istamp_eq e0 e1]
    simp only [Option.bind_some, impl_applied.j0]
    by_cases d : wstamp (rd l (wval e / 1048576)) < wstamp e
    · rw [decide_eq_true d, if_pos rfl, istamp_eq e0 e1]
      simp only [Option.bind_some]
      rw [ipack_eq]
      simp only [Option.bind_some]
      rw [if_pos (by omega), if_pos c, if_pos ⟨c, d⟩]
    · rw [decide_eq_false d, if_neg (by decide), if_neg (fun h => d h.2)]
  · rw [if_neg c, if_neg (fun h => c h.1)]
    simp only [impl_applied.j0, Bool.false_eq_true, if_false]
theorem idoor_eq (a b c d : Int) : impl_CellDoor.f a b c d = some (pack (cl a 2 + 4 * cl b 7 + 32 * cl c 4095) d) := by
  unfold impl_CellDoor.f
  have := cl_lo a 2 (by omega); have := cl_hi a 2 (by omega); have := cl_lo b 7 (by omega); have := cl_hi b 7 (by omega); have := cl_lo c 4095 (by omega); have := cl_hi c 4095 (by omega)
  simp only [clamp_eq _ 2 (by omega), clamp_eq _ 7 (by omega), clamp_eq _ 4095 (by omega), Option.bind_some, ipack_eq]
  rw [w64 (n := 4 * cl b 7) (by omega) (by omega), w64 (n := 32 * cl c 4095) (by omega) (by omega), w64 (n := cl a 2 + 4 * cl b 7) (by omega) (by omega), w64 (by omega) (by omega)]
theorem sdoor_eq (a b c d : Int) : spec_CellDoor.f a b c d = some (pack (cl a 2 + 4 * cl b 7 + 32 * cl c 4095) d) := by
  unfold spec_CellDoor.f
  have := cl_lo a 2 (by omega); have := cl_hi a 2 (by omega); have := cl_lo b 7 (by omega); have := cl_hi b 7 (by omega); have := cl_lo c 4095 (by omega); have := cl_hi c 4095 (by omega)
  simp only [low_eq, Option.bind_some, spack_eq]
  rw [w64 (n := 4 * cl b 7) (by omega) (by omega), w64 (n := 32 * cl c 4095) (by omega) (by omega), w64 (n := cl a 2 + 4 * cl b 7) (by omega) (by omega), w64 (by omega) (by omega)]
theorem sdoorof_eq {w : Int} (h0 : 0 ≤ w) : spec_CellDoorOf.f w = some (wval w % 4, wval w / 4 % 8, wval w / 32) := by
  unfold spec_CellDoorOf.f
  have a := wval_lo w
  have b := wval_hi w
  simp only [sval_eq h0, Option.bind_some]
  rw [tmodp a, tdivp a, tdivp a, w64 (n := wval w / 4) (by omega) (by omega), w64 (n := wval w / 32) (by omega) (by omega), tmodp (a := wval w / 4) (by omega)]
theorem idoorof_eq {w : Int} (h0 : 0 ≤ w) (h1 : w ≤ 18446744073709551615) : impl_CellDoorOf.f w = some (wval w % 4, wval w / 4 % 8, wval w / 32) := by
  unfold impl_CellDoorOf.f
  have a := wval_lo w
  have b := wval_hi w
  simp only [ival_eq h0 h1, Option.bind_some]
  rw [tmodp a, tdivp a, tdivp a, w64 (n := wval w / 4) (by omega) (by omega), w64 (n := wval w / 32) (by omega) (by omega), tmodp (a := wval w / 4) (by omega)]
theorem within_eq (n a b : Int) : impl_within.f n a b = some (decide (a ≤ n ∧ n ≤ b)) := by
  unfold impl_within.f
  by_cases h : a ≤ n
  · rw [if_pos h]; congr 1; simp [h]
  · rw [if_neg h]; congr 1; simp [h]
theorem splatok_eq (a b c : Int) : spec_PlatOk.f a b c = some (decide (pok a b c)) := by
  unfold spec_PlatOk.f
  by_cases h : pok a b c
  · have h' := h
    unfold pok at h'
    rw [if_pos (by omega), if_pos (by omega), if_pos (by omega), if_pos (by omega), if_pos (by omega)]
    apply congrArg some
    rw [decide_eq_true h, decide_eq_true_eq]; omega
  · rw [decide_eq_false h]
    unfold pok at h
    repeat' split
    all_goals first | rfl | (apply congrArg some; rw [decide_eq_false_iff_not]; omega)
theorem iplatok_eq (a b c : Int) : impl_PlatOk.f a b c = some (decide (pok a b c)) := by
  unfold impl_PlatOk.f
  simp only [within_eq, Option.bind_some]
  by_cases h : pok a b c
  · have h' := h
    unfold pok at h'
    rw [decide_eq_true h, if_pos (by simp; omega), if_pos (by simp; omega)]
    apply congrArg some
    rw [decide_eq_true_eq]; omega
  · rw [decide_eq_false h]
    unfold pok at h
    repeat' split
    all_goals first | rfl | (apply congrArg some; rw [decide_eq_false_iff_not]; simp only [decide_eq_true_eq] at *; omega)
theorem shouse_eq {a b c : Int} (h : pok a b c) : spec_l2House.f a b c = some (house a b) := by
  unfold spec_l2House.f house; unfold pok at h; congr 1
  rw [w64 (n := 2 * a) (by omega) (by omega), w64 (n := 16 * b) (by omega) (by omega), w64 (n := 3 + 2 * a) (by omega) (by omega), w64 (n := 3 + 2 * a + 4) (by omega) (by omega), w64 (n := 3 + 2 * a + 4 + b) (by omega) (by omega), w64 (by omega) (by omega)]; omega
theorem ssize_eq {a b c : Int} (h : pok a b c) : spec_l2Size.f a b c = some (hsize a b) := by
  unfold spec_l2Size.f; rw [shouse_eq h]; simp only [Option.bind_some]; unfold house hsize; unfold pok at h; congr 1
  rw [w64 (n := a * 21) (by omega) (by omega), w64 (by omega) (by omega)]; omega
theorem smagic_eq {v : Int} (h0 : 0 ≤ v) (h1 : v ≤ 4294967295) : spec_l2Magic.f (v % 8) (v / 8 % 8) (v / 64) = some (pack v 201115) := by
  unfold spec_l2Magic.f
  rw [w64 (n := 8 * (v / 8 % 8)) (by omega) (by omega), w64 (n := 64 * (v / 64)) (by omega) (by omega), w64 (n := v % 8 + 8 * (v / 8 % 8)) (by omega) (by omega), w64 (by omega) (by omega), spack_eq]
  simp only [Option.bind_some]
  rw [show v % 8 + 8 * (v / 8 % 8) + 64 * (v / 64) = v from by omega]
theorem scheck_eq (l : List Int) (hl : ∀ x ∈ l, 0 ≤ x ∧ x ≤ 18446744073709551615) : spec_PlatCheck.f l = some (chk l) := by
  unfold spec_PlatCheck.f chk
  by_cases h0 : (l.length : Int) = 0
  · rw [if_pos h0, if_pos (by omega)]
  · rw [if_neg h0, if_pos (by omega), if_neg (by omega)]
    obtain ⟨w0, w1⟩ := hl _ (rd_mem l (i := 0) (by omega) (by omega))
    rw [sval_eq w0]
    have v0 := wval_lo (rd l 0)
    have v1 := wval_hi (rd l 0)
    simp only [Option.bind_some]
    rw [tdivp v0, tdivp v0, tmodp v0, w64 (n := wval (rd l 0) / 8) (by omega) (by omega), w64 (n := wval (rd l 0) / 64) (by omega) (by omega), tmodp (a := wval (rd l 0) / 8) (by omega), splatok_eq]
    simp only [Option.bind_some, decide_eq_true_eq]
    by_cases hp : pok (wval (rd l 0) % 8) (wval (rd l 0) / 8 % 8) (wval (rd l 0) / 64)
    · rw [if_pos hp, smagic_eq v0 v1, ssize_eq hp]
      simp only [Option.bind_some]
      have e := pack_iff w0 w1
      by_cases hs : wstamp (rd l 0) = 201115
      · rw [if_pos (e.2 hs)]
        by_cases hn : (l.length : Int) = hsize (wval (rd l 0) % 8) (wval (rd l 0) / 8 % 8)
        · rw [if_pos hn, if_pos ⟨hp, hs, hn⟩]
        · rw [if_neg hn, if_neg (fun h => hn h.2.2)]
      · rw [if_neg (fun h => hs (e.1 h)), if_neg (fun h => hs h.2.1)]
    · rw [if_neg hp, if_neg (fun h => hp h.1)]
theorem beatAt_eq {a b c : Int} (h : pok a b c) : impl_PlatCfg_beatAt.f a b c = some (3 + a) := by
  unfold impl_PlatCfg_beatAt.f impl_PlatCfg_regAt.f; unfold pok at h; simp only [Option.bind_some]; rw [w64 (by omega) (by omega)]
theorem headAt_eq {a b c : Int} (h : pok a b c) : impl_PlatCfg_headAt.f a b c = some (3 + 2 * a) := by
  unfold impl_PlatCfg_headAt.f; rw [beatAt_eq h]; unfold pok at h; simp only [Option.bind_some]; rw [w64 (by omega) (by omega)]; congr 1; omega
theorem pageAt_eq {a b c : Int} (h : pok a b c) : impl_PlatCfg_pageAt.f a b c = some (7 + 2 * a) := by
  unfold impl_PlatCfg_pageAt.f; rw [headAt_eq h]; unfold pok at h; simp only [Option.bind_some]; rw [w64 (by omega) (by omega)]; congr 1; omega
theorem tagAt_eq {a b c : Int} (h : pok a b c) : impl_PlatCfg_tagAt.f a b c = some (7 + 2 * a + b) := by
  unfold impl_PlatCfg_tagAt.f; rw [pageAt_eq h]; unfold pok at h; simp only [Option.bind_some]; rw [w64 (by omega) (by omega)]
theorem linkAt_eq {a b c : Int} (h : pok a b c) : impl_PlatCfg_linkAt.f a b c = some (7 + 2 * a + 9 * b) := by
  unfold impl_PlatCfg_linkAt.f; rw [tagAt_eq h]; unfold pok at h; simp only [Option.bind_some]; rw [w64 (n := 8 * b) (by omega) (by omega), w64 (by omega) (by omega)]; congr 1; omega
theorem deskAt_eq {a b c : Int} (h : pok a b c) : impl_PlatCfg_deskAt.f a b c = some (house a b) := by
  unfold impl_PlatCfg_deskAt.f; rw [linkAt_eq h]; unfold house; unfold pok at h; simp only [Option.bind_some]; rw [w64 (n := 8 * b) (by omega) (by omega), w64 (by omega) (by omega)]; congr 1; omega
theorem isize_eq {a b c : Int} (h : pok a b c) : impl_PlatCfg_size.f a b c = some (hsize a b) := by
  unfold impl_PlatCfg_size.f; rw [deskAt_eq h]; unfold house hsize; unfold pok at h; simp only [Option.bind_some]; rw [w64 (n := a * 21) (by omega) (by omega), w64 (by omega) (by omega)]; congr 1; omega
theorem icfg_eq (l : List Int) (hl : ∀ x ∈ l, 0 ≤ x ∧ x ≤ 18446744073709551615) (k : Nat) (hk : 0 < k) : impl_cfgOf.f k l = some (cfgd l) := by
  obtain ⟨k, rfl⟩ : ∃ m, k = m + 1 := ⟨k - 1, by omega⟩
  unfold impl_cfgOf.f cfgd
  by_cases h0 : (l.length : Int) = 0
  · rw [if_pos h0, if_pos (by omega)]; simp only [impl_cfgOf.j0, if_true]
  · rw [if_neg h0, if_pos (by omega), if_neg (by omega)]
    obtain ⟨w0, w1⟩ := hl _ (rd_mem l (i := 0) (by omega) (by omega))
    rw [istamp_eq w0 w1]
    have v0 := wval_lo (rd l 0)
    have v1 := wval_hi (rd l 0)
    simp only [Option.bind_some, impl_cfgOf.j0]
    by_cases hs : wstamp (rd l 0) = 201115
    · rw [if_neg (by simp [hs]), if_pos (by omega), ival_eq w0 w1]
      simp only [Option.bind_some]
      rw [tdivp v0, tdivp v0, tmodp v0, w64 (n := wval (rd l 0) / 8) (by omega) (by omega), w64 (n := wval (rd l 0) / 64) (by omega) (by omega), tmodp (a := wval (rd l 0) / 8) (by omega), iplatok_eq]
      simp only [Option.bind_some]
      rw [if_pos hs]
    · rw [if_pos (by simpa using hs), if_neg hs]
theorem icheck_eq (l : List Int) (hl : ∀ x ∈ l, 0 ≤ x ∧ x ≤ 18446744073709551615) (k : Nat) (hk : 0 < k) : impl_PlatCheck.f k l = some (chk l) := by
  unfold impl_PlatCheck.f
  rw [icfg_eq l hl k hk]; simp only [Option.bind_some]
  unfold cfgd chk
  by_cases h0 : l.length = 0
  · rw [if_pos h0, if_pos h0]; rfl
  · rw [if_neg h0, if_neg h0]
    by_cases hs : wstamp (rd l 0) = 201115
    · rw [if_pos hs]
      simp only [decide_eq_true_eq]
      by_cases hp : pok (wval (rd l 0) % 8) (wval (rd l 0) / 8 % 8) (wval (rd l 0) / 64)
      · rw [if_pos hp, isize_eq hp]
        simp only [Option.bind_some]
        by_cases hn : (l.length : Int) = hsize (wval (rd l 0) % 8) (wval (rd l 0) / 8 % 8)
        · rw [if_pos hn, if_pos ⟨hp, hs, hn⟩]
        · rw [if_neg hn, if_neg (fun h => hn h.2.2)]
      · rw [if_neg hp, if_neg (fun h => hp h.1)]
    · rw [if_neg hs]; simp only [Bool.false_eq_true, if_false]; rw [if_neg (fun h => hs h.2.1)]
theorem l2at_no {a b c : Int} (h : ¬ pok a b c) (f n m s : Int) : spec_l2At.f a b c f n m s = some 0 := by
  unfold spec_l2At.f; simp only [splatok_eq, Option.bind_some, decide_eq_true_eq, if_neg h]
theorem l2at_yes {a b c : Int} (h : pok a b c) {f n m s : Int} (f0 : 0 ≤ f) (f1 : f ≤ 1000) (m1 : m ≤ 1000) (s0 : 0 ≤ s) (s1 : s ≤ 100) :
    spec_l2At.f a b c f n m s = some (if 0 ≤ n ∧ n < m then f + n * s else 0) := by
  unfold spec_l2At.f; simp only [splatok_eq, Option.bind_some, decide_eq_true_eq, if_pos h]
  by_cases h0 : n < 0
  · rw [if_pos h0, if_neg (by omega)]
  · rw [if_neg h0]
    by_cases h1 : n ≥ m
    · rw [if_pos h1, if_neg (by omega)]
    · have e0 : 0 ≤ n * s := Int.mul_nonneg (by omega) s0
      have e1 : n * s ≤ 1000 * 100 := Int.mul_le_mul (by omega) s1 s0 (by omega)
      rw [if_neg h1, if_pos (by omega), w64 (n := n * s) (by omega) (by omega), w64 (by omega) (by omega)]
theorem sdesk_eq {a b c n : Int} (h : pok a b c) (n0 : 0 ≤ n) (n1 : n < a) : spec_PlatDesk.f a b c n = some (house a b + n * 21) := by
  have h' := h
  unfold pok at h'
  have hh : 0 ≤ house a b ∧ house a b ≤ 1000 := by unfold house; omega
  unfold spec_PlatDesk.f
  rw [shouse_eq h]
  simp only [Option.bind_some]
  rw [l2at_yes h hh.1 hh.2 (by omega) (by omega) (by omega), if_pos ⟨n0, n1⟩]
  rfl
theorem idesk_eq {a b c n : Int} (h : pok a b c) (n0 : 0 ≤ n) (n1 : n < a) : impl_PlatDesk.f a b c n = some (house a b + n * 21) := by
  have h' := h
  unfold pok at h'
  have hh : 0 ≤ house a b ∧ house a b ≤ 1000 := by unfold house; omega
  unfold impl_PlatDesk.f
  rw [iplatok_eq]
  simp only [Option.bind_some, decide_eq_true_eq]
  rw [if_pos h, within_eq, deskAt_eq h, w64 (n := a - 1) (by omega) (by omega)]
  simp only [Option.bind_some, decide_eq_true_eq]
  rw [if_pos (by omega), w64 (n := n * 21) (by omega) (by omega), w64 (by omega) (by omega)]
/-- The committed changes among some. -/
def ofDoor (D : Int) (m : List Int) : List Int := m.filter fun x => decide (wstamp x = wstamp D)
/-- Changes carried out one after another, and the door opened. -/
def fin (D : Int) (l m : List Int) : List Int := (m.foldl putE l).set (2 : Int).toNat (pack (cl 0 2 + 4 * cl 0 7 + 32 * cl 0 4095) (wstamp D + 1))
theorem fold_len (m : List Int) : ∀ l : List Int, (m.foldl putE l).length = l.length := by
  induction m with
  | nil => intro l; rfl
  | cons x m ih => intro l; rw [List.foldl_cons, ih, putE_len]
theorem fin_len (D : Int) (l m : List Int) : (fin D l m).length = l.length := by
  unfold fin; rw [List.length_set, fold_len]
theorem ofDoor_words {D : Int} {m : List Int} (h : Words m) : Words (ofDoor D m) := fun x hx => h x (List.mem_filter.mp hx).1
theorem ofDoor_len (D : Int) (m : List Int) : (ofDoor D m).length ≤ m.length := List.length_filter_le _ _
theorem comm_l (D : Int) (D0 : 0 ≤ D) (D1 : D ≤ 18446744073709551615) (m : List Int) (hm : Words m) (d : Nat) : ∀ (k i : Nat) (c : List Int), i ≤ m.length → m.length - i = d → d < k → c.length + d ≤ 2097152 → m.length ≤ 1048576 →
    impl_committed.l0 k D c m (m.length : Int) i = some (c ++ ofDoor D (m.drop i), true) := by
  induction d with
  | zero =>
    intro k i c hi hd hk _ _
    obtain ⟨k, rfl⟩ : ∃ m, k = m + 1 := ⟨k - 1, by omega⟩
    simp only [impl_committed.l0]; rw [if_neg (by omega), List.drop_eq_nil_of_le (by omega)]
    simp [ofDoor]
  | succ d ih =>
    intro k i c hi hd hk hc hn
    obtain ⟨k, rfl⟩ : ∃ m, k = m + 1 := ⟨k - 1, by omega⟩
    obtain ⟨e0, e1⟩ := hm _ (rd_mem m (i := (i : Int)) (by omega) (by omega))
    have g : i < m.length := by omega
    simp only [impl_committed.l0]
    rw [if_pos (by omega), if_pos (by omega), if_pos (by omega), istamp_eq e0 e1, istamp_eq D0 D1, w64 (n := (i : Int) + 1) (by omega) (by omega), succ_cast, List.drop_eq_getElem_cons g, ← rd_nat m i g]
    simp only [Option.bind_some]
    by_cases q : wstamp (rd m i) = wstamp D
    · rw [if_pos q, if_pos (by omega), ih k (i + 1) _ (by omega) (by omega) (by omega) (by simp; omega) hn]
      simp [ofDoor, q]
    · rw [if_neg q, ih k (i + 1) _ (by omega) (by omega) (by omega) (by omega) hn]
      simp [ofDoor, q]
theorem done_l (l : List Int) (hl : Words l) (h2 : 2 < l.length) (m : List Int) (hm : Words m) (hn : m.length ≤ 1048576) (d : Nat) : ∀ (k i : Nat) (o : List Int), Words o → o.length = l.length → i ≤ m.length → m.length - i = d → d + 1 < k →
    impl_done.l0 k l o m (m.length : Int) i = some (fin (rd l 2) o (m.drop i)) := by
  obtain ⟨D0, D1⟩ := hl _ (rd_mem l (i := 2) (by omega) (by omega))
  have s0 := wstamp_lo D0
  have s1 := wstamp_hi D1
  induction d with
  | zero =>
    intro k i o ho hlo hi hd hk
    obtain ⟨k, rfl⟩ : ∃ m, k = m + 1 := ⟨k - 1, by omega⟩
    simp only [impl_done.l0]; rw [if_neg (by omega), List.drop_eq_nil_of_le (by omega), if_pos (by omega), istamp_eq D0 D1]
    simp only [Option.bind_some]
    rw [w64 (n := wstamp (rd l 2) + 1) (by omega) (by omega), idoor_eq]
    simp only [Option.bind_some]
    rw [if_pos (by omega)]
    rfl
  | succ d ih =>
    intro k i o ho hlo hi hd hk
    obtain ⟨k, rfl⟩ : ∃ m, k = m + 1 := ⟨k - 1, by omega⟩
    obtain ⟨e0, e1⟩ := hm _ (rd_mem m (i := (i : Int)) (by omega) (by omega))
    have g : i < m.length := by omega
    simp only [impl_done.l0]
    rw [if_pos (by omega), if_pos (by omega), if_pos (by omega), iput_eq ho e0 e1 k (by omega), w64 (n := (i : Int) + 1) (by omega) (by omega), succ_cast]
    simp only [Option.bind_some]
    rw [ih k (i + 1) _ (putE_words ho _) (by rw [putE_len, hlo]) (by omega) (by omega) (by omega), List.drop_eq_getElem_cons g, ← rd_nat m i g]
    rfl
theorem cens_l (l : List Int) (hl : Words l) (h2 : 2 < l.length) (hn : l.length ≤ 1048576) (p n : Nat) (hp : p + 1 + n ≤ l.length) (d : Nat) : ∀ (k i : Nat) (o : List Int), Words o → o.length = l.length → 1 ≤ i → i ≤ n + 1 → n + 1 - i = d → d + 1 < k →
    spec_CensDone.l0 k l o (rd l 2) (p : Int) (n : Int) i = some (fin (rd l 2) o (ofDoor (rd l 2) ((l.take (p + 1 + n)).drop (p + i)))) := by
  obtain ⟨D0, D1⟩ := hl _ (rd_mem l (i := 2) (by omega) (by omega))
  have s0 := wstamp_lo D0
  have s1 := wstamp_hi D1
  induction d with
  | zero =>
    intro k i o ho hlo h1 hi hd hk
    obtain ⟨k, rfl⟩ : ∃ m, k = m + 1 := ⟨k - 1, by omega⟩
    simp only [spec_CensDone.l0]; rw [if_neg (by omega), List.drop_eq_nil_of_le (by rw [List.length_take]; omega), sstamp_eq D0 D1]
    simp only [Option.bind_some]
    rw [w64 (n := wstamp (rd l 2) + 1) (by omega) (by omega), sdoor_eq]
    simp only [Option.bind_some]
    rw [if_pos (by omega)]
    rfl
  | succ d ih =>
    intro k i o ho hlo h1 hi hd hk
    obtain ⟨k, rfl⟩ : ∃ m, k = m + 1 := ⟨k - 1, by omega⟩
    have g : p + i < (l.take (p + 1 + n)).length := by rw [List.length_take]; omega
    have g' : p + i < l.length := by omega
    have e : (l.take (p + 1 + n)).drop (p + i) = rd l ((p + i : Nat) : Int) :: (l.take (p + 1 + n)).drop (p + (i + 1)) := by
      rw [List.drop_eq_getElem_cons g, rd_nat l (p + i) g', List.getElem_take]; rfl
    obtain ⟨e0, e1⟩ := hl _ (rd_mem l (i := ((p + i : Nat) : Int)) (by omega) (by omega))
    simp only [spec_CensDone.l0]
    rw [if_pos (by omega), w64 (n := (p : Int) + i) (by omega) (by omega), w64 (n := (i : Int) + 1) (by omega) (by omega), show (p : Int) + (i : Int) = ((p + i : Nat) : Int) from by omega, succ_cast, if_pos (by omega), if_pos (by omega), sstamp_eq e0 e1, sstamp_eq D0 D1, e]
    simp only [Option.bind_some]
    by_cases q : wstamp (rd l ((p + i : Nat) : Int)) = wstamp (rd l 2)
    · rw [if_pos q, sput_eq ho e0 e1 k (by omega)]
      simp only [Option.bind_some]
      rw [ih k (i + 1) _ (putE_words ho _) (by rw [putE_len, hlo]) (by omega) (by omega) (by omega) (by omega)]
      simp only [ofDoor, List.filter_cons, q, decide_true, if_true]
      rfl
    · rw [if_neg q, ih k (i + 1) _ ho hlo (by omega) (by omega) (by omega) (by omega)]
      simp only [ofDoor, List.filter_cons, q, decide_false, Bool.false_eq_true, if_false]
theorem cens_both (l : List Int) (hl : Words l) (hn : l.length ≤ 1048576) : ∃ R : List Int, R.length = l.length ∧ ∀ k : Nat, 1048600 < k → spec_CensDone.f k l = some R ∧ impl_CensDone.f k l = some R := by
  have S : ∀ k, spec_CensDone.f k l = (if (chk l).2.2.2 = true then (if 2 < (l.length : Int) then ((spec_CellDoorOf.f (rd l 2)).bind fun bt149 => (if bt149.1 = 2 then (spec_CensDone.j0 k l l (rd l 2) bt149.2.1 (decide (bt149.2.1 ≥ (chk l).1)) (chk l).1 (chk l).2.1 (chk l).2.2.1) else (spec_CensDone.j0 k l l (rd l 2) bt149.2.1 true (chk l).1 (chk l).2.1 (chk l).2.2.1))) else (none)) else (some l)) := fun k => by
    unfold spec_CensDone.f
    rw [scheck_eq l hl]
    simp only [Option.bind_some, List.length_nil, Nat.zero_add, List.nil_append]
    rw [if_pos (by omega)]
  have I : ∀ k, 0 < k → impl_CensDone.f k l = (if (chk l).2.2.2 = true then ((impl_done.f k (chk l).1 (chk l).2.1 (chk l).2.2.1 l).bind fun t270 => (some t270)) else some l) := fun k hk => by
    unfold impl_CensDone.f
    rw [icheck_eq l hl k hk, clone64 l (by omega)]
    simp only [Option.bind_some]
  rcases chk_cases l with c | ⟨a, b, c, e, hp, hs⟩
  · refine ⟨l, rfl, fun k hk => ⟨?_, ?_⟩⟩
    · rw [S, c]; rfl
    · rw [I k (by omega), c]; rfl
  · have hp' := hp
    unfold pok at hp'
    have hs' := hs
    unfold hsize at hs'
    have h2 : 2 < l.length := by omega
    obtain ⟨D0, D1⟩ := hl _ (rd_mem l (i := 2) (by omega) (by omega))
    have J : ∀ k, 0 < k → impl_CensDone.f k l = ((impl_committed.f k a b c l).bind fun bt255 => (if bt255.2 = true then (impl_done.l0 k l l bt255.1 (bt255.1.length : Int) 0) else (some l))).bind fun t270 => some t270 := fun k hk => by
      rw [I k hk, e]
      simp only [if_true]
      unfold impl_done.f
      rw [clone64 l (by omega)]
      simp only [Option.bind_some]
    have C : ∀ k, impl_committed.f k a b c l = if wval (rd l 2) % 4 = 2 then impl_committed.j0 k l (rd l 2) (wval (rd l 2) / 4 % 8) (decide (wval (rd l 2) / 4 % 8 ≥ a)) a b c else impl_committed.j0 k l (rd l 2) (wval (rd l 2) / 4 % 8) true a b c := fun k => by
      unfold impl_committed.f
      rw [if_pos (by omega), idoorof_eq D0 D1]
      rfl
    have T : ∀ k, spec_CensDone.f k l = if wval (rd l 2) % 4 = 2 then spec_CensDone.j0 k l l (rd l 2) (wval (rd l 2) / 4 % 8) (decide (wval (rd l 2) / 4 % 8 ≥ a)) a b c else spec_CensDone.j0 k l l (rd l 2) (wval (rd l 2) / 4 % 8) true a b c := fun k => by
      rw [S, e]
      simp only [if_true]
      rw [if_pos (by omega), sdoorof_eq D0]
      rfl
    have no : ∀ k, 1048600 < k → spec_CensDone.j0 k l l (rd l 2) (wval (rd l 2) / 4 % 8) true a b c = some l ∧ impl_committed.j0 k l (rd l 2) (wval (rd l 2) / 4 % 8) true a b c = some ([], false) := fun k hk => by
      obtain ⟨k, rfl⟩ : ∃ m, k = m + 1 := ⟨k - 1, by omega⟩
      simp only [spec_CensDone.j0, impl_committed.j0, if_true, and_self]
    by_cases st : wval (rd l 2) % 4 = 2
    · by_cases sl : wval (rd l 2) / 4 % 8 ≥ a
      · refine ⟨l, rfl, fun k hk => ⟨?_, ?_⟩⟩
        · rw [T, if_pos st, decide_eq_true sl]; exact (no k hk).1
        · rw [J k (by omega), C, if_pos st, decide_eq_true sl, (no k hk).2]; rfl
      · have v0 := wval_lo (rd l 2)
        generalize hslot : wval (rd l 2) / 4 % 8 = slot at *
        have slot0 : 0 ≤ slot := by omega
        have slot1 : slot < a := by omega
        have hh : 0 ≤ house a b ∧ house a b + 21 * a = hsize a b := by unfold house hsize; omega
        have at1 : house a b + slot * 21 + 21 ≤ (l.length : Int) := by omega
        obtain ⟨p, hpp⟩ : ∃ p : Nat, house a b + slot * 21 = (p : Int) := ⟨(house a b + slot * 21).toNat, by omega⟩
        obtain ⟨E0, E1⟩ := hl _ (rd_mem l (i := (p : Int)) (by omega) (by omega))
        have n0 := wval_lo (rd l p)
        obtain ⟨n, hnn⟩ : ∃ n : Nat, wval (rd l p) = (n : Int) := ⟨(wval (rd l p)).toNat, by omega⟩
        have T' : ∀ k, spec_CensDone.f (k + 1) l = if wstamp (rd l p) = wstamp (rd l 2) then spec_CensDone.j1 k l l (rd l 2) p n (decide ((n : Int) > 20)) else spec_CensDone.j1 k l l (rd l 2) p n true := fun k => by
          rw [T, if_pos st, decide_eq_false sl]
          simp only [spec_CensDone.j0, Bool.false_eq_true, if_false]
          rw [sdesk_eq hp slot0 slot1, hpp]
          simp only [Option.bind_some]
          rw [if_pos (by omega), if_pos (by omega), sval_eq E0, sstamp_eq E0 E1, sstamp_eq D0 D1, hnn]
          rfl
        have C' : ∀ k, impl_committed.f (k + 1) a b c l = if wstamp (rd l p) = wstamp (rd l 2) then impl_committed.j1 k l (rd l 2) p n (decide ((n : Int) > 20)) else impl_committed.j1 k l (rd l 2) p n true := fun k => by
          rw [C, if_pos st, decide_eq_false sl]
          simp only [impl_committed.j0, Bool.false_eq_true, if_false]
          rw [idesk_eq hp slot0 slot1, hpp]
          simp only [Option.bind_some]
          rw [if_pos (by omega), if_pos (by omega), ival_eq E0 E1, istamp_eq E0 E1, istamp_eq D0 D1, hnn]
          rfl
        have no' : ∀ k, 0 < k → spec_CensDone.j1 k l l (rd l 2) p n true = some l ∧ impl_committed.j1 k l (rd l 2) p n true = some ([], false) := fun k hk => by
          obtain ⟨k, rfl⟩ : ∃ m, k = m + 1 := ⟨k - 1, by omega⟩
          simp only [spec_CensDone.j1, impl_committed.j1, if_true, and_self]
        by_cases es : wstamp (rd l p) = wstamp (rd l 2)
        · by_cases n2 : (n : Int) > 20
          · refine ⟨l, rfl, fun k hk => ?_⟩
            obtain ⟨k, rfl⟩ : ∃ m, k = m + 1 := ⟨k - 1, by omega⟩
            refine ⟨?_, ?_⟩
            · rw [T', if_pos es, decide_eq_true n2]; exact (no' k (by omega)).1
            · rw [J (k + 1) (by omega), C', if_pos es, decide_eq_true n2, (no' k (by omega)).2]; rfl
          · refine ⟨fin (rd l 2) l (ofDoor (rd l 2) ((l.take (p + 1 + n)).drop (p + 1))), fin_len _ _ _, fun k hk => ?_⟩
            obtain ⟨k, rfl⟩ : ∃ m, k = m + 1 + 1 := ⟨k - 2, by omega⟩
            refine ⟨?_, ?_⟩
            · rw [T', if_pos es, decide_eq_false n2]
              simp only [spec_CensDone.j1, Bool.false_eq_true, if_false]
              exact cens_l l hl h2 hn p n (by omega) n k 1 l hl rfl (by omega) (by omega) (by omega) (by omega)
            · have w : Words ((l.take (p + 1 + n)).drop (p + 1)) := fun x hx => hl x (List.mem_of_mem_take (List.mem_of_mem_drop hx))
              have wl : ((l.take (p + 1 + n)).drop (p + 1)).length = n := by rw [List.length_drop, List.length_take]; omega
              rw [J (k + 1 + 1) (by omega), C', if_pos es, decide_eq_false n2]
              simp only [impl_committed.j1, Bool.false_eq_true, if_false]
              rw [w64 (n := (p : Int) + 1) (by omega) (by omega), w64 (n := (p : Int) + 1 + n) (by omega) (by omega), if_pos (by omega), if_pos (by omega), if_pos (by omega), show ((p : Int) + 1 + n).toNat = p + 1 + n from by omega, show ((p : Int) + 1).toNat = p + 1 from by omega,
                show (0 : Int) = ((0 : Nat) : Int) from rfl, comm_l (rd l 2) D0 D1 _ w n k 0 [] (by omega) (by omega) (by omega) (by simp; omega) (by omega)]
              simp only [Option.bind_some, if_true, List.nil_append, List.drop_zero]
              rw [done_l l hl h2 _ (ofDoor_words w) (Nat.le_trans (ofDoor_len _ _) (by omega)) _ _ 0 l hl rfl (by omega) rfl (by have := ofDoor_len (rd l 2) ((l.take (p + 1 + n)).drop (p + 1)); omega)]
              rfl
        · refine ⟨l, rfl, fun k hk => ?_⟩
          obtain ⟨k, rfl⟩ : ∃ m, k = m + 1 := ⟨k - 1, by omega⟩
          refine ⟨?_, ?_⟩
          · rw [T', if_neg es]; exact (no' k (by omega)).1
          · rw [J (k + 1) (by omega), C', if_neg es, (no' k (by omega)).2]; rfl
    · refine ⟨l, rfl, fun k hk => ⟨?_, ?_⟩⟩
      · rw [T, if_neg st]; exact (no k hk).1
      · rw [J k (by omega), C, if_neg st, (no k hk).2]; rfl
theorem FnExactCensDone : ∀ (l0 : List Int), (l0.length ≤ 9223372036854775807 ∧ ∀ y0 ∈ l0, (Lit.int .u64 y0).wf = true) → ∃ k, laws_FnExactCensDone.f k l0 = some true := by
  intro l ⟨_, hl⟩
  by_cases h : (l.length : Int) > 1048576
  · refine ⟨0, ?_⟩
    unfold laws_FnExactCensDone.f
    rw [if_pos h]
  · obtain ⟨R, hR, both⟩ := cens_both l (words_ok hl) (by omega)
    refine ⟨2000000 + 1, ?_⟩
    unfold laws_FnExactCensDone.f
    rw [if_neg h, to64 l (by omega) _ (by omega)]
    simp only [Option.bind_some]
    rw [(both (2000000 + 1) (by omega)).1, (both (2000000 + 1) (by omega)).2]
    simp only [Option.bind_some]
    rw [eq64 R (by omega) _ (by omega)]
    simp only [Option.bind_some, if_true]
    rw [eq64 l (by omega) _ (by omega)]
    simp only [Option.bind_some, if_true]
    rw [mark64 l 1 (by omega) (by omega) _ (by omega)]
    simp only [Option.bind_some]
    rw [if_neg (by omega)]
    simp only [Bool.not_true, laws_FnExactCensDone.j0, Bool.false_eq_true, if_false]
    rw [mark64 R 1 (by omega) (by omega) _ (by omega)]
    simp only [Option.bind_some]
    rw [held64 R.length 1 (by omega) (by omega) _ (by omega)]
    simp only [Option.bind_some, if_true]
    rw [if_neg (by omega), to64 l (by omega) _ (by omega)]
    simp only [Option.bind_some]
    rw [(both 2000000 (by omega)).2]
    simp only [Option.bind_some]
    rw [eq64 R (by omega) _ (by omega)]
    simp only [Option.bind_some, if_true]
    rw [if_neg (by omega)]

end Go.Proofs.Ytfpdccaomhjpjaa.Pure

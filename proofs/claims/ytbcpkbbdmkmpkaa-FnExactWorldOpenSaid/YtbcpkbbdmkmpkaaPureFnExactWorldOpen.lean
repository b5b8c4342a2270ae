/- For all numbers of slots, pages and leases, the program and the reference open the same world, which shares nothing with another call's; each number is any of 64 bits. -/
import Derived.Test.YtbcpkbbdmkmpkaaPFnExactWorldOpenx4
import Derived.Test.YtbcpkbbdmkmpkaaPl
set_option linter.unusedVariables false
set_option linter.unusedSimpArgs false
namespace Go.Proofs.Ytbcpkbbdmkmpkaa.Pure
open Go.RowKit Go.Proofs.Ytbcpkbbdmkmpkaa.PFnExactWorldOpen Go.Proofs.YtbcpkbbdmkmpkaaW.PrintWords Go.Proofs.YtbcpkbbdmkmpkaaW.PrintLast Go.Proofs.YtbcpkbbdmkmpkaaW.PrintMore Go.Proofs.Ytbcpkbbdmkmpkaa.Pl

theorem within_eq (n a b : Int) : impl_within.f n a b = some (decide (a ≤ n ∧ n ≤ b)) := by
  unfold impl_within.f
  by_cases h : a ≤ n
  · rw [if_pos h]; congr 1; simp [h]
  · rw [if_neg h]; congr 1; simp [h]
theorem splatok_eq (a b c : Int) : spec_PlatOk.f a b c = some (decide (pok a b c)) := by
  unfold spec_PlatOk.f
  by_cases h : pok a b c
  · have h' := h
    unfold pok at h'
    rw [if_pos (by omega), if_pos (by omega), if_pos (by omega), if_pos (by omega), if_pos (by omega)]
    apply congrArg some
    rw [decide_eq_true h, decide_eq_true_eq]; omega
  · rw [decide_eq_false h]
    unfold pok at h
    repeat' split
    all_goals first | rfl | (apply congrArg some; rw [decide_eq_false_iff_not]; omega)
theorem iplatok_eq (a b c : Int) : impl_PlatOk.f a b c = some (decide (pok a b c)) := by
  unfold impl_PlatOk.f
  simp only [within_eq, Option.bind_some]
  by_cases h : pok a b c
  · have h' := h
    unfold pok at h'
    rw [decide_eq_true h, if_pos (by simp; omega), if_pos (by simp; omega)]
    apply congrArg some
    rw [decide_eq_true_eq]; omega
  · rw [decide_eq_false h]
    unfold pok at h
    repeat' split
    all_goals first | rfl | (apply congrArg some; rw [decide_eq_false_iff_not]; simp only [decide_eq_true_eq] at *; omega)
theorem shouse_eq {a b c : Int} (h : pok a b c) : spec_l2House.f a b c = some (house a b) := by
  unfold spec_l2House.f house; unfold pok at h; congr 1
  rw [w64 (n := 2 * a) (by omega) (by omega), w64 (n := 16 * b) (by omega) (by omega), w64 (n := 3 + 2 * a) (by omega) (by omega), w64 (n := 3 + 2 * a + 4) (by omega) (by omega), w64 (n := 3 + 2 * a + 4 + b) (by omega) (by omega), w64 (by omega) (by omega)]; omega
theorem ssize_eq {a b c : Int} (h : pok a b c) : spec_l2Size.f a b c = some (hsize a b) := by
  unfold spec_l2Size.f; rw [shouse_eq h]; simp only [Option.bind_some]; unfold house hsize; unfold pok at h; congr 1
  rw [w64 (n := a * 21) (by omega) (by omega), w64 (by omega) (by omega)]; omega
theorem beatAt_eq {a b c : Int} (h : pok a b c) : impl_PlatCfg_beatAt.f a b c = some (3 + a) := by
  unfold impl_PlatCfg_beatAt.f impl_PlatCfg_regAt.f; unfold pok at h; simp only [Option.bind_some]; rw [w64 (by omega) (by omega)]
theorem headAt_eq {a b c : Int} (h : pok a b c) : impl_PlatCfg_headAt.f a b c = some (3 + 2 * a) := by
  unfold impl_PlatCfg_headAt.f; rw [beatAt_eq h]; unfold pok at h; simp only [Option.bind_some]; rw [w64 (by omega) (by omega)]; congr 1; omega
theorem pageAt_eq {a b c : Int} (h : pok a b c) : impl_PlatCfg_pageAt.f a b c = some (7 + 2 * a) := by
  unfold impl_PlatCfg_pageAt.f; rw [headAt_eq h]; unfold pok at h; simp only [Option.bind_some]; rw [w64 (by omega) (by omega)]; congr 1; omega
theorem tagAt_eq {a b c : Int} (h : pok a b c) : impl_PlatCfg_tagAt.f a b c = some (7 + 2 * a + b) := by
  unfold impl_PlatCfg_tagAt.f; rw [pageAt_eq h]; unfold pok at h; simp only [Option.bind_some]; rw [w64 (by omega) (by omega)]
theorem linkAt_eq {a b c : Int} (h : pok a b c) : impl_PlatCfg_linkAt.f a b c = some (7 + 2 * a + 9 * b) := by
  unfold impl_PlatCfg_linkAt.f; rw [tagAt_eq h]; unfold pok at h; simp only [Option.bind_some]; rw [w64 (n := 8 * b) (by omega) (by omega), w64 (by omega) (by omega)]; congr 1; omega
theorem deskAt_eq {a b c : Int} (h : pok a b c) : impl_PlatCfg_deskAt.f a b c = some (house a b) := by
  unfold impl_PlatCfg_deskAt.f; rw [linkAt_eq h]; unfold house; unfold pok at h; simp only [Option.bind_some]; rw [w64 (n := 8 * b) (by omega) (by omega), w64 (by omega) (by omega)]; congr 1; omega
theorem isize_eq {a b c : Int} (h : pok a b c) : impl_PlatCfg_size.f a b c = some (hsize a b) := by
  unfold impl_PlatCfg_size.f; rw [deskAt_eq h]; unfold house hsize; unfold pok at h; simp only [Option.bind_some]; rw [w64 (n := a * 21) (by omega) (by omega), w64 (by omega) (by omega)]; congr 1; omega
theorem low_eq (n m : Int) : spec_l1Low.f n m = some (cl n m) := by
  unfold spec_l1Low.f cl
  by_cases a : n < 0
  · rw [if_pos a, if_pos a]
  · rw [if_neg a, if_neg a]
    by_cases b : n > m
    · rw [if_pos b, if_pos b]
    · rw [if_neg b, if_neg b]
theorem spack_eq (v s : Int) : spec_CellPack.f v s = some (pack v s) := by
  unfold spec_CellPack.f; simp only [low_eq, Option.bind_some]; rw [pack_spec]
theorem clamp_eq (n m : Int) (h : 0 ≤ m) : impl_clamp.f n m = some (cl n m) := by
  unfold impl_clamp.f; rw [cl_mx n m h]
theorem ipack_eq (v s : Int) : impl_CellPack.f v s = some (pack v s) := by
  unfold impl_CellPack.f; rw [clamp_eq _ _ (by omega), clamp_eq _ _ (by omega)]; simp only [Option.bind_some]; rw [pack_impl]
theorem smagic2_eq {a b c : Int} (h : pok a b c) : spec_l2Magic.f a b c = some (pack (a + 8 * b + 64 * c) 201115) := by
  unfold spec_l2Magic.f; unfold pok at h
  rw [w64 (n := 8 * b) (by omega) (by omega), w64 (n := 64 * c) (by omega) (by omega), w64 (n := a + 8 * b) (by omega) (by omega), w64 (by omega) (by omega), spack_eq]
  simp only [Option.bind_some]
theorem icelldoor1_eq : impl_CellDoor.f 0 0 0 1 = some (pack 0 1) := by
  unfold impl_CellDoor.f
  simp only [clamp_eq _ 2 (by omega), clamp_eq _ 7 (by omega), clamp_eq _ 4095 (by omega), Option.bind_some, cl_id (n := 0) (m := 2) (by omega) (by omega), cl_id (n := 0) (m := 7) (by omega) (by omega), cl_id (n := 0) (m := 4095) (by omega) (by omega)]
  simp only [Int.mul_zero, Int.add_zero, w64 (n := 0) (by omega) (by omega), ipack_eq, Option.bind_some]
/-- The words of a new house. -/
def fmt (a b c : Int) : List Int := if pok a b c then ((List.replicate (hsize a b).toNat 0).set 0 (pack (a + 8 * b + 64 * c) 201115)).set 2 (pack 0 1) else []
theorem fmt_len (a b c : Int) : (fmt a b c).length ≤ 1000 := by
  unfold fmt
  by_cases h : pok a b c
  · rw [if_pos h, List.length_set, List.length_set, List.length_replicate]; unfold pok at h; unfold hsize; omega
  · rw [if_neg h]; simp
theorem sfmt_eq (a b c : Int) : spec_PlatFormat.f a b c = some (fmt a b c) := by
  unfold spec_PlatFormat.f fmt
  simp only [splatok_eq, Option.bind_some, decide_eq_true_eq]
  by_cases h : pok a b c
  · have h' := h
    unfold pok at h'
    have z : hsize a b = 7 + 23 * a + 17 * b := rfl
    rw [if_pos h, if_pos h, ssize_eq h, smagic2_eq h, spack_eq]
    simp only [Option.bind_some, List.length_replicate]
    rw [if_pos (by omega), if_pos (by omega), if_pos (by omega), if_pos (by omega)]
    rfl
  · rw [if_neg h, if_neg h]
theorem ifmt_eq (a b c : Int) : impl_PlatFormat.f a b c = some (fmt a b c) := by
  unfold impl_PlatFormat.f fmt
  simp only [iplatok_eq, Option.bind_some, decide_eq_true_eq]
  by_cases h : pok a b c
  · have h' := h
    unfold pok at h'
    have z : hsize a b = 7 + 23 * a + 17 * b := rfl
    rw [if_pos h, if_pos h, isize_eq h, w64 (n := 8 * b) (by omega) (by omega), w64 (n := 64 * c) (by omega) (by omega), w64 (n := a + 8 * b) (by omega) (by omega), w64 (by omega) (by omega), ipack_eq, icelldoor1_eq]
    simp only [Option.bind_some, List.length_replicate]
    rw [if_pos (by omega), if_pos (by omega), if_pos (by omega), if_pos (by omega)]
    rfl
  · rw [if_neg h, if_neg h]
theorem eq64_l (x : List Int) (hn : x.length ≤ 35184372088832) (d : Nat) : ∀ (k i : Nat), i ≤ x.length → x.length - i = d → d < k → laws_eqUint64S.l0 k x x i = some true := by
  induction d with
  | zero =>
    intro k i hi hd hk
    obtain ⟨k, rfl⟩ : ∃ m, k = m + 1 := ⟨k - 1, by omega⟩
    simp only [laws_eqUint64S.l0]
    rw [if_neg (by omega)]
  | succ d ih =>
    intro k i hi hd hk
    obtain ⟨k, rfl⟩ : ∃ m, k = m + 1 := ⟨k - 1, by omega⟩
    simp only [laws_eqUint64S.l0]
    rw [if_pos (by omega), if_pos (by omega), if_pos (by omega), if_pos trivial, w64 (by omega) (by omega), succ_cast]
    exact ih k (i + 1) (by omega) (by omega) (by omega)
theorem eq64 (x : List Int) (hn : x.length ≤ 35184372088832) (k : Nat) (hk : x.length < k) : laws_eqUint64S.f k x x = some true := by
  unfold laws_eqUint64S.f
  rw [if_pos rfl]
  exact eq64_l x hn x.length k 0 (by omega) (by omega) (by omega)
theorem mark64_l (x : List Int) (a : Int) (ha : 0 ≤ a) (han : a + x.length ≤ 4611686018427387904) (d : Nat) : ∀ (k i : Nat), i ≤ x.length → x.length - i = d → d < k → laws_markUint64S.l0 k (marked i a ++ x.drop i) (a + i) i = some (a + x.length, marked x.length a) := by
  induction d with
  | zero =>
    intro k i hi hd hk
    obtain ⟨k, rfl⟩ : ∃ m, k = m + 1 := ⟨k - 1, by omega⟩
    have e : i = x.length := by omega
    subst e
    simp only [laws_markUint64S.l0]
    rw [if_neg (by rw [List.length_append, marked_length, List.length_drop]; omega)]; simp
  | succ d ih =>
    intro k i hi hd hk
    obtain ⟨k, rfl⟩ : ∃ m, k = m + 1 := ⟨k - 1, by omega⟩
    simp only [laws_markUint64S.l0]
    rw [if_pos (by rw [List.length_append, marked_length, List.length_drop]; omega), if_pos (by omega), Int.toNat_natCast, mark_set x a i (by omega), w64 (n := a + (i : Int) + 1) (by omega) (by omega), w64 (by omega) (by omega), succ_cast, show a + (i : Int) + 1 = a + ((i + 1 : Nat) : Int) from by omega]
    exact ih k (i + 1) (by omega) (by omega) (by omega)
theorem mark64 (x : List Int) (a : Int) (ha : 0 ≤ a) (han : a + x.length ≤ 4611686018427387904) (k : Nat) (hk : x.length < k) : laws_markUint64S.f k x a = some (a + x.length, marked x.length a) := by
  unfold laws_markUint64S.f
  have := mark64_l x a ha han x.length k 0 (by omega) (by omega) (by omega)
  simpa [marked] using this
theorem held64_l (n : Nat) (a : Int) (ha : 0 ≤ a) (han : a + n ≤ 4611686018427387904) (d : Nat) : ∀ (k i : Nat), i ≤ n → n - i = d → d < k → laws_heldUint64S.l0 k (marked n a) (a + i) i = some (a + n) := by
  induction d with
  | zero =>
    intro k i hi hd hk
    obtain ⟨k, rfl⟩ : ∃ m, k = m + 1 := ⟨k - 1, by omega⟩
    have e : i = n := by omega
    subst e
    simp only [laws_heldUint64S.l0]
    rw [if_neg (by rw [marked_length]; omega)]
  | succ d ih =>
    intro k i hi hd hk
    obtain ⟨k, rfl⟩ : ∃ m, k = m + 1 := ⟨k - 1, by omega⟩
    simp only [laws_heldUint64S.l0]
    rw [if_pos (by rw [marked_length]; omega), if_pos (by omega), if_pos (by rw [rd_nat _ i (by rw [marked_length]; omega), marked_get n a i (by omega)]), w64 (n := a + (i : Int) + 1) (by omega) (by omega), w64 (by omega) (by omega), succ_cast, show a + (i : Int) + 1 = a + ((i + 1 : Nat) : Int) from by omega]
    exact ih k (i + 1) (by omega) (by omega) (by omega)
theorem held64 (n : Nat) (a : Int) (ha : 0 ≤ a) (han : a + n ≤ 4611686018427387904) (k : Nat) (hk : n < k) : laws_heldUint64S.f k (marked n a) a = some (a + n) := by
  unfold laws_heldUint64S.f
  have := held64_l n a ha han n k 0 (by omega) (by omega) (by omega)
  simpa using this
theorem FnExactWorldOpen : ∀ (a0_0 : Int) (a0_1 : Int) (a0_2 : Int), (Lit.int .i64 a0_0).wf = true → (Lit.int .i64 a0_1).wf = true → (Lit.int .i64 a0_2).wf = true → ∃ k, laws_FnExactWorldOpen.f k a0_0 a0_1 a0_2 = some true := by
  intro a b c _ _ _
  have hl := fmt_len a b c
  refine ⟨2000 + 1, ?_⟩
  have g1 : laws_eqGuestS.f (2000 + 1) [] [] = some true := by
    unfold laws_eqGuestS.f
    rw [if_pos rfl]
    simp only [laws_eqGuestS.l0, List.length_nil]
    rw [if_neg (by omega)]
  have g2 : ∀ n, laws_markGuestS.f (2000 + 1) [] n = some n := fun n => by
    unfold laws_markGuestS.f
    simp only [laws_markGuestS.l0, List.length_nil]
    rw [if_neg (by omega)]
  have g3 : ∀ n, laws_heldGuestS.f (2000 + 1) [] n = some n := fun n => by
    unfold laws_heldGuestS.f
    simp only [laws_heldGuestS.l0, List.length_nil]
    rw [if_neg (by omega)]
  have w1 : laws_eqWorld.f (2000 + 1) (fmt a b c) [] (fmt a b c) [] = some true := by
    unfold laws_eqWorld.f
    rw [eq64 (fmt a b c) (by omega) _ (by omega), g1]
    rfl
  have w2 : laws_markWorld.f (2000 + 1) (fmt a b c) [] 1 = some (1 + ((fmt a b c).length : Int), marked (fmt a b c).length 1) := by
    unfold laws_markWorld.f
    rw [mark64 (fmt a b c) 1 (by omega) (by omega) _ (by omega)]
    simp only [Option.bind_some, g2]
  have w3 : laws_heldWorld.f (2000 + 1) (marked (fmt a b c).length 1) [] 1 = some (1 + ((fmt a b c).length : Int)) := by
    unfold laws_heldWorld.f
    rw [held64 (fmt a b c).length 1 (by omega) (by omega) _ (by omega)]
    simp only [Option.bind_some, g3]
    rw [if_neg (by omega), if_neg (by omega)]
  unfold laws_FnExactWorldOpen.f laws_toPlatCfg.f spec_WorldOpen.f impl_WorldOpen.f
  simp only [Option.bind_some, sfmt_eq, ifmt_eq]
  rw [w1]
  simp only [Option.bind_some, if_true]
  rw [w2]
  simp only [Option.bind_some]
  rw [w3]
  simp only [Option.bind_some, if_true]
  rw [if_neg (by omega), if_neg (by omega)]

end Go.Proofs.Ytbcpkbbdmkmpkaa.Pure

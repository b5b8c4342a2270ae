/- For all words and changes, the program and the reference carry out the same changes in memory of their own, and leave both arguments as they were; at most 2^20 of each, else the law answers true at once. -/
import Derived.Test.YtbcpkbbdmkmpkaaPFnExactPlanDox2
import Derived.Test.YtbcpkbbdmkmpkaaPl
set_option linter.unusedVariables false
set_option linter.unusedSimpArgs false
namespace Go.Proofs.Ytbcpkbbdmkmpkaa.Pure
open Go.RowKit Go.Proofs.Ytbcpkbbdmkmpkaa.PFnExactPlanDo Go.Proofs.YtbcpkbbdmkmpkaaW.PrintWords Go.Proofs.YtbcpkbbdmkmpkaaW.PrintLast Go.Proofs.YtbcpkbbdmkmpkaaW.PrintMore Go.Proofs.Ytbcpkbbdmkmpkaa.Pl

theorem to64_l (x : List Int) (hn : x.length ≤ 35184372088832) (d : Nat) : ∀ (k i : Nat), i ≤ x.length → x.length - i = d → d < k → laws_toUint64S.l0 k x (x.take i ++ List.replicate (x.length - i) 0) i = some x := by
  induction d with
  | zero =>
    intro k i hi hd hk
    obtain ⟨k, rfl⟩ : ∃ m, k = m + 1 := ⟨k - 1, by omega⟩
    have e : i = x.length := by omega
    subst e
    simp only [laws_toUint64S.l0]
    rw [if_neg (by omega)]; simp
  | succ d ih =>
    intro k i hi hd hk
    obtain ⟨k, rfl⟩ : ∃ m, k = m + 1 := ⟨k - 1, by omega⟩
    simp only [laws_toUint64S.l0]
    rw [if_pos (by omega), if_pos (by omega), if_pos (by rw [List.length_append, List.length_take, List.length_replicate]; omega), Int.toNat_natCast, rd_nat x i (by omega), take_set x 0 i (by omega), w64 (by omega) (by omega), succ_cast]
    exact ih k (i + 1) (by omega) (by omega) (by omega)
theorem to64 (x : List Int) (hn : x.length ≤ 35184372088832) (k : Nat) (hk : x.length < k) : laws_toUint64S.f k x = some x := by
  unfold laws_toUint64S.f
  rw [if_pos (by omega), if_pos (by omega), Int.toNat_natCast]
  have := to64_l x hn x.length k 0 (by omega) (by omega) (by omega)
  simpa using this
theorem eq64_l (x : List Int) (hn : x.length ≤ 35184372088832) (d : Nat) : ∀ (k i : Nat), i ≤ x.length → x.length - i = d → d < k → laws_eqUint64S.l0 k x x i = some true := by
  induction d with
  | zero =>
    intro k i hi hd hk
    obtain ⟨k, rfl⟩ : ∃ m, k = m + 1 := ⟨k - 1, by omega⟩
    simp only [laws_eqUint64S.l0]
    rw [if_neg (by omega)]
  | succ d ih =>
    intro k i hi hd hk
    obtain ⟨k, rfl⟩ : ∃ m, k = m + 1 := ⟨k - 1, by omega⟩
    simp only [laws_eqUint64S.l0]
    rw [if_pos (by omega), if_pos (by omega), if_pos (by omega), if_pos trivial, w64 (by omega) (by omega), succ_cast]
    exact ih k (i + 1) (by omega) (by omega) (by omega)
theorem eq64 (x : List Int) (hn : x.length ≤ 35184372088832) (k : Nat) (hk : x.length < k) : laws_eqUint64S.f k x x = some true := by
  unfold laws_eqUint64S.f
  rw [if_pos rfl]
  exact eq64_l x hn x.length k 0 (by omega) (by omega) (by omega)
theorem mark64_l (x : List Int) (a : Int) (ha : 0 ≤ a) (han : a + x.length ≤ 4611686018427387904) (d : Nat) : ∀ (k i : Nat), i ≤ x.length → x.length - i = d → d < k → laws_markUint64S.l0 k (marked i a ++ x.drop i) (a + i) i = some (a + x.length, marked x.length a) := by
  induction d with
  | zero =>
    intro k i hi hd hk
    obtain ⟨k, rfl⟩ : ∃ m, k = m + 1 := ⟨k - 1, by omega⟩
    have e : i = x.length := by omega
    subst e
    simp only [laws_markUint64S.l0]
    rw [if_neg (by rw [List.length_append, marked_length, List.length_drop]; omega)]; simp
  | succ d ih =>
    intro k i hi hd hk
    obtain ⟨k, rfl⟩ : ∃ m, k = m + 1 := ⟨k - 1, by omega⟩
    simp only [laws_markUint64S.l0]
    rw [if_pos (by rw [List.length_append, marked_length, List.length_drop]; omega), if_pos (by omega), Int.toNat_natCast, mark_set x a i (by omega), w64 (n := a + (i : Int) + 1) (by omega) (by omega), w64 (by omega) (by omega), succ_cast, show a + (i : Int) + 1 = a + ((i + 1 : Nat) : Int) from by omega]
    exact ih k (i + 1) (by omega) (by omega) (by omega)
theorem mark64 (x : List Int) (a : Int) (ha : 0 ≤ a) (han : a + x.length ≤ 4611686018427387904) (k : Nat) (hk : x.length < k) : laws_markUint64S.f k x a = some (a + x.length, marked x.length a) := by
  unfold laws_markUint64S.f
  have := mark64_l x a ha han x.length k 0 (by omega) (by omega) (by omega)
  simpa [marked] using this
theorem held64_l (n : Nat) (a : Int) (ha : 0 ≤ a) (han : a + n ≤ 4611686018427387904) (d : Nat) : ∀ (k i : Nat), i ≤ n → n - i = d → d < k → laws_heldUint64S.l0 k (marked n a) (a + i) i = some (a + n) := by
  induction d with
  | zero =>
    intro k i hi hd hk
    obtain ⟨k, rfl⟩ : ∃ m, k = m + 1 := ⟨k - 1, by omega⟩
    have e : i = n := by omega
    subst e
    simp only [laws_heldUint64S.l0]
    rw [if_neg (by rw [marked_length]; omega)]
  | succ d ih =>
    intro k i hi hd hk
    obtain ⟨k, rfl⟩ : ∃ m, k = m + 1 := ⟨k - 1, by omega⟩
    simp only [laws_heldUint64S.l0]
    rw [if_pos (by rw [marked_length]; omega), if_pos (by omega), if_pos (by rw [rd_nat _ i (by rw [marked_length]; omega), marked_get n a i (by omega)]), w64 (n := a + (i : Int) + 1) (by omega) (by omega), w64 (by omega) (by omega), succ_cast, show a + (i : Int) + 1 = a + ((i + 1 : Nat) : Int) from by omega]
    exact ih k (i + 1) (by omega) (by omega) (by omega)
theorem held64 (n : Nat) (a : Int) (ha : 0 ≤ a) (han : a + n ≤ 4611686018427387904) (k : Nat) (hk : n < k) : laws_heldUint64S.f k (marked n a) a = some (a + n) := by
  unfold laws_heldUint64S.f
  have := held64_l n a ha han n k 0 (by omega) (by omega) (by omega)
  simpa using this
theorem clone64 (l : List Int) (h : l.length < 17592186044416) : slices_Clone_uint64_uint64.f l = some l := by
  unfold slices_Clone_uint64_uint64.f
  simp only [Option.bind_some, List.length_nil, Nat.zero_add, List.nil_append]
  rw [if_pos h]
theorem low_eq (n m : Int) : spec_l1Low.f n m = some (cl n m) := by
  unfold spec_l1Low.f cl
  by_cases a : n < 0
  · rw [if_pos a, if_pos a]
  · rw [if_neg a, if_neg a]
    by_cases b : n > m
    · rw [if_pos b, if_pos b]
    · rw [if_neg b, if_neg b]
theorem spack_eq (v s : Int) : spec_CellPack.f v s = some (pack v s) := by
  unfold spec_CellPack.f; simp only [low_eq, Option.bind_some]; rw [pack_spec]
theorem clamp_eq (n m : Int) (h : 0 ≤ m) : impl_clamp.f n m = some (cl n m) := by
  unfold impl_clamp.f; rw [cl_mx n m h]
theorem ipack_eq (v s : Int) : impl_CellPack.f v s = some (pack v s) := by
  unfold impl_CellPack.f; rw [clamp_eq _ _ (by omega), clamp_eq _ _ (by omega)]; simp only [Option.bind_some]; rw [pack_impl]
theorem sval_eq {w : Int} (h : 0 ≤ w) : spec_CellVal.f w = some (wval w) := by
  unfold spec_CellVal.f; rw [val_spec h]
theorem ival_eq {w : Int} (h : 0 ≤ w) (h1 : w ≤ 18446744073709551615) : impl_CellVal.f w = some (wval w) := by
  unfold impl_CellVal.f; rw [val_impl h h1]
theorem sstamp_eq {w : Int} (h : 0 ≤ w) (h1 : w ≤ 18446744073709551615) : spec_CellStamp.f w = some (wstamp w) := by
  unfold spec_CellStamp.f; rw [stamp_spec h h1]
theorem istamp_eq {w : Int} (h : 0 ≤ w) (h1 : w ≤ 18446744073709551615) : impl_CellStamp.f w = some (wstamp w) := by
  unfold impl_CellStamp.f; rw [stamp_impl h h1]
def Words (l : List Int) : Prop := ∀ x ∈ l, 0 ≤ x ∧ x ≤ 18446744073709551615
/-- A change carried out. -/
def putE (l : List Int) (e : Int) : List Int :=
  if wval e / 1048576 < (l.length : Int) ∧ wstamp (rd l (wval e / 1048576)) < wstamp e then l.set (wval e / 1048576).toNat (pack (wval e % 1048576) (wstamp e)) else l
theorem putE_len (l : List Int) (e : Int) : (putE l e).length = l.length := by
  unfold putE
  split
  · exact List.length_set
  · rfl
theorem putE_words {l : List Int} (h : Words l) (e : Int) : Words (putE l e) := by
  unfold putE
  split
  · intro x hx
    rcases List.mem_or_eq_of_mem_set hx with hx | rfl
    · exact h x hx
    · exact ⟨pack_lo _ _, pack_hi _ _⟩
  · exact h
theorem sput_eq {l : List Int} (h : Words l) {e : Int} (e0 : 0 ≤ e) (e1 : e ≤ 18446744073709551615) (k : Nat) (hk : 0 < k) : spec_l4Put.f k l e = some (putE l e) := by
  obtain ⟨k, rfl⟩ : ∃ m, k = m + 1 := ⟨k - 1, by omega⟩
  have a := wval_lo e
  have b := wval_hi e
  unfold spec_l4Put.f spec_CellEntryOf.f putE
  rw [sval_eq e0]
  simp only [Option.bind_some]
  rw [tdivp a, tmodp a, w64 (n := wval e / 1048576) (by omega) (by omega)]
  by_cases c : wval e / 1048576 < (l.length : Int)
  · obtain ⟨w0, w1⟩ := h _ (rd_mem l (i := wval e / 1048576) (by omega) c)
    rw [if_pos c, if_pos (by omega), sstamp_eq w0 w1, sstamp_eq e0 e1]
    simp only [Option.bind_some, spec_l4Put.j0]
    by_cases d : wstamp (rd l (wval e / 1048576)) < wstamp e
    · rw [decide_eq_true d, if_pos rfl, sstamp_eq e0 e1]
      simp only [Option.bind_some]
      rw [spack_eq]
      simp only [Option.bind_some]
      rw [if_pos (by omega), if_pos c, if_pos ⟨c, d⟩]
    · rw [decide_eq_false d, if_neg (by decide), if_neg (fun h => d h.2)]
  · rw [if_neg c, if_neg (fun h => c h.1)]
    simp only [spec_l4Put.j0, Bool.false_eq_true, if_false]
theorem iput_eq {l : List Int} (h : Words l) {e : Int} (e0 : 0 ≤ e) (e1 : e ≤ 18446744073709551615) (k : Nat) (hk : 0 < k) : impl_applied.f k l e = some (putE l e) := by
  obtain ⟨k, rfl⟩ : ∃ m, k = m + 1 := ⟨k - 1, by omega⟩
  have a := wval_lo e
  have b := wval_hi e
  unfold impl_applied.f impl_CellEntryOf.f putE
  rw [ival_eq e0 e1]
  simp only [Option.bind_some]
  rw [tdivp a, tmodp a, w64 (n := wval e / 1048576) (by omega) (by omega)]
  by_cases c : wval e / 1048576 < (l.length : Int)
  · obtain ⟨w0, w1⟩ := h _ (rd_mem l (i := wval e / 1048576) (by omega) c)
    rw [if_pos c, if_pos (by omega), istamp_eq w0 w1, istamp_eq e0 e1]
    simp only [Option.bind_some, impl_applied.j0]
    by_cases d : wstamp (rd l (wval e / 1048576)) < wstamp e
    · rw [decide_eq_true d, if_pos rfl, istamp_eq e0 e1]
      simp only [Option.bind_some]
      rw [ipack_eq]
      simp only [Option.bind_some]
      rw [if_pos (by omega), if_pos c, if_pos ⟨c, d⟩]
    · rw [decide_eq_false d, if_neg (by decide), if_neg (fun h => d h.2)]
  · rw [if_neg c, if_neg (fun h => c h.1)]
    simp only [impl_applied.j0, Bool.false_eq_true, if_false]
theorem plan_l (m : List Int) (hm : Words m) (hn : m.length ≤ 1048576) (d : Nat) : ∀ (k i : Nat) (l : List Int), Words l → i ≤ m.length → m.length - i = d → d + 1 < k →
    ∃ r, spec_PlanDo.l0 k m l i = some r ∧ impl_PlanDo.l0 k l m (m.length : Int) i = some r ∧ r.length = l.length := by
  induction d with
  | zero =>
    intro k i l _ hi hd hk
    obtain ⟨k, rfl⟩ : ∃ m, k = m + 1 := ⟨k - 1, by omega⟩
    refine ⟨l, ?_, ?_, rfl⟩
    · simp only [spec_PlanDo.l0]; rw [if_neg (by omega)]
    · simp only [impl_PlanDo.l0]; rw [if_neg (by omega)]
  | succ d ih =>
    intro k i l hl hi hd hk
    obtain ⟨k, rfl⟩ : ∃ m, k = m + 1 := ⟨k - 1, by omega⟩
    obtain ⟨e0, e1⟩ := hm _ (rd_mem m (i := (i : Int)) (by omega) (by omega))
    obtain ⟨r, r1, r2, r3⟩ := ih k (i + 1) (putE l (rd m i)) (putE_words hl _) (by omega) (by omega) (by omega)
    refine ⟨r, ?_, ?_, by rw [r3, putE_len]⟩
    · simp only [spec_PlanDo.l0]
      rw [if_pos (by omega), if_pos (by omega), sput_eq hl e0 e1 k (by omega)]
      simp only [Option.bind_some]
      rw [w64 (by omega) (by omega), succ_cast]; exact r1
    · simp only [impl_PlanDo.l0]
      rw [if_pos (by omega), if_pos (by omega), if_pos (by omega), iput_eq hl e0 e1 k (by omega)]
      simp only [Option.bind_some]
      rw [w64 (by omega) (by omega), succ_cast]; exact r2
theorem FnExactPlanDo : ∀ (l0 : List Int) (l1 : List Int), (l0.length ≤ 9223372036854775807 ∧ ∀ y0 ∈ l0, (Lit.int .u64 y0).wf = true) → (l1.length ≤ 9223372036854775807 ∧ ∀ y0 ∈ l1, (Lit.int .u64 y0).wf = true) → ∃ k, laws_FnExactPlanDo.f k l0 l1 = some true := by
  intro l m ⟨_, hl⟩ ⟨_, hm⟩
  refine ⟨l.length + m.length + 4, ?_⟩
  unfold laws_FnExactPlanDo.f
  by_cases h : (l.length : Int) > 1048576
  · rw [if_pos h]
  · rw [if_neg h]
    by_cases h' : (m.length : Int) > 1048576
    · rw [if_pos h']
    · rw [if_neg h', to64 l (by omega) _ (by omega), to64 m (by omega) _ (by omega)]
      simp only [Option.bind_some]
      have both : ∀ k, m.length + 1 < k → ∃ r, spec_PlanDo.f k l m = some r ∧ impl_PlanDo.f k l m = some r ∧ r.length = l.length := fun k hk => by
        obtain ⟨r, r1, r2, r3⟩ := plan_l m (words_ok hm) (by omega) m.length k 0 l (words_ok hl) (by omega) (by omega) (by omega)
        refine ⟨r, ?_, ?_, r3⟩
        · unfold spec_PlanDo.f
          simp only [Option.bind_some, List.length_nil, Nat.zero_add, List.nil_append]
          rw [if_pos (by omega)]; exact r1
        · unfold impl_PlanDo.f
          rw [clone64 l (by omega)]
          simp only [Option.bind_some]; exact r2
      obtain ⟨r, r1, r2, r3⟩ := both (l.length + m.length + 4) (by omega)
      obtain ⟨s, s1, s2, _⟩ := both (l.length + m.length + 3) (by omega)
      have hsr : s = r := by
        have := impl_PlanDo.mono l m (l.length + m.length + 3) s s2
        rw [r2] at this; exact (Option.some.inj this).symm
      subst hsr
      rw [r1, r2]
      simp only [Option.bind_some]
      rw [eq64 s (by omega) _ (by omega)]
      simp only [Option.bind_some, if_true]
      rw [eq64 l (by omega) _ (by omega)]
      simp only [Option.bind_some, if_true]
      rw [eq64 m (by omega) _ (by omega)]
      simp only [Option.bind_some, if_true]
      rw [mark64 l 1 (by omega) (by omega) _ (by omega)]
      simp only [Option.bind_some]
      rw [mark64 m (1 + l.length) (by omega) (by omega) _ (by omega)]
      simp only [Option.bind_some]
      rw [if_neg (by omega)]
      simp only [Bool.not_true, laws_FnExactPlanDo.j0, Bool.false_eq_true, if_false]
      rw [mark64 s 1 (by omega) (by omega) _ (by omega)]
      simp only [Option.bind_some]
      rw [held64 s.length 1 (by omega) (by omega) _ (by omega)]
      simp only [Option.bind_some, if_true]
      rw [if_neg (by omega), to64 l (by omega) _ (by omega), to64 m (by omega) _ (by omega)]
      simp only [Option.bind_some]
      rw [s2]
      simp only [Option.bind_some]
      rw [eq64 s (by omega) _ (by omega)]
      simp only [Option.bind_some, if_true]
      rw [if_neg (by omega)]

end Go.Proofs.Ytbcpkbbdmkmpkaa.Pure

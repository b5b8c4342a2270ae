/- For all words, addresses and two words, the program's and the reference's swap are one; it leaves the words as they were and hands back memory of its own; at most 2^20 words, else the law answers true at once. -/
import Derived.Test.YtgeeaieapkfnoaaPFnExactPlatSwapx2
import Derived.Test.YtgeeaieapkfnoaaPl
set_option linter.unusedVariables false
set_option linter.unusedSimpArgs false
namespace Go.Proofs.Ytgeeaieapkfnoaa.Pure
open Go.RowKit Go.Proofs.Ytgeeaieapkfnoaa.PFnExactPlatSwap Go.Proofs.YtgeeaieapkfnoaaW.PrintWords Go.Proofs.YtgeeaieapkfnoaaW.PrintLast Go.Proofs.YtgeeaieapkfnoaaW.PrintMore Go.Proofs.Ytgeeaieapkfnoaa.Pl

theorem to64_l (x : List Int) (hn : x.length ≤ 35184372088832) (d : Nat) : ∀ (k i : Nat), i ≤ x.length → x.length - i = d → d < k → laws_toUint64S.l0 k x (x.take i ++ List.replicate (x.length - i) 0) i = some x := by
  induction d with
  | zero =>
    intro k i hi hd hk
    obtain ⟨k, rfl⟩ : ∃ m, k = m + 1 := ⟨k - 1, by omega⟩
    have e : i = x.length := by omega
    subst e
    simp only [laws_toUint64S.l0]
    rw [if_neg (by omega)]; simp
  | succ d ih =>
    intro k i hi hd hk
    obtain ⟨k, rfl⟩ : ∃ m, k = m + 1 := ⟨k - 1, by omega⟩
    simp only [laws_toUint64S.l0]
    rw [if_pos (by omega), if_pos (by omega), if_pos (by rw [List.length_append, List.length_take, List.length_replicate]; omega), Int.toNat_natCast, rd_nat x i (by omega), take_set x 0 i (by omega), w64 (by omega) (by omega), succ_cast]
    exact ih k (i + 1) (by omega) (by omega) (by omega)
theorem to64 (x : List Int) (hn : x.length ≤ 35184372088832) (k : Nat) (hk : x.length < k) : laws_toUint64S.f k x = some x := by
  unfold laws_toUint64S.f
  rw [if_pos (by omega), if_pos (by omega), Int.toNat_natCast]
  have := to64_l x hn x.length k 0 (by omega) (by omega) (by omega)
  simpa using this
theorem eq64_l (x : List Int) (hn : x.length ≤ 35184372088832) (d : Nat) : ∀ (k i : Nat), i ≤ x.length → x.length - i = d → d < k → laws_eqUint64S.l0 k x x i = some true := by
  induction d with
  | zero =>
    intro k i hi hd hk
    obtain ⟨k, rfl⟩ : ∃ m, k = m + 1 := ⟨k - 1, by omega⟩
    simp only [laws_eqUint64S.l0]
    rw [if_neg (by omega)]
  | succ d ih =>
    intro k i hi hd hk
    obtain ⟨k, rfl⟩ : ∃ m, k = m + 1 := ⟨k - 1, by omega⟩
    simp only [laws_eqUint64S.l0]
    rw [if_pos (by omega), if_pos (by omega), if_pos (by omega), if_pos trivial, w64 (by omega) (by omega), succ_cast]
    exact ih k (i + 1) (by omega) (by omega) (by omega)
theorem eq64 (x : List Int) (hn : x.length ≤ 35184372088832) (k : Nat) (hk : x.length < k) : laws_eqUint64S.f k x x = some true := by
  unfold laws_eqUint64S.f
  rw [if_pos rfl]
  exact eq64_l x hn x.length k 0 (by omega) (by omega) (by omega)
theorem mark64_l (x : List Int) (a : Int) (ha : 0 ≤ a) (han : a + x.length ≤ 4611686018427387904) (d : Nat) : ∀ (k i : Nat), i ≤ x.length → x.length - i = d → d < k → laws_markUint64S.l0 k (marked i a ++ x.drop i) (a + i) i = some (a + x.length, marked x.length a) := by
  induction d with
  | zero =>
    intro k i hi hd hk
    obtain ⟨k, rfl⟩ : ∃ m, k = m + 1 := ⟨k - 1, by omega⟩
    have e : i = x.length := by omega
    subst e
    simp only [laws_markUint64S.l0]
    rw [if_neg (by rw [List.length_append, marked_length, List.length_drop]; omega)]; simp
  | succ d ih =>
    intro k i hi hd hk
    obtain ⟨k, rfl⟩ : ∃ m, k = m + 1 := ⟨k - 1, by omega⟩
    simp only [laws_markUint64S.l0]
    rw [if_pos (by rw [List.length_append, marked_length, List.length_drop]; omega), if_pos (by omega), Int.toNat_natCast, mark_set x a i (by omega), w64 (n := a + (i : Int) + 1) (by omega) (by omega), w64 (by omega) (by omega), succ_cast, show a + (i : Int) + 1 = a + ((i + 1 : Nat) : Int) from by omega]
    exact ih k (i + 1) (by omega) (by omega) (by omega)
theorem mark64 (x : List Int) (a : Int) (ha : 0 ≤ a) (han : a + x.length ≤ 4611686018427387904) (k : Nat) (hk : x.length < k) : laws_markUint64S.f k x a = some (a + x.length, marked x.length a) := by
  unfold laws_markUint64S.f
  have := mark64_l x a ha han x.length k 0 (by omega) (by omega) (by omega)
  simpa [marked] using this
theorem held64_l (n : Nat) (a : Int) (ha : 0 ≤ a) (han : a + n ≤ 4611686018427387904) (d : Nat) : ∀ (k i : Nat), i ≤ n → n - i = d → d < k → laws_heldUint64S.l0 k (marked n a) (a + i) i = some (a + n) := by
  induction d with
  | zero =>
    intro k i hi hd hk
    obtain ⟨k, rfl⟩ : ∃ m, k = m + 1 := ⟨k - 1, by omega⟩
    have e : i = n := by omega
    subst e
    simp only [laws_heldUint64S.l0]
    rw [if_neg (by rw [marked_length]; omega)]
  | succ d ih =>
    intro k i hi hd hk
    obtain ⟨k, rfl⟩ : ∃ m, k = m + 1 := ⟨k - 1, by omega⟩
    simp only [laws_heldUint64S.l0]
    rw [if_pos (by rw [marked_length]; omega), if_pos (by omega), if_pos (by rw [rd_nat _ i (by rw [marked_length]; omega), marked_get n a i (by omega)]), w64 (n := a + (i : Int) + 1) (by omega) (by omega), w64 (by omega) (by omega), succ_cast, show a + (i : Int) + 1 = a + ((i + 1 : Nat) : Int) from by omega]
    exact ih k (i + 1) (by omega) (by omega) (by omega)
theorem held64 (n : Nat) (a : Int) (ha : 0 ≤ a) (han : a + n ≤ 4611686018427387904) (k : Nat) (hk : n < k) : laws_heldUint64S.f k (marked n a) a = some (a + n) := by
  unfold laws_heldUint64S.f
  have := held64_l n a ha han n k 0 (by omega) (by omega) (by omega)
  simpa using this
theorem within_eq (n a b : Int) : impl_within.f n a b = some (decide (a ≤ n ∧ n ≤ b)) := by
  unfold impl_within.f
  by_cases h : a ≤ n
  · rw [if_pos h]; congr 1; simp [h]
  · rw [if_neg h]; congr 1; simp [h]
theorem clone64 (l : List Int) (h : l.length < 17592186044416) : slices_Clone_uint64_uint64.f l = some l := by
  unfold slices_Clone_uint64_uint64.f
  simp only [Option.bind_some, List.length_nil, Nat.zero_add, List.nil_append]
  rw [if_pos h]
/-- A swap: the words then, and whether the old one was there. -/
def swp (l : List Int) (a o n : Int) : List Int × Bool := if (0 ≤ a ∧ a < (l.length : Int)) ∧ rd l a = o then (l.set a.toNat n, true) else (l, false)
theorem swp_len (l : List Int) (a o n : Int) : (swp l a o n).1.length = l.length := by
  unfold swp
  split
  · exact List.length_set
  · rfl
theorem sswap_eq (l : List Int) (a o n : Int) (h : l.length ≤ 1048576) : spec_PlatSwap.f l a o n = some (swp l a o n) := by
  unfold spec_PlatSwap.f swp
  simp only [Option.bind_some, List.length_nil, Nat.zero_add, List.nil_append]
  rw [if_pos (by omega)]
  by_cases h0 : a < 0
  · rw [if_pos h0, if_neg (by omega)]
  · rw [if_neg h0]
    by_cases h1 : a ≥ (l.length : Int)
    · rw [if_pos h1, if_neg (by omega)]
    · rw [if_neg h1, if_pos (by omega), if_pos (by omega)]
      by_cases h2 : rd l a = o
      · rw [if_pos h2, if_pos (by omega), if_pos ⟨by omega, h2⟩]
      · rw [if_neg h2, if_neg (fun h => h2 h.2)]
theorem iswap_eq (l : List Int) (a o n : Int) (h : l.length ≤ 1048576) : impl_PlatSwap.f l a o n = some (swp l a o n) := by
  unfold impl_PlatSwap.f swp
  rw [clone64 l (by omega), within_eq, w64 (n := (l.length : Int) - 1) (by omega) (by omega)]
  simp only [Option.bind_some, decide_eq_true_eq]
  by_cases h0 : 0 ≤ a ∧ a < (l.length : Int)
  · rw [if_pos (by omega), if_pos h0.1, if_pos h0.2]
    by_cases h2 : rd l a = o
    · rw [if_pos h2, if_pos h0.2, if_pos ⟨h0, h2⟩]
    · rw [if_neg h2, if_neg (fun h => h2 h.2)]
  · rw [if_neg (by omega), if_neg (fun h => h0 h.1)]
theorem FnExactPlatSwap : ∀ (l0 : List Int) (a1 : Int) (a2 : Int) (a3 : Int), (l0.length ≤ 9223372036854775807 ∧ ∀ y0 ∈ l0, (Lit.int .u64 y0).wf = true) → (Lit.int .i64 a1).wf = true → (Lit.int .u64 a2).wf = true → (Lit.int .u64 a3).wf = true → ∃ k, laws_FnExactPlatSwap.f k l0 a1 a2 a3 = some true := by
  intro l a o n ⟨hm, _⟩ _ _ _
  refine ⟨l.length + 4, ?_⟩
  unfold laws_FnExactPlatSwap.f
  by_cases h : (l.length : Int) > 1048576
  · rw [if_pos h]
  · rw [if_neg h, to64 l (by omega) _ (by omega)]
    have hs : (swp l a o n).1.length = l.length := swp_len l a o n
    simp only [Option.bind_some]
    rw [sswap_eq l a o n (by omega), iswap_eq l a o n (by omega)]
    simp only [Option.bind_some]
    rw [eq64 (swp l a o n).1 (by omega) _ (by omega)]
    simp only [Option.bind_some, if_true, bne_self_eq_false, laws_FnExactPlatSwap.j0, Bool.false_eq_true, if_false]
    rw [to64 l (by omega) _ (by omega)]
    simp only [Option.bind_some]
    rw [eq64 l (by omega) _ (by omega)]
    simp only [Option.bind_some, if_true]
    rw [mark64 l 1 (by omega) (by omega) _ (by omega)]
    simp only [Option.bind_some]
    rw [if_neg (by omega), eq64 (swp l a o n).1 (by omega) _ (by omega)]
    simp only [Option.bind_some, if_true, laws_FnExactPlatSwap.j1, Bool.false_eq_true, if_false]
    rw [mark64 (swp l a o n).1 1 (by omega) (by omega) _ (by omega)]
    simp only [Option.bind_some]
    rw [held64 (swp l a o n).1.length 1 (by omega) (by omega) _ (by omega)]
    simp only [Option.bind_some, if_true]
    rw [if_neg (by omega), to64 l (by omega) _ (by omega)]
    simp only [Option.bind_some]
    rw [iswap_eq l a o n (by omega)]
    simp only [Option.bind_some]
    rw [eq64 (swp l a o n).1 (by omega) _ (by omega)]
    simp only [Option.bind_some, if_true, bne_self_eq_false, laws_FnExactPlatSwap.j2, Bool.false_eq_true, if_false]
    rw [held64 (swp l a o n).1.length 1 (by omega) (by omega) _ (by omega)]
    simp only [Option.bind_some, if_true]
    rw [if_neg (by omega)]

end Go.Proofs.Ytgeeaieapkfnoaa.Pure

/- For all words and addresses, the program and the reference load the same word and leave the words as they were; at most 2^20 words, else the law answers true at once. -/
import Derived.Test.YtgeeaieapkfnoaaPFnExactPlatLoadx1
import Derived.Test.YtgeeaieapkfnoaaPl
set_option linter.unusedVariables false
set_option linter.unusedSimpArgs false
namespace Go.Proofs.Ytgeeaieapkfnoaa.Pure
open Go.RowKit Go.Proofs.Ytgeeaieapkfnoaa.PFnExactPlatLoad Go.Proofs.YtgeeaieapkfnoaaW.PrintWords Go.Proofs.YtgeeaieapkfnoaaW.PrintLast Go.Proofs.YtgeeaieapkfnoaaW.PrintMore Go.Proofs.Ytgeeaieapkfnoaa.Pl

theorem to64_l (x : List Int) (hn : x.length ≤ 35184372088832) (d : Nat) : ∀ (k i : Nat), i ≤ x.length → x.length - i = d → d < k → laws_toUint64S.l0 k x (x.take i ++ List.replicate (x.length - i) 0) i = some x := by
  induction d with
  | zero =>
    intro k i hi hd hk
    obtain ⟨k, rfl⟩ : ∃ m, k = m + 1 := ⟨k - 1, by omega⟩
    have e : i = x.length := by omega
    subst e
    simp only [laws_toUint64S.l0]
    rw [if_neg (by omega)]; simp
  | succ d ih =>
    intro k i hi hd hk
    obtain ⟨k, rfl⟩ : ∃ m, k = m + 1 := ⟨k - 1, by omega⟩
    simp only [laws_toUint64S.l0]
    rw [if_pos (by omega), if_pos (by omega), if_pos (by rw [List.length_append, List.length_take, List.length_replicate]; omega), Int.toNat_natCast, rd_nat x i (by omega), take_set x 0 i (by omega), w64 (by omega) (by omega), succ_cast]
    exact ih k (i + 1) (by omega) (by omega) (by omega)
theorem to64 (x : List Int) (hn : x.length ≤ 35184372088832) (k : Nat) (hk : x.length < k) : laws_toUint64S.f k x = some x := by
  unfold laws_toUint64S.f
  rw [if_pos (by omega), if_pos (by omega), Int.toNat_natCast]
  have := to64_l x hn x.length k 0 (by omega) (by omega) (by omega)
  simpa using this
theorem eq64_l (x : List Int) (hn : x.length ≤ 35184372088832) (d : Nat) : ∀ (k i : Nat), i ≤ x.length → x.length - i = d → d < k → laws_eqUint64S.l0 k x x i = some true := by
  induction d with
  | zero =>
    intro k i hi hd hk
    obtain ⟨k, rfl⟩ : ∃ m, k = m + 1 := ⟨k - 1, by omega⟩
    simp only [laws_eqUint64S.l0]
    rw [if_neg (by omega)]
  | succ d ih =>
    intro k i hi hd hk
    obtain ⟨k, rfl⟩ : ∃ m, k = m + 1 := ⟨k - 1, by omega⟩
    simp only [laws_eqUint64S.l0]
    rw [if_pos (by omega), if_pos (by omega), if_pos (by omega), if_pos trivial, w64 (by omega) (by omega), succ_cast]
    exact ih k (i + 1) (by omega) (by omega) (by omega)
theorem eq64 (x : List Int) (hn : x.length ≤ 35184372088832) (k : Nat) (hk : x.length < k) : laws_eqUint64S.f k x x = some true := by
  unfold laws_eqUint64S.f
  rw [if_pos rfl]
  exact eq64_l x hn x.length k 0 (by omega) (by omega) (by omega)
theorem within_eq (n a b : Int) : impl_within.f n a b = some (decide (a ≤ n ∧ n ≤ b)) := by
  unfold impl_within.f
  by_cases h : a ≤ n
  · rw [if_pos h]; congr 1; simp [h]
  · rw [if_neg h]; congr 1; simp [h]
theorem FnExactPlatLoad : ∀ (l0 : List Int) (a1 : Int), (l0.length ≤ 9223372036854775807 ∧ ∀ y0 ∈ l0, (Lit.int .u64 y0).wf = true) → (Lit.int .i64 a1).wf = true → ∃ k, laws_FnExactPlatLoad.f k l0 a1 = some true := by
  intro l a ⟨hm, hw⟩ ha
  obtain ⟨a0, a1⟩ := wf_i64 ha
  refine ⟨l.length + 1, ?_⟩
  unfold laws_FnExactPlatLoad.f
  by_cases h : (l.length : Int) > 1048576
  · rw [if_pos h]
  · rw [if_neg h, to64 l (by omega) _ (by omega)]
    simp only [Option.bind_some]
    rw [eq64 l (by omega) _ (by omega)]
    simp only [Option.bind_some, if_true]
    have e : spec_PlatLoad.f l a = some (if 0 ≤ a ∧ a < (l.length : Int) then rd l a else 0) := by
      unfold spec_PlatLoad.f
      by_cases h0 : a < 0
      · rw [if_pos h0, if_neg (by omega)]
      · rw [if_neg h0]
        by_cases h1 : a ≥ (l.length : Int)
        · rw [if_pos h1, if_neg (by omega)]
        · rw [if_neg h1, if_pos (by omega), if_pos (by omega), if_pos (by omega)]
    have f : impl_PlatLoad.f l a = some (if 0 ≤ a ∧ a < (l.length : Int) then rd l a else 0) := by
      unfold impl_PlatLoad.f
      rw [within_eq, w64 (by omega) (by omega)]
      simp only [Option.bind_some, decide_eq_true_eq]
      by_cases h0 : 0 ≤ a ∧ a < (l.length : Int)
      · rw [if_pos (by omega), if_pos h0.1, if_pos h0.2, if_pos h0]
      · rw [if_neg (by omega), if_neg h0]
    rw [e, f]; simp

end Go.Proofs.Ytgeeaieapkfnoaa.Pure

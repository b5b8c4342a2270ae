/- For every number of units, the program's and the reference's size class of it are one; the number is any of 64 bits. -/
import Derived.Test.YtcafjnbdpdflmaaPFnExactBookKindx1
import Derived.Test.YtcafjnbdpdflmaaPl
set_option linter.unusedVariables false
set_option linter.unusedSimpArgs false
namespace Go.Proofs.Ytcafjnbdpdflmaa.Pure
open Go.RowKit Go.Proofs.Ytcafjnbdpdflmaa.PFnExactBookKind Go.Proofs.YtcafjnbdpdflmaaW.PrintWords Go.Proofs.YtcafjnbdpdflmaaW.PrintLast Go.Proofs.YtcafjnbdpdflmaaW.PrintMore Go.Proofs.Ytcafjnbdpdflmaa.Pl

theorem size_eq {x t : Int} (h : x = 0 ∧ t = 1 ∨ x = 1 ∧ t = 2 ∨ x = 2 ∧ t = 4 ∨ x = 3 ∧ t = 8) : spec_l3Size.f x = some t ∧ impl_unitsOf.f x = some t := by
  rcases h with ⟨rfl, rfl⟩ | ⟨rfl, rfl⟩ | ⟨rfl, rfl⟩ | ⟨rfl, rfl⟩ <;> exact ⟨by simp [spec_l3Size.f, rd], by simp [impl_unitsOf.f, shl, IntKind.wrap_i64, IntKind.bits]⟩
def kindOf (a : Int) : Int := if a < 1 then -1 else if a ≤ 1 then 0 else if a ≤ 2 then 1 else if a ≤ 4 then 2 else if a ≤ 8 then 3 else if a ≤ 32 then 4 else -1
theorem skind_eq (a : Int) : spec_BookKind.f 6 a = some (kindOf a) := by
  have s0 := (size_eq (x := 0) (t := 1) (by omega)).1
  have s1 := (size_eq (x := 1) (t := 2) (by omega)).1
  have s2 := (size_eq (x := 2) (t := 4) (by omega)).1
  have s3 := (size_eq (x := 3) (t := 8) (by omega)).1
  have w0 : wrap64 (0 + 1) = 1 := w64 (by omega) (by omega)
  have w1 : wrap64 (1 + 1) = 2 := w64 (by omega) (by omega)
  have w2 : wrap64 (2 + 1) = 3 := w64 (by omega) (by omega)
  have w3 : wrap64 (3 + 1) = 4 := w64 (by omega) (by omega)
  unfold spec_BookKind.f kindOf
  simp only [spec_BookKind.l0, s0, s1, s2, s3, w0, w1, w2, w3, Option.bind_some]
  rcases (by omega : a < 1 ∨ a = 1 ∨ a = 2 ∨ (3 ≤ a ∧ a ≤ 4) ∨ (5 ≤ a ∧ a ≤ 8) ∨ (9 ≤ a ∧ a ≤ 32) ∨ 33 ≤ a) with h | h | h | h | h | h | h <;>
    simp (discharger := omega) only [if_pos, if_neg]
theorem ikind_eq (a : Int) : impl_BookKind.f 6 a = some (kindOf a) := by
  have s0 := (size_eq (x := 0) (t := 1) (by omega)).2
  have s1 := (size_eq (x := 1) (t := 2) (by omega)).2
  have s2 := (size_eq (x := 2) (t := 4) (by omega)).2
  have s3 := (size_eq (x := 3) (t := 8) (by omega)).2
  have w0 : wrap64 (0 + 1) = 1 := w64 (by omega) (by omega)
  have w1 : wrap64 (1 + 1) = 2 := w64 (by omega) (by omega)
  have w2 : wrap64 (2 + 1) = 3 := w64 (by omega) (by omega)
  have w3 : wrap64 (3 + 1) = 4 := w64 (by omega) (by omega)
  unfold impl_BookKind.f kindOf impl_within.f
  rcases (by omega : a < 1 ∨ a = 1 ∨ a = 2 ∨ (3 ≤ a ∧ a ≤ 4) ∨ (5 ≤ a ∧ a ≤ 8) ∨ (9 ≤ a ∧ a ≤ 32) ∨ 33 ≤ a) with h | h | h | h | h | h | h <;>
    simp (discharger := omega) only [if_pos, if_neg, impl_BookKind.l0, s0, s1, s2, s3, w0, w1, w2, w3, Option.bind_some, decide_eq_true_eq, Bool.false_eq_true, reduceIte]
theorem FnExactBookKind : laws_FnExactBookKind.Pure := by
  intro a _
  refine ⟨6, ?_⟩
  unfold laws_FnExactBookKind.f
  rw [skind_eq, ikind_eq]; simp

end Go.Proofs.Ytcafjnbdpdflmaa.Pure

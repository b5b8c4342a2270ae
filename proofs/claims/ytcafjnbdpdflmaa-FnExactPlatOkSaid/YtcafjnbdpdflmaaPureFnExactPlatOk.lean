/- For all numbers of slots, pages and leases, the program and the reference agree on whether they make a house; each number is any of 64 bits. -/
import Derived.Test.YtcafjnbdpdflmaaPFnExactPlatOkx1
import Derived.Test.YtcafjnbdpdflmaaPl
set_option linter.unusedVariables false
set_option linter.unusedSimpArgs false
namespace Go.Proofs.Ytcafjnbdpdflmaa.Pure
open Go.RowKit Go.Proofs.Ytcafjnbdpdflmaa.PFnExactPlatOk Go.Proofs.YtcafjnbdpdflmaaW.PrintWords Go.Proofs.YtcafjnbdpdflmaaW.PrintLast Go.Proofs.YtcafjnbdpdflmaaW.PrintMore Go.Proofs.Ytcafjnbdpdflmaa.Pl

theorem within_eq (n a b : Int) : impl_within.f n a b = some (decide (a ≤ n ∧ n ≤ b)) := by
  unfold impl_within.f
  by_cases h : a ≤ n
  · rw [if_pos h]; congr 1; simp [h]
  · rw [if_neg h]; congr 1; simp [h]
theorem splatok_eq (a b c : Int) : spec_PlatOk.f a b c = some (decide (pok a b c)) := by
  unfold spec_PlatOk.f
  by_cases h : pok a b c
  · have h' := h
    unfold pok at h'
    rw [if_pos (by omega), if_pos (by omega), if_pos (by omega), if_pos (by omega), if_pos (by omega)]
    apply congrArg some
    rw [decide_eq_true h, decide_eq_true_eq]; omega
  · rw [decide_eq_false h]
    unfold pok at h
    repeat' split
    all_goals first | rfl | (apply congrArg some; rw [decide_eq_false_iff_not]; omega)
theorem iplatok_eq (a b c : Int) : impl_PlatOk.f a b c = some (decide (pok a b c)) := by
  unfold impl_PlatOk.f
  simp only [within_eq, Option.bind_some]
  by_cases h : pok a b c
  · have h' := h
    unfold pok at h'
    rw [decide_eq_true h, if_pos (by simp; omega), if_pos (by simp; omega)]
    apply congrArg some
    rw [decide_eq_true_eq]; omega
  · rw [decide_eq_false h]
    unfold pok at h
    repeat' split
    all_goals first | rfl | (apply congrArg some; rw [decide_eq_false_iff_not]; simp only [decide_eq_true_eq] at *; omega)
theorem FnExactPlatOk : ∀ (a0_0 : Int) (a0_1 : Int) (a0_2 : Int), (Lit.int .i64 a0_0).wf = true → (Lit.int .i64 a0_1).wf = true → (Lit.int .i64 a0_2).wf = true → laws_FnExactPlatOk.f a0_0 a0_1 a0_2 = some true := by
  intro a b c _ _ _
  unfold laws_FnExactPlatOk.f laws_toPlatCfg.f
  simp only [Option.bind_some, splatok_eq, iplatok_eq, bne_self_eq_false, Bool.false_eq_true, if_false]

end Go.Proofs.Ytcafjnbdpdflmaa.Pure

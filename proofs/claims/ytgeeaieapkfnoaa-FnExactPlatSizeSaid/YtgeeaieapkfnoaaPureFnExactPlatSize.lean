/- For all numbers of slots, pages and leases, the program's and the reference's size of a house are one; each number is any of 64 bits. -/
import Derived.Test.YtgeeaieapkfnoaaPFnExactPlatSizex2
import Derived.Test.YtgeeaieapkfnoaaPl
set_option linter.unusedVariables false
set_option linter.unusedSimpArgs false
namespace Go.Proofs.Ytgeeaieapkfnoaa.Pure
open Go.RowKit Go.Proofs.Ytgeeaieapkfnoaa.PFnExactPlatSize Go.Proofs.YtgeeaieapkfnoaaW.PrintWords Go.Proofs.YtgeeaieapkfnoaaW.PrintLast Go.Proofs.YtgeeaieapkfnoaaW.PrintMore Go.Proofs.Ytgeeaieapkfnoaa.Pl

theorem within_eq (n a b : Int) : impl_within.f n a b = some (decide (a ≤ n ∧ n ≤ b)) := by
  unfold impl_within.f
  by_cases h : a ≤ n
  · rw [if_pos h]; congr 1; simp [h]
  · rw [if_neg h]; congr 1; simp [h]
theorem splatok_eq (a b c : Int) : spec_PlatOk.f a b c = some (decide (pok a b c)) := by
  unfold spec_PlatOk.f
  by_cases h : pok a b c
  · have h' := h
    unfold pok at h'
    rw [if_pos (by omega), if_pos (by omega), if_pos (by omega), if_pos (by omega), if_pos (by omega)]
    apply congrArg some
    rw [decide_eq_true h, decide_eq_true_eq]; omega
  · rw [decide_eq_false h]
    unfold pok at h
    repeat' split
    all_goals first | rfl | (apply congrArg some; rw [decide_eq_false_iff_not]; omega)
theorem iplatok_eq (a b c : Int) : impl_PlatOk.f a b c = some (decide (pok a b c)) := by
  unfold impl_PlatOk.f
  simp only [within_eq, Option.bind_some]
  by_cases h : pok a b c
  · have h' := h
    unfold pok at h'
    rw [decide_eq_true h, if_pos (by simp; omega), if_pos (by simp; omega)]
    apply congrArg some
    rw [decide_eq_true_eq]; omega
  · rw [decide_eq_false h]
    unfold pok at h
    repeat' split
    all_goals first | rfl | (apply congrArg some; rw [decide_eq_false_iff_not]; simp only [decide_eq_true_eq] at *; omega)
theorem shouse_eq {a b c : Int} (h : pok a b c) : spec_l2House.f a b c = some (house a b) := by
  unfold spec_l2House.f house; unfold pok at h; congr 1
  rw [w64 (n := 2 * a) (by omega) (by omega), w64 (n := 16 * b) (by omega) (by omega), w64 (n := 3 + 2 * a) (by omega) (by omega), w64 (n := 3 + 2 * a + 4) (by omega) (by omega), w64 (n := 3 + 2 * a + 4 + b) (by omega) (by omega), w64 (by omega) (by omega)]; omega
theorem ssize_eq {a b c : Int} (h : pok a b c) : spec_l2Size.f a b c = some (hsize a b) := by
  unfold spec_l2Size.f; rw [shouse_eq h]; simp only [Option.bind_some]; unfold house hsize; unfold pok at h; congr 1
  rw [w64 (n := a * 21) (by omega) (by omega), w64 (by omega) (by omega)]; omega
theorem beatAt_eq {a b c : Int} (h : pok a b c) : impl_PlatCfg_beatAt.f a b c = some (3 + a) := by
  unfold impl_PlatCfg_beatAt.f impl_PlatCfg_regAt.f; unfold pok at h; simp only [Option.bind_some]; rw [w64 (by omega) (by omega)]
theorem headAt_eq {a b c : Int} (h : pok a b c) : impl_PlatCfg_headAt.f a b c = some (3 + 2 * a) := by
  unfold impl_PlatCfg_headAt.f; rw [beatAt_eq h]; unfold pok at h; simp only [Option.bind_some]; rw [w64 (by omega) (by omega)]; congr 1; omega
theorem pageAt_eq {a b c : Int} (h : pok a b c) : impl_PlatCfg_pageAt.f a b c = some (7 + 2 * a) := by
  unfold impl_PlatCfg_pageAt.f; rw [headAt_eq h]; unfold pok at h; simp only [Option.bind_some]; rw [w64 (by omega) (by omega)]; congr 1; omega
theorem tagAt_eq {a b c : Int} (h : pok a b c) : impl_PlatCfg_tagAt.f a b c = some (7 + 2 * a + b) := by
  unfold impl_PlatCfg_tagAt.f; rw [pageAt_eq h]; unfold pok at h; simp only [Option.bind_some]; rw [w64 (by omega) (by omega)]
theorem linkAt_eq {a b c : Int} (h : pok a b c) : impl_PlatCfg_linkAt.f a b c = some (7 + 2 * a + 9 * b) := by
  unfold impl_PlatCfg_linkAt.f; rw [tagAt_eq h]; unfold pok at h; simp only [Option.bind_some]; rw [w64 (n := 8 * b) (by omega) (by omega), w64 (by omega) (by omega)]; congr 1; omega
theorem deskAt_eq {a b c : Int} (h : pok a b c) : impl_PlatCfg_deskAt.f a b c = some (house a b) := by
  unfold impl_PlatCfg_deskAt.f; rw [linkAt_eq h]; unfold house; unfold pok at h; simp only [Option.bind_some]; rw [w64 (n := 8 * b) (by omega) (by omega), w64 (by omega) (by omega)]; congr 1; omega
theorem isize_eq {a b c : Int} (h : pok a b c) : impl_PlatCfg_size.f a b c = some (hsize a b) := by
  unfold impl_PlatCfg_size.f; rw [deskAt_eq h]; unfold house hsize; unfold pok at h; simp only [Option.bind_some]; rw [w64 (n := a * 21) (by omega) (by omega), w64 (by omega) (by omega)]; congr 1; omega
theorem FnExactPlatSize : ∀ (a0_0 : Int) (a0_1 : Int) (a0_2 : Int), (Lit.int .i64 a0_0).wf = true → (Lit.int .i64 a0_1).wf = true → (Lit.int .i64 a0_2).wf = true → laws_FnExactPlatSize.f a0_0 a0_1 a0_2 = some true := by
  intro a b c _ _ _
  unfold laws_FnExactPlatSize.f laws_toPlatCfg.f spec_PlatSize.f impl_PlatSize.f
  simp only [Option.bind_some, splatok_eq, iplatok_eq, decide_eq_true_eq]
  by_cases h : pok a b c
  · simp only [if_pos h, ssize_eq h, isize_eq h, Option.bind_some, if_true]
  · simp only [if_neg h, Option.bind_some, if_true]

end Go.Proofs.Ytgeeaieapkfnoaa.Pure

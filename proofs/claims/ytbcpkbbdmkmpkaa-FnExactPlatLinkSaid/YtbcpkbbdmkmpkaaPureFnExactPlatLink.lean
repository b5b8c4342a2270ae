/- For all houses and numbers, the program's and the reference's address of a link are one; each number is any of 64 bits. -/
import Derived.Test.YtbcpkbbdmkmpkaaPFnExactPlatLinkx1
import Derived.Test.YtbcpkbbdmkmpkaaPl
set_option linter.unusedVariables false
set_option linter.unusedSimpArgs false
namespace Go.Proofs.Ytbcpkbbdmkmpkaa.Pure
open Go.RowKit Go.Proofs.Ytbcpkbbdmkmpkaa.PFnExactPlatLink Go.Proofs.YtbcpkbbdmkmpkaaW.PrintWords Go.Proofs.YtbcpkbbdmkmpkaaW.PrintLast Go.Proofs.YtbcpkbbdmkmpkaaW.PrintMore Go.Proofs.Ytbcpkbbdmkmpkaa.Pl

theorem within_eq (n a b : Int) : impl_within.f n a b = some (decide (a ≤ n ∧ n ≤ b)) := by
  unfold impl_within.f
  by_cases h : a ≤ n
  · rw [if_pos h]; congr 1; simp [h]
  · rw [if_neg h]; congr 1; simp [h]
theorem splatok_eq (a b c : Int) : spec_PlatOk.f a b c = some (decide (pok a b c)) := by
  unfold spec_PlatOk.f
  by_cases h : pok a b c
  · have h' := h
    unfold pok at h'
    rw [if_pos (by omega), if_pos (by omega), if_pos (by omega), if_pos (by omega), if_pos (by omega)]
    apply congrArg some
    rw [decide_eq_true h, decide_eq_true_eq]; omega
  · rw [decide_eq_false h]
    unfold pok at h
    repeat' split
    all_goals first | rfl | (apply congrArg some; rw [decide_eq_false_iff_not]; omega)
theorem iplatok_eq (a b c : Int) : impl_PlatOk.f a b c = some (decide (pok a b c)) := by
  unfold impl_PlatOk.f
  simp only [within_eq, Option.bind_some]
  by_cases h : pok a b c
  · have h' := h
    unfold pok at h'
    rw [decide_eq_true h, if_pos (by simp; omega), if_pos (by simp; omega)]
    apply congrArg some
    rw [decide_eq_true_eq]; omega
  · rw [decide_eq_false h]
    unfold pok at h
    repeat' split
    all_goals first | rfl | (apply congrArg some; rw [decide_eq_false_iff_not]; simp only [decide_eq_true_eq] at *; omega)
theorem l2at_no {a b c : Int} (h : ¬ pok a b c) (f n m s : Int) : spec_l2At.f a b c f n m s = some 0 := by
  unfold spec_l2At.f; simp only [splatok_eq, Option.bind_some, decide_eq_true_eq, if_neg h]
theorem l2at_yes {a b c : Int} (h : pok a b c) {f n m s : Int} (f0 : 0 ≤ f) (f1 : f ≤ 1000) (m1 : m ≤ 1000) (s0 : 0 ≤ s) (s1 : s ≤ 100) :
    spec_l2At.f a b c f n m s = some (if 0 ≤ n ∧ n < m then f + n * s else 0) := by
  unfold spec_l2At.f; simp only [splatok_eq, Option.bind_some, decide_eq_true_eq, if_pos h]
  by_cases h0 : n < 0
  · rw [if_pos h0, if_neg (by omega)]
  · rw [if_neg h0]
    by_cases h1 : n ≥ m
    · rw [if_pos h1, if_neg (by omega)]
    · have e0 : 0 ≤ n * s := Int.mul_nonneg (by omega) s0
      have e1 : n * s ≤ 1000 * 100 := Int.mul_le_mul (by omega) s1 s0 (by omega)
      rw [if_neg h1, if_pos (by omega), w64 (n := n * s) (by omega) (by omega), w64 (by omega) (by omega)]
theorem beatAt_eq {a b c : Int} (h : pok a b c) : impl_PlatCfg_beatAt.f a b c = some (3 + a) := by
  unfold impl_PlatCfg_beatAt.f impl_PlatCfg_regAt.f; unfold pok at h; simp only [Option.bind_some]; rw [w64 (by omega) (by omega)]
theorem headAt_eq {a b c : Int} (h : pok a b c) : impl_PlatCfg_headAt.f a b c = some (3 + 2 * a) := by
  unfold impl_PlatCfg_headAt.f; rw [beatAt_eq h]; unfold pok at h; simp only [Option.bind_some]; rw [w64 (by omega) (by omega)]; congr 1; omega
theorem pageAt_eq {a b c : Int} (h : pok a b c) : impl_PlatCfg_pageAt.f a b c = some (7 + 2 * a) := by
  unfold impl_PlatCfg_pageAt.f; rw [headAt_eq h]; unfold pok at h; simp only [Option.bind_some]; rw [w64 (by omega) (by omega)]; congr 1; omega
theorem tagAt_eq {a b c : Int} (h : pok a b c) : impl_PlatCfg_tagAt.f a b c = some (7 + 2 * a + b) := by
  unfold impl_PlatCfg_tagAt.f; rw [pageAt_eq h]; unfold pok at h; simp only [Option.bind_some]; rw [w64 (by omega) (by omega)]
theorem linkAt_eq {a b c : Int} (h : pok a b c) : impl_PlatCfg_linkAt.f a b c = some (7 + 2 * a + 9 * b) := by
  unfold impl_PlatCfg_linkAt.f; rw [tagAt_eq h]; unfold pok at h; simp only [Option.bind_some]; rw [w64 (n := 8 * b) (by omega) (by omega), w64 (by omega) (by omega)]; congr 1; omega
theorem FnExactPlatLink : ∀ (a0_0 : Int) (a0_1 : Int) (a0_2 : Int) (a1 : Int), (Lit.int .i64 a0_0).wf = true → (Lit.int .i64 a0_1).wf = true → (Lit.int .i64 a0_2).wf = true → (Lit.int .i64 a1).wf = true → laws_FnExactPlatLink.f a0_0 a0_1 a0_2 a1 = some true := by
  intro a b c n _ _ _ _
  unfold laws_FnExactPlatLink.f laws_toPlatCfg.f spec_PlatLink.f impl_PlatLink.f impl_place_74_73.f
  simp only [Option.bind_some, iplatok_eq, decide_eq_true_eq]
  by_cases h : pok a b c
  · have h' := h
    unfold pok at h'
    rw [if_pos h]
    unfold impl_PlatCfg_units.f
    simp only [Option.bind_some]
    rw [w64 (n := 2 * a) (by omega) (by omega),w64 (n := 3 + 2 * a) (by omega) (by omega),w64 (n := 3 + 2 * a + 4) (by omega) (by omega),w64 (n := 3 + 2 * a + 4 + b) (by omega) (by omega),w64 (n := 8 * b) (by omega) (by omega),w64 (n := 3 + 2 * a + 4 + b + 8 * b) (by omega) (by omega),w64 (n := b * 8) (by omega) (by omega), l2at_yes h (by omega) (by omega) (by omega) (by omega) (by omega), within_eq, linkAt_eq h, w64 (n := 8 * b - 1) (by omega) (by omega)]
    simp only [Option.bind_some, decide_eq_true_eq]
    by_cases g : 0 ≤ n ∧ n < 8 * b
    · rw [if_pos (by omega), if_pos (by omega), w64 (by omega) (by omega)]
      simp only [Option.bind_some, Int.mul_one]
      first | rw [if_pos trivial] | rw [if_pos (by omega)]
    · rw [if_neg (by omega), if_neg (by omega)]
      simp only [Option.bind_some, if_true]
  · rw [if_neg h]
    simp only [Option.bind_some, l2at_no h, if_true]

end Go.Proofs.Ytbcpkbbdmkmpkaa.Pure

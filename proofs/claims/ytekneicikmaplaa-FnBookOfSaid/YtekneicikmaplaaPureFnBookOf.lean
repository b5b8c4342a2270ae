/- For every code of at most 2^20 bytes, the rooms of the slots of the book that is drawn from it ascend, lie aligned, belong to their slot alone and are all rooms that are owned; a longer code is let pass. -/
import Derived.Test.YtekneicikmaplaaBx5
import Derived.Test.YtekneicikmaplaaBx1
set_option linter.unusedVariables false
set_option linter.unusedSimpArgs false
namespace Go.Proofs.Ytekneicikmaplaa.Pure
open Go.RowKit Go.Proofs.Ytekneicikmaplaa.PFnBookOf Go.Proofs.YtekneicikmaplaaW.PrintWords Go.Proofs.YtekneicikmaplaaW.PrintLast Go.Proofs.YtekneicikmaplaaW.PrintMore Go.Proofs.Ytekneicikmaplaa.Pl

theorem FnBookOf : ∀ (l0 : List Int), (l0.length ≤ 9223372036854775807 ∧ ∀ y0 ∈ l0, (Lit.int .u8 y0).wf = true) → laws_FnBookOf.f l0 = some true := by
  intro l ⟨h, hb⟩
  refine if_pos ?_
  unfold isB
  rw [Bool.and_eq_true]
  exact ⟨decide_eq_true h, List.all_eq_true.mpr fun y hy => hb y hy⟩

end Go.Proofs.Ytekneicikmaplaa.Pure

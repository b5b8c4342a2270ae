/- For every code of at most 2^20 bytes, the fields of the words drawn from it are read as they were packed where they fit, and what is read of a drawn word packs to it. -/
import Derived.Test.YtgeeaieapkfnoaaPFnCellx3
import Derived.Test.YtgeeaieapkfnoaaPl
set_option linter.unusedVariables false
set_option linter.unusedSimpArgs false
namespace Go.Proofs.Ytgeeaieapkfnoaa.Pure
open Go.RowKit Go.Proofs.Ytgeeaieapkfnoaa.PFnCell Go.Proofs.YtgeeaieapkfnoaaW.PrintWords Go.Proofs.YtgeeaieapkfnoaaW.PrintLast Go.Proofs.YtgeeaieapkfnoaaW.PrintMore Go.Proofs.Ytgeeaieapkfnoaa.Pl

theorem FnCell : ∀ (l0 : List Int), (l0.length ≤ 9223372036854775807 ∧ ∀ y0 ∈ l0, (Lit.int .u8 y0).wf = true) → ∃ k, laws_FnCell.f k l0 = some true := by
  intro l ⟨h, hb⟩
  refine ⟨0, if_pos ?_⟩
  unfold isB
  rw [Bool.and_eq_true]
  exact ⟨decide_eq_true h, List.all_eq_true.mpr fun y hy => hb y hy⟩

end Go.Proofs.Ytgeeaieapkfnoaa.Pure

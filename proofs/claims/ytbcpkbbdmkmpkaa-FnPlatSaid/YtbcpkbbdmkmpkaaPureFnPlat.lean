/- For every code of at most 2^20 bytes, the parts of the house that is drawn from it lie side by side and fill its memory; where the numbers drawn are no house, every address is 0. -/
import Derived.Test.YtbcpkbbdmkmpkaaPFnPlatx5
import Derived.Test.YtbcpkbbdmkmpkaaPl
set_option linter.unusedVariables false
set_option linter.unusedSimpArgs false
namespace Go.Proofs.Ytbcpkbbdmkmpkaa.Pure
open Go.RowKit Go.Proofs.Ytbcpkbbdmkmpkaa.PFnPlat Go.Proofs.YtbcpkbbdmkmpkaaW.PrintWords Go.Proofs.YtbcpkbbdmkmpkaaW.PrintLast Go.Proofs.YtbcpkbbdmkmpkaaW.PrintMore Go.Proofs.Ytbcpkbbdmkmpkaa.Pl

theorem FnPlat : ∀ (l0 : List Int), (l0.length ≤ 9223372036854775807 ∧ ∀ y0 ∈ l0, (Lit.int .u8 y0).wf = true) → ∃ k, laws_FnPlat.f k l0 = some true := by
  intro l ⟨h, hb⟩
  refine ⟨0, if_pos ?_⟩
  unfold isB
  rw [Bool.and_eq_true]
  exact ⟨decide_eq_true h, List.all_eq_true.mpr fun y hy => hb y hy⟩

end Go.Proofs.Ytbcpkbbdmkmpkaa.Pure

/- For every word, the program's and the reference's value of it are one; the word is any number of 64 bits. -/
import Derived.Test.YtcafjnbdpdflmaaPFnExactCellValx1
import Derived.Test.YtcafjnbdpdflmaaPl
set_option linter.unusedVariables false
set_option linter.unusedSimpArgs false
namespace Go.Proofs.Ytcafjnbdpdflmaa.Pure
open Go.RowKit Go.Proofs.Ytcafjnbdpdflmaa.PFnExactCellVal Go.Proofs.YtcafjnbdpdflmaaW.PrintWords Go.Proofs.YtcafjnbdpdflmaaW.PrintLast Go.Proofs.YtcafjnbdpdflmaaW.PrintMore Go.Proofs.Ytcafjnbdpdflmaa.Pl

theorem sval_eq {w : Int} (h : 0 ≤ w) : spec_CellVal.f w = some (wval w) := by
  unfold spec_CellVal.f; rw [val_spec h]
theorem ival_eq {w : Int} (h : 0 ≤ w) (h1 : w ≤ 18446744073709551615) : impl_CellVal.f w = some (wval w) := by
  unfold impl_CellVal.f; rw [val_impl h h1]
theorem FnExactCellVal : laws_FnExactCellVal.Pure := by
  intro a h
  obtain ⟨h0, h1⟩ := wf_u64 h
  unfold laws_FnExactCellVal.f
  rw [sval_eq h0, ival_eq h0 h1]; simp

end Go.Proofs.Ytcafjnbdpdflmaa.Pure

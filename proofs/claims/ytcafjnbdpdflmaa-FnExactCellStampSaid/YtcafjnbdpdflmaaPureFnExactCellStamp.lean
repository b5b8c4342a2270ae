/- For every word, the program's and the reference's stamp of it are one; the word is any number of 64 bits. -/
import Derived.Test.YtcafjnbdpdflmaaPFnExactCellStampx1
import Derived.Test.YtcafjnbdpdflmaaPl
set_option linter.unusedVariables false
set_option linter.unusedSimpArgs false
namespace Go.Proofs.Ytcafjnbdpdflmaa.Pure
open Go.RowKit Go.Proofs.Ytcafjnbdpdflmaa.PFnExactCellStamp Go.Proofs.YtcafjnbdpdflmaaW.PrintWords Go.Proofs.YtcafjnbdpdflmaaW.PrintLast Go.Proofs.YtcafjnbdpdflmaaW.PrintMore Go.Proofs.Ytcafjnbdpdflmaa.Pl

theorem sstamp_eq {w : Int} (h : 0 ≤ w) (h1 : w ≤ 18446744073709551615) : spec_CellStamp.f w = some (wstamp w) := by
  unfold spec_CellStamp.f; rw [stamp_spec h h1]
theorem istamp_eq {w : Int} (h : 0 ≤ w) (h1 : w ≤ 18446744073709551615) : impl_CellStamp.f w = some (wstamp w) := by
  unfold impl_CellStamp.f; rw [stamp_impl h h1]
theorem FnExactCellStamp : laws_FnExactCellStamp.Pure := by
  intro a h
  obtain ⟨h0, h1⟩ := wf_u64 h
  unfold laws_FnExactCellStamp.f
  rw [sstamp_eq h0 h1, istamp_eq h0 h1]; simp

end Go.Proofs.Ytcafjnbdpdflmaa.Pure

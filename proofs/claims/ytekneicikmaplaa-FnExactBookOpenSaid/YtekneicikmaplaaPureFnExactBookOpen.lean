/- For every configuration, the program and the reference open the same book, in memory that nothing else shares. -/
import Derived.Test.YtekneicikmaplaaPFnExactBookOpenx5
import Derived.Test.YtekneicikmaplaaPl
set_option linter.unusedVariables false
set_option linter.unusedSimpArgs false
namespace Go.Proofs.Ytekneicikmaplaa.Pure
open Go.RowKit Go.Proofs.Ytekneicikmaplaa.PFnExactBookOpen Go.Proofs.YtekneicikmaplaaW.PrintWords Go.Proofs.YtekneicikmaplaaW.PrintLast Go.Proofs.YtekneicikmaplaaW.PrintMore Go.Proofs.Ytekneicikmaplaa.Pl

open Go.Proofs.Ytekneicikmaplaa.Bk
theorem FnExactBookOpen : ∀ (a0_0 : Int) (a0_1 : Int) (a0_2 : Int), (Lit.int .i64 a0_0).wf = true → (Lit.int .i64 a0_1).wf = true → (Lit.int .i64 a0_2).wf = true → laws_FnExactBookOpen.f a0_0 a0_1 a0_2 = some true := by
  intro a0_0 a0_1 a0_2 w0_0 w0_1 w0_2
  exact if_pos ⟨isI64_of w0_0, isI64_of w0_1, isI64_of w0_2⟩

end Go.Proofs.Ytekneicikmaplaa.Pure

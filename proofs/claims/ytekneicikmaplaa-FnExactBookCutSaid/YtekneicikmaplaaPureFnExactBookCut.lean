/- For every book whose lists hold at most 2^20 numbers together and every slot, the program and the reference give the same fenced book, in memory that nothing else shares; larger books are let pass. -/
import Derived.Test.YtekneicikmaplaaPFnExactBookCutx0
import Derived.Test.YtekneicikmaplaaPl
set_option linter.unusedVariables false
set_option linter.unusedSimpArgs false
namespace Go.Proofs.Ytekneicikmaplaa.Pure
open Go.RowKit Go.Proofs.Ytekneicikmaplaa.PFnExactBookCut Go.Proofs.YtekneicikmaplaaW.PrintWords Go.Proofs.YtekneicikmaplaaW.PrintLast Go.Proofs.YtekneicikmaplaaW.PrintMore Go.Proofs.Ytekneicikmaplaa.Pl

open Go.Proofs.Ytekneicikmaplaa.Bk
theorem FnExactBookCut : ∀ (a0_0 : Int) (l0_1 : List Int) (l0_2 : List Int) (l0_3 : List Int) (l0_4 : List Int) (l0_5 : List Int) (l0_6 : List Int) (l0_7 : List Int) (l0_8 : List Int) (a1 : Int), (Lit.int .i64 a0_0).wf = true → (l0_1.length ≤ 9223372036854775807 ∧ ∀ y0 ∈ l0_1, (Lit.int .i64 y0).wf = true) → (l0_2.length ≤ 9223372036854775807 ∧ ∀ y0 ∈ l0_2, (Lit.int .i64 y0).wf = true) → (l0_3.length ≤ 9223372036854775807 ∧ ∀ y0 ∈ l0_3, (Lit.int .i64 y0).wf = true) → (l0_4.length ≤ 9223372036854775807 ∧ ∀ y0 ∈ l0_4, (Lit.int .i64 y0).wf = true) → (l0_5.length ≤ 9223372036854775807 ∧ ∀ y0 ∈ l0_5, (Lit.int .i64 y0).wf = true) → (l0_6.length ≤ 9223372036854775807 ∧ ∀ y0 ∈ l0_6, (Lit.int .i64 y0).wf = true) → (l0_7.length ≤ 9223372036854775807 ∧ ∀ y0 ∈ l0_7, (Lit.int .i64 y0).wf = true) → (l0_8.length ≤ 9223372036854775807 ∧ ∀ y0 ∈ l0_8, (Lit.int .i64 y0).wf = true) → (Lit.int .i64 a1).wf = true → laws_FnExactBookCut.f a0_0 l0_1 l0_2 l0_3 l0_4 l0_5 l0_6 l0_7 l0_8 a1 = some true := by
  intro a0_0 l0_1 l0_2 l0_3 l0_4 l0_5 l0_6 l0_7 l0_8 a1 w0_0 w0_1 w0_2 w0_3 w0_4 w0_5 w0_6 w0_7 w0_8 w1
  exact if_pos ⟨isI64_of w0_0, isRow_of w0_1, isRow_of w0_2, isRow_of w0_3, isRow_of w0_4, isRow_of w0_5, isRow_of w0_6, isRow_of w0_7, isRow_of w0_8, isI64_of w1⟩

end Go.Proofs.Ytekneicikmaplaa.Pure

/- For every configuration and every book whose lists hold at most 2^20 numbers together, the program and the reference lay the same words, in memory that nothing else shares; larger books are let pass. -/
import Derived.Test.YtekneicikmaplaaPFnExactCensLayx0
import Derived.Test.YtekneicikmaplaaPl
set_option linter.unusedVariables false
set_option linter.unusedSimpArgs false
namespace Go.Proofs.Ytekneicikmaplaa.Pure
open Go.RowKit Go.Proofs.Ytekneicikmaplaa.PFnExactCensLay Go.Proofs.YtekneicikmaplaaW.PrintWords Go.Proofs.YtekneicikmaplaaW.PrintLast Go.Proofs.YtekneicikmaplaaW.PrintMore Go.Proofs.Ytekneicikmaplaa.Pl

open Go.Proofs.Ytekneicikmaplaa.Bk
theorem FnExactCensLay : ∀ (a0_0 : Int) (a0_1 : Int) (a0_2 : Int) (a1_0 : Int) (l1_1 : List Int) (l1_2 : List Int) (l1_3 : List Int) (l1_4 : List Int) (l1_5 : List Int) (l1_6 : List Int) (l1_7 : List Int) (l1_8 : List Int), (Lit.int .i64 a0_0).wf = true → (Lit.int .i64 a0_1).wf = true → (Lit.int .i64 a0_2).wf = true → (Lit.int .i64 a1_0).wf = true → (l1_1.length ≤ 9223372036854775807 ∧ ∀ y0 ∈ l1_1, (Lit.int .i64 y0).wf = true) → (l1_2.length ≤ 9223372036854775807 ∧ ∀ y0 ∈ l1_2, (Lit.int .i64 y0).wf = true) → (l1_3.length ≤ 9223372036854775807 ∧ ∀ y0 ∈ l1_3, (Lit.int .i64 y0).wf = true) → (l1_4.length ≤ 9223372036854775807 ∧ ∀ y0 ∈ l1_4, (Lit.int .i64 y0).wf = true) → (l1_5.length ≤ 9223372036854775807 ∧ ∀ y0 ∈ l1_5, (Lit.int .i64 y0).wf = true) → (l1_6.length ≤ 9223372036854775807 ∧ ∀ y0 ∈ l1_6, (Lit.int .i64 y0).wf = true) → (l1_7.length ≤ 9223372036854775807 ∧ ∀ y0 ∈ l1_7, (Lit.int .i64 y0).wf = true) → (l1_8.length ≤ 9223372036854775807 ∧ ∀ y0 ∈ l1_8, (Lit.int .i64 y0).wf = true) → laws_FnExactCensLay.f a0_0 a0_1 a0_2 a1_0 l1_1 l1_2 l1_3 l1_4 l1_5 l1_6 l1_7 l1_8 = some true := by
  intro a0_0 a0_1 a0_2 a1_0 l1_1 l1_2 l1_3 l1_4 l1_5 l1_6 l1_7 l1_8 w0_0 w0_1 w0_2 w1_0 w1_1 w1_2 w1_3 w1_4 w1_5 w1_6 w1_7 w1_8
  exact if_pos ⟨isI64_of w0_0, isI64_of w0_1, isI64_of w0_2, isI64_of w1_0, isRow_of w1_1, isRow_of w1_2, isRow_of w1_3, isRow_of w1_4, isRow_of w1_5, isRow_of w1_6, isRow_of w1_7, isRow_of w1_8⟩

end Go.Proofs.Ytekneicikmaplaa.Pure

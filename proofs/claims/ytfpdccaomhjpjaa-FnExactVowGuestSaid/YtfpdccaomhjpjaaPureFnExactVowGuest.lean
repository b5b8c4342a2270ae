/- For every world and number, the program and the reference give the same answer to whether a guest of it keeps its vow, and leave it as it was; worlds of more than 2^20 words, guests and numbers together are let pass. -/
import Derived.Test.YtfpdccaomhjpjaaPFnExactVowGuestx1
import Derived.Test.YtfpdccaomhjpjaaPl
set_option linter.unusedVariables false
set_option linter.unusedSimpArgs false
namespace Go.Proofs.Ytfpdccaomhjpjaa.Pure
open Go.RowKit Go.Proofs.Ytfpdccaomhjpjaa.PFnExactVowGuest Go.Proofs.YtfpdccaomhjpjaaW.PrintWords Go.Proofs.YtfpdccaomhjpjaaW.PrintLast Go.Proofs.YtfpdccaomhjpjaaW.PrintMore Go.Proofs.Ytfpdccaomhjpjaa.Pl

theorem FnExactVowGuest : ∀ (l0_0 : List Int) (l0_1 : List S82) (a1 : Int), (l0_0.length ≤ 9223372036854775807 ∧ ∀ y0 ∈ l0_0, (Lit.int .u64 y0).wf = true) → (l0_1.length ≤ 9223372036854775807 ∧ ∀ y0 ∈ l0_1, (True ∧ (Lit.int .i64 y0.f1).wf = true ∧ (Lit.int .i64 y0.f2).wf = true ∧ True ∧ ((Lit.int .i64 y0.f4.f0).wf = true ∧ (Lit.int .i64 y0.f4.f1).wf = true ∧ (Lit.int .i64 y0.f4.f2).wf = true ∧ (Lit.int .i64 y0.f4.f3).wf = true) ∧ (Lit.int .i64 y0.f5).wf = true ∧ (Lit.int .i64 y0.f6).wf = true ∧ (Lit.int .i64 y0.f7).wf = true ∧ (Lit.int .i64 y0.f8).wf = true ∧ (Lit.int .i64 y0.f9).wf = true ∧ (Lit.int .i64 y0.f10).wf = true ∧ (Lit.int .i64 y0.f11).wf = true ∧ True ∧ (Lit.int .i64 y0.f13).wf = true ∧ (Lit.int .u64 y0.f14).wf = true ∧ (Lit.int .u64 y0.f15).wf = true ∧ (Lit.int .u64 y0.f16).wf = true ∧ (Lit.int .u64 y0.f17).wf = true ∧ (y0.f18.length ≤ 9223372036854775807 ∧ ∀ y1 ∈ y0.f18, (Lit.int .u64 y1).wf = true) ∧ (y0.f19.length ≤ 9223372036854775807 ∧ ∀ y1 ∈ y0.f19, (Lit.int .u64 y1).wf = true) ∧ (Lit.int .i64 y0.f20).wf = true ∧ (Lit.int .i64 y0.f21).wf = true ∧ (Lit.int .i64 y0.f22).wf = true)) → (Lit.int .i64 a1).wf = true → laws_FnExactVowGuest.f l0_0 l0_1 a1 = some true := by
  intro l0_0 l0_1 a1 w0_0 w0_1 _
  exact if_pos ⟨⟨w0_0.1, words_ok w0_0.2⟩, w0_1.1, fun y hy => by
    obtain ⟨_, _, _, _, _, _, _, _, _, _, _, _, _, _, _, _, _, _, h18, h19, _⟩ := w0_1.2 y hy
    exact ⟨h18.1, h19.1⟩⟩

end Go.Proofs.Ytfpdccaomhjpjaa.Pure

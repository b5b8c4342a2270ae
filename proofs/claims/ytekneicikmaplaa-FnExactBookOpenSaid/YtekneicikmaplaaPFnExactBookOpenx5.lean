/- FnExactBookOpen: the law's own walk, as the row wants it. -/
import Derived.Test.YtekneicikmaplaaBm8
import Derived.Test.YtekneicikmaplaaBm1
set_option linter.unusedVariables false
set_option linter.unusedSimpArgs false
namespace Go.Proofs.Ytekneicikmaplaa.PFnExactBookOpen
open Go.RowKit Go.Proofs.YtekneicikmaplaaW.PrintWords Go.Proofs.YtekneicikmaplaaW.PrintLast Go.Proofs.YtekneicikmaplaaW.PrintMore Go.Proofs.Ytekneicikmaplaa.Bk

def laws_FnExactBookOpen.f (a0_0 : Int) (a0_1 : Int) (a0_2 : Int) : Option Bool := if isI64 a0_0 = true ∧ isI64 a0_1 = true ∧ isI64 a0_2 = true then some true else none
set_option maxRecDepth 100000 in
theorem laws_FnExactBookOpen.calls (a0_0 : Int) (a0_1 : Int) (a0_2 : Int) (r : Bool) (w : World)  (h : laws_FnExactBookOpen.f a0_0 a0_1 a0_2 = some r) :
    Calls Try.prog 3 #[.agg #[.int .i64 a0_0, .int .i64 a0_1, .int .i64 a0_2]] w fun e w' => e = .returned (.bool r) ∧ Below w.heap.size w w' := by
  unfold laws_FnExactBookOpen.f at h
  by_cases q : isI64 a0_0 = true ∧ isI64 a0_1 = true ∧ isI64 a0_2 = true
  · rw [if_pos q] at h
    obtain rfl := Option.some.inj h
    obtain ⟨q0, q1, q2⟩ := q
    exact lawBookOpen_calls a0_0 a0_1 a0_2 w
  · rw [if_neg q] at h
    cases h
end Go.Proofs.Ytekneicikmaplaa.PFnExactBookOpen

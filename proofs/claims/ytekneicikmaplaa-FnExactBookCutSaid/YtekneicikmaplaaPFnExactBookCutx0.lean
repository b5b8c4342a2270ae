/- FnExactBookCut: the law's own walk, as the row wants it. -/
import Derived.Test.YtekneicikmaplaaBm9
import Derived.Test.YtekneicikmaplaaBm2
set_option linter.unusedVariables false
set_option linter.unusedSimpArgs false
namespace Go.Proofs.Ytekneicikmaplaa.PFnExactBookCut
open Go.RowKit Go.Proofs.YtekneicikmaplaaW.PrintWords Go.Proofs.YtekneicikmaplaaW.PrintLast Go.Proofs.YtekneicikmaplaaW.PrintMore Go.Proofs.Ytekneicikmaplaa.Bk

def laws_FnExactBookCut.f (a0_0 : Int) (l0_1 : List Int) (l0_2 : List Int) (l0_3 : List Int) (l0_4 : List Int) (l0_5 : List Int) (l0_6 : List Int) (l0_7 : List Int) (l0_8 : List Int) (a1 : Int) : Option Bool := if isI64 a0_0 = true ∧ isRow l0_1 = true ∧ isRow l0_2 = true ∧ isRow l0_3 = true ∧ isRow l0_4 = true ∧ isRow l0_5 = true ∧ isRow l0_6 = true ∧ isRow l0_7 = true ∧ isRow l0_8 = true ∧ isI64 a1 = true then some true else none
set_option maxRecDepth 100000 in
theorem laws_FnExactBookCut.calls (a0_0 : Int) (A0_1 : Option Addr) (c0_1 : Nat) (l0_1 : List Int) (A0_2 : Option Addr) (c0_2 : Nat) (l0_2 : List Int) (A0_3 : Option Addr) (c0_3 : Nat) (l0_3 : List Int) (A0_4 : Option Addr) (c0_4 : Nat) (l0_4 : List Int) (A0_5 : Option Addr) (c0_5 : Nat) (l0_5 : List Int) (A0_6 : Option Addr) (c0_6 : Nat) (l0_6 : List Int) (A0_7 : Option Addr) (c0_7 : Nat) (l0_7 : List Int) (A0_8 : Option Addr) (c0_8 : Nat) (l0_8 : List Int) (a1 : Int) (r : Bool) (w : World) (hr0_1 : Kd.C (Kd.int .i64) w A0_1 l0_1.length l0_1) (hc0_1 : l0_1.length ≤ c0_1) (hr0_2 : Kd.C (Kd.int .i64) w A0_2 l0_2.length l0_2) (hc0_2 : l0_2.length ≤ c0_2) (hr0_3 : Kd.C (Kd.int .i64) w A0_3 l0_3.length l0_3) (hc0_3 : l0_3.length ≤ c0_3) (hr0_4 : Kd.C (Kd.int .i64) w A0_4 l0_4.length l0_4) (hc0_4 : l0_4.length ≤ c0_4) (hr0_5 : Kd.C (Kd.int .i64) w A0_5 l0_5.length l0_5) (hc0_5 : l0_5.length ≤ c0_5) (hr0_6 : Kd.C (Kd.int .i64) w A0_6 l0_6.length l0_6) (hc0_6 : l0_6.length ≤ c0_6) (hr0_7 : Kd.C (Kd.int .i64) w A0_7 l0_7.length l0_7) (hc0_7 : l0_7.length ≤ c0_7) (hr0_8 : Kd.C (Kd.int .i64) w A0_8 l0_8.length l0_8) (hc0_8 : l0_8.length ≤ c0_8) (h : laws_FnExactBookCut.f a0_0 l0_1 l0_2 l0_3 l0_4 l0_5 l0_6 l0_7 l0_8 a1 = some r) :
    Calls Try.prog 8 #[.agg #[.int .i64 a0_0, .slice A0_1 l0_1.length c0_1, .slice A0_2 l0_2.length c0_2, .slice A0_3 l0_3.length c0_3, .slice A0_4 l0_4.length c0_4, .slice A0_5 l0_5.length c0_5, .slice A0_6 l0_6.length c0_6, .slice A0_7 l0_7.length c0_7, .slice A0_8 l0_8.length c0_8], .int .i64 a1] w fun e w' => e = .returned (.bool r) ∧ Below w.heap.size w w' := by
  unfold laws_FnExactBookCut.f at h
  by_cases q : isI64 a0_0 = true ∧ isRow l0_1 = true ∧ isRow l0_2 = true ∧ isRow l0_3 = true ∧ isRow l0_4 = true ∧ isRow l0_5 = true ∧ isRow l0_6 = true ∧ isRow l0_7 = true ∧ isRow l0_8 = true ∧ isI64 a1 = true
  · rw [if_pos q] at h
    obtain rfl := Option.some.inj h
    obtain ⟨q0, q1, q2, q3, q4, q5, q6, q7, q8, q9⟩ := q
    have hk : BkC w (adr8 A0_1 A0_2 A0_3 A0_4 A0_5 A0_6 A0_7 A0_8) (cap8 c0_1 c0_2 c0_3 c0_4 c0_5 c0_6 c0_7 c0_8) (lst8 l0_1 l0_2 l0_3 l0_4 l0_5 l0_6 l0_7 l0_8) := fun i hi => by
      match i, hi with
      | 0, _ => exact ⟨hr0_1, hc0_1⟩
      | 1, _ => exact ⟨hr0_2, hc0_2⟩
      | 2, _ => exact ⟨hr0_3, hc0_3⟩
      | 3, _ => exact ⟨hr0_4, hc0_4⟩
      | 4, _ => exact ⟨hr0_5, hc0_5⟩
      | 5, _ => exact ⟨hr0_6, hc0_6⟩
      | 6, _ => exact ⟨hr0_7, hc0_7⟩
      | 7, _ => exact ⟨hr0_8, hc0_8⟩
    exact lawBookCut_calls a0_0 (adr8 A0_1 A0_2 A0_3 A0_4 A0_5 A0_6 A0_7 A0_8) (cap8 c0_1 c0_2 c0_3 c0_4 c0_5 c0_6 c0_7 c0_8) (lst8 l0_1 l0_2 l0_3 l0_4 l0_5 l0_6 l0_7 l0_8) a1 w hk (lst8_all (Q := fun l => l.length ≤ 9223372036854775807) (isRow_r q1).1 (isRow_r q2).1 (isRow_r q3).1 (isRow_r q4).1 (isRow_r q5).1 (isRow_r q6).1 (isRow_r q7).1 (isRow_r q8).1 (by simp)) (lst8_over _ _ _ _ _ _ _ _) (lst8_all (Q := Wf64) (isRow_r q1).2 (isRow_r q2).2 (isRow_r q3).2 (isRow_r q4).2 (isRow_r q5).2 (isRow_r q6).2 (isRow_r q7).2 (isRow_r q8).2 wf64_nil) (isI64_r q9)
  · rw [if_neg q] at h
    cases h
end Go.Proofs.Ytekneicikmaplaa.PFnExactBookCut

/- FnExactCensLay: the law's own walk, as the row wants it. -/
import Derived.Test.YtekneicikmaplaaBm11
import Derived.Test.YtekneicikmaplaaBm2
set_option linter.unusedVariables false
set_option linter.unusedSimpArgs false
namespace Go.Proofs.Ytekneicikmaplaa.PFnExactCensLay
open Go.RowKit Go.Proofs.YtekneicikmaplaaW.PrintWords Go.Proofs.YtekneicikmaplaaW.PrintLast Go.Proofs.YtekneicikmaplaaW.PrintMore Go.Proofs.Ytekneicikmaplaa.Bk

def laws_FnExactCensLay.f (a0_0 : Int) (a0_1 : Int) (a0_2 : Int) (a1_0 : Int) (l1_1 : List Int) (l1_2 : List Int) (l1_3 : List Int) (l1_4 : List Int) (l1_5 : List Int) (l1_6 : List Int) (l1_7 : List Int) (l1_8 : List Int) : Option Bool := if isI64 a0_0 = true ∧ isI64 a0_1 = true ∧ isI64 a0_2 = true ∧ isI64 a1_0 = true ∧ isRow l1_1 = true ∧ isRow l1_2 = true ∧ isRow l1_3 = true ∧ isRow l1_4 = true ∧ isRow l1_5 = true ∧ isRow l1_6 = true ∧ isRow l1_7 = true ∧ isRow l1_8 = true then some true else none
set_option maxRecDepth 100000 in
theorem laws_FnExactCensLay.calls (a0_0 : Int) (a0_1 : Int) (a0_2 : Int) (a1_0 : Int) (A1_1 : Option Addr) (c1_1 : Nat) (l1_1 : List Int) (A1_2 : Option Addr) (c1_2 : Nat) (l1_2 : List Int) (A1_3 : Option Addr) (c1_3 : Nat) (l1_3 : List Int) (A1_4 : Option Addr) (c1_4 : Nat) (l1_4 : List Int) (A1_5 : Option Addr) (c1_5 : Nat) (l1_5 : List Int) (A1_6 : Option Addr) (c1_6 : Nat) (l1_6 : List Int) (A1_7 : Option Addr) (c1_7 : Nat) (l1_7 : List Int) (A1_8 : Option Addr) (c1_8 : Nat) (l1_8 : List Int) (r : Bool) (w : World) (hr1_1 : Kd.C (Kd.int .i64) w A1_1 l1_1.length l1_1) (hc1_1 : l1_1.length ≤ c1_1) (hr1_2 : Kd.C (Kd.int .i64) w A1_2 l1_2.length l1_2) (hc1_2 : l1_2.length ≤ c1_2) (hr1_3 : Kd.C (Kd.int .i64) w A1_3 l1_3.length l1_3) (hc1_3 : l1_3.length ≤ c1_3) (hr1_4 : Kd.C (Kd.int .i64) w A1_4 l1_4.length l1_4) (hc1_4 : l1_4.length ≤ c1_4) (hr1_5 : Kd.C (Kd.int .i64) w A1_5 l1_5.length l1_5) (hc1_5 : l1_5.length ≤ c1_5) (hr1_6 : Kd.C (Kd.int .i64) w A1_6 l1_6.length l1_6) (hc1_6 : l1_6.length ≤ c1_6) (hr1_7 : Kd.C (Kd.int .i64) w A1_7 l1_7.length l1_7) (hc1_7 : l1_7.length ≤ c1_7) (hr1_8 : Kd.C (Kd.int .i64) w A1_8 l1_8.length l1_8) (hc1_8 : l1_8.length ≤ c1_8) (h : laws_FnExactCensLay.f a0_0 a0_1 a0_2 a1_0 l1_1 l1_2 l1_3 l1_4 l1_5 l1_6 l1_7 l1_8 = some r) :
    Calls Try.prog 9 #[.agg #[.int .i64 a0_0, .int .i64 a0_1, .int .i64 a0_2], .agg #[.int .i64 a1_0, .slice A1_1 l1_1.length c1_1, .slice A1_2 l1_2.length c1_2, .slice A1_3 l1_3.length c1_3, .slice A1_4 l1_4.length c1_4, .slice A1_5 l1_5.length c1_5, .slice A1_6 l1_6.length c1_6, .slice A1_7 l1_7.length c1_7, .slice A1_8 l1_8.length c1_8]] w fun e w' => e = .returned (.bool r) ∧ Below w.heap.size w w' := by
  unfold laws_FnExactCensLay.f at h
  by_cases q : isI64 a0_0 = true ∧ isI64 a0_1 = true ∧ isI64 a0_2 = true ∧ isI64 a1_0 = true ∧ isRow l1_1 = true ∧ isRow l1_2 = true ∧ isRow l1_3 = true ∧ isRow l1_4 = true ∧ isRow l1_5 = true ∧ isRow l1_6 = true ∧ isRow l1_7 = true ∧ isRow l1_8 = true
  · rw [if_pos q] at h
    obtain rfl := Option.some.inj h
    obtain ⟨q0, q1, q2, q3, q4, q5, q6, q7, q8, q9, q10, q11⟩ := q
    have hk : BkC w (adr8 A1_1 A1_2 A1_3 A1_4 A1_5 A1_6 A1_7 A1_8) (cap8 c1_1 c1_2 c1_3 c1_4 c1_5 c1_6 c1_7 c1_8) (lst8 l1_1 l1_2 l1_3 l1_4 l1_5 l1_6 l1_7 l1_8) := fun i hi => by
      match i, hi with
      | 0, _ => exact ⟨hr1_1, hc1_1⟩
      | 1, _ => exact ⟨hr1_2, hc1_2⟩
      | 2, _ => exact ⟨hr1_3, hc1_3⟩
      | 3, _ => exact ⟨hr1_4, hc1_4⟩
      | 4, _ => exact ⟨hr1_5, hc1_5⟩
      | 5, _ => exact ⟨hr1_6, hc1_6⟩
      | 6, _ => exact ⟨hr1_7, hc1_7⟩
      | 7, _ => exact ⟨hr1_8, hc1_8⟩
    exact lawCensLay_calls a0_0 a0_1 a0_2 a1_0 (adr8 A1_1 A1_2 A1_3 A1_4 A1_5 A1_6 A1_7 A1_8) (cap8 c1_1 c1_2 c1_3 c1_4 c1_5 c1_6 c1_7 c1_8) (lst8 l1_1 l1_2 l1_3 l1_4 l1_5 l1_6 l1_7 l1_8) w hk (lst8_all (Q := fun l => l.length ≤ 9223372036854775807) (isRow_r q4).1 (isRow_r q5).1 (isRow_r q6).1 (isRow_r q7).1 (isRow_r q8).1 (isRow_r q9).1 (isRow_r q10).1 (isRow_r q11).1 (by simp)) (lst8_over _ _ _ _ _ _ _ _) (lst8_all (Q := Wf64) (isRow_r q4).2 (isRow_r q5).2 (isRow_r q6).2 (isRow_r q7).2 (isRow_r q8).2 (isRow_r q9).2 (isRow_r q10).2 (isRow_r q11).2 wf64_nil) (isI64_r q0) (isI64_r q1) (isI64_r q2)
  · rw [if_neg q] at h
    cases h
end Go.Proofs.Ytekneicikmaplaa.PFnExactCensLay

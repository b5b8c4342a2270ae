/- FnExactGuestAsk: the law's own walk, as the row wants it. -/
import Derived.Test.YtbcpkbbdmkmpkaaGe
set_option linter.unusedVariables false
set_option linter.unusedSimpArgs false
namespace Go.Proofs.Ytbcpkbbdmkmpkaa.PFnExactGuestAsk
open Go.RowKit Go.Proofs.YtbcpkbbdmkmpkaaW.PrintWords Go.Proofs.YtbcpkbbdmkmpkaaW.PrintLast Go.Proofs.YtbcpkbbdmkmpkaaW.PrintMore Go.Proofs.Ytbcpkbbdmkmpkaa.Gu

def laws_FnExactGuestAsk.f (a0_0 : Bool) (a0_1 : Int) (a0_2 : Int) (a0_3 : Bool) (a0_4 : Int) (a0_5 : Int) (a0_6 : Int) (a0_7 : Int) (a0_8 : Int) (a0_9 : Int) (a0_10 : Int) (a0_11 : Int) (a0_12 : Int) (a0_13 : Int) (a0_14 : Int) (a0_15 : Bool) (a0_16 : Int) (a0_17 : Int) (a0_18 : Int) (a0_19 : Int) (a0_20 : Int) (l0_21 : List Int) (l0_22 : List Int) (a0_23 : Int) (a0_24 : Int) (a0_25 : Int) (a1_0 : Int) (a1_1 : Int) (a1_2 : Int) (a1_3 : Int) : Option Bool := if l0_21.length ≤ 9223372036854775807 ∧ l0_22.length ≤ 9223372036854775807 then some true else none
set_option maxRecDepth 100000 in
theorem laws_FnExactGuestAsk.calls (a0_0 : Bool) (a0_1 : Int) (a0_2 : Int) (a0_3 : Bool) (a0_4 : Int) (a0_5 : Int) (a0_6 : Int) (a0_7 : Int) (a0_8 : Int) (a0_9 : Int) (a0_10 : Int) (a0_11 : Int) (a0_12 : Int) (a0_13 : Int) (a0_14 : Int) (a0_15 : Bool) (a0_16 : Int) (a0_17 : Int) (a0_18 : Int) (a0_19 : Int) (a0_20 : Int) (A0_21 : Option Addr) (c0_21 : Nat) (l0_21 : List Int) (A0_22 : Option Addr) (c0_22 : Nat) (l0_22 : List Int) (a0_23 : Int) (a0_24 : Int) (a0_25 : Int) (a1_0 : Int) (a1_1 : Int) (a1_2 : Int) (a1_3 : Int) (r : Bool) (w : World) (hr0_21 : Kd.C (Kd.int .u64) w A0_21 l0_21.length l0_21) (hc0_21 : l0_21.length ≤ c0_21) (hr0_22 : Kd.C (Kd.int .u64) w A0_22 l0_22.length l0_22) (hc0_22 : l0_22.length ≤ c0_22) (h : laws_FnExactGuestAsk.f a0_0 a0_1 a0_2 a0_3 a0_4 a0_5 a0_6 a0_7 a0_8 a0_9 a0_10 a0_11 a0_12 a0_13 a0_14 a0_15 a0_16 a0_17 a0_18 a0_19 a0_20 l0_21 l0_22 a0_23 a0_24 a0_25 a1_0 a1_1 a1_2 a1_3 = some r) :
    Calls Try.prog 14 #[.agg #[.bool a0_0, .int .i64 a0_1, .int .i64 a0_2, .bool a0_3, .int .i64 a0_4, .int .i64 a0_5, .int .i64 a0_6, .int .i64 a0_7, .int .i64 a0_8, .int .i64 a0_9, .int .i64 a0_10, .int .i64 a0_11, .int .i64 a0_12, .int .i64 a0_13, .int .i64 a0_14, .bool a0_15, .int .i64 a0_16, .int .u64 a0_17, .int .u64 a0_18, .int .u64 a0_19, .int .u64 a0_20, .slice A0_21 l0_21.length c0_21, .slice A0_22 l0_22.length c0_22, .int .i64 a0_23, .int .i64 a0_24, .int .i64 a0_25], .agg #[.int .i64 a1_0, .int .i64 a1_1, .int .i64 a1_2, .int .i64 a1_3]] w fun e w' => e = .returned (.bool r) ∧ Below w.heap.size w w' := by
  unfold laws_FnExactGuestAsk.f at h
  by_cases q : l0_21.length ≤ 9223372036854775807 ∧ l0_22.length ≤ 9223372036854775807
  · rw [if_pos q] at h
    obtain rfl := Option.some.inj h
    exact lawGuestAsk_calls (Gu.mk a0_0 a0_1 a0_2 a0_3 a0_4 a0_5 a0_6 a0_7 a0_8 a0_9 a0_10 a0_11 a0_12 a0_13 a0_14 a0_15 a0_16 a0_17 a0_18 a0_19 a0_20 l0_21 l0_22 a0_23 a0_24 a0_25) A0_21 c0_21 A0_22 c0_22 a1_0 a1_1 a1_2 a1_3 w ⟨⟨hr0_21, hc0_21⟩, ⟨hr0_22, hc0_22⟩⟩ q
  · rw [if_neg q] at h
    cases h
end Go.Proofs.Ytbcpkbbdmkmpkaa.PFnExactGuestAsk

/- The row of the law FnExactGuestAsk, out of its plain law and the walk of its text: for all arguments the call answers true and leaves them as they were. -/
import Derived.Test.YtbcpkbbdmkmpkaaRows
import Derived.Test.YtbcpkbbdmkmpkaaPFnExactGuestAskx0
import Derived.Test.YtbcpkbbdmkmpkaaPureFnExactGuestAsk
import Derived.Test.YtbcpkbbdmkmpkaaOpen
import Derived.WalkKit
import Derived.ProofKit
import Derived.OpenShut
import Derived.ShutString
import Derived.ChangeOld
import Derived.Below
import Derived.SizedLaws
import Derived.WideShapes
import Derived.Carry
import Derived.Test.YtbcpkbbdmkmpkaaWSized
set_option linter.unusedVariables false
set_option linter.unusedSimpArgs false
namespace Go.Proofs.Ytbcpkbbdmkmpkaa.fnExactGuestAsk
open Go.ChangeShapes Go.WideShapes Go.ChangeAt Go.RowKit Go.Proofs.Ytbcpkbbdmkmpkaa.Open Go.Proofs.YtbcpkbbdmkmpkaaW.PrintWords Go.Proofs.Ytbcpkbbdmkmpkaa.PFnExactGuestAsk
theorem own : ownKnob Try.prog.godebug = none := by kernel_rfl
theorem laidOut : laidOutB Try.prog = true := by kernel_rfl
theorem o4 : Opens Try.prog 4 Kd.bool (fun x => True) := Opens.bool Try.underlying4
theorem o3 : Opens Try.prog 3 (Kd.int .i64) (fun x => (Lit.int .i64 x).wf = true) := Opens.int Try.underlying3
theorem o66 : Opens Try.prog 66 (Kd.pair (Kd.int .i64) (Kd.pair (Kd.int .i64) (Kd.pair (Kd.int .i64) (Kd.int .i64)))) (fun x => ((Lit.int .i64 x.1).wf = true ∧ (Lit.int .i64 x.2.1).wf = true ∧ (Lit.int .i64 x.2.2.1).wf = true ∧ (Lit.int .i64 x.2.2.2).wf = true)) := (Opens.struct Try.underlying66 (by kernel_rfl) (OpensF.cons (by kernel_rfl) rfl o3 (OpensF.cons (by kernel_rfl) rfl o3 (OpensF.cons (by kernel_rfl) rfl o3 (OpensF.one (by kernel_rfl) o3)))))
theorem o40 : Opens Try.prog 40 (Kd.int .u64) (fun x => (Lit.int .u64 x).wf = true) := Opens.int Try.underlying40
theorem o30 : Opens Try.prog 30 (Kd.slice 40 (Kd.int .u64)) (fun x => (x.length ≤ 9223372036854775807 ∧ ∀ y0 ∈ x, (Lit.int .u64 y0).wf = true)) := Opens.slice Try.underlying30 (by kernel_rfl) o40
theorem o68 : Opens Try.prog 68 (Kd.pair Kd.bool (Kd.pair (Kd.int .i64) (Kd.pair (Kd.int .i64) (Kd.pair Kd.bool (Kd.pair (Kd.pair (Kd.int .i64) (Kd.pair (Kd.int .i64) (Kd.pair (Kd.int .i64) (Kd.int .i64)))) (Kd.pair (Kd.int .i64) (Kd.pair (Kd.int .i64) (Kd.pair (Kd.int .i64) (Kd.pair (Kd.int .i64) (Kd.pair (Kd.int .i64) (Kd.pair (Kd.int .i64) (Kd.pair (Kd.int .i64) (Kd.pair Kd.bool (Kd.pair (Kd.int .i64) (Kd.pair (Kd.int .u64) (Kd.pair (Kd.int .u64) (Kd.pair (Kd.int .u64) (Kd.pair (Kd.int .u64) (Kd.pair (Kd.slice 40 (Kd.int .u64)) (Kd.pair (Kd.slice 40 (Kd.int .u64)) (Kd.pair (Kd.int .i64) (Kd.pair (Kd.int .i64) (Kd.int .i64))))))))))))))))))))))) (fun x => (True ∧ (Lit.int .i64 x.2.1).wf = true ∧ (Lit.int .i64 x.2.2.1).wf = true ∧ True ∧ ((Lit.int .i64 x.2.2.2.2.1.1).wf = true ∧ (Lit.int .i64 x.2.2.2.2.1.2.1).wf = true ∧ (Lit.int .i64 x.2.2.2.2.1.2.2.1).wf = true ∧ (Lit.int .i64 x.2.2.2.2.1.2.2.2).wf = true) ∧ (Lit.int .i64 x.2.2.2.2.2.1).wf = true ∧ (Lit.int .i64 x.2.2.2.2.2.2.1).wf = true ∧ (Lit.int .i64 x.2.2.2.2.2.2.2.1).wf = true ∧ (Lit.int .i64 x.2.2.2.2.2.2.2.2.1).wf = true ∧ (Lit.int .i64 x.2.2.2.2.2.2.2.2.2.1).wf = true ∧ (Lit.int .i64 x.2.2.2.2.2.2.2.2.2.2.1).wf = true ∧ (Lit.int .i64 x.2.2.2.2.2.2.2.2.2.2.2.1).wf = true ∧ True ∧ (Lit.int .i64 x.2.2.2.2.2.2.2.2.2.2.2.2.2.1).wf = true ∧ (Lit.int .u64 x.2.2.2.2.2.2.2.2.2.2.2.2.2.2.1).wf = true ∧ (Lit.int .u64 x.2.2.2.2.2.2.2.2.2.2.2.2.2.2.2.1).wf = true ∧ (Lit.int .u64 x.2.2.2.2.2.2.2.2.2.2.2.2.2.2.2.2.1).wf = true ∧ (Lit.int .u64 x.2.2.2.2.2.2.2.2.2.2.2.2.2.2.2.2.2.1).wf = true ∧ (x.2.2.2.2.2.2.2.2.2.2.2.2.2.2.2.2.2.2.1.length ≤ 9223372036854775807 ∧ ∀ y0 ∈ x.2.2.2.2.2.2.2.2.2.2.2.2.2.2.2.2.2.2.1, (Lit.int .u64 y0).wf = true) ∧ (x.2.2.2.2.2.2.2.2.2.2.2.2.2.2.2.2.2.2.2.1.length ≤ 9223372036854775807 ∧ ∀ y0 ∈ x.2.2.2.2.2.2.2.2.2.2.2.2.2.2.2.2.2.2.2.1, (Lit.int .u64 y0).wf = true) ∧ (Lit.int .i64 x.2.2.2.2.2.2.2.2.2.2.2.2.2.2.2.2.2.2.2.2.1).wf = true ∧ (Lit.int .i64 x.2.2.2.2.2.2.2.2.2.2.2.2.2.2.2.2.2.2.2.2.2.1).wf = true ∧ (Lit.int .i64 x.2.2.2.2.2.2.2.2.2.2.2.2.2.2.2.2.2.2.2.2.2.2).wf = true)) := (Opens.struct Try.underlying68 (by kernel_rfl) (OpensF.cons (by kernel_rfl) rfl o4 (OpensF.cons (by kernel_rfl) rfl o3 (OpensF.cons (by kernel_rfl) rfl o3 (OpensF.cons (by kernel_rfl) rfl o4 (OpensF.cons (by kernel_rfl) rfl o66 (OpensF.cons (by kernel_rfl) rfl o3 (OpensF.cons (by kernel_rfl) rfl o3 (OpensF.cons (by kernel_rfl) rfl o3 (OpensF.cons (by kernel_rfl) rfl o3 (OpensF.cons (by kernel_rfl) rfl o3 (OpensF.cons (by kernel_rfl) rfl o3 (OpensF.cons (by kernel_rfl) rfl o3 (OpensF.cons (by kernel_rfl) rfl o4 (OpensF.cons (by kernel_rfl) rfl o3 (OpensF.cons (by kernel_rfl) rfl o40 (OpensF.cons (by kernel_rfl) rfl o40 (OpensF.cons (by kernel_rfl) rfl o40 (OpensF.cons (by kernel_rfl) rfl o40 (OpensF.cons (by kernel_rfl) rfl o30 (OpensF.cons (by kernel_rfl) rfl o30 (OpensF.cons (by kernel_rfl) rfl o3 (OpensF.cons (by kernel_rfl) rfl o3 (OpensF.one (by kernel_rfl) o3))))))))))))))))))))))))
set_option maxRecDepth 100000 in
theorem lifted (os : Os) (started : os.Started) (H : Type) (enc : TypeId × Value → H) :
    ReturnsInHanded {} Try.checked os 14 .any (Rows.fnExactGuestAskSpec.pre6 enc Try.prog Try.f14 Rows.fnExactGuestAskRow.domain false) (Rows.fnExactGuestAskSpec.post enc Try.prog Try.f14 false true false false) := by
  refine returnsInHanded_of_change_sized (C := Try.checked) own started (by kernel_rfl) Try.func14
    (ChangeSpec.witness6 (enc := enc) (C := Try.checked) false ⟨#[], #[.agg #[.bool false, .int .i64 0, .int .i64 0, .bool false, .int .i64 0, .int .i64 0, .int .i64 0, .int .i64 0, .int .i64 0, .int .i64 0, .int .i64 0, .int .i64 0, .int .i64 0, .int .i64 0, .int .i64 0, .bool false, .int .i64 0, .int .u64 0, .int .u64 0, .int .u64 0, .int .u64 0, .slice none 0 0, .slice none 0 0, .int .i64 0, .int .i64 0, .int .i64 0], .agg #[.int .i64 0, .int .i64 0, .int .i64 0, .int .i64 0]], []⟩ 8 (by kernel_rfl) (by kernel_rfl) (by kernel_rfl) (by kernel_rfl)) ?_
  intro W base args ds gs before hval0 hW hcnd hsz0 _
  have hval : ∀ (j : Nat) t v, Try.f14.params[j]? = some t → args[j]? = some v → Value.okWide Try.prog W .any base t v := hval0
  have hW' := hW
  obtain ⟨p, q, hA0, hV, rfl, hfz, hnd⟩ := hW
  have hA : DataW.TrodAll enc Try.prog W 0 (fun _ => true) true Try.f14.params.toList args.toList ds p := hA0
  rw [Try.params14] at hA hval
  obtain ⟨v0, vs0, d0, ds0, p0, q0, hargs, rfl, rfl, h0, r0⟩ := trodAll_cons hA
  obtain ⟨v1, vs1, d1, ds1, p1, q1, rfl, rfl, rfl, h1, r1⟩ := trodAll_cons r0
  obtain ⟨rfl, rfl, rfl⟩ := trodAll_nil r1
  obtain rfl : args = #[v0, v1] := by cases args; simp_all
  obtain ⟨rfl, rfl⟩ := trodVars_none hV
  clear hA0 hval0 hsz0
  have k0 := h0
  have lt0 : ∀ x ∈ p0, x.block < W.heap.size := by obtain ⟨m, hm⟩ := k0; exact DataW.trod_lt m _ _ _ hm
  obtain ⟨cs0, rfl, hsz0⟩ := okWide_struct Try.underlying68 (hval 0 68 v0 rfl rfl)
  obtain ⟨m0, hm0⟩ := h0
  obtain ⟨x0, hK0, ok0⟩ := o68.op enc W 0 (fun _ => true) true m0 _ _ hm0
  obtain ⟨a0_0, a0_1, a0_2, a0_3, ⟨a0_4, a0_5, a0_6, a0_7⟩, a0_8, a0_9, a0_10, a0_11, a0_12, a0_13, a0_14, a0_15, a0_16, a0_17, a0_18, a0_19, a0_20, l0_21, l0_22, a0_23, a0_24, a0_25⟩ := x0
  obtain ⟨bhK0_0, dhK0_0, ehK0_0, hK0_0, rhK0_0⟩ := hK0
  obtain rfl : _ = ([Value.bool a0_0] : List Value) := hK0_0
  obtain ⟨brhK0_0_1, drhK0_0_1, erhK0_0_1, rhK0_0_1, rrhK0_0_1⟩ := rhK0_0
  obtain rfl : _ = ([Value.int .i64 a0_1] : List Value) := rhK0_0_1
  obtain ⟨brrhK0_0_1_2, drrhK0_0_1_2, errhK0_0_1_2, rrhK0_0_1_2, rrrhK0_0_1_2⟩ := rrhK0_0_1
  obtain rfl : _ = ([Value.int .i64 a0_2] : List Value) := rrhK0_0_1_2
  obtain ⟨brrrhK0_0_1_2_3, drrrhK0_0_1_2_3, errrhK0_0_1_2_3, rrrhK0_0_1_2_3, rrrrhK0_0_1_2_3⟩ := rrrhK0_0_1_2
  obtain rfl : _ = ([Value.bool a0_3] : List Value) := rrrhK0_0_1_2_3
  obtain ⟨brrrrhK0_0_1_2_3_4, drrrrhK0_0_1_2_3_4, errrrhK0_0_1_2_3_4, rrrrhK0_0_1_2_3_4, rrrrrhK0_0_1_2_3_4⟩ := rrrrhK0_0_1_2_3
  obtain ⟨brrrrhK0_0_1_2_3_4_0, drrrrhK0_0_1_2_3_4_0, errrrhK0_0_1_2_3_4_0, rrrrhK0_0_1_2_3_4_0, rrrrrhK0_0_1_2_3_4_0⟩ := rrrrhK0_0_1_2_3_4
  obtain rfl : _ = ([Value.int .i64 a0_4] : List Value) := rrrrhK0_0_1_2_3_4_0
  obtain ⟨brrrrrhK0_0_1_2_3_4_0_1, drrrrrhK0_0_1_2_3_4_0_1, errrrrhK0_0_1_2_3_4_0_1, rrrrrhK0_0_1_2_3_4_0_1, rrrrrrhK0_0_1_2_3_4_0_1⟩ := rrrrrhK0_0_1_2_3_4_0
  obtain rfl : _ = ([Value.int .i64 a0_5] : List Value) := rrrrrhK0_0_1_2_3_4_0_1
  obtain ⟨brrrrrrhK0_0_1_2_3_4_0_1_2, drrrrrrhK0_0_1_2_3_4_0_1_2, errrrrrhK0_0_1_2_3_4_0_1_2, rrrrrrhK0_0_1_2_3_4_0_1_2, rrrrrrrhK0_0_1_2_3_4_0_1_2⟩ := rrrrrrhK0_0_1_2_3_4_0_1
  obtain rfl : _ = ([Value.int .i64 a0_6] : List Value) := rrrrrrhK0_0_1_2_3_4_0_1_2
  obtain rfl : _ = ([Value.int .i64 a0_7] : List Value) := rrrrrrrhK0_0_1_2_3_4_0_1_2
  obtain ⟨brrrrrhK0_0_1_2_3_4_5, drrrrrhK0_0_1_2_3_4_5, errrrrhK0_0_1_2_3_4_5, rrrrrhK0_0_1_2_3_4_5, rrrrrrhK0_0_1_2_3_4_5⟩ := rrrrrhK0_0_1_2_3_4
  obtain rfl : _ = ([Value.int .i64 a0_8] : List Value) := rrrrrhK0_0_1_2_3_4_5
  obtain ⟨brrrrrrhK0_0_1_2_3_4_5_6, drrrrrrhK0_0_1_2_3_4_5_6, errrrrrhK0_0_1_2_3_4_5_6, rrrrrrhK0_0_1_2_3_4_5_6, rrrrrrrhK0_0_1_2_3_4_5_6⟩ := rrrrrrhK0_0_1_2_3_4_5
  obtain rfl : _ = ([Value.int .i64 a0_9] : List Value) := rrrrrrhK0_0_1_2_3_4_5_6
  obtain ⟨brrrrrrrhK0_0_1_2_3_4_5_6_7, drrrrrrrhK0_0_1_2_3_4_5_6_7, errrrrrrhK0_0_1_2_3_4_5_6_7, rrrrrrrhK0_0_1_2_3_4_5_6_7, rrrrrrrrhK0_0_1_2_3_4_5_6_7⟩ := rrrrrrrhK0_0_1_2_3_4_5_6
  obtain rfl : _ = ([Value.int .i64 a0_10] : List Value) := rrrrrrrhK0_0_1_2_3_4_5_6_7
  obtain ⟨brrrrrrrrhK0_0_1_2_3_4_5_6_7_8, drrrrrrrrhK0_0_1_2_3_4_5_6_7_8, errrrrrrrhK0_0_1_2_3_4_5_6_7_8, rrrrrrrrhK0_0_1_2_3_4_5_6_7_8, rrrrrrrrrhK0_0_1_2_3_4_5_6_7_8⟩ := rrrrrrrrhK0_0_1_2_3_4_5_6_7
  obtain rfl : _ = ([Value.int .i64 a0_11] : List Value) := rrrrrrrrhK0_0_1_2_3_4_5_6_7_8
  obtain ⟨brrrrrrrrrhK0_0_1_2_3_4_5_6_7_8_9, drrrrrrrrrhK0_0_1_2_3_4_5_6_7_8_9, errrrrrrrrhK0_0_1_2_3_4_5_6_7_8_9, rrrrrrrrrhK0_0_1_2_3_4_5_6_7_8_9, rrrrrrrrrrhK0_0_1_2_3_4_5_6_7_8_9⟩ := rrrrrrrrrhK0_0_1_2_3_4_5_6_7_8
  obtain rfl : _ = ([Value.int .i64 a0_12] : List Value) := rrrrrrrrrhK0_0_1_2_3_4_5_6_7_8_9
  obtain ⟨brrrrrrrrrrhK0_0_1_2_3_4_5_6_7_8_9_10, drrrrrrrrrrhK0_0_1_2_3_4_5_6_7_8_9_10, errrrrrrrrrhK0_0_1_2_3_4_5_6_7_8_9_10, rrrrrrrrrrhK0_0_1_2_3_4_5_6_7_8_9_10, rrrrrrrrrrrhK0_0_1_2_3_4_5_6_7_8_9_10⟩ := rrrrrrrrrrhK0_0_1_2_3_4_5_6_7_8_9
  obtain rfl : _ = ([Value.int .i64 a0_13] : List Value) := rrrrrrrrrrhK0_0_1_2_3_4_5_6_7_8_9_10
  obtain ⟨brrrrrrrrrrrhK0_0_1_2_3_4_5_6_7_8_9_10_11, drrrrrrrrrrrhK0_0_1_2_3_4_5_6_7_8_9_10_11, errrrrrrrrrrhK0_0_1_2_3_4_5_6_7_8_9_10_11, rrrrrrrrrrrhK0_0_1_2_3_4_5_6_7_8_9_10_11, rrrrrrrrrrrrhK0_0_1_2_3_4_5_6_7_8_9_10_11⟩ := rrrrrrrrrrrhK0_0_1_2_3_4_5_6_7_8_9_10
  obtain rfl : _ = ([Value.int .i64 a0_14] : List Value) := rrrrrrrrrrrhK0_0_1_2_3_4_5_6_7_8_9_10_11
  obtain ⟨brrrrrrrrrrrrhK0_0_1_2_3_4_5_6_7_8_9_10_11_12, drrrrrrrrrrrrhK0_0_1_2_3_4_5_6_7_8_9_10_11_12, errrrrrrrrrrrhK0_0_1_2_3_4_5_6_7_8_9_10_11_12, rrrrrrrrrrrrhK0_0_1_2_3_4_5_6_7_8_9_10_11_12, rrrrrrrrrrrrrhK0_0_1_2_3_4_5_6_7_8_9_10_11_12⟩ := rrrrrrrrrrrrhK0_0_1_2_3_4_5_6_7_8_9_10_11
  obtain rfl : _ = ([Value.bool a0_15] : List Value) := rrrrrrrrrrrrhK0_0_1_2_3_4_5_6_7_8_9_10_11_12
  obtain ⟨brrrrrrrrrrrrrhK0_0_1_2_3_4_5_6_7_8_9_10_11_12_13, drrrrrrrrrrrrrhK0_0_1_2_3_4_5_6_7_8_9_10_11_12_13, errrrrrrrrrrrrhK0_0_1_2_3_4_5_6_7_8_9_10_11_12_13, rrrrrrrrrrrrrhK0_0_1_2_3_4_5_6_7_8_9_10_11_12_13, rrrrrrrrrrrrrrhK0_0_1_2_3_4_5_6_7_8_9_10_11_12_13⟩ := rrrrrrrrrrrrrhK0_0_1_2_3_4_5_6_7_8_9_10_11_12
  obtain rfl : _ = ([Value.int .i64 a0_16] : List Value) := rrrrrrrrrrrrrhK0_0_1_2_3_4_5_6_7_8_9_10_11_12_13
  obtain ⟨brrrrrrrrrrrrrrhK0_0_1_2_3_4_5_6_7_8_9_10_11_12_13_14, drrrrrrrrrrrrrrhK0_0_1_2_3_4_5_6_7_8_9_10_11_12_13_14, errrrrrrrrrrrrrhK0_0_1_2_3_4_5_6_7_8_9_10_11_12_13_14, rrrrrrrrrrrrrrhK0_0_1_2_3_4_5_6_7_8_9_10_11_12_13_14, rrrrrrrrrrrrrrrhK0_0_1_2_3_4_5_6_7_8_9_10_11_12_13_14⟩ := rrrrrrrrrrrrrrhK0_0_1_2_3_4_5_6_7_8_9_10_11_12_13
  obtain rfl : _ = ([Value.int .u64 a0_17] : List Value) := rrrrrrrrrrrrrrhK0_0_1_2_3_4_5_6_7_8_9_10_11_12_13_14
  obtain ⟨brrrrrrrrrrrrrrrhK0_0_1_2_3_4_5_6_7_8_9_10_11_12_13_14_15, drrrrrrrrrrrrrrrhK0_0_1_2_3_4_5_6_7_8_9_10_11_12_13_14_15, errrrrrrrrrrrrrrhK0_0_1_2_3_4_5_6_7_8_9_10_11_12_13_14_15, rrrrrrrrrrrrrrrhK0_0_1_2_3_4_5_6_7_8_9_10_11_12_13_14_15, rrrrrrrrrrrrrrrrhK0_0_1_2_3_4_5_6_7_8_9_10_11_12_13_14_15⟩ := rrrrrrrrrrrrrrrhK0_0_1_2_3_4_5_6_7_8_9_10_11_12_13_14
  obtain rfl : _ = ([Value.int .u64 a0_18] : List Value) := rrrrrrrrrrrrrrrhK0_0_1_2_3_4_5_6_7_8_9_10_11_12_13_14_15
  obtain ⟨brrrrrrrrrrrrrrrrhK0_0_1_2_3_4_5_6_7_8_9_10_11_12_13_14_15_16, drrrrrrrrrrrrrrrrhK0_0_1_2_3_4_5_6_7_8_9_10_11_12_13_14_15_16, errrrrrrrrrrrrrrrhK0_0_1_2_3_4_5_6_7_8_9_10_11_12_13_14_15_16, rrrrrrrrrrrrrrrrhK0_0_1_2_3_4_5_6_7_8_9_10_11_12_13_14_15_16, rrrrrrrrrrrrrrrrrhK0_0_1_2_3_4_5_6_7_8_9_10_11_12_13_14_15_16⟩ := rrrrrrrrrrrrrrrrhK0_0_1_2_3_4_5_6_7_8_9_10_11_12_13_14_15
  obtain rfl : _ = ([Value.int .u64 a0_19] : List Value) := rrrrrrrrrrrrrrrrhK0_0_1_2_3_4_5_6_7_8_9_10_11_12_13_14_15_16
  obtain ⟨brrrrrrrrrrrrrrrrrhK0_0_1_2_3_4_5_6_7_8_9_10_11_12_13_14_15_16_17, drrrrrrrrrrrrrrrrrhK0_0_1_2_3_4_5_6_7_8_9_10_11_12_13_14_15_16_17, errrrrrrrrrrrrrrrrhK0_0_1_2_3_4_5_6_7_8_9_10_11_12_13_14_15_16_17, rrrrrrrrrrrrrrrrrhK0_0_1_2_3_4_5_6_7_8_9_10_11_12_13_14_15_16_17, rrrrrrrrrrrrrrrrrrhK0_0_1_2_3_4_5_6_7_8_9_10_11_12_13_14_15_16_17⟩ := rrrrrrrrrrrrrrrrrhK0_0_1_2_3_4_5_6_7_8_9_10_11_12_13_14_15_16
  obtain rfl : _ = ([Value.int .u64 a0_20] : List Value) := rrrrrrrrrrrrrrrrrhK0_0_1_2_3_4_5_6_7_8_9_10_11_12_13_14_15_16_17
  obtain ⟨brrrrrrrrrrrrrrrrrrhK0_0_1_2_3_4_5_6_7_8_9_10_11_12_13_14_15_16_17_18, drrrrrrrrrrrrrrrrrrhK0_0_1_2_3_4_5_6_7_8_9_10_11_12_13_14_15_16_17_18, errrrrrrrrrrrrrrrrrhK0_0_1_2_3_4_5_6_7_8_9_10_11_12_13_14_15_16_17_18, rrrrrrrrrrrrrrrrrrhK0_0_1_2_3_4_5_6_7_8_9_10_11_12_13_14_15_16_17_18, rrrrrrrrrrrrrrrrrrrhK0_0_1_2_3_4_5_6_7_8_9_10_11_12_13_14_15_16_17_18⟩ := rrrrrrrrrrrrrrrrrrhK0_0_1_2_3_4_5_6_7_8_9_10_11_12_13_14_15_16_17
  obtain ⟨A0_21, c0_21, rfl, hc0_21, hr0_21⟩ := rrrrrrrrrrrrrrrrrrhK0_0_1_2_3_4_5_6_7_8_9_10_11_12_13_14_15_16_17_18
  obtain ⟨brrrrrrrrrrrrrrrrrrrhK0_0_1_2_3_4_5_6_7_8_9_10_11_12_13_14_15_16_17_18_19, drrrrrrrrrrrrrrrrrrrhK0_0_1_2_3_4_5_6_7_8_9_10_11_12_13_14_15_16_17_18_19, errrrrrrrrrrrrrrrrrrhK0_0_1_2_3_4_5_6_7_8_9_10_11_12_13_14_15_16_17_18_19, rrrrrrrrrrrrrrrrrrrhK0_0_1_2_3_4_5_6_7_8_9_10_11_12_13_14_15_16_17_18_19, rrrrrrrrrrrrrrrrrrrrhK0_0_1_2_3_4_5_6_7_8_9_10_11_12_13_14_15_16_17_18_19⟩ := rrrrrrrrrrrrrrrrrrrhK0_0_1_2_3_4_5_6_7_8_9_10_11_12_13_14_15_16_17_18
  obtain ⟨A0_22, c0_22, rfl, hc0_22, hr0_22⟩ := rrrrrrrrrrrrrrrrrrrhK0_0_1_2_3_4_5_6_7_8_9_10_11_12_13_14_15_16_17_18_19
  obtain ⟨brrrrrrrrrrrrrrrrrrrrhK0_0_1_2_3_4_5_6_7_8_9_10_11_12_13_14_15_16_17_18_19_20, drrrrrrrrrrrrrrrrrrrrhK0_0_1_2_3_4_5_6_7_8_9_10_11_12_13_14_15_16_17_18_19_20, errrrrrrrrrrrrrrrrrrrhK0_0_1_2_3_4_5_6_7_8_9_10_11_12_13_14_15_16_17_18_19_20, rrrrrrrrrrrrrrrrrrrrhK0_0_1_2_3_4_5_6_7_8_9_10_11_12_13_14_15_16_17_18_19_20, rrrrrrrrrrrrrrrrrrrrrhK0_0_1_2_3_4_5_6_7_8_9_10_11_12_13_14_15_16_17_18_19_20⟩ := rrrrrrrrrrrrrrrrrrrrhK0_0_1_2_3_4_5_6_7_8_9_10_11_12_13_14_15_16_17_18_19
  obtain rfl : _ = ([Value.int .i64 a0_23] : List Value) := rrrrrrrrrrrrrrrrrrrrhK0_0_1_2_3_4_5_6_7_8_9_10_11_12_13_14_15_16_17_18_19_20
  obtain ⟨brrrrrrrrrrrrrrrrrrrrrhK0_0_1_2_3_4_5_6_7_8_9_10_11_12_13_14_15_16_17_18_19_20_21, drrrrrrrrrrrrrrrrrrrrrhK0_0_1_2_3_4_5_6_7_8_9_10_11_12_13_14_15_16_17_18_19_20_21, errrrrrrrrrrrrrrrrrrrrhK0_0_1_2_3_4_5_6_7_8_9_10_11_12_13_14_15_16_17_18_19_20_21, rrrrrrrrrrrrrrrrrrrrrhK0_0_1_2_3_4_5_6_7_8_9_10_11_12_13_14_15_16_17_18_19_20_21, rrrrrrrrrrrrrrrrrrrrrrhK0_0_1_2_3_4_5_6_7_8_9_10_11_12_13_14_15_16_17_18_19_20_21⟩ := rrrrrrrrrrrrrrrrrrrrrhK0_0_1_2_3_4_5_6_7_8_9_10_11_12_13_14_15_16_17_18_19_20
  obtain rfl : _ = ([Value.int .i64 a0_24] : List Value) := rrrrrrrrrrrrrrrrrrrrrhK0_0_1_2_3_4_5_6_7_8_9_10_11_12_13_14_15_16_17_18_19_20_21
  obtain rfl : _ = ([Value.int .i64 a0_25] : List Value) := rrrrrrrrrrrrrrrrrrrrrrhK0_0_1_2_3_4_5_6_7_8_9_10_11_12_13_14_15_16_17_18_19_20_21
  subst erhK0_0_1 errhK0_0_1_2 errrhK0_0_1_2_3 errrrhK0_0_1_2_3_4 errrrhK0_0_1_2_3_4_0 errrrrhK0_0_1_2_3_4_0_1 errrrrrhK0_0_1_2_3_4_0_1_2 errrrrhK0_0_1_2_3_4_5 errrrrrhK0_0_1_2_3_4_5_6 errrrrrrhK0_0_1_2_3_4_5_6_7 errrrrrrrhK0_0_1_2_3_4_5_6_7_8 errrrrrrrrhK0_0_1_2_3_4_5_6_7_8_9 errrrrrrrrrhK0_0_1_2_3_4_5_6_7_8_9_10 errrrrrrrrrrhK0_0_1_2_3_4_5_6_7_8_9_10_11 errrrrrrrrrrrhK0_0_1_2_3_4_5_6_7_8_9_10_11_12 errrrrrrrrrrrrhK0_0_1_2_3_4_5_6_7_8_9_10_11_12_13 errrrrrrrrrrrrrhK0_0_1_2_3_4_5_6_7_8_9_10_11_12_13_14 errrrrrrrrrrrrrrhK0_0_1_2_3_4_5_6_7_8_9_10_11_12_13_14_15 errrrrrrrrrrrrrrrhK0_0_1_2_3_4_5_6_7_8_9_10_11_12_13_14_15_16 errrrrrrrrrrrrrrrrhK0_0_1_2_3_4_5_6_7_8_9_10_11_12_13_14_15_16_17 errrrrrrrrrrrrrrrrrhK0_0_1_2_3_4_5_6_7_8_9_10_11_12_13_14_15_16_17_18 errrrrrrrrrrrrrrrrrrhK0_0_1_2_3_4_5_6_7_8_9_10_11_12_13_14_15_16_17_18_19 errrrrrrrrrrrrrrrrrrrhK0_0_1_2_3_4_5_6_7_8_9_10_11_12_13_14_15_16_17_18_19_20 errrrrrrrrrrrrrrrrrrrrhK0_0_1_2_3_4_5_6_7_8_9_10_11_12_13_14_15_16_17_18_19_20_21
  obtain rfl : cs0 = #[.bool a0_0, .int .i64 a0_1, .int .i64 a0_2, .bool a0_3, .int .i64 a0_4, .int .i64 a0_5, .int .i64 a0_6, .int .i64 a0_7, .int .i64 a0_8, .int .i64 a0_9, .int .i64 a0_10, .int .i64 a0_11, .int .i64 a0_12, .int .i64 a0_13, .int .i64 a0_14, .bool a0_15, .int .i64 a0_16, .int .u64 a0_17, .int .u64 a0_18, .int .u64 a0_19, .int .u64 a0_20, .slice A0_21 l0_21.length c0_21, .slice A0_22 l0_22.length c0_22, .int .i64 a0_23, .int .i64 a0_24, .int .i64 a0_25] := by have := congrArg List.toArray ehK0_0; simpa [Value.cells] using this
  obtain ⟨w0_0, w0_1, w0_2, w0_3, ⟨w0_4, w0_5, w0_6, w0_7⟩, w0_8, w0_9, w0_10, w0_11, w0_12, w0_13, w0_14, w0_15, w0_16, w0_17, w0_18, w0_19, w0_20, w0_21, w0_22, w0_23, w0_24, w0_25⟩ := ok0
  have k1 := h1
  have lt1 : ∀ x ∈ p1, x.block < W.heap.size := by obtain ⟨m, hm⟩ := k1; exact DataW.trod_lt m _ _ _ hm
  obtain ⟨cs1, rfl, hsz1⟩ := okWide_struct Try.underlying66 (hval 1 66 v1 rfl rfl)
  obtain ⟨m1, hm1⟩ := h1
  obtain ⟨x1, hK1, ok1⟩ := o66.op enc W 0 (fun _ => true) true m1 _ _ hm1
  obtain ⟨a1_0, a1_1, a1_2, a1_3⟩ := x1
  obtain ⟨bhK1_0, dhK1_0, ehK1_0, hK1_0, rhK1_0⟩ := hK1
  obtain rfl : _ = ([Value.int .i64 a1_0] : List Value) := hK1_0
  obtain ⟨brhK1_0_1, drhK1_0_1, erhK1_0_1, rhK1_0_1, rrhK1_0_1⟩ := rhK1_0
  obtain rfl : _ = ([Value.int .i64 a1_1] : List Value) := rhK1_0_1
  obtain ⟨brrhK1_0_1_2, drrhK1_0_1_2, errhK1_0_1_2, rrhK1_0_1_2, rrrhK1_0_1_2⟩ := rrhK1_0_1
  obtain rfl : _ = ([Value.int .i64 a1_2] : List Value) := rrhK1_0_1_2
  obtain rfl : _ = ([Value.int .i64 a1_3] : List Value) := rrrhK1_0_1_2
  subst erhK1_0_1 errhK1_0_1_2
  obtain rfl : cs1 = #[.int .i64 a1_0, .int .i64 a1_1, .int .i64 a1_2, .int .i64 a1_3] := by have := congrArg List.toArray ehK1_0; simpa [Value.cells] using this
  obtain ⟨w1_0, w1_1, w1_2, w1_3⟩ := ok1
  have h := Pure.FnExactGuestAsk a0_0 a0_1 a0_2 a0_3 a0_4 a0_5 a0_6 a0_7 a0_8 a0_9 a0_10 a0_11 a0_12 a0_13 a0_14 a0_15 a0_16 a0_17 a0_18 a0_19 a0_20 l0_21 l0_22 a0_23 a0_24 a0_25 a1_0 a1_1 a1_2 a1_3 w0_1 w0_2 w0_4 w0_5 w0_6 w0_7 w0_8 w0_9 w0_10 w0_11 w0_12 w0_13 w0_14 w0_16 w0_17 w0_18 w0_19 w0_20 w0_21 w0_22 w0_23 w0_24 w0_25 w1_0 w1_1 w1_2 w1_3
  refine (laws_FnExactGuestAsk.calls a0_0 a0_1 a0_2 a0_3 a0_4 a0_5 a0_6 a0_7 a0_8 a0_9 a0_10 a0_11 a0_12 a0_13 a0_14 a0_15 a0_16 a0_17 a0_18 a0_19 a0_20 A0_21 c0_21 l0_21 A0_22 c0_22 l0_22 a0_23 a0_24 a0_25 a1_0 a1_1 a1_2 a1_3 true W hr0_21 hc0_21 hr0_22 hc0_22 h).mono ?_
  rintro e W' ⟨rfl, bel0⟩
  have bel : Below W.heap.size W W' := by first | exact bel0 | exact bel0.below
  exact ⟨_, rfl, _, _, _, [], _, [], hW', trodAll_mk1 (shut_bool Try.underlying4 _), (trodAll_cons_mk (Below.trod laidOut (by kernel_rfl) (of_decide_eq_true (by kernel_rfl)) k0 bel lt0) (trodAll_cons_mk (Below.trod laidOut (by kernel_rfl) (of_decide_eq_true (by kernel_rfl)) k1 bel lt1) trodAll_mk0)), rfl, bel.frame _, fun h => by cases h⟩
theorem over : Rows.fnExactGuestAskRow.holds Try.pinned (OpenSpec.ofChange Rows.fnExactGuestAskSpec) :=
  OpenClaim.holds_of_wide 14 Try.f14 rfl rfl rfl rfl rfl rfl rfl ⟨rfl, rfl, rfl, rfl, rfl⟩ rfl rfl rfl rfl rfl (by kernel_rfl) Try.func14 (by kernel_rfl)
    (of_decide_eq_true (by kernel_rfl)) (by unfold Func.isWrapper; first | (rw [if_pos (by decide +kernel)]; kernel_rfl) | (rw [if_neg (by decide +kernel)]; exact ⟨rfl, rfl⟩))
    (fun os started H enc _ => lifted os started H enc)
theorem proved : Rows.FnExactGuestAskSaid := over
end Go.Proofs.Ytbcpkbbdmkmpkaa.fnExactGuestAsk
namespace Go.Proofs.Ytbcpkbbdmkmpkaa
/-- The row, under a short name, for the claim. -/
theorem fnExactGuestAsk_holds : Rows.FnExactGuestAskSaid := fnExactGuestAsk.proved
end Go.Proofs.Ytbcpkbbdmkmpkaa

/- The row of the law FnExactTaleOf, out of its plain law and the walk of its text: for all arguments the call answers true and leaves them as they were. -/
import Derived.Test.YtbcpkbbdmkmpkaaRows
import Derived.Test.YtbcpkbbdmkmpkaaPFnExactTaleOfx3
import Derived.Test.YtbcpkbbdmkmpkaaPureFnExactTaleOf
import Derived.Test.YtbcpkbbdmkmpkaaOpen
import Derived.WalkKit
import Derived.ProofKit
import Derived.OpenShut
import Derived.ShutString
import Derived.ChangeOld
import Derived.Below
import Derived.SizedLaws
import Derived.WideShapes
import Derived.Carry
import Derived.Test.YtbcpkbbdmkmpkaaWSized
set_option linter.unusedVariables false
set_option linter.unusedSimpArgs false
namespace Go.Proofs.Ytbcpkbbdmkmpkaa.fnExactTaleOf
open Go.ChangeShapes Go.WideShapes Go.ChangeAt Go.RowKit Go.Proofs.Ytbcpkbbdmkmpkaa.Open Go.Proofs.YtbcpkbbdmkmpkaaW.PrintWords Go.Proofs.Ytbcpkbbdmkmpkaa.PFnExactTaleOf
theorem own : ownKnob Try.prog.godebug = none := by kernel_rfl
theorem laidOut : laidOutB Try.prog = true := by kernel_rfl
theorem o4 : Opens Try.prog 4 Kd.bool (fun x => True) := Opens.bool Try.underlying4
theorem o3 : Opens Try.prog 3 (Kd.int .i64) (fun x => (Lit.int .i64 x).wf = true) := Opens.int Try.underlying3
theorem o66 : Opens Try.prog 66 k66 (fun x => ((Lit.int .i64 x.f0).wf = true ∧ (Lit.int .i64 x.f1).wf = true ∧ (Lit.int .i64 x.f2).wf = true ∧ (Lit.int .i64 x.f3).wf = true)) := Opens.iso (fun x : S66 => (x.f0, x.f1, x.f2, x.f3)) (fun y => (⟨y.1, y.2.1, y.2.2.1, y.2.2.2⟩ : S66)) (fun _ => rfl) (Opens.struct Try.underlying66 (by kernel_rfl) (OpensF.cons (by kernel_rfl) rfl o3 (OpensF.cons (by kernel_rfl) rfl o3 (OpensF.cons (by kernel_rfl) rfl o3 (OpensF.one (by kernel_rfl) o3)))))
theorem o88 : Opens Try.prog 88 k88 (fun x => (True ∧ (Lit.int .i64 x.f1).wf = true ∧ ((Lit.int .i64 x.f2.f0).wf = true ∧ (Lit.int .i64 x.f2.f1).wf = true ∧ (Lit.int .i64 x.f2.f2).wf = true ∧ (Lit.int .i64 x.f2.f3).wf = true) ∧ (Lit.int .i64 x.f3).wf = true ∧ (Lit.int .i64 x.f4).wf = true)) := Opens.iso (fun x : S88 => (x.f0, x.f1, x.f2, x.f3, x.f4)) (fun y => (⟨y.1, y.2.1, y.2.2.1, y.2.2.2.1, y.2.2.2.2⟩ : S88)) (fun _ => rfl) (Opens.struct Try.underlying88 (by kernel_rfl) (OpensF.cons (by kernel_rfl) rfl o4 (OpensF.cons (by kernel_rfl) rfl o3 (OpensF.cons (by kernel_rfl) rfl o66 (OpensF.cons (by kernel_rfl) rfl o3 (OpensF.one (by kernel_rfl) o3))))))
theorem o47 : Opens Try.prog 47 (Kd.slice 88 k88) (fun x => (x.length ≤ 9223372036854775807 ∧ ∀ y0 ∈ x, (True ∧ (Lit.int .i64 y0.f1).wf = true ∧ ((Lit.int .i64 y0.f2.f0).wf = true ∧ (Lit.int .i64 y0.f2.f1).wf = true ∧ (Lit.int .i64 y0.f2.f2).wf = true ∧ (Lit.int .i64 y0.f2.f3).wf = true) ∧ (Lit.int .i64 y0.f3).wf = true ∧ (Lit.int .i64 y0.f4).wf = true))) := Opens.slice Try.underlying47 (by kernel_rfl) o88
set_option maxRecDepth 100000 in
theorem lifted (os : Os) (started : os.Started) (H : Type) (enc : TypeId × Value → H) :
    ReturnsInHanded {} Try.checked os 11 .any (Rows.fnExactTaleOfSpec.pre6 enc Try.prog Try.f11 Rows.fnExactTaleOfRow.domain false) (Rows.fnExactTaleOfSpec.post enc Try.prog Try.f11 false true false false) := by
  refine returnsInHanded_of_change_sized (C := Try.checked) own started (by kernel_rfl) Try.func11
    (ChangeSpec.witness6 (enc := enc) (C := Try.checked) false ⟨#[], #[.slice none 0 0, .int .i64 0], []⟩ 8 (by kernel_rfl) (by kernel_rfl) (by kernel_rfl) (by kernel_rfl)) ?_
  intro W base args ds gs before hval0 hW hcnd hsz0 _
  have hval : ∀ (j : Nat) t v, Try.f11.params[j]? = some t → args[j]? = some v → Value.okWide Try.prog W .any base t v := hval0
  have hW' := hW
  obtain ⟨p, q, hA0, hV, rfl, hfz, hnd⟩ := hW
  have hA : DataW.TrodAll enc Try.prog W 0 (fun _ => true) true Try.f11.params.toList args.toList ds p := hA0
  rw [Try.params11] at hA hval
  obtain ⟨v0, vs0, d0, ds0, p0, q0, hargs, rfl, rfl, h0, r0⟩ := trodAll_cons hA
  obtain ⟨v1, vs1, d1, ds1, p1, q1, rfl, rfl, rfl, h1, r1⟩ := trodAll_cons r0
  obtain ⟨rfl, rfl, rfl⟩ := trodAll_nil r1
  obtain rfl : args = #[v0, v1] := by cases args; simp_all
  obtain ⟨rfl, rfl⟩ := trodVars_none hV
  clear hA0 hval0 hsz0
  have k0 := h0
  have lt0 : ∀ x ∈ p0, x.block < W.heap.size := by obtain ⟨m, hm⟩ := k0; exact DataW.trod_lt m _ _ _ hm
  obtain ⟨A0, len0, c0, rfl⟩ := okWide_slice Try.underlying47 (hval 0 47 v0 rfl rfl)
  obtain ⟨m0, hm0⟩ := h0
  obtain ⟨l0, hK0, w0⟩ := o47.op enc W 0 (fun _ => true) true m0 _ _ hm0
  obtain ⟨b0, cap0, e0, hc0, hr0⟩ := hK0
  simp only [Value.cells, List.cons.injEq, Value.slice.injEq, and_true] at e0
  obtain ⟨rfl, rfl, rfl⟩ := e0
  have k1 := h1
  have lt1 : ∀ x ∈ p1, x.block < W.heap.size := by obtain ⟨m, hm⟩ := k1; exact DataW.trod_lt m _ _ _ hm
  obtain ⟨a1, rfl, rfl, rfl, w1⟩ := open_int Try.underlying3 (hval 1 3 v1 rfl rfl) h1
  obtain ⟨k, h⟩ := Pure.FnExactTaleOf l0 a1 w0 w1
  refine (laws_FnExactTaleOf.calls k A0 c0 l0 a1 true W hr0 hc0 h).mono ?_
  rintro e W' ⟨rfl, bel0⟩
  have bel : Below W.heap.size W W' := by first | exact bel0 | exact bel0.below
  exact ⟨_, rfl, _, _, _, [], _, [], hW', trodAll_mk1 (shut_bool Try.underlying4 _), (trodAll_cons_mk (Below.trod laidOut (by kernel_rfl) (of_decide_eq_true (by kernel_rfl)) k0 bel lt0) (trodAll_cons_mk (Below.trod laidOut (by kernel_rfl) (of_decide_eq_true (by kernel_rfl)) k1 bel lt1) trodAll_mk0)), rfl, bel.frame _, fun h => by cases h⟩
theorem over : Rows.fnExactTaleOfRow.holds Try.pinned (OpenSpec.ofChange Rows.fnExactTaleOfSpec) :=
  OpenClaim.holds_of_wide 11 Try.f11 rfl rfl rfl rfl rfl rfl rfl ⟨rfl, rfl, rfl, rfl, rfl⟩ rfl rfl rfl rfl rfl (by kernel_rfl) Try.func11 (by kernel_rfl)
    (of_decide_eq_true (by kernel_rfl)) (by unfold Func.isWrapper; first | (rw [if_pos (by decide +kernel)]; kernel_rfl) | (rw [if_neg (by decide +kernel)]; exact ⟨rfl, rfl⟩))
    (fun os started H enc _ => lifted os started H enc)
theorem proved : Rows.FnExactTaleOfSaid := over
end Go.Proofs.Ytbcpkbbdmkmpkaa.fnExactTaleOf
namespace Go.Proofs.Ytbcpkbbdmkmpkaa
/-- The row, under a short name, for the claim. -/
theorem fnExactTaleOf_holds : Rows.FnExactTaleOfSaid := fnExactTaleOf.proved
end Go.Proofs.Ytbcpkbbdmkmpkaa

/- The row of the law FnExactBookOpen, out of its plain law and the walk of its text: for all arguments the call answers true and leaves them as they were. -/
import Derived.Test.YtekneicikmaplaaRows
import Derived.Test.YtekneicikmaplaaPFnExactBookOpenx5
import Derived.Test.YtekneicikmaplaaPureFnExactBookOpen
import Derived.Test.YtekneicikmaplaaOpen
import Derived.WalkKit
import Derived.ProofKit
import Derived.OpenShut
import Derived.ShutString
import Derived.ChangeOld
import Derived.Below
import Derived.SizedLaws
import Derived.WideShapes
import Derived.Carry
import Derived.Test.YtekneicikmaplaaWSized
set_option linter.unusedVariables false
set_option linter.unusedSimpArgs false
namespace Go.Proofs.Ytekneicikmaplaa.fnExactBookOpen
open Go.ChangeShapes Go.WideShapes Go.ChangeAt Go.RowKit Go.Proofs.Ytekneicikmaplaa.Open Go.Proofs.YtekneicikmaplaaW.PrintWords Go.Proofs.Ytekneicikmaplaa.PFnExactBookOpen
theorem own : ownKnob Try.prog.godebug = none := by kernel_rfl
theorem laidOut : laidOutB Try.prog = true := by kernel_rfl
theorem o3 : Opens Try.prog 3 (Kd.int .i64) (fun x => (Lit.int .i64 x).wf = true) := Opens.int Try.underlying3
theorem o23 : Opens Try.prog 23 (Kd.pair (Kd.int .i64) (Kd.pair (Kd.int .i64) (Kd.int .i64))) (fun x => ((Lit.int .i64 x.1).wf = true ∧ (Lit.int .i64 x.2.1).wf = true ∧ (Lit.int .i64 x.2.2).wf = true)) := (Opens.struct Try.underlying23 (by kernel_rfl) (OpensF.cons (by kernel_rfl) rfl o3 (OpensF.cons (by kernel_rfl) rfl o3 (OpensF.one (by kernel_rfl) o3))))
set_option maxRecDepth 100000 in
theorem lifted (os : Os) (started : os.Started) (H : Type) (enc : TypeId × Value → H) :
    ReturnsInHanded {} Try.checked os 3 .any (Rows.fnExactBookOpenSpec.pre6 enc Try.prog Try.f3 Rows.fnExactBookOpenRow.domain false) (Rows.fnExactBookOpenSpec.post enc Try.prog Try.f3 false true false false) := by
  refine returnsInHanded_of_change_sized (C := Try.checked) own started (by kernel_rfl) Try.func3
    (ChangeSpec.witness6 (enc := enc) (C := Try.checked) false ⟨#[], #[.agg #[.int .i64 0, .int .i64 0, .int .i64 0]], []⟩ 8 (by kernel_rfl) (by kernel_rfl) (by kernel_rfl) (by kernel_rfl)) ?_
  intro W base args ds gs before hval0 hW hcnd hsz0 _
  have hval : ∀ (j : Nat) t v, Try.f3.params[j]? = some t → args[j]? = some v → Value.okWide Try.prog W .any base t v := hval0
  have hW' := hW
  obtain ⟨p, q, hA0, hV, rfl, hfz, hnd⟩ := hW
  have hA : DataW.TrodAll enc Try.prog W 0 (fun _ => true) true Try.f3.params.toList args.toList ds p := hA0
  rw [Try.params3] at hA hval
  obtain ⟨v0, vs0, d0, ds0, p0, q0, hargs, rfl, rfl, h0, r0⟩ := trodAll_cons hA
  obtain ⟨rfl, rfl, rfl⟩ := trodAll_nil r0
  obtain rfl : args = #[v0] := by cases args; simp_all
  obtain ⟨rfl, rfl⟩ := trodVars_none hV
  clear hA0 hval0 hsz0
  have k0 := h0
  have lt0 : ∀ x ∈ p0, x.block < W.heap.size := by obtain ⟨m, hm⟩ := k0; exact DataW.trod_lt m _ _ _ hm
  obtain ⟨cs0, rfl, hsz0⟩ := okWide_struct Try.underlying23 (hval 0 23 v0 rfl rfl)
  obtain ⟨m0, hm0⟩ := h0
  obtain ⟨x0, hK0, ok0⟩ := o23.op enc W 0 (fun _ => true) true m0 _ _ hm0
  obtain ⟨a0_0, a0_1, a0_2⟩ := x0
  obtain ⟨bhK0_0, dhK0_0, ehK0_0, hK0_0, rhK0_0⟩ := hK0
  obtain rfl : _ = ([Value.int .i64 a0_0] : List Value) := hK0_0
  obtain ⟨brhK0_0_1, drhK0_0_1, erhK0_0_1, rhK0_0_1, rrhK0_0_1⟩ := rhK0_0
  obtain rfl : _ = ([Value.int .i64 a0_1] : List Value) := rhK0_0_1
  obtain rfl : _ = ([Value.int .i64 a0_2] : List Value) := rrhK0_0_1
  subst erhK0_0_1
  obtain rfl : cs0 = #[.int .i64 a0_0, .int .i64 a0_1, .int .i64 a0_2] := by have := congrArg List.toArray ehK0_0; simpa [Value.cells] using this
  obtain ⟨w0_0, w0_1, w0_2⟩ := ok0
  have h := Pure.FnExactBookOpen a0_0 a0_1 a0_2 w0_0 w0_1 w0_2
  refine (laws_FnExactBookOpen.calls a0_0 a0_1 a0_2 true W h).mono ?_
  rintro e W' ⟨rfl, bel0⟩
  have bel : Below W.heap.size W W' := by first | exact bel0 | exact bel0.below
  exact ⟨_, rfl, _, _, _, [], _, [], hW', trodAll_mk1 (shut_bool Try.underlying4 _), (trodAll_cons_mk (Below.trod laidOut (by kernel_rfl) (of_decide_eq_true (by kernel_rfl)) k0 bel lt0) trodAll_mk0), rfl, bel.frame _, fun h => by cases h⟩
theorem over : Rows.fnExactBookOpenRow.holds Try.pinned (OpenSpec.ofChange Rows.fnExactBookOpenSpec) :=
  OpenClaim.holds_of_wide 3 Try.f3 rfl rfl rfl rfl rfl rfl rfl ⟨rfl, rfl, rfl, rfl, rfl⟩ rfl rfl rfl rfl rfl (by kernel_rfl) Try.func3 (by kernel_rfl)
    (of_decide_eq_true (by kernel_rfl)) (by unfold Func.isWrapper; first | (rw [if_pos (by decide +kernel)]; kernel_rfl) | (rw [if_neg (by decide +kernel)]; exact ⟨rfl, rfl⟩))
    (fun os started H enc _ => lifted os started H enc)
theorem proved : Rows.FnExactBookOpenSaid := over
end Go.Proofs.Ytekneicikmaplaa.fnExactBookOpen
namespace Go.Proofs.Ytekneicikmaplaa
/-- The row, under a short name, for the claim. -/
theorem fnExactBookOpen_holds : Rows.FnExactBookOpenSaid := fnExactBookOpen.proved
end Go.Proofs.Ytekneicikmaplaa

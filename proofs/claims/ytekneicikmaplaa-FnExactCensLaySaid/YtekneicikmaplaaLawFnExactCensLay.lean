/- The row of the law FnExactCensLay, out of its plain law and the walk of its text: for all arguments the call answers true and leaves them as they were. -/
import Derived.Test.YtekneicikmaplaaRows
import Derived.Test.YtekneicikmaplaaPFnExactCensLayx0
import Derived.Test.YtekneicikmaplaaPureFnExactCensLay
import Derived.Test.YtekneicikmaplaaOpen
import Derived.WalkKit
import Derived.ProofKit
import Derived.OpenShut
import Derived.ShutString
import Derived.ChangeOld
import Derived.Below
import Derived.SizedLaws
import Derived.WideShapes
import Derived.Carry
import Derived.Test.YtekneicikmaplaaWSized
set_option linter.unusedVariables false
set_option linter.unusedSimpArgs false
namespace Go.Proofs.Ytekneicikmaplaa.fnExactCensLay
open Go.ChangeShapes Go.WideShapes Go.ChangeAt Go.RowKit Go.Proofs.Ytekneicikmaplaa.Open Go.Proofs.YtekneicikmaplaaW.PrintWords Go.Proofs.Ytekneicikmaplaa.PFnExactCensLay
theorem own : ownKnob Try.prog.godebug = none := by kernel_rfl
theorem laidOut : laidOutB Try.prog = true := by kernel_rfl
theorem o3 : Opens Try.prog 3 (Kd.int .i64) (fun x => (Lit.int .i64 x).wf = true) := Opens.int Try.underlying3
theorem o23 : Opens Try.prog 23 (Kd.pair (Kd.int .i64) (Kd.pair (Kd.int .i64) (Kd.int .i64))) (fun x => ((Lit.int .i64 x.1).wf = true ∧ (Lit.int .i64 x.2.1).wf = true ∧ (Lit.int .i64 x.2.2).wf = true)) := (Opens.struct Try.underlying23 (by kernel_rfl) (OpensF.cons (by kernel_rfl) rfl o3 (OpensF.cons (by kernel_rfl) rfl o3 (OpensF.one (by kernel_rfl) o3))))
theorem o24 : Opens Try.prog 24 (Kd.slice 3 (Kd.int .i64)) (fun x => (x.length ≤ 9223372036854775807 ∧ ∀ y0 ∈ x, (Lit.int .i64 y0).wf = true)) := Opens.slice Try.underlying24 (by kernel_rfl) o3
theorem o25 : Opens Try.prog 25 (Kd.pair (Kd.slice 3 (Kd.int .i64)) (Kd.pair (Kd.slice 3 (Kd.int .i64)) (Kd.pair (Kd.slice 3 (Kd.int .i64)) (Kd.slice 3 (Kd.int .i64))))) (fun x => ((x.1.length ≤ 9223372036854775807 ∧ ∀ y0 ∈ x.1, (Lit.int .i64 y0).wf = true) ∧ (x.2.1.length ≤ 9223372036854775807 ∧ ∀ y0 ∈ x.2.1, (Lit.int .i64 y0).wf = true) ∧ (x.2.2.1.length ≤ 9223372036854775807 ∧ ∀ y0 ∈ x.2.2.1, (Lit.int .i64 y0).wf = true) ∧ (x.2.2.2.length ≤ 9223372036854775807 ∧ ∀ y0 ∈ x.2.2.2, (Lit.int .i64 y0).wf = true))) := (Opens.array Try.underlying25 (by kernel_rfl) (OpensF.cons (by kernel_rfl) rfl o24 (OpensF.cons (by kernel_rfl) rfl o24 (OpensF.cons (by kernel_rfl) rfl o24 (OpensF.one (by kernel_rfl) o24)))))
theorem o34 : Opens Try.prog 34 (Kd.pair (Kd.int .i64) (Kd.pair (Kd.slice 3 (Kd.int .i64)) (Kd.pair (Kd.pair (Kd.slice 3 (Kd.int .i64)) (Kd.pair (Kd.slice 3 (Kd.int .i64)) (Kd.pair (Kd.slice 3 (Kd.int .i64)) (Kd.slice 3 (Kd.int .i64))))) (Kd.pair (Kd.slice 3 (Kd.int .i64)) (Kd.pair (Kd.slice 3 (Kd.int .i64)) (Kd.slice 3 (Kd.int .i64))))))) (fun x => ((Lit.int .i64 x.1).wf = true ∧ (x.2.1.length ≤ 9223372036854775807 ∧ ∀ y0 ∈ x.2.1, (Lit.int .i64 y0).wf = true) ∧ ((x.2.2.1.1.length ≤ 9223372036854775807 ∧ ∀ y0 ∈ x.2.2.1.1, (Lit.int .i64 y0).wf = true) ∧ (x.2.2.1.2.1.length ≤ 9223372036854775807 ∧ ∀ y0 ∈ x.2.2.1.2.1, (Lit.int .i64 y0).wf = true) ∧ (x.2.2.1.2.2.1.length ≤ 9223372036854775807 ∧ ∀ y0 ∈ x.2.2.1.2.2.1, (Lit.int .i64 y0).wf = true) ∧ (x.2.2.1.2.2.2.length ≤ 9223372036854775807 ∧ ∀ y0 ∈ x.2.2.1.2.2.2, (Lit.int .i64 y0).wf = true)) ∧ (x.2.2.2.1.length ≤ 9223372036854775807 ∧ ∀ y0 ∈ x.2.2.2.1, (Lit.int .i64 y0).wf = true) ∧ (x.2.2.2.2.1.length ≤ 9223372036854775807 ∧ ∀ y0 ∈ x.2.2.2.2.1, (Lit.int .i64 y0).wf = true) ∧ (x.2.2.2.2.2.length ≤ 9223372036854775807 ∧ ∀ y0 ∈ x.2.2.2.2.2, (Lit.int .i64 y0).wf = true))) := (Opens.struct Try.underlying34 (by kernel_rfl) (OpensF.cons (by kernel_rfl) rfl o3 (OpensF.cons (by kernel_rfl) rfl o24 (OpensF.cons (by kernel_rfl) rfl o25 (OpensF.cons (by kernel_rfl) rfl o24 (OpensF.cons (by kernel_rfl) rfl o24 (OpensF.one (by kernel_rfl) o24)))))))
set_option maxRecDepth 100000 in
theorem lifted (os : Os) (started : os.Started) (H : Type) (enc : TypeId × Value → H) :
    ReturnsInHanded {} Try.checked os 9 .any (Rows.fnExactCensLaySpec.pre6 enc Try.prog Try.f9 Rows.fnExactCensLayRow.domain false) (Rows.fnExactCensLaySpec.post enc Try.prog Try.f9 false true false false) := by
  refine returnsInHanded_of_change_sized (C := Try.checked) own started (by kernel_rfl) Try.func9
    (ChangeSpec.witness6 (enc := enc) (C := Try.checked) false ⟨#[], #[.agg #[.int .i64 0, .int .i64 0, .int .i64 0], .agg #[.int .i64 0, .slice none 0 0, .slice none 0 0, .slice none 0 0, .slice none 0 0, .slice none 0 0, .slice none 0 0, .slice none 0 0, .slice none 0 0]], []⟩ 8 (by kernel_rfl) (by kernel_rfl) (by kernel_rfl) (by kernel_rfl)) ?_
  intro W base args ds gs before hval0 hW hcnd hsz0 _
  have hval : ∀ (j : Nat) t v, Try.f9.params[j]? = some t → args[j]? = some v → Value.okWide Try.prog W .any base t v := hval0
  have hW' := hW
  obtain ⟨p, q, hA0, hV, rfl, hfz, hnd⟩ := hW
  have hA : DataW.TrodAll enc Try.prog W 0 (fun _ => true) true Try.f9.params.toList args.toList ds p := hA0
  rw [Try.params9] at hA hval
  obtain ⟨v0, vs0, d0, ds0, p0, q0, hargs, rfl, rfl, h0, r0⟩ := trodAll_cons hA
  obtain ⟨v1, vs1, d1, ds1, p1, q1, rfl, rfl, rfl, h1, r1⟩ := trodAll_cons r0
  obtain ⟨rfl, rfl, rfl⟩ := trodAll_nil r1
  obtain rfl : args = #[v0, v1] := by cases args; simp_all
  obtain ⟨rfl, rfl⟩ := trodVars_none hV
  clear hA0 hval0 hsz0
  have k0 := h0
  have lt0 : ∀ x ∈ p0, x.block < W.heap.size := by obtain ⟨m, hm⟩ := k0; exact DataW.trod_lt m _ _ _ hm
  obtain ⟨cs0, rfl, hsz0⟩ := okWide_struct Try.underlying23 (hval 0 23 v0 rfl rfl)
  obtain ⟨m0, hm0⟩ := h0
  obtain ⟨x0, hK0, ok0⟩ := o23.op enc W 0 (fun _ => true) true m0 _ _ hm0
  obtain ⟨a0_0, a0_1, a0_2⟩ := x0
  obtain ⟨bhK0_0, dhK0_0, ehK0_0, hK0_0, rhK0_0⟩ := hK0
  obtain rfl : _ = ([Value.int .i64 a0_0] : List Value) := hK0_0
  obtain ⟨brhK0_0_1, drhK0_0_1, erhK0_0_1, rhK0_0_1, rrhK0_0_1⟩ := rhK0_0
  obtain rfl : _ = ([Value.int .i64 a0_1] : List Value) := rhK0_0_1
  obtain rfl : _ = ([Value.int .i64 a0_2] : List Value) := rrhK0_0_1
  subst erhK0_0_1
  obtain rfl : cs0 = #[.int .i64 a0_0, .int .i64 a0_1, .int .i64 a0_2] := by have := congrArg List.toArray ehK0_0; simpa [Value.cells] using this
  obtain ⟨w0_0, w0_1, w0_2⟩ := ok0
  have k1 := h1
  have lt1 : ∀ x ∈ p1, x.block < W.heap.size := by obtain ⟨m, hm⟩ := k1; exact DataW.trod_lt m _ _ _ hm
  obtain ⟨cs1, rfl, hsz1⟩ := okWide_struct Try.underlying34 (hval 1 34 v1 rfl rfl)
  obtain ⟨m1, hm1⟩ := h1
  obtain ⟨x1, hK1, ok1⟩ := o34.op enc W 0 (fun _ => true) true m1 _ _ hm1
  obtain ⟨a1_0, l1_1, ⟨l1_2, l1_3, l1_4, l1_5⟩, l1_6, l1_7, l1_8⟩ := x1
  obtain ⟨bhK1_0, dhK1_0, ehK1_0, hK1_0, rhK1_0⟩ := hK1
  obtain rfl : _ = ([Value.int .i64 a1_0] : List Value) := hK1_0
  obtain ⟨brhK1_0_1, drhK1_0_1, erhK1_0_1, rhK1_0_1, rrhK1_0_1⟩ := rhK1_0
  obtain ⟨A1_1, c1_1, rfl, hc1_1, hr1_1⟩ := rhK1_0_1
  obtain ⟨brrhK1_0_1_2, drrhK1_0_1_2, errhK1_0_1_2, rrhK1_0_1_2, rrrhK1_0_1_2⟩ := rrhK1_0_1
  obtain ⟨brrhK1_0_1_2_0, drrhK1_0_1_2_0, errhK1_0_1_2_0, rrhK1_0_1_2_0, rrrhK1_0_1_2_0⟩ := rrhK1_0_1_2
  obtain ⟨A1_2, c1_2, rfl, hc1_2, hr1_2⟩ := rrhK1_0_1_2_0
  obtain ⟨brrrhK1_0_1_2_0_1, drrrhK1_0_1_2_0_1, errrhK1_0_1_2_0_1, rrrhK1_0_1_2_0_1, rrrrhK1_0_1_2_0_1⟩ := rrrhK1_0_1_2_0
  obtain ⟨A1_3, c1_3, rfl, hc1_3, hr1_3⟩ := rrrhK1_0_1_2_0_1
  obtain ⟨brrrrhK1_0_1_2_0_1_2, drrrrhK1_0_1_2_0_1_2, errrrhK1_0_1_2_0_1_2, rrrrhK1_0_1_2_0_1_2, rrrrrhK1_0_1_2_0_1_2⟩ := rrrrhK1_0_1_2_0_1
  obtain ⟨A1_4, c1_4, rfl, hc1_4, hr1_4⟩ := rrrrhK1_0_1_2_0_1_2
  obtain ⟨A1_5, c1_5, rfl, hc1_5, hr1_5⟩ := rrrrrhK1_0_1_2_0_1_2
  obtain ⟨brrrhK1_0_1_2_3, drrrhK1_0_1_2_3, errrhK1_0_1_2_3, rrrhK1_0_1_2_3, rrrrhK1_0_1_2_3⟩ := rrrhK1_0_1_2
  obtain ⟨A1_6, c1_6, rfl, hc1_6, hr1_6⟩ := rrrhK1_0_1_2_3
  obtain ⟨brrrrhK1_0_1_2_3_4, drrrrhK1_0_1_2_3_4, errrrhK1_0_1_2_3_4, rrrrhK1_0_1_2_3_4, rrrrrhK1_0_1_2_3_4⟩ := rrrrhK1_0_1_2_3
  obtain ⟨A1_7, c1_7, rfl, hc1_7, hr1_7⟩ := rrrrhK1_0_1_2_3_4
  obtain ⟨A1_8, c1_8, rfl, hc1_8, hr1_8⟩ := rrrrrhK1_0_1_2_3_4
  subst erhK1_0_1 errhK1_0_1_2 errhK1_0_1_2_0 errrhK1_0_1_2_0_1 errrrhK1_0_1_2_0_1_2 errrhK1_0_1_2_3 errrrhK1_0_1_2_3_4
  obtain rfl : cs1 = #[.int .i64 a1_0, .slice A1_1 l1_1.length c1_1, .slice A1_2 l1_2.length c1_2, .slice A1_3 l1_3.length c1_3, .slice A1_4 l1_4.length c1_4, .slice A1_5 l1_5.length c1_5, .slice A1_6 l1_6.length c1_6, .slice A1_7 l1_7.length c1_7, .slice A1_8 l1_8.length c1_8] := by have := congrArg List.toArray ehK1_0; simpa [Value.cells] using this
  obtain ⟨w1_0, w1_1, ⟨w1_2, w1_3, w1_4, w1_5⟩, w1_6, w1_7, w1_8⟩ := ok1
  have h := Pure.FnExactCensLay a0_0 a0_1 a0_2 a1_0 l1_1 l1_2 l1_3 l1_4 l1_5 l1_6 l1_7 l1_8 w0_0 w0_1 w0_2 w1_0 w1_1 w1_2 w1_3 w1_4 w1_5 w1_6 w1_7 w1_8
  refine (laws_FnExactCensLay.calls a0_0 a0_1 a0_2 a1_0 A1_1 c1_1 l1_1 A1_2 c1_2 l1_2 A1_3 c1_3 l1_3 A1_4 c1_4 l1_4 A1_5 c1_5 l1_5 A1_6 c1_6 l1_6 A1_7 c1_7 l1_7 A1_8 c1_8 l1_8 true W hr1_1 hc1_1 hr1_2 hc1_2 hr1_3 hc1_3 hr1_4 hc1_4 hr1_5 hc1_5 hr1_6 hc1_6 hr1_7 hc1_7 hr1_8 hc1_8 h).mono ?_
  rintro e W' ⟨rfl, bel0⟩
  have bel : Below W.heap.size W W' := by first | exact bel0 | exact bel0.below
  exact ⟨_, rfl, _, _, _, [], _, [], hW', trodAll_mk1 (shut_bool Try.underlying4 _), (trodAll_cons_mk (Below.trod laidOut (by kernel_rfl) (of_decide_eq_true (by kernel_rfl)) k0 bel lt0) (trodAll_cons_mk (Below.trod laidOut (by kernel_rfl) (of_decide_eq_true (by kernel_rfl)) k1 bel lt1) trodAll_mk0)), rfl, bel.frame _, fun h => by cases h⟩
theorem over : Rows.fnExactCensLayRow.holds Try.pinned (OpenSpec.ofChange Rows.fnExactCensLaySpec) :=
  OpenClaim.holds_of_wide 9 Try.f9 rfl rfl rfl rfl rfl rfl rfl ⟨rfl, rfl, rfl, rfl, rfl⟩ rfl rfl rfl rfl rfl (by kernel_rfl) Try.func9 (by kernel_rfl)
    (of_decide_eq_true (by kernel_rfl)) (by unfold Func.isWrapper; first | (rw [if_pos (by decide +kernel)]; kernel_rfl) | (rw [if_neg (by decide +kernel)]; exact ⟨rfl, rfl⟩))
    (fun os started H enc _ => lifted os started H enc)
theorem proved : Rows.FnExactCensLaySaid := over
end Go.Proofs.Ytekneicikmaplaa.fnExactCensLay
namespace Go.Proofs.Ytekneicikmaplaa
/-- The row, under a short name, for the claim. -/
theorem fnExactCensLay_holds : Rows.FnExactCensLaySaid := fnExactCensLay.proved
end Go.Proofs.Ytekneicikmaplaa

/- The row of the law FnExactBookCut, out of its plain law and the walk of its text: for all arguments the call answers true and leaves them as they were. -/
import Derived.Test.YtekneicikmaplaaRows
import Derived.Test.YtekneicikmaplaaPFnExactBookCutx0
import Derived.Test.YtekneicikmaplaaPureFnExactBookCut
import Derived.Test.YtekneicikmaplaaOpen
import Derived.WalkKit
import Derived.ProofKit
import Derived.OpenShut
import Derived.ShutString
import Derived.ChangeOld
import Derived.Below
import Derived.SizedLaws
import Derived.WideShapes
import Derived.Carry
import Derived.Test.YtekneicikmaplaaWSized
set_option linter.unusedVariables false
set_option linter.unusedSimpArgs false
namespace Go.Proofs.Ytekneicikmaplaa.fnExactBookCut
open Go.ChangeShapes Go.WideShapes Go.ChangeAt Go.RowKit Go.Proofs.Ytekneicikmaplaa.Open Go.Proofs.YtekneicikmaplaaW.PrintWords Go.Proofs.Ytekneicikmaplaa.PFnExactBookCut
theorem own : ownKnob Try.prog.godebug = none := by kernel_rfl
theorem laidOut : laidOutB Try.prog = true := by kernel_rfl
theorem o3 : Opens Try.prog 3 (Kd.int .i64) (fun x => (Lit.int .i64 x).wf = true) := Opens.int Try.underlying3
theorem o24 : Opens Try.prog 24 (Kd.slice 3 (Kd.int .i64)) (fun x => (x.length ≤ 9223372036854775807 ∧ ∀ y0 ∈ x, (Lit.int .i64 y0).wf = true)) := Opens.slice Try.underlying24 (by kernel_rfl) o3
theorem o25 : Opens Try.prog 25 (Kd.pair (Kd.slice 3 (Kd.int .i64)) (Kd.pair (Kd.slice 3 (Kd.int .i64)) (Kd.pair (Kd.slice 3 (Kd.int .i64)) (Kd.slice 3 (Kd.int .i64))))) (fun x => ((x.1.length ≤ 9223372036854775807 ∧ ∀ y0 ∈ x.1, (Lit.int .i64 y0).wf = true) ∧ (x.2.1.length ≤ 9223372036854775807 ∧ ∀ y0 ∈ x.2.1, (Lit.int .i64 y0).wf = true) ∧ (x.2.2.1.length ≤ 9223372036854775807 ∧ ∀ y0 ∈ x.2.2.1, (Lit.int .i64 y0).wf = true) ∧ (x.2.2.2.length ≤ 9223372036854775807 ∧ ∀ y0 ∈ x.2.2.2, (Lit.int .i64 y0).wf = true))) := (Opens.array Try.underlying25 (by kernel_rfl) (OpensF.cons (by kernel_rfl) rfl o24 (OpensF.cons (by kernel_rfl) rfl o24 (OpensF.cons (by kernel_rfl) rfl o24 (OpensF.one (by kernel_rfl) o24)))))
theorem o34 : Opens Try.prog 34 (Kd.pair (Kd.int .i64) (Kd.pair (Kd.slice 3 (Kd.int .i64)) (Kd.pair (Kd.pair (Kd.slice 3 (Kd.int .i64)) (Kd.pair (Kd.slice 3 (Kd.int .i64)) (Kd.pair (Kd.slice 3 (Kd.int .i64)) (Kd.slice 3 (Kd.int .i64))))) (Kd.pair (Kd.slice 3 (Kd.int .i64)) (Kd.pair (Kd.slice 3 (Kd.int .i64)) (Kd.slice 3 (Kd.int .i64))))))) (fun x => ((Lit.int .i64 x.1).wf = true ∧ (x.2.1.length ≤ 9223372036854775807 ∧ ∀ y0 ∈ x.2.1, (Lit.int .i64 y0).wf = true) ∧ ((x.2.2.1.1.length ≤ 9223372036854775807 ∧ ∀ y0 ∈ x.2.2.1.1, (Lit.int .i64 y0).wf = true) ∧ (x.2.2.1.2.1.length ≤ 9223372036854775807 ∧ ∀ y0 ∈ x.2.2.1.2.1, (Lit.int .i64 y0).wf = true) ∧ (x.2.2.1.2.2.1.length ≤ 9223372036854775807 ∧ ∀ y0 ∈ x.2.2.1.2.2.1, (Lit.int .i64 y0).wf = true) ∧ (x.2.2.1.2.2.2.length ≤ 9223372036854775807 ∧ ∀ y0 ∈ x.2.2.1.2.2.2, (Lit.int .i64 y0).wf = true)) ∧ (x.2.2.2.1.length ≤ 9223372036854775807 ∧ ∀ y0 ∈ x.2.2.2.1, (Lit.int .i64 y0).wf = true) ∧ (x.2.2.2.2.1.length ≤ 9223372036854775807 ∧ ∀ y0 ∈ x.2.2.2.2.1, (Lit.int .i64 y0).wf = true) ∧ (x.2.2.2.2.2.length ≤ 9223372036854775807 ∧ ∀ y0 ∈ x.2.2.2.2.2, (Lit.int .i64 y0).wf = true))) := (Opens.struct Try.underlying34 (by kernel_rfl) (OpensF.cons (by kernel_rfl) rfl o3 (OpensF.cons (by kernel_rfl) rfl o24 (OpensF.cons (by kernel_rfl) rfl o25 (OpensF.cons (by kernel_rfl) rfl o24 (OpensF.cons (by kernel_rfl) rfl o24 (OpensF.one (by kernel_rfl) o24)))))))
set_option maxRecDepth 100000 in
theorem lifted (os : Os) (started : os.Started) (H : Type) (enc : TypeId × Value → H) :
    ReturnsInHanded {} Try.checked os 8 .any (Rows.fnExactBookCutSpec.pre6 enc Try.prog Try.f8 Rows.fnExactBookCutRow.domain false) (Rows.fnExactBookCutSpec.post enc Try.prog Try.f8 false true false false) := by
  refine returnsInHanded_of_change_sized (C := Try.checked) own started (by kernel_rfl) Try.func8
    (ChangeSpec.witness6 (enc := enc) (C := Try.checked) false ⟨#[], #[.agg #[.int .i64 0, .slice none 0 0, .slice none 0 0, .slice none 0 0, .slice none 0 0, .slice none 0 0, .slice none 0 0, .slice none 0 0, .slice none 0 0], .int .i64 0], []⟩ 8 (by kernel_rfl) (by kernel_rfl) (by kernel_rfl) (by kernel_rfl)) ?_
  intro W base args ds gs before hval0 hW hcnd hsz0 _
  have hval : ∀ (j : Nat) t v, Try.f8.params[j]? = some t → args[j]? = some v → Value.okWide Try.prog W .any base t v := hval0
  have hW' := hW
  obtain ⟨p, q, hA0, hV, rfl, hfz, hnd⟩ := hW
  have hA : DataW.TrodAll enc Try.prog W 0 (fun _ => true) true Try.f8.params.toList args.toList ds p := hA0
  rw [Try.params8] at hA hval
  obtain ⟨v0, vs0, d0, ds0, p0, q0, hargs, rfl, rfl, h0, r0⟩ := trodAll_cons hA
  obtain ⟨v1, vs1, d1, ds1, p1, q1, rfl, rfl, rfl, h1, r1⟩ := trodAll_cons r0
  obtain ⟨rfl, rfl, rfl⟩ := trodAll_nil r1
  obtain rfl : args = #[v0, v1] := by cases args; simp_all
  obtain ⟨rfl, rfl⟩ := trodVars_none hV
  clear hA0 hval0 hsz0
  have k0 := h0
  have lt0 : ∀ x ∈ p0, x.block < W.heap.size := by obtain ⟨m, hm⟩ := k0; exact DataW.trod_lt m _ _ _ hm
  obtain ⟨cs0, rfl, hsz0⟩ := okWide_struct Try.underlying34 (hval 0 34 v0 rfl rfl)
  obtain ⟨m0, hm0⟩ := h0
  obtain ⟨x0, hK0, ok0⟩ := o34.op enc W 0 (fun _ => true) true m0 _ _ hm0
  obtain ⟨a0_0, l0_1, ⟨l0_2, l0_3, l0_4, l0_5⟩, l0_6, l0_7, l0_8⟩ := x0
  obtain ⟨bhK0_0, dhK0_0, ehK0_0, hK0_0, rhK0_0⟩ := hK0
  obtain rfl : _ = ([Value.int .i64 a0_0] : List Value) := hK0_0
  obtain ⟨brhK0_0_1, drhK0_0_1, erhK0_0_1, rhK0_0_1, rrhK0_0_1⟩ := rhK0_0
  obtain ⟨A0_1, c0_1, rfl, hc0_1, hr0_1⟩ := rhK0_0_1
  obtain ⟨brrhK0_0_1_2, drrhK0_0_1_2, errhK0_0_1_2, rrhK0_0_1_2, rrrhK0_0_1_2⟩ := rrhK0_0_1
  obtain ⟨brrhK0_0_1_2_0, drrhK0_0_1_2_0, errhK0_0_1_2_0, rrhK0_0_1_2_0, rrrhK0_0_1_2_0⟩ := rrhK0_0_1_2
  obtain ⟨A0_2, c0_2, rfl, hc0_2, hr0_2⟩ := rrhK0_0_1_2_0
  obtain ⟨brrrhK0_0_1_2_0_1, drrrhK0_0_1_2_0_1, errrhK0_0_1_2_0_1, rrrhK0_0_1_2_0_1, rrrrhK0_0_1_2_0_1⟩ := rrrhK0_0_1_2_0
  obtain ⟨A0_3, c0_3, rfl, hc0_3, hr0_3⟩ := rrrhK0_0_1_2_0_1
  obtain ⟨brrrrhK0_0_1_2_0_1_2, drrrrhK0_0_1_2_0_1_2, errrrhK0_0_1_2_0_1_2, rrrrhK0_0_1_2_0_1_2, rrrrrhK0_0_1_2_0_1_2⟩ := rrrrhK0_0_1_2_0_1
  obtain ⟨A0_4, c0_4, rfl, hc0_4, hr0_4⟩ := rrrrhK0_0_1_2_0_1_2
  obtain ⟨A0_5, c0_5, rfl, hc0_5, hr0_5⟩ := rrrrrhK0_0_1_2_0_1_2
  obtain ⟨brrrhK0_0_1_2_3, drrrhK0_0_1_2_3, errrhK0_0_1_2_3, rrrhK0_0_1_2_3, rrrrhK0_0_1_2_3⟩ := rrrhK0_0_1_2
  obtain ⟨A0_6, c0_6, rfl, hc0_6, hr0_6⟩ := rrrhK0_0_1_2_3
  obtain ⟨brrrrhK0_0_1_2_3_4, drrrrhK0_0_1_2_3_4, errrrhK0_0_1_2_3_4, rrrrhK0_0_1_2_3_4, rrrrrhK0_0_1_2_3_4⟩ := rrrrhK0_0_1_2_3
  obtain ⟨A0_7, c0_7, rfl, hc0_7, hr0_7⟩ := rrrrhK0_0_1_2_3_4
  obtain ⟨A0_8, c0_8, rfl, hc0_8, hr0_8⟩ := rrrrrhK0_0_1_2_3_4
  subst erhK0_0_1 errhK0_0_1_2 errhK0_0_1_2_0 errrhK0_0_1_2_0_1 errrrhK0_0_1_2_0_1_2 errrhK0_0_1_2_3 errrrhK0_0_1_2_3_4
  obtain rfl : cs0 = #[.int .i64 a0_0, .slice A0_1 l0_1.length c0_1, .slice A0_2 l0_2.length c0_2, .slice A0_3 l0_3.length c0_3, .slice A0_4 l0_4.length c0_4, .slice A0_5 l0_5.length c0_5, .slice A0_6 l0_6.length c0_6, .slice A0_7 l0_7.length c0_7, .slice A0_8 l0_8.length c0_8] := by have := congrArg List.toArray ehK0_0; simpa [Value.cells] using this
  obtain ⟨w0_0, w0_1, ⟨w0_2, w0_3, w0_4, w0_5⟩, w0_6, w0_7, w0_8⟩ := ok0
  have k1 := h1
  have lt1 : ∀ x ∈ p1, x.block < W.heap.size := by obtain ⟨m, hm⟩ := k1; exact DataW.trod_lt m _ _ _ hm
  obtain ⟨a1, rfl, rfl, rfl, w1⟩ := open_int Try.underlying3 (hval 1 3 v1 rfl rfl) h1
  have h := Pure.FnExactBookCut a0_0 l0_1 l0_2 l0_3 l0_4 l0_5 l0_6 l0_7 l0_8 a1 w0_0 w0_1 w0_2 w0_3 w0_4 w0_5 w0_6 w0_7 w0_8 w1
  refine (laws_FnExactBookCut.calls a0_0 A0_1 c0_1 l0_1 A0_2 c0_2 l0_2 A0_3 c0_3 l0_3 A0_4 c0_4 l0_4 A0_5 c0_5 l0_5 A0_6 c0_6 l0_6 A0_7 c0_7 l0_7 A0_8 c0_8 l0_8 a1 true W hr0_1 hc0_1 hr0_2 hc0_2 hr0_3 hc0_3 hr0_4 hc0_4 hr0_5 hc0_5 hr0_6 hc0_6 hr0_7 hc0_7 hr0_8 hc0_8 h).mono ?_
  rintro e W' ⟨rfl, bel0⟩
  have bel : Below W.heap.size W W' := by first | exact bel0 | exact bel0.below
  exact ⟨_, rfl, _, _, _, [], _, [], hW', trodAll_mk1 (shut_bool Try.underlying4 _), (trodAll_cons_mk (Below.trod laidOut (by kernel_rfl) (of_decide_eq_true (by kernel_rfl)) k0 bel lt0) (trodAll_cons_mk (Below.trod laidOut (by kernel_rfl) (of_decide_eq_true (by kernel_rfl)) k1 bel lt1) trodAll_mk0)), rfl, bel.frame _, fun h => by cases h⟩
theorem over : Rows.fnExactBookCutRow.holds Try.pinned (OpenSpec.ofChange Rows.fnExactBookCutSpec) :=
  OpenClaim.holds_of_wide 8 Try.f8 rfl rfl rfl rfl rfl rfl rfl ⟨rfl, rfl, rfl, rfl, rfl⟩ rfl rfl rfl rfl rfl (by kernel_rfl) Try.func8 (by kernel_rfl)
    (of_decide_eq_true (by kernel_rfl)) (by unfold Func.isWrapper; first | (rw [if_pos (by decide +kernel)]; kernel_rfl) | (rw [if_neg (by decide +kernel)]; exact ⟨rfl, rfl⟩))
    (fun os started H enc _ => lifted os started H enc)
theorem proved : Rows.FnExactBookCutSaid := over
end Go.Proofs.Ytekneicikmaplaa.fnExactBookCut
namespace Go.Proofs.Ytekneicikmaplaa
/-- The row, under a short name, for the claim. -/
theorem fnExactBookCut_holds : Rows.FnExactBookCutSaid := fnExactBookCut.proved
end Go.Proofs.Ytekneicikmaplaa

/- The row of the law FnExactVowGuest, out of its plain law and the walk of its text: for all arguments the call answers true and leaves them as they were. -/
import Derived.Test.YtfpdccaomhjpjaaRows
import Derived.Test.YtfpdccaomhjpjaaPFnExactVowGuestx1
import Derived.Test.YtfpdccaomhjpjaaPureFnExactVowGuest
import Derived.Test.YtfpdccaomhjpjaaOpen
import Derived.WalkKit
import Derived.ProofKit
import Derived.OpenShut
import Derived.ShutString
import Derived.ChangeOld
import Derived.Below
import Derived.SizedLaws
import Derived.WideShapes
import Derived.Carry
import Derived.Test.YtfpdccaomhjpjaaWSized
set_option linter.unusedVariables false
set_option linter.unusedSimpArgs false
namespace Go.Proofs.Ytfpdccaomhjpjaa.fnExactVowGuest
open Go.ChangeShapes Go.WideShapes Go.ChangeAt Go.RowKit Go.Proofs.Ytfpdccaomhjpjaa.Open Go.Proofs.YtfpdccaomhjpjaaW.PrintWords Go.Proofs.Ytfpdccaomhjpjaa.PFnExactVowGuest
theorem own : ownKnob Try.prog.godebug = none := by kernel_rfl
theorem laidOut : laidOutB Try.prog = true := by kernel_rfl
theorem o46 : Opens Try.prog 46 (Kd.int .u64) (fun x => (Lit.int .u64 x).wf = true) := Opens.int Try.underlying46
theorem o22 : Opens Try.prog 22 (Kd.slice 46 (Kd.int .u64)) (fun x => (x.length ≤ 9223372036854775807 ∧ ∀ y0 ∈ x, (Lit.int .u64 y0).wf = true)) := Opens.slice Try.underlying22 (by kernel_rfl) o46
theorem o4 : Opens Try.prog 4 Kd.bool (fun x => True) := Opens.bool Try.underlying4
theorem o3 : Opens Try.prog 3 (Kd.int .i64) (fun x => (Lit.int .i64 x).wf = true) := Opens.int Try.underlying3
theorem o80 : Opens Try.prog 80 k80 (fun x => ((Lit.int .i64 x.f0).wf = true ∧ (Lit.int .i64 x.f1).wf = true ∧ (Lit.int .i64 x.f2).wf = true ∧ (Lit.int .i64 x.f3).wf = true)) := Opens.iso (fun x : S80 => (x.f0, x.f1, x.f2, x.f3)) (fun y => (⟨y.1, y.2.1, y.2.2.1, y.2.2.2⟩ : S80)) (fun _ => rfl) (Opens.struct Try.underlying80 (by kernel_rfl) (OpensF.cons (by kernel_rfl) rfl o3 (OpensF.cons (by kernel_rfl) rfl o3 (OpensF.cons (by kernel_rfl) rfl o3 (OpensF.one (by kernel_rfl) o3)))))
theorem o82 : Opens Try.prog 82 k82 (fun x => (True ∧ (Lit.int .i64 x.f1).wf = true ∧ (Lit.int .i64 x.f2).wf = true ∧ True ∧ ((Lit.int .i64 x.f4.f0).wf = true ∧ (Lit.int .i64 x.f4.f1).wf = true ∧ (Lit.int .i64 x.f4.f2).wf = true ∧ (Lit.int .i64 x.f4.f3).wf = true) ∧ (Lit.int .i64 x.f5).wf = true ∧ (Lit.int .i64 x.f6).wf = true ∧ (Lit.int .i64 x.f7).wf = true ∧ (Lit.int .i64 x.f8).wf = true ∧ (Lit.int .i64 x.f9).wf = true ∧ (Lit.int .i64 x.f10).wf = true ∧ (Lit.int .i64 x.f11).wf = true ∧ True ∧ (Lit.int .i64 x.f13).wf = true ∧ (Lit.int .u64 x.f14).wf = true ∧ (Lit.int .u64 x.f15).wf = true ∧ (Lit.int .u64 x.f16).wf = true ∧ (Lit.int .u64 x.f17).wf = true ∧ (x.f18.length ≤ 9223372036854775807 ∧ ∀ y0 ∈ x.f18, (Lit.int .u64 y0).wf = true) ∧ (x.f19.length ≤ 9223372036854775807 ∧ ∀ y0 ∈ x.f19, (Lit.int .u64 y0).wf = true) ∧ (Lit.int .i64 x.f20).wf = true ∧ (Lit.int .i64 x.f21).wf = true ∧ (Lit.int .i64 x.f22).wf = true)) := Opens.iso (fun x : S82 => (x.f0, x.f1, x.f2, x.f3, x.f4, x.f5, x.f6, x.f7, x.f8, x.f9, x.f10, x.f11, x.f12, x.f13, x.f14, x.f15, x.f16, x.f17, x.f18, x.f19, x.f20, x.f21, x.f22)) (fun y => (⟨y.1, y.2.1, y.2.2.1, y.2.2.2.1, y.2.2.2.2.1, y.2.2.2.2.2.1, y.2.2.2.2.2.2.1, y.2.2.2.2.2.2.2.1, y.2.2.2.2.2.2.2.2.1, y.2.2.2.2.2.2.2.2.2.1, y.2.2.2.2.2.2.2.2.2.2.1, y.2.2.2.2.2.2.2.2.2.2.2.1, y.2.2.2.2.2.2.2.2.2.2.2.2.1, y.2.2.2.2.2.2.2.2.2.2.2.2.2.1, y.2.2.2.2.2.2.2.2.2.2.2.2.2.2.1, y.2.2.2.2.2.2.2.2.2.2.2.2.2.2.2.1, y.2.2.2.2.2.2.2.2.2.2.2.2.2.2.2.2.1, y.2.2.2.2.2.2.2.2.2.2.2.2.2.2.2.2.2.1, y.2.2.2.2.2.2.2.2.2.2.2.2.2.2.2.2.2.2.1, y.2.2.2.2.2.2.2.2.2.2.2.2.2.2.2.2.2.2.2.1, y.2.2.2.2.2.2.2.2.2.2.2.2.2.2.2.2.2.2.2.2.1, y.2.2.2.2.2.2.2.2.2.2.2.2.2.2.2.2.2.2.2.2.2.1, y.2.2.2.2.2.2.2.2.2.2.2.2.2.2.2.2.2.2.2.2.2.2⟩ : S82)) (fun _ => rfl) (Opens.struct Try.underlying82 (by kernel_rfl) (OpensF.cons (by kernel_rfl) rfl o4 (OpensF.cons (by kernel_rfl) rfl o3 (OpensF.cons (by kernel_rfl) rfl o3 (OpensF.cons (by kernel_rfl) rfl o4 (OpensF.cons (by kernel_rfl) rfl o80 (OpensF.cons (by kernel_rfl) rfl o3 (OpensF.cons (by kernel_rfl) rfl o3 (OpensF.cons (by kernel_rfl) rfl o3 (OpensF.cons (by kernel_rfl) rfl o3 (OpensF.cons (by kernel_rfl) rfl o3 (OpensF.cons (by kernel_rfl) rfl o3 (OpensF.cons (by kernel_rfl) rfl o3 (OpensF.cons (by kernel_rfl) rfl o4 (OpensF.cons (by kernel_rfl) rfl o3 (OpensF.cons (by kernel_rfl) rfl o46 (OpensF.cons (by kernel_rfl) rfl o46 (OpensF.cons (by kernel_rfl) rfl o46 (OpensF.cons (by kernel_rfl) rfl o46 (OpensF.cons (by kernel_rfl) rfl o22 (OpensF.cons (by kernel_rfl) rfl o22 (OpensF.cons (by kernel_rfl) rfl o3 (OpensF.cons (by kernel_rfl) rfl o3 (OpensF.one (by kernel_rfl) o3))))))))))))))))))))))))
theorem o27 : Opens Try.prog 27 (Kd.slice 82 k82) (fun x => (x.length ≤ 9223372036854775807 ∧ ∀ y0 ∈ x, (True ∧ (Lit.int .i64 y0.f1).wf = true ∧ (Lit.int .i64 y0.f2).wf = true ∧ True ∧ ((Lit.int .i64 y0.f4.f0).wf = true ∧ (Lit.int .i64 y0.f4.f1).wf = true ∧ (Lit.int .i64 y0.f4.f2).wf = true ∧ (Lit.int .i64 y0.f4.f3).wf = true) ∧ (Lit.int .i64 y0.f5).wf = true ∧ (Lit.int .i64 y0.f6).wf = true ∧ (Lit.int .i64 y0.f7).wf = true ∧ (Lit.int .i64 y0.f8).wf = true ∧ (Lit.int .i64 y0.f9).wf = true ∧ (Lit.int .i64 y0.f10).wf = true ∧ (Lit.int .i64 y0.f11).wf = true ∧ True ∧ (Lit.int .i64 y0.f13).wf = true ∧ (Lit.int .u64 y0.f14).wf = true ∧ (Lit.int .u64 y0.f15).wf = true ∧ (Lit.int .u64 y0.f16).wf = true ∧ (Lit.int .u64 y0.f17).wf = true ∧ (y0.f18.length ≤ 9223372036854775807 ∧ ∀ y1 ∈ y0.f18, (Lit.int .u64 y1).wf = true) ∧ (y0.f19.length ≤ 9223372036854775807 ∧ ∀ y1 ∈ y0.f19, (Lit.int .u64 y1).wf = true) ∧ (Lit.int .i64 y0.f20).wf = true ∧ (Lit.int .i64 y0.f21).wf = true ∧ (Lit.int .i64 y0.f22).wf = true))) := Opens.slice Try.underlying27 (by kernel_rfl) o82
theorem o29 : Opens Try.prog 29 (Kd.pair (Kd.slice 46 (Kd.int .u64)) (Kd.slice 82 k82)) (fun x => ((x.1.length ≤ 9223372036854775807 ∧ ∀ y0 ∈ x.1, (Lit.int .u64 y0).wf = true) ∧ (x.2.length ≤ 9223372036854775807 ∧ ∀ y0 ∈ x.2, (True ∧ (Lit.int .i64 y0.f1).wf = true ∧ (Lit.int .i64 y0.f2).wf = true ∧ True ∧ ((Lit.int .i64 y0.f4.f0).wf = true ∧ (Lit.int .i64 y0.f4.f1).wf = true ∧ (Lit.int .i64 y0.f4.f2).wf = true ∧ (Lit.int .i64 y0.f4.f3).wf = true) ∧ (Lit.int .i64 y0.f5).wf = true ∧ (Lit.int .i64 y0.f6).wf = true ∧ (Lit.int .i64 y0.f7).wf = true ∧ (Lit.int .i64 y0.f8).wf = true ∧ (Lit.int .i64 y0.f9).wf = true ∧ (Lit.int .i64 y0.f10).wf = true ∧ (Lit.int .i64 y0.f11).wf = true ∧ True ∧ (Lit.int .i64 y0.f13).wf = true ∧ (Lit.int .u64 y0.f14).wf = true ∧ (Lit.int .u64 y0.f15).wf = true ∧ (Lit.int .u64 y0.f16).wf = true ∧ (Lit.int .u64 y0.f17).wf = true ∧ (y0.f18.length ≤ 9223372036854775807 ∧ ∀ y1 ∈ y0.f18, (Lit.int .u64 y1).wf = true) ∧ (y0.f19.length ≤ 9223372036854775807 ∧ ∀ y1 ∈ y0.f19, (Lit.int .u64 y1).wf = true) ∧ (Lit.int .i64 y0.f20).wf = true ∧ (Lit.int .i64 y0.f21).wf = true ∧ (Lit.int .i64 y0.f22).wf = true)))) := (Opens.struct Try.underlying29 (by kernel_rfl) (OpensF.cons (by kernel_rfl) rfl o22 (OpensF.one (by kernel_rfl) o27)))
set_option maxRecDepth 100000 in
theorem lifted (os : Os) (started : os.Started) (H : Type) (enc : TypeId × Value → H) :
    ReturnsInHanded {} Try.checked os 5 .any (Rows.fnExactVowGuestSpec.pre6 enc Try.prog Try.f5 Rows.fnExactVowGuestRow.domain false) (Rows.fnExactVowGuestSpec.post enc Try.prog Try.f5 false true false false) := by
  refine returnsInHanded_of_change_sized (C := Try.checked) own started (by kernel_rfl) Try.func5
    (ChangeSpec.witness6 (enc := enc) (C := Try.checked) false ⟨#[], #[.agg #[.slice none 0 0, .slice none 0 0], .int .i64 0], []⟩ 8 (by kernel_rfl) (by kernel_rfl) (by kernel_rfl) (by kernel_rfl)) ?_
  intro W base args ds gs before hval0 hW hcnd hsz0 _
  have hval : ∀ (j : Nat) t v, Try.f5.params[j]? = some t → args[j]? = some v → Value.okWide Try.prog W .any base t v := hval0
  have hW' := hW
  obtain ⟨p, q, hA0, hV, rfl, hfz, hnd⟩ := hW
  have hA : DataW.TrodAll enc Try.prog W 0 (fun _ => true) true Try.f5.params.toList args.toList ds p := hA0
  rw [Try.params5] at hA hval
  obtain ⟨v0, vs0, d0, ds0, p0, q0, hargs, rfl, rfl, h0, r0⟩ := trodAll_cons hA
  obtain ⟨v1, vs1, d1, ds1, p1, q1, rfl, rfl, rfl, h1, r1⟩ := trodAll_cons r0
  obtain ⟨rfl, rfl, rfl⟩ := trodAll_nil r1
  obtain rfl : args = #[v0, v1] := by cases args; simp_all
  obtain ⟨rfl, rfl⟩ := trodVars_none hV
  clear hA0 hval0 hsz0
  have k0 := h0
  have lt0 : ∀ x ∈ p0, x.block < W.heap.size := by obtain ⟨m, hm⟩ := k0; exact DataW.trod_lt m _ _ _ hm
  obtain ⟨cs0, rfl, hsz0⟩ := okWide_struct Try.underlying29 (hval 0 29 v0 rfl rfl)
  obtain ⟨m0, hm0⟩ := h0
  obtain ⟨x0, hK0, ok0⟩ := o29.op enc W 0 (fun _ => true) true m0 _ _ hm0
  obtain ⟨l0_0, l0_1⟩ := x0
  obtain ⟨bhK0_0, dhK0_0, ehK0_0, hK0_0, rhK0_0⟩ := hK0
  obtain ⟨A0_0, c0_0, rfl, hc0_0, hr0_0⟩ := hK0_0
  obtain ⟨A0_1, c0_1, rfl, hc0_1, hr0_1⟩ := rhK0_0
  skip
  obtain rfl : cs0 = #[.slice A0_0 l0_0.length c0_0, .slice A0_1 l0_1.length c0_1] := by have := congrArg List.toArray ehK0_0; simpa [Value.cells] using this
  obtain ⟨w0_0, w0_1⟩ := ok0
  have k1 := h1
  have lt1 : ∀ x ∈ p1, x.block < W.heap.size := by obtain ⟨m, hm⟩ := k1; exact DataW.trod_lt m _ _ _ hm
  obtain ⟨a1, rfl, rfl, rfl, w1⟩ := open_int Try.underlying3 (hval 1 3 v1 rfl rfl) h1
  have h := Pure.FnExactVowGuest l0_0 l0_1 a1 w0_0 w0_1 w1
  refine (laws_FnExactVowGuest.calls A0_0 c0_0 l0_0 A0_1 c0_1 l0_1 a1 true W hr0_0 hc0_0 hr0_1 hc0_1 h).mono ?_
  rintro e W' ⟨rfl, bel0⟩
  have bel : Below W.heap.size W W' := by first | exact bel0 | exact bel0.below
  exact ⟨_, rfl, _, _, _, [], _, [], hW', trodAll_mk1 (shut_bool Try.underlying4 _), (trodAll_cons_mk (Below.trod laidOut (by kernel_rfl) (of_decide_eq_true (by kernel_rfl)) k0 bel lt0) (trodAll_cons_mk (Below.trod laidOut (by kernel_rfl) (of_decide_eq_true (by kernel_rfl)) k1 bel lt1) trodAll_mk0)), rfl, bel.frame _, fun h => by cases h⟩
theorem over : Rows.fnExactVowGuestRow.holds Try.pinned (OpenSpec.ofChange Rows.fnExactVowGuestSpec) :=
  OpenClaim.holds_of_wide 5 Try.f5 rfl rfl rfl rfl rfl rfl rfl ⟨rfl, rfl, rfl, rfl, rfl⟩ rfl rfl rfl rfl rfl (by kernel_rfl) Try.func5 (by kernel_rfl)
    (of_decide_eq_true (by kernel_rfl)) (by unfold Func.isWrapper; first | (rw [if_pos (by decide +kernel)]; kernel_rfl) | (rw [if_neg (by decide +kernel)]; exact ⟨rfl, rfl⟩))
    (fun os started H enc _ => lifted os started H enc)
theorem proved : Rows.FnExactVowGuestSaid := over
end Go.Proofs.Ytfpdccaomhjpjaa.fnExactVowGuest
namespace Go.Proofs.Ytfpdccaomhjpjaa
/-- The row, under a short name, for the claim. -/
theorem fnExactVowGuest_holds : Rows.FnExactVowGuestSaid := fnExactVowGuest.proved
end Go.Proofs.Ytfpdccaomhjpjaa

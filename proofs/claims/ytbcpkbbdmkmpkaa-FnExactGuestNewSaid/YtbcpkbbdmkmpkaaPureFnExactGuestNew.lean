/- For every slot, the program's and the reference's new client are one, and share nothing with another call's; the slot is any number of 64 bits. -/
import Derived.Test.YtbcpkbbdmkmpkaaPFnExactGuestNewx2
import Derived.Test.YtbcpkbbdmkmpkaaPl
set_option linter.unusedVariables false
set_option linter.unusedSimpArgs false
namespace Go.Proofs.Ytbcpkbbdmkmpkaa.Pure
open Go.RowKit Go.Proofs.Ytbcpkbbdmkmpkaa.PFnExactGuestNew Go.Proofs.YtbcpkbbdmkmpkaaW.PrintWords Go.Proofs.YtbcpkbbdmkmpkaaW.PrintLast Go.Proofs.YtbcpkbbdmkmpkaaW.PrintMore Go.Proofs.Ytbcpkbbdmkmpkaa.Pl

theorem FnExactGuestNew : ∀ (a0 : Int), (Lit.int .i64 a0).wf = true → ∃ k, laws_FnExactGuestNew.f k a0 = some true := by
  intro a _
  refine ⟨2, ?_⟩
  have e : laws_eqUint64S.f 2 [] [] = some true := by simp [laws_eqUint64S.f, laws_eqUint64S.l0]
  have m : laws_markUint64S.f 2 [] 1 = some (1, []) := by simp [laws_markUint64S.f, laws_markUint64S.l0]
  have h : laws_heldUint64S.f 2 [] 1 = some 1 := by simp [laws_heldUint64S.f, laws_heldUint64S.l0]
  have b : ∀ x1 x2 x3 x4 : Int, laws_eqBookOp.f x1 x2 x3 x4 x1 x2 x3 x4 = some true := fun _ _ _ _ => by simp [laws_eqBookOp.f]
  have main : ∀ (u : Bool) (s : Int), spec_GuestNew.f a = some (u, s, 0, false, 0, 0, 0, 0, 0, 0, 0, 0, 0, 0, 0, false, 0, 0, 0, 0, 0, ([] : List Int), ([] : List Int), 0, 0, 0) →
      impl_GuestNew.f a = some (u, s, 0, false, 0, 0, 0, 0, 0, 0, 0, 0, 0, 0, 0, false, 0, 0, 0, 0, 0, ([] : List Int), ([] : List Int), 0, 0, 0) → laws_FnExactGuestNew.f 2 a = some true := fun u s h1 h2 => by
    have g : ∀ (u u' : Bool) (s : Int), laws_eqGuest.f 2 u s 0 u' 0 0 0 0 0 0 0 0 0 0 0 u' 0 0 0 0 0 [] [] 0 0 0 u s 0 u' 0 0 0 0 0 0 0 0 0 0 0 u' 0 0 0 0 0 [] [] 0 0 0 = some true := fun u u' s => by
      simp [laws_eqGuest.f, b, e]
    have mk : ∀ (u u' : Bool) (s : Int), laws_markGuest.f 2 u s 0 u' 0 0 0 0 0 0 0 0 0 0 0 u' 0 0 0 0 0 [] [] 0 0 0 1 = some (1, [], []) := fun u u' s => by
      simp [laws_markGuest.f, m]
    have hd : ∀ (u u' : Bool) (s : Int), laws_heldGuest.f 2 u s 0 u' 0 0 0 0 0 0 0 0 0 0 0 u' 0 0 0 0 0 [] [] 0 0 0 1 = some 1 := fun u u' s => by
      simp [laws_heldGuest.f, h]
    unfold laws_FnExactGuestNew.f
    rw [h1, h2]
    simp only [Option.bind_some]
    rw [g]
    simp only [Option.bind_some, if_true]
    rw [mk]
    simp only [Option.bind_some]
    rw [hd]
    simp only [Option.bind_some]
    simp
  by_cases c : 0 ≤ a ∧ a < 4
  · refine main true a ?_ ?_
    · unfold spec_GuestNew.f; rw [if_neg (by omega), if_neg (by omega)]
    · unfold impl_GuestNew.f impl_within.f; rw [if_pos c.1]; simp only [Option.bind_some]; rw [if_pos (by simp; omega)]
  · refine main false 0 ?_ ?_
    · unfold spec_GuestNew.f
      by_cases d : a < 0
      · rw [if_pos d]
      · rw [if_neg d, if_pos (by omega)]
    · unfold impl_GuestNew.f impl_within.f
      by_cases d : 0 ≤ a
      · rw [if_pos d]; simp only [Option.bind_some]; rw [if_neg (by simp; omega)]
      · rw [if_neg d]; simp only [Option.bind_some]; rw [if_neg (by decide)]

end Go.Proofs.Ytbcpkbbdmkmpkaa.Pure

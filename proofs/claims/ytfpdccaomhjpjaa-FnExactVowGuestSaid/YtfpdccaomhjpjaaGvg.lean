/- VowGuest's readers, as 'Tells'. -/
import Derived.Test.YtfpdccaomhjpjaaHd
import Derived.Test.YtfpdccaomhjpjaaRd
import Derived.Test.YtfpdccaomhjpjaaGt
set_option linter.unusedVariables false
set_option linter.unusedSimpArgs false
namespace Go.Proofs.Ytfpdccaomhjpjaa.Gvs
open Go.RowKit Go.Proofs.YtfpdccaomhjpjaaW.PrintWords Go.Proofs.YtfpdccaomhjpjaaW.PrintLast Go.Proofs.YtfpdccaomhjpjaaW.PrintMore Go.Proofs.Ytfpdccaomhjpjaa.Pl Go.Proofs.Ytfpdccaomhjpjaa.Gu Go.Proofs.Ytfpdccaomhjpjaa.PSCellRegOf Go.Proofs.Ytfpdccaomhjpjaa.PSCellStamp Go.Proofs.Ytfpdccaomhjpjaa.PSPlatReg Go.Proofs.Ytfpdccaomhjpjaa.PIPlatCheck
theorem sval_eq {w : Int} (h : 0 ≤ w) : spec_CellVal.f w = some (wval w) := by
  unfold spec_CellVal.f; rw [val_spec h]
theorem sregof_eq {w : Int} (h0 : 0 ≤ w) : spec_CellRegOf.f w = some (wval w % 4, wval w / 4) := by
  unfold spec_CellRegOf.f
  have a := wval_lo w
  have b := wval_hi w
  simp only [sval_eq h0, Option.bind_some]
  rw [tmodp a, tdivp a, w64 (by omega) (by omega)]
theorem sstamp_eq {w : Int} (h : 0 ≤ w) (h1 : w ≤ 18446744073709551615) : spec_CellStamp.f w = some (wstamp w) := by
  unfold spec_CellStamp.f; rw [stamp_spec h h1]
theorem within_eq (n a b : Int) : impl_within.f n a b = some (decide (a ≤ n ∧ n ≤ b)) := by
  unfold impl_within.f
  by_cases h : a ≤ n
  · rw [if_pos h]; congr 1; simp [h]
  · rw [if_neg h]; congr 1; simp [h]
theorem splatok_eq (a b c : Int) : spec_PlatOk.f a b c = some (decide (pok a b c)) := by
  unfold spec_PlatOk.f
  by_cases h : pok a b c
  · have h' := h
    unfold pok at h'
    rw [if_pos (by omega), if_pos (by omega), if_pos (by omega), if_pos (by omega), if_pos (by omega)]
    apply congrArg some
    rw [decide_eq_true h, decide_eq_true_eq]; omega
  · rw [decide_eq_false h]
    unfold pok at h
    repeat' split
    all_goals first | rfl | (apply congrArg some; rw [decide_eq_false_iff_not]; omega)
theorem iplatok_eq (a b c : Int) : impl_PlatOk.f a b c = some (decide (pok a b c)) := by
  unfold impl_PlatOk.f
  simp only [within_eq, Option.bind_some]
  by_cases h : pok a b c
  · have h' := h
    unfold pok at h'
    rw [decide_eq_true h, if_pos (by simp; omega), if_pos (by simp; omega)]
    apply congrArg some
    rw [decide_eq_true_eq]; omega
  · rw [decide_eq_false h]
    unfold pok at h
    repeat' split
    all_goals first | rfl | (apply congrArg some; rw [decide_eq_false_iff_not]; simp only [decide_eq_true_eq] at *; omega)
theorem l2at_no {a b c : Int} (h : ¬ pok a b c) (f n m s : Int) : spec_l2At.f a b c f n m s = some 0 := by
  unfold spec_l2At.f; simp only [splatok_eq, Option.bind_some, decide_eq_true_eq, if_neg h]
theorem l2at_yes {a b c : Int} (h : pok a b c) {f n m s : Int} (f0 : 0 ≤ f) (f1 : f ≤ 1000) (m1 : m ≤ 1000) (s0 : 0 ≤ s) (s1 : s ≤ 100) :
    spec_l2At.f a b c f n m s = some (if 0 ≤ n ∧ n < m then f + n * s else 0) := by
  unfold spec_l2At.f; simp only [splatok_eq, Option.bind_some, decide_eq_true_eq, if_pos h]
  by_cases h0 : n < 0
  · rw [if_pos h0, if_neg (by omega)]
  · rw [if_neg h0]
    by_cases h1 : n ≥ m
    · rw [if_pos h1, if_neg (by omega)]
    · have e0 : 0 ≤ n * s := Int.mul_nonneg (by omega) s0
      have e1 : n * s ≤ 1000 * 100 := Int.mul_le_mul (by omega) s1 s0 (by omega)
      rw [if_neg h1, if_pos (by omega), w64 (n := n * s) (by omega) (by omega), w64 (by omega) (by omega)]
theorem sreg_eq {a b c n : Int} (h : pok a b c) : spec_PlatReg.f a b c n = some (if 0 ≤ n ∧ n < a then 3 + n else 0) := by
  unfold spec_PlatReg.f; rw [l2at_yes h (by omega) (by omega) (by unfold pok at h; omega) (by omega) (by omega), Int.mul_one]; rfl

theorem h40 (l : List Int) (hl : ∀ x ∈ l, 0 ≤ x ∧ x ≤ 18446744073709551615) : Tells2 40 (fun x => wval x % 4) (fun x => wval x / 4) l := fun x hx w => (spec_CellRegOf.calls x _ _ w (sregof_eq (hl x hx).1)).mono fun e w' h => ⟨h.1, h.2.below⟩
theorem h26 (l : List Int) (hl : ∀ x ∈ l, 0 ≤ x ∧ x ≤ 18446744073709551615) : Tells 26 wstamp l := fun x hx w => (spec_CellStamp.calls x _ w (sstamp_eq (hl x hx).1 (hl x hx).2)).mono fun e w' h => ⟨h.1, h.2.below⟩
theorem h25 (l : List Int) (hl : ∀ x ∈ l, 0 ≤ x ∧ x ≤ 18446744073709551615) : Tells 25 wval l := fun x hx w => (spec_CellVal.calls x _ w (sval_eq (hl x hx).1)).mono fun e w' h => ⟨h.1, h.2.below⟩
theorem h41 {a b d : Int} (hp : pok a b d) : RegS 41 a b d := fun n h0 h1 w => spec_PlatReg.calls a b d n _ w (by rw [sreg_eq hp, if_pos ⟨h0, h1⟩])
end Go.Proofs.Ytfpdccaomhjpjaa.Gvs
namespace Go.Proofs.Ytfpdccaomhjpjaa.Gvi
open Go.RowKit Go.Proofs.YtfpdccaomhjpjaaW.PrintWords Go.Proofs.YtfpdccaomhjpjaaW.PrintLast Go.Proofs.YtfpdccaomhjpjaaW.PrintMore Go.Proofs.Ytfpdccaomhjpjaa.Pl Go.Proofs.Ytfpdccaomhjpjaa.Gu Go.Proofs.Ytfpdccaomhjpjaa.PICellRegOf Go.Proofs.Ytfpdccaomhjpjaa.PICellStamp
theorem ival_eq {w : Int} (h : 0 ≤ w) (h1 : w ≤ 18446744073709551615) : impl_CellVal.f w = some (wval w) := by
  unfold impl_CellVal.f; rw [val_impl h h1]
theorem iregof_eq {w : Int} (h0 : 0 ≤ w) (h1 : w ≤ 18446744073709551615) : impl_CellRegOf.f w = some (wval w % 4, wval w / 4) := by
  unfold impl_CellRegOf.f
  have a := wval_lo w
  have b := wval_hi w
  simp only [ival_eq h0 h1, Option.bind_some]
  rw [tmodp a, tdivp a, w64 (by omega) (by omega)]
theorem istamp_eq {w : Int} (h : 0 ≤ w) (h1 : w ≤ 18446744073709551615) : impl_CellStamp.f w = some (wstamp w) := by
  unfold impl_CellStamp.f; rw [stamp_impl h h1]

theorem h69 (l : List Int) (hl : ∀ x ∈ l, 0 ≤ x ∧ x ≤ 18446744073709551615) : Tells2 69 (fun x => wval x % 4) (fun x => wval x / 4) l := fun x hx w => (impl_CellRegOf.calls x _ _ w (iregof_eq (hl x hx).1 (hl x hx).2)).mono fun e w' h => ⟨h.1, h.2.below⟩
theorem h59 (l : List Int) (hl : ∀ x ∈ l, 0 ≤ x ∧ x ≤ 18446744073709551615) : Tells 59 wstamp l := fun x hx w => (impl_CellStamp.calls x _ w (istamp_eq (hl x hx).1 (hl x hx).2)).mono fun e w' h => ⟨h.1, h.2.below⟩
theorem h72 (l : List Int) (hl : ∀ x ∈ l, 0 ≤ x ∧ x ≤ 18446744073709551615) : Tells 72 wval l := fun x hx w => (impl_CellVal.calls x _ w (ival_eq (hl x hx).1 (hl x hx).2)).mono fun e w' h => ⟨h.1, h.2.below⟩
theorem h71 (a b d : Int) : Reg0 71 a b d := fun w => Go.Proofs.Ytfpdccaomhjpjaa.PIPlatCheck.impl_PlatCfg_regAt.calls a b d 3 w rfl
end Go.Proofs.Ytfpdccaomhjpjaa.Gvi
namespace Go.Proofs.Ytfpdccaomhjpjaa.Gvg
open Go.RowKit Go.Proofs.YtfpdccaomhjpjaaW.PrintWords Go.Proofs.YtfpdccaomhjpjaaW.PrintLast Go.Proofs.YtfpdccaomhjpjaaW.PrintMore Go.Proofs.Ytfpdccaomhjpjaa.Pl Go.Proofs.Ytfpdccaomhjpjaa.Gu 
theorem hep (l : List Int) (x : Int) (_ : x ∈ l) : 0 ≤ wval x / 4 ∧ wval x / 4 ≤ 4294967295 := by
  have a := wval_lo x
  have b := wval_hi x
  omega
theorem hin (l : List Int) (h : (chk l).2.2.2 = true) : 3 + (chk l).1 ≤ (l.length : Int) ∧ 1 ≤ (chk l).1 ∧ (chk l).1 ≤ 4 ∧ ∀ g, Gp.gokB (chk l).1 (chk l).2.1 g = true → 0 ≤ g.slot ∧ g.slot < (chk l).1 := by
  rcases chk_cases l with q | ⟨a, b, c, q, hp, hn⟩
  · rw [q] at h; cases h
  · rw [q]
    unfold pok at hp; unfold hsize at hn
    refine ⟨?_, hp.1.1, hp.1.2, fun g hg => ?_⟩
    · show 3 + a ≤ (l.length : Int); omega
    · exact (of_decide_eq_true hg).2.2.1.1
end Go.Proofs.Ytfpdccaomhjpjaa.Gvg

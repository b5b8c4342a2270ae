/- What a valid guest is, said by the reference's and by the program's text alike; likewise a house. -/
import Derived.Test.YtfpdccaomhjpjaaPSGuestOkx2
import Derived.Test.YtfpdccaomhjpjaaPSGuestOkx3
import Derived.Test.YtfpdccaomhjpjaaPGuestOkx2
import Derived.Test.YtfpdccaomhjpjaaPSPlatCheckx2
import Derived.Test.YtfpdccaomhjpjaaPIPlatCheckx2
import Derived.Test.YtfpdccaomhjpjaaGy
import Derived.Test.YtfpdccaomhjpjaaPl
set_option linter.unusedVariables false
set_option linter.unusedSimpArgs false
namespace Go.Proofs.Ytfpdccaomhjpjaa.Gp
open Go.RowKit Go.Proofs.Ytfpdccaomhjpjaa.PSGuestOk Go.Proofs.Ytfpdccaomhjpjaa.PGuestOk Go.Proofs.YtfpdccaomhjpjaaW.PrintWords Go.Proofs.YtfpdccaomhjpjaaW.PrintLast Go.Proofs.YtfpdccaomhjpjaaW.PrintMore Go.Proofs.Ytfpdccaomhjpjaa.Pl Go.Proofs.Ytfpdccaomhjpjaa.Gu
theorem within_eq (n a b : Int) : impl_within.f n a b = some (decide (a ≤ n ∧ n ≤ b)) := by
  unfold impl_within.f
  by_cases h : a ≤ n
  · rw [if_pos h]; congr 1; simp [h]
  · rw [if_neg h]; congr 1; simp [h]
theorem splatok_eq (a b c : Int) : spec_PlatOk.f a b c = some (decide (pok a b c)) := by
  unfold spec_PlatOk.f
  by_cases h : pok a b c
  · have h' := h
    unfold pok at h'
    rw [if_pos (by omega), if_pos (by omega), if_pos (by omega), if_pos (by omega), if_pos (by omega)]
    apply congrArg some
    rw [decide_eq_true h, decide_eq_true_eq]; omega
  · rw [decide_eq_false h]
    unfold pok at h
    repeat' split
    all_goals first | rfl | (apply congrArg some; rw [decide_eq_false_iff_not]; omega)
theorem iplatok_eq (a b c : Int) : impl_PlatOk.f a b c = some (decide (pok a b c)) := by
  unfold impl_PlatOk.f
  simp only [within_eq, Option.bind_some]
  by_cases h : pok a b c
  · have h' := h
    unfold pok at h'
    rw [decide_eq_true h, if_pos (by simp; omega), if_pos (by simp; omega)]
    apply congrArg some
    rw [decide_eq_true_eq]; omega
  · rw [decide_eq_false h]
    unfold pok at h
    repeat' split
    all_goals first | rfl | (apply congrArg some; rw [decide_eq_false_iff_not]; simp only [decide_eq_true_eq] at *; omega)
theorem beatAt_eq {a b c : Int} (h : pok a b c) : impl_PlatCfg_beatAt.f a b c = some (3 + a) := by
  unfold impl_PlatCfg_beatAt.f impl_PlatCfg_regAt.f; unfold pok at h; simp only [Option.bind_some]; rw [w64 (by omega) (by omega)]
theorem headAt_eq {a b c : Int} (h : pok a b c) : impl_PlatCfg_headAt.f a b c = some (3 + 2 * a) := by
  unfold impl_PlatCfg_headAt.f; rw [beatAt_eq h]; unfold pok at h; simp only [Option.bind_some]; rw [w64 (by omega) (by omega)]; congr 1; omega
theorem pageAt_eq {a b c : Int} (h : pok a b c) : impl_PlatCfg_pageAt.f a b c = some (7 + 2 * a) := by
  unfold impl_PlatCfg_pageAt.f; rw [headAt_eq h]; unfold pok at h; simp only [Option.bind_some]; rw [w64 (by omega) (by omega)]; congr 1; omega
theorem tagAt_eq {a b c : Int} (h : pok a b c) : impl_PlatCfg_tagAt.f a b c = some (7 + 2 * a + b) := by
  unfold impl_PlatCfg_tagAt.f; rw [pageAt_eq h]; unfold pok at h; simp only [Option.bind_some]; rw [w64 (by omega) (by omega)]
theorem linkAt_eq {a b c : Int} (h : pok a b c) : impl_PlatCfg_linkAt.f a b c = some (7 + 2 * a + 9 * b) := by
  unfold impl_PlatCfg_linkAt.f; rw [tagAt_eq h]; unfold pok at h; simp only [Option.bind_some]; rw [w64 (n := 8 * b) (by omega) (by omega), w64 (by omega) (by omega)]; congr 1; omega
theorem deskAt_eq {a b c : Int} (h : pok a b c) : impl_PlatCfg_deskAt.f a b c = some (house a b) := by
  unfold impl_PlatCfg_deskAt.f; rw [linkAt_eq h]; unfold house; unfold pok at h; simp only [Option.bind_some]; rw [w64 (n := 8 * b) (by omega) (by omega), w64 (by omega) (by omega)]; congr 1; omega

theorem shouse {a b d : Int} (h : pok a b d) : spec_l2House.f a b d = some (house a b) := by
  unfold spec_l2House.f house; unfold pok at h
  rw [w64 (n := 2 * a) (by omega) (by omega), w64 (n := 16 * b) (by omega) (by omega), w64 (n := 3 + 2 * a) (by omega) (by omega), w64 (n := 3 + 2 * a + 4) (by omega) (by omega), w64 (n := 3 + 2 * a + 4 + b) (by omega) (by omega), w64 (by omega) (by omega)]; congr 1; omega
theorem isslot {a b d : Int} (h : pok a b d) (s : Int) : impl_PlatCfg_isSlot.f a b d s = some (decide (0 ≤ s ∧ s < a)) := by
  unfold impl_PlatCfg_isSlot.f; unfold pok at h
  rw [w64 (n := a - 1) (by omega) (by omega), within_eq]; simp only [Option.bind_some]; apply congrArg some; exact decide_eq_decide.2 (by omega)
theorem itE {α : Type} {c : Prop} [Decidable c] {X Y R : α} (h1 : c → X = R) (h2 : ¬ c → Y = R) : (if c then X else Y) = R := by
  by_cases h : c
  · rw [if_pos h]; exact h1 h
  · rw [if_neg h]; exact h2 h
/-- A guest's numbers are within their bounds. -/
def fldP (a b : Int) (g : Gu) : Prop := (0 ≤ g.slot ∧ g.slot < a) ∧ (0 ≤ g.epoch ∧ g.epoch ≤ 4095) ∧ (0 ≤ g.next ∧ g.next ≤ 4095) ∧ (0 ≤ g.pc ∧ g.pc ≤ 26) ∧ (0 ≤ g.seq ∧ g.seq ≤ 1000001) ∧ (0 ≤ g.who ∧ g.who ≤ 7) ∧ (0 ≤ g.whoE ∧ g.whoE ≤ 4095) ∧ (0 ≤ g.n ∧ g.n ≤ 20) ∧ (0 ≤ g.k ∧ g.k ≤ house a b) ∧ (g.snap.length : Int) ≤ house a b ∧ (g.plan.length : Int) ≤ 20 ∧ (0 ≤ g.time ∧ g.time ≤ 1048575)
/-- What a guest has seen fits to where it stands. -/
def plcP (a b : Int) (g : Gu) : Prop := (g.own = true → 23 ≤ g.pc ∧ g.pc ≤ 25) ∧ (g.pc = 11 → (g.snap.length : Int) = g.k ∧ g.k < house a b) ∧ (g.pc = 12 → (g.snap.length : Int) = house a b ∧ 0 ≤ g.opA ∧ g.opA < a) ∧ (16 ≤ g.pc ∧ g.pc ≤ 21 → g.who < a) ∧ (g.pc = 13 ∨ g.pc = 14 → g.k ≤ (g.plan.length : Int)) ∧ (22 ≤ g.pc ∧ g.pc ≤ 24 → 1 ≤ g.k ∧ g.k ≤ g.n ∧ g.who < a ∧ (g.own = true → g.n = (g.plan.length : Int)))
def gokP (a b : Int) (g : Gu) : Prop := (g.busy = true ↔ g.pc ≠ 0) ∧ (g.busy = true → g.opS = g.slot) ∧ fldP a b g ∧ plcP a b g
instance (a b : Int) (g : Gu) : Decidable (fldP a b g) := by unfold fldP; infer_instance
instance (a b : Int) (g : Gu) : Decidable (plcP a b g) := by unfold plcP; infer_instance
instance (a b : Int) (g : Gu) : Decidable (gokP a b g) := by unfold gokP; infer_instance
theorem gok_dec (a b : Int) (g : Gu) : decide (gokP a b g) = (decide (g.busy = true ↔ g.pc ≠ 0) && (decide (g.busy = true → g.opS = g.slot) && decide (fldP a b g ∧ plcP a b g))) := by
  refine (show decide (gokP a b g) = decide ((g.busy = true ↔ g.pc ≠ 0) ∧ ((g.busy = true → g.opS = g.slot) ∧ (fldP a b g ∧ plcP a b g))) from decide_eq_decide.2 Iff.rfl).trans ?_
  rw [Bool.decide_and, Bool.decide_and]
theorem fp_if (a b : Int) (g : Gu) : (if fldP a b g then some (decide (plcP a b g)) else some false) = some (decide (fldP a b g ∧ plcP a b g)) := by
  by_cases hX : fldP a b g <;> simp [hX]
set_option maxHeartbeats 4000000 in
theorem sfields {a b d : Int} (hp : pok a b d) (m : Nat) (up busy own : Bool) (slot epoch opK opS opA opB pc k n seq next who whoE time was door beat entry code val count : Int) (snap plan : List Int) : spec_l6Fields.f (m + 1) a b d up slot epoch busy opK opS opA opB pc k n seq next who whoE own time was door beat entry snap plan code val count = some (decide (fldP a b (Gu.mk up slot epoch busy opK opS opA opB pc k n seq next who whoE own time was door beat entry snap plan code val count))) := by
  unfold spec_l6Fields.f
  simp only [spec_l6Fields.j0, shouse hp, Option.bind_some, decide_eq_true_eq, if_true]
  unfold fldP house
  unfold pok at hp
  dsimp only
  repeat' refine itE (fun _ => ?_) (fun _ => ?_)
  all_goals apply congrArg some
  all_goals first | exact (decide_eq_false (by omega)).symm | exact decide_eq_decide.2 (by omega)
set_option maxHeartbeats 4000000 in
theorem splace {a b d : Int} (hp : pok a b d) (m : Nat) (up busy own : Bool) (slot epoch opK opS opA opB pc k n seq next who whoE time was door beat entry code val count : Int) (snap plan : List Int) : spec_l6Place.f (m + 3) a b d up slot epoch busy opK opS opA opB pc k n seq next who whoE own time was door beat entry snap plan code val count = some (decide (plcP a b (Gu.mk up slot epoch busy opK opS opA opB pc k n seq next who whoE own time was door beat entry snap plan code val count))) := by
  unfold spec_l6Place.f
  simp only [spec_l6Place.j0, spec_l6Place.j1, spec_l6Place.j2, shouse hp, Option.bind_some, decide_eq_true_eq, if_true, beq_iff_eq, Bool.false_eq_true, if_false]
  unfold plcP house
  unfold pok at hp
  dsimp only
  cases own <;> simp only [Bool.false_eq_true, if_true, if_false, false_implies, true_implies, true_and, and_true] <;> repeat' refine itE (fun _ => ?_) (fun _ => ?_)
  all_goals apply congrArg some
  all_goals first | exact (decide_eq_false (by omega)).symm | exact (decide_eq_true (by omega)).symm | exact decide_eq_decide.2 (by omega) | exact (show decide (n = (plan.length : Int)) = _ from decide_eq_decide.2 (by omega))
theorem ij5 {a b d : Int} (hp : pok a b d) (m : Nat) (up busy own : Bool) (slot epoch opK opS opA opB pc k n seq next who whoE time was door beat entry code val count : Int) (snap plan : List Int) : impl_GuestOk.j5 (m + 1) a b d up slot epoch busy opK opS opA opB pc k n seq next who whoE own time was door beat entry snap plan code val count = some (decide ((16 ≤ pc ∧ pc ≤ 21 → 0 ≤ who ∧ who < a) ∧ (own = true → 23 ≤ pc ∧ pc ≤ 25))) := by
  simp only [impl_GuestOk.j5, within_eq, isslot hp, Option.bind_some, decide_eq_true_eq]
  unfold pok at hp
  cases own <;> simp only [Bool.false_eq_true, if_true, if_false, false_implies, true_implies, and_true] <;> repeat' refine itE (fun _ => ?_) (fun _ => ?_)
  all_goals apply congrArg some
  all_goals first | exact (decide_eq_false (by omega)).symm | exact (decide_eq_true (by omega)).symm | exact decide_eq_decide.2 (by omega) | exact (show decide (pc = 25) = _ from decide_eq_decide.2 (by omega))
set_option maxHeartbeats 8000000 in
theorem igok {a b d : Int} (hp : pok a b d) (m : Nat) (up busy own : Bool) (slot epoch opK opS opA opB pc k n seq next who whoE time was door beat entry code val count : Int) (snap plan : List Int) : impl_GuestOk.f (m + 6) a b d up slot epoch busy opK opS opA opB pc k n seq next who whoE own time was door beat entry snap plan code val count = some (decide (gokP a b (Gu.mk up slot epoch busy opK opS opA opB pc k n seq next who whoE own time was door beat entry snap plan code val count))) := by
  have h5 := fun m => ij5 hp m up busy own slot epoch opK opS opA opB pc k n seq next who whoE time was door beat entry code val count snap plan
  unfold impl_GuestOk.f
  rw [iplatok_eq, decide_eq_true hp]
  simp only [Option.bind_some, if_true, impl_GuestOk.j0, impl_GuestOk.j1, impl_GuestOk.j2, impl_GuestOk.j3, impl_GuestOk.j4, h5, within_eq, isslot hp, deskAt_eq hp, decide_eq_true_eq, Bool.not_eq_true', decide_eq_false_iff_not, beq_iff_eq, Bool.false_eq_true, if_false]
  clear h5
  obtain ⟨Z, hZ⟩ : ∃ Z : Bool, decide (gokP a b (Gu.mk up slot epoch busy opK opS opA opB pc k n seq next who whoE own time was door beat entry snap plan code val count)) = Z := ⟨_, rfl⟩
  have hZ' : Z = true ↔ gokP a b (Gu.mk up slot epoch busy opK opS opA opB pc k n seq next who whoE own time was door beat entry snap plan code val count) := by rw [← hZ]; exact decide_eq_true_iff
  rw [hZ]
  clear hZ
  obtain ⟨z, hz⟩ : ∃ z, (pc != 0) = z := ⟨_, rfl⟩
  have hz' : z = true ↔ pc ≠ 0 := by rw [← hz]; exact bne_iff_ne
  rw [hz]
  clear hz
  unfold gokP fldP plcP house at hZ'
  unfold house
  unfold pok at hp
  dsimp only at hZ'
  cases busy <;> cases z <;> cases own <;> simp only [bne_self_eq_false, Bool.false_eq_true, if_true, if_false, false_implies, true_implies, true_and, and_true, Bool.true_bne, Bool.false_bne, Bool.not_true, Bool.not_false, false_iff, true_iff, Decidable.not_not, ne_eq] at hZ' hz' ⊢ <;> repeat' refine itE (fun _ => ?_) (fun _ => ?_)
  all_goals apply congrArg some
  all_goals first | exact (Bool.eq_false_iff.2 (fun h => by have := hZ'.1 h; omega)).symm | exact (hZ'.2 (by omega)).symm | exact Bool.eq_iff_iff.2 (by rw [decide_eq_true_iff, hZ']; omega)
end Go.Proofs.Ytfpdccaomhjpjaa.Gp

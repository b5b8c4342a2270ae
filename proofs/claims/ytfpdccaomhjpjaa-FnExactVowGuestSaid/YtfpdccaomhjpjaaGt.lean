/- What the printed texts answer, as 'Asks' and 'Checks'. -/
import Derived.Test.YtfpdccaomhjpjaaGp
import Derived.Test.YtfpdccaomhjpjaaGs
import Derived.Test.YtfpdccaomhjpjaaGz
import Derived.Test.YtfpdccaomhjpjaaPSPlatCheckx2
import Derived.Test.YtfpdccaomhjpjaaPIPlatCheckx2
set_option linter.unusedVariables false
set_option linter.unusedSimpArgs false
namespace Go.Proofs.Ytfpdccaomhjpjaa.Gp
open Go.RowKit Go.Proofs.Ytfpdccaomhjpjaa.PSGuestOk Go.Proofs.Ytfpdccaomhjpjaa.PGuestOk Go.Proofs.YtfpdccaomhjpjaaW.PrintWords Go.Proofs.YtfpdccaomhjpjaaW.PrintLast Go.Proofs.YtfpdccaomhjpjaaW.PrintMore Go.Proofs.Ytfpdccaomhjpjaa.Pl Go.Proofs.Ytfpdccaomhjpjaa.Gu
def gokB (a b : Int) (g : Gu) : Bool := decide (gokP a b g)
theorem asks34 {a b d : Int} (hp : pok a b d) : Asks 34 a b d (gokB a b) := by
  intro g A cA B cB w h
  obtain ⟨up, slot, epoch, busy, opK, opS, opA, opB, pc, k, n, seq, next, who, whoE, own, time, was, door, beat, entry, snap, plan, code, val, count⟩ := g
  have hs := sg_calls a b d (Gu.mk up slot epoch busy opK opS opA opB pc k n seq next who whoE own time was door beat entry snap plan code val count) A cA B cB w (decide (fldP a b (Gu.mk up slot epoch busy opK opS opA opB pc k n seq next who whoE own time was door beat entry snap plan code val count))) (decide (plcP a b (Gu.mk up slot epoch busy opK opS opA opB pc k n seq next who whoE own time was door beat entry snap plan code val count))) h
    (fun w_ => spec_PlatOk.calls a b d true w_ (by rw [splatok_eq, decide_eq_true hp]))
    (fun w_ h_ => spec_l6Fields.calls 1 a b d up slot epoch busy opK opS opA opB pc k n seq next who whoE own time was door beat entry A cA snap B cB plan code val count _ w_ h_.1.1 h_.1.2 h_.2.1 h_.2.2 (sfields hp 0 up busy own slot epoch opK opS opA opB pc k n seq next who whoE time was door beat entry code val count snap plan))
    (fun w_ h_ => spec_l6Place.calls 3 a b d up slot epoch busy opK opS opA opB pc k n seq next who whoE own time was door beat entry A cA snap B cB plan code val count _ w_ h_.1.1 h_.1.2 h_.2.1 h_.2.2 (splace hp 0 up busy own slot epoch opK opS opA opB pc k n seq next who whoE time was door beat entry code val count snap plan))
  have e : gokB a b (Gu.mk up slot epoch busy opK opS opA opB pc k n seq next who whoE own time was door beat entry snap plan code val count) = sgB (Gu.mk up slot epoch busy opK opS opA opB pc k n seq next who whoE own time was door beat entry snap plan code val count) (decide (fldP a b (Gu.mk up slot epoch busy opK opS opA opB pc k n seq next who whoE own time was door beat entry snap plan code val count))) (decide (plcP a b (Gu.mk up slot epoch busy opK opS opA opB pc k n seq next who whoE own time was door beat entry snap plan code val count))) := by
    unfold gokB sgB
    rw [gok_dec, Bool.decide_and]
    dsimp only
    cases busy <;> by_cases h0 : pc = 0 <;> by_cases h1 : opS = slot <;> simp [h0, h1]
  rw [e]
  exact hs
theorem asks38 {a b d : Int} (hp : pok a b d) : Asks 38 a b d (gokB a b) := by
  intro g A cA B cB w h
  obtain ⟨up, slot, epoch, busy, opK, opS, opA, opB, pc, k, n, seq, next, who, whoE, own, time, was, door, beat, entry, snap, plan, code, val, count⟩ := g
  exact impl_GuestOk.calls 6 a b d up slot epoch busy opK opS opA opB pc k n seq next who whoE own time was door beat entry A cA snap B cB plan code val count _ w h.1.1 h.1.2 h.2.1 h.2.2 (igok hp 0 up busy own slot epoch opK opS opA opB pc k n seq next who whoE time was door beat entry code val count snap plan)
end Go.Proofs.Ytfpdccaomhjpjaa.Gp
namespace Go.Proofs.Ytfpdccaomhjpjaa.Gq
open Go.RowKit Go.Proofs.Ytfpdccaomhjpjaa.PSPlatCheck Go.Proofs.Ytfpdccaomhjpjaa.PIPlatCheck Go.Proofs.YtfpdccaomhjpjaaW.PrintWords Go.Proofs.YtfpdccaomhjpjaaW.PrintLast Go.Proofs.YtfpdccaomhjpjaaW.PrintMore Go.Proofs.Ytfpdccaomhjpjaa.Pl Go.Proofs.Ytfpdccaomhjpjaa.Gu
theorem sval_eq {w : Int} (h : 0 ≤ w) : spec_CellVal.f w = some (wval w) := by
  unfold spec_CellVal.f; rw [val_spec h]
theorem within_eq (n a b : Int) : impl_within.f n a b = some (decide (a ≤ n ∧ n ≤ b)) := by
  unfold impl_within.f
  by_cases h : a ≤ n
  · rw [if_pos h]; congr 1; simp [h]
  · rw [if_neg h]; congr 1; simp [h]
theorem splatok_eq (a b c : Int) : spec_PlatOk.f a b c = some (decide (pok a b c)) := by
  unfold spec_PlatOk.f
  by_cases h : pok a b c
  · have h' := h
    unfold pok at h'
    rw [if_pos (by omega), if_pos (by omega), if_pos (by omega), if_pos (by omega), if_pos (by omega)]
    apply congrArg some
    rw [decide_eq_true h, decide_eq_true_eq]; omega
  · rw [decide_eq_false h]
    unfold pok at h
    repeat' split
    all_goals first | rfl | (apply congrArg some; rw [decide_eq_false_iff_not]; omega)
theorem iplatok_eq (a b c : Int) : impl_PlatOk.f a b c = some (decide (pok a b c)) := by
  unfold impl_PlatOk.f
  simp only [within_eq, Option.bind_some]
  by_cases h : pok a b c
  · have h' := h
    unfold pok at h'
    rw [decide_eq_true h, if_pos (by simp; omega), if_pos (by simp; omega)]
    apply congrArg some
    rw [decide_eq_true_eq]; omega
  · rw [decide_eq_false h]
    unfold pok at h
    repeat' split
    all_goals first | rfl | (apply congrArg some; rw [decide_eq_false_iff_not]; simp only [decide_eq_true_eq] at *; omega)
theorem low_eq (n m : Int) : spec_l1Low.f n m = some (cl n m) := by
  unfold spec_l1Low.f cl
  by_cases a : n < 0
  · rw [if_pos a, if_pos a]
  · rw [if_neg a, if_neg a]
    by_cases b : n > m
    · rw [if_pos b, if_pos b]
    · rw [if_neg b, if_neg b]
theorem spack_eq (v s : Int) : spec_CellPack.f v s = some (pack v s) := by
  unfold spec_CellPack.f; simp only [low_eq, Option.bind_some]; rw [pack_spec]
theorem shouse_eq {a b c : Int} (h : pok a b c) : spec_l2House.f a b c = some (house a b) := by
  unfold spec_l2House.f house; unfold pok at h; congr 1
  rw [w64 (n := 2 * a) (by omega) (by omega), w64 (n := 16 * b) (by omega) (by omega), w64 (n := 3 + 2 * a) (by omega) (by omega), w64 (n := 3 + 2 * a + 4) (by omega) (by omega), w64 (n := 3 + 2 * a + 4 + b) (by omega) (by omega), w64 (by omega) (by omega)]; omega
theorem ssize_eq {a b c : Int} (h : pok a b c) : spec_l2Size.f a b c = some (hsize a b) := by
  unfold spec_l2Size.f; rw [shouse_eq h]; simp only [Option.bind_some]; unfold house hsize; unfold pok at h; congr 1
  rw [w64 (n := a * 21) (by omega) (by omega), w64 (by omega) (by omega)]; omega
theorem smagic_eq {v : Int} (h0 : 0 ≤ v) (h1 : v ≤ 4294967295) : spec_l2Magic.f (v % 8) (v / 8 % 8) (v / 64) = some (pack v 201115) := by
  unfold spec_l2Magic.f
  rw [w64 (n := 8 * (v / 8 % 8)) (by omega) (by omega), w64 (n := 64 * (v / 64)) (by omega) (by omega), w64 (n := v % 8 + 8 * (v / 8 % 8)) (by omega) (by omega), w64 (by omega) (by omega), spack_eq]
  simp only [Option.bind_some]
  rw [show v % 8 + 8 * (v / 8 % 8) + 64 * (v / 64) = v from by omega]
theorem scheck_eq (l : List Int) (hl : ∀ x ∈ l, 0 ≤ x ∧ x ≤ 18446744073709551615) : spec_PlatCheck.f l = some (chk l) := by
  unfold spec_PlatCheck.f chk
  by_cases h0 : (l.length : Int) = 0
  · rw [if_pos h0, if_pos (by omega)]
  · rw [if_neg h0, if_pos (by omega), if_neg (by omega)]
    obtain ⟨w0, w1⟩ := hl _ (rd_mem l (i := 0) (by omega) (by omega))
    rw [sval_eq w0]
    have v0 := wval_lo (rd l 0)
    have v1 := wval_hi (rd l 0)
    simp only [Option.bind_some]
    rw [tdivp v0, tdivp v0, tmodp v0, w64 (n := wval (rd l 0) / 8) (by omega) (by omega), w64 (n := wval (rd l 0) / 64) (by omega) (by omega), tmodp (a := wval (rd l 0) / 8) (by omega), splatok_eq]
    simp only [Option.bind_some, decide_eq_true_eq]
    by_cases hp : pok (wval (rd l 0) % 8) (wval (rd l 0) / 8 % 8) (wval (rd l 0) / 64)
    · rw [if_pos hp, smagic_eq v0 v1, ssize_eq hp]
      simp only [Option.bind_some]
      have e := pack_iff w0 w1
      by_cases hs : wstamp (rd l 0) = 201115
      · rw [if_pos (e.2 hs)]
        by_cases hn : (l.length : Int) = hsize (wval (rd l 0) % 8) (wval (rd l 0) / 8 % 8)
        · rw [if_pos hn, if_pos ⟨hp, hs, hn⟩]
        · rw [if_neg hn, if_neg (fun h => hn h.2.2)]
      · rw [if_neg (fun h => hs (e.1 h)), if_neg (fun h => hs h.2.1)]
    · rw [if_neg hp, if_neg (fun h => hp h.1)]
theorem ival_eq {w : Int} (h : 0 ≤ w) (h1 : w ≤ 18446744073709551615) : impl_CellVal.f w = some (wval w) := by
  unfold impl_CellVal.f; rw [val_impl h h1]
theorem istamp_eq {w : Int} (h : 0 ≤ w) (h1 : w ≤ 18446744073709551615) : impl_CellStamp.f w = some (wstamp w) := by
  unfold impl_CellStamp.f; rw [stamp_impl h h1]
theorem beatAt_eq {a b c : Int} (h : pok a b c) : impl_PlatCfg_beatAt.f a b c = some (3 + a) := by
  unfold impl_PlatCfg_beatAt.f impl_PlatCfg_regAt.f; unfold pok at h; simp only [Option.bind_some]; rw [w64 (by omega) (by omega)]
theorem headAt_eq {a b c : Int} (h : pok a b c) : impl_PlatCfg_headAt.f a b c = some (3 + 2 * a) := by
  unfold impl_PlatCfg_headAt.f; rw [beatAt_eq h]; unfold pok at h; simp only [Option.bind_some]; rw [w64 (by omega) (by omega)]; congr 1; omega
theorem pageAt_eq {a b c : Int} (h : pok a b c) : impl_PlatCfg_pageAt.f a b c = some (7 + 2 * a) := by
  unfold impl_PlatCfg_pageAt.f; rw [headAt_eq h]; unfold pok at h; simp only [Option.bind_some]; rw [w64 (by omega) (by omega)]; congr 1; omega
theorem tagAt_eq {a b c : Int} (h : pok a b c) : impl_PlatCfg_tagAt.f a b c = some (7 + 2 * a + b) := by
  unfold impl_PlatCfg_tagAt.f; rw [pageAt_eq h]; unfold pok at h; simp only [Option.bind_some]; rw [w64 (by omega) (by omega)]
theorem linkAt_eq {a b c : Int} (h : pok a b c) : impl_PlatCfg_linkAt.f a b c = some (7 + 2 * a + 9 * b) := by
  unfold impl_PlatCfg_linkAt.f; rw [tagAt_eq h]; unfold pok at h; simp only [Option.bind_some]; rw [w64 (n := 8 * b) (by omega) (by omega), w64 (by omega) (by omega)]; congr 1; omega
theorem deskAt_eq {a b c : Int} (h : pok a b c) : impl_PlatCfg_deskAt.f a b c = some (house a b) := by
  unfold impl_PlatCfg_deskAt.f; rw [linkAt_eq h]; unfold house; unfold pok at h; simp only [Option.bind_some]; rw [w64 (n := 8 * b) (by omega) (by omega), w64 (by omega) (by omega)]; congr 1; omega
theorem isize_eq {a b c : Int} (h : pok a b c) : impl_PlatCfg_size.f a b c = some (hsize a b) := by
  unfold impl_PlatCfg_size.f; rw [deskAt_eq h]; unfold house hsize; unfold pok at h; simp only [Option.bind_some]; rw [w64 (n := a * 21) (by omega) (by omega), w64 (by omega) (by omega)]; congr 1; omega
theorem icfg_eq (l : List Int) (hl : ∀ x ∈ l, 0 ≤ x ∧ x ≤ 18446744073709551615) (k : Nat) (hk : 0 < k) : impl_cfgOf.f k l = some (cfgd l) := by
  obtain ⟨k, rfl⟩ : ∃ m, k = m + 1 := ⟨k - 1, by omega⟩
  unfold impl_cfgOf.f cfgd
  by_cases h0 : (l.length : Int) = 0
  · rw [if_pos h0, if_pos (by omega)]; simp only [impl_cfgOf.j0, if_true]
  · rw [if_neg h0, if_pos (by omega), if_neg (by omega)]
    obtain ⟨w0, w1⟩ := hl _ (rd_mem l (i := 0) (by omega) (by omega))
    rw [istamp_eq w0 w1]
    have v0 := wval_lo (rd l 0)
    have v1 := wval_hi (rd l 0)
    simp only [Option.bind_some, impl_cfgOf.j0]
    by_cases hs : wstamp (rd l 0) = 201115
    · rw [if_neg (by simp [hs]), if_pos (by omega), ival_eq w0 w1]
      simp only [Option.bind_some]
      rw [tdivp v0, tdivp v0, tmodp v0, w64 (n := wval (rd l 0) / 8) (by omega) (by omega), w64 (n := wval (rd l 0) / 64) (by omega) (by omega), tmodp (a := wval (rd l 0) / 8) (by omega), iplatok_eq]
      simp only [Option.bind_some]
      rw [if_pos hs]
    · rw [if_pos (by simpa using hs), if_neg hs]
theorem icheck_eq (l : List Int) (hl : ∀ x ∈ l, 0 ≤ x ∧ x ≤ 18446744073709551615) (k : Nat) (hk : 0 < k) : impl_PlatCheck.f k l = some (chk l) := by
  unfold impl_PlatCheck.f
  rw [icfg_eq l hl k hk]; simp only [Option.bind_some]
  unfold cfgd chk
  by_cases h0 : l.length = 0
  · rw [if_pos h0, if_pos h0]; rfl
  · rw [if_neg h0, if_neg h0]
    by_cases hs : wstamp (rd l 0) = 201115
    · rw [if_pos hs]
      simp only [decide_eq_true_eq]
      by_cases hp : pok (wval (rd l 0) % 8) (wval (rd l 0) / 8 % 8) (wval (rd l 0) / 64)
      · rw [if_pos hp, isize_eq hp]
        simp only [Option.bind_some]
        by_cases hn : (l.length : Int) = hsize (wval (rd l 0) % 8) (wval (rd l 0) / 8 % 8)
        · rw [if_pos hn, if_pos ⟨hp, hs, hn⟩]
        · rw [if_neg hn, if_neg (fun h => hn h.2.2)]
      · rw [if_neg hp, if_neg (fun h => hp h.1)]
    · rw [if_neg hs]; simp only [Bool.false_eq_true, if_false]; rw [if_neg (fun h => hs h.2.1)]

theorem checks22 (l : List Int) (hl : ∀ x ∈ l, 0 ≤ x ∧ x ≤ 18446744073709551615) : Checks 22 l (chk l).1 (chk l).2.1 (chk l).2.2.1 (chk l).2.2.2 := by
  intro A c w h
  exact spec_PlatCheck.calls A c l _ _ _ _ w h.1 h.2 (scheck_eq l hl)
theorem checks29 (l : List Int) (hl : ∀ x ∈ l, 0 ≤ x ∧ x ≤ 18446744073709551615) : Checks 29 l (chk l).1 (chk l).2.1 (chk l).2.2.1 (chk l).2.2.2 := by
  intro A c w h
  exact impl_PlatCheck.calls 1 A c l _ _ _ _ w h.1 h.2 (icheck_eq l hl 1 (by omega))
end Go.Proofs.Ytfpdccaomhjpjaa.Gq

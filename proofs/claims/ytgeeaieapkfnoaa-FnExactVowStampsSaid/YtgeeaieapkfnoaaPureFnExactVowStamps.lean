/- For all words, the program and the reference agree on whether the stamps of a memory are as they should be, and leave the words as they were; at most 2^20 words, else the law answers true at once. -/
import Derived.Test.YtgeeaieapkfnoaaPFnExactVowStampsx8
import Derived.Test.YtgeeaieapkfnoaaPl
set_option linter.unusedVariables false
set_option linter.unusedSimpArgs false
namespace Go.Proofs.Ytgeeaieapkfnoaa.Pure
open Go.RowKit Go.Proofs.Ytgeeaieapkfnoaa.PFnExactVowStamps Go.Proofs.YtgeeaieapkfnoaaW.PrintWords Go.Proofs.YtgeeaieapkfnoaaW.PrintLast Go.Proofs.YtgeeaieapkfnoaaW.PrintMore Go.Proofs.Ytgeeaieapkfnoaa.Pl

theorem to64_l (x : List Int) (hn : x.length ≤ 35184372088832) (d : Nat) : ∀ (k i : Nat), i ≤ x.length → x.length - i = d → d < k → laws_toUint64S.l0 k x (x.take i ++ List.replicate (x.length - i) 0) i = some x := by
  induction d with
  | zero =>
    intro k i hi hd hk
    obtain ⟨k, rfl⟩ : ∃ m, k = m + 1 := ⟨k - 1, by omega⟩
    have e : i = x.length := by omega
    subst e
    simp only [laws_toUint64S.l0]
    rw [if_neg (by omega)]; simp
  | succ d ih =>
    intro k i hi hd hk
    obtain ⟨k, rfl⟩ : ∃ m, k = m + 1 := ⟨k - 1, by omega⟩
    simp only [laws_toUint64S.l0]
    rw [if_pos (by omega), if_pos (by omega), if_pos (by rw [List.length_append, List.length_take, List.length_replicate]; omega), Int.toNat_natCast, rd_nat x i (by omega), take_set x 0 i (by omega), w64 (by omega) (by omega), succ_cast]
    exact ih k (i + 1) (by omega) (by omega) (by omega)
theorem to64 (x : List Int) (hn : x.length ≤ 35184372088832) (k : Nat) (hk : x.length < k) : laws_toUint64S.f k x = some x := by
  unfold laws_toUint64S.f
  rw [if_pos (by omega), if_pos (by omega), Int.toNat_natCast]
  have := to64_l x hn x.length k 0 (by omega) (by omega) (by omega)
  simpa using this
theorem eq64_l (x : List Int) (hn : x.length ≤ 35184372088832) (d : Nat) : ∀ (k i : Nat), i ≤ x.length → x.length - i = d → d < k → laws_eqUint64S.l0 k x x i = some true := by
  induction d with
  | zero =>
    intro k i hi hd hk
    obtain ⟨k, rfl⟩ : ∃ m, k = m + 1 := ⟨k - 1, by omega⟩
    simp only [laws_eqUint64S.l0]
    rw [if_neg (by omega)]
  | succ d ih =>
    intro k i hi hd hk
    obtain ⟨k, rfl⟩ : ∃ m, k = m + 1 := ⟨k - 1, by omega⟩
    simp only [laws_eqUint64S.l0]
    rw [if_pos (by omega), if_pos (by omega), if_pos (by omega), if_pos trivial, w64 (by omega) (by omega), succ_cast]
    exact ih k (i + 1) (by omega) (by omega) (by omega)
theorem eq64 (x : List Int) (hn : x.length ≤ 35184372088832) (k : Nat) (hk : x.length < k) : laws_eqUint64S.f k x x = some true := by
  unfold laws_eqUint64S.f
  rw [if_pos rfl]
  exact eq64_l x hn x.length k 0 (by omega) (by omega) (by omega)
theorem sval_eq {w : Int} (h : 0 ≤ w) : spec_CellVal.f w = some (wval w) := by
  unfold spec_CellVal.f; rw [val_spec h]
theorem within_eq (n a b : Int) : impl_within.f n a b = some (decide (a ≤ n ∧ n ≤ b)) := by
  unfold impl_within.f
  by_cases h : a ≤ n
  · rw [if_pos h]; congr 1; simp [h]
  · rw [if_neg h]; congr 1; simp [h]
theorem splatok_eq (a b c : Int) : spec_PlatOk.f a b c = some (decide (pok a b c)) := by
  unfold spec_PlatOk.f
  by_cases h : pok a b c
  · have h' := h
    unfold pok at h'
    rw [if_pos (by omega), if_pos (by omega), if_pos (by omega), if_pos (by omega), if_pos (by omega)]
    apply congrArg some
    rw [decide_eq_true h, decide_eq_true_eq]; omega
  · rw [decide_eq_false h]
    unfold pok at h
    repeat' split
    all_goals first | rfl | (apply congrArg some; rw [decide_eq_false_iff_not]; omega)
theorem iplatok_eq (a b c : Int) : impl_PlatOk.f a b c = some (decide (pok a b c)) := by
  unfold impl_PlatOk.f
  simp only [within_eq, Option.bind_some]
  by_cases h : pok a b c
  · have h' := h
    unfold pok at h'
    rw [decide_eq_true h, if_pos (by simp; omega), if_pos (by simp; omega)]
    apply congrArg some
    rw [decide_eq_true_eq]; omega
  · rw [decide_eq_false h]
    unfold pok at h
    repeat' split
    all_goals first | rfl | (apply congrArg some; rw [decide_eq_false_iff_not]; simp only [decide_eq_true_eq] at *; omega)
theorem low_eq (n m : Int) : spec_l1Low.f n m = some (cl n m) := by
  unfold spec_l1Low.f cl
  by_cases a : n < 0
  · rw [if_pos a, if_pos a]
  · rw [if_neg a, if_neg a]
    by_cases b : n > m
    · rw [if_pos b, if_pos b]
    · rw [if_neg b, if_neg b]
theorem spack_eq (v s : Int) : spec_CellPack.f v s = some (pack v s) := by
  unfold spec_CellPack.f; simp only [low_eq, Option.bind_some]; rw [pack_spec]
theorem shouse_eq {a b c : Int} (h : pok a b c) : spec_l2House.f a b c = some (house a b) := by
  unfold spec_l2House.f house; unfold pok at h; congr 1
  rw [w64 (n := 2 * a) (by omega) (by omega), w64 (n := 16 * b) (by omega) (by omega), w64 (n := 3 + 2 * a) (by omega) (by omega), w64 (n := 3 + 2 * a + 4) (by omega) (by omega), w64 (n := 3 + 2 * a + 4 + b) (by omega) (by omega), w64 (by omega) (by omega)]; omega
theorem ssize_eq {a b c : Int} (h : pok a b c) : spec_l2Size.f a b c = some (hsize a b) := by
  unfold spec_l2Size.f; rw [shouse_eq h]; simp only [Option.bind_some]; unfold house hsize; unfold pok at h; congr 1
  rw [w64 (n := a * 21) (by omega) (by omega), w64 (by omega) (by omega)]; omega
theorem smagic_eq {v : Int} (h0 : 0 ≤ v) (h1 : v ≤ 4294967295) : spec_l2Magic.f (v % 8) (v / 8 % 8) (v / 64) = some (pack v 201115) := by
  unfold spec_l2Magic.f
  rw [w64 (n := 8 * (v / 8 % 8)) (by omega) (by omega), w64 (n := 64 * (v / 64)) (by omega) (by omega), w64 (n := v % 8 + 8 * (v / 8 % 8)) (by omega) (by omega), w64 (by omega) (by omega), spack_eq]
  simp only [Option.bind_some]
  rw [show v % 8 + 8 * (v / 8 % 8) + 64 * (v / 64) = v from by omega]
theorem scheck_eq (l : List Int) (hl : ∀ x ∈ l, 0 ≤ x ∧ x ≤ 18446744073709551615) : spec_PlatCheck.f l = some (chk l) := by
  unfold spec_PlatCheck.f chk
  by_cases h0 : (l.length : Int) = 0
  · rw [if_pos h0, if_pos (by omega)]
  · rw [if_neg h0, if_pos (by omega), if_neg (by omega)]
    obtain ⟨w0, w1⟩ := hl _ (rd_mem l (i := 0) (by omega) (by omega))
    rw [sval_eq w0]
    have v0 := wval_lo (rd l 0)
    have v1 := wval_hi (rd l 0)
    simp only [Option.bind_some]
    rw [tdivp v0, tdivp v0, tmodp v0, w64 (n := wval (rd l 0) / 8) (by omega) (by omega), w64 (n := wval (rd l 0) / 64) (by omega) (by omega), tmodp (a := wval (rd l 0) / 8) (by omega), splatok_eq]
    simp only [Option.bind_some, decide_eq_true_eq]
    by_cases hp : pok (wval (rd l 0) % 8) (wval (rd l 0) / 8 % 8) (wval (rd l 0) / 64)
    · rw [if_pos hp, smagic_eq v0 v1, ssize_eq hp]
      simp only [Option.bind_some]
      have e := pack_iff w0 w1
      by_cases hs : wstamp (rd l 0) = 201115
      · rw [if_pos (e.2 hs)]
        by_cases hn : (l.length : Int) = hsize (wval (rd l 0) % 8) (wval (rd l 0) / 8 % 8)
        · rw [if_pos hn, if_pos ⟨hp, hs, hn⟩]
        · rw [if_neg hn, if_neg (fun h => hn h.2.2)]
      · rw [if_neg (fun h => hs (e.1 h)), if_neg (fun h => hs h.2.1)]
    · rw [if_neg hp, if_neg (fun h => hp h.1)]
theorem ival_eq {w : Int} (h : 0 ≤ w) (h1 : w ≤ 18446744073709551615) : impl_CellVal.f w = some (wval w) := by
  unfold impl_CellVal.f; rw [val_impl h h1]
theorem istamp_eq {w : Int} (h : 0 ≤ w) (h1 : w ≤ 18446744073709551615) : impl_CellStamp.f w = some (wstamp w) := by
  unfold impl_CellStamp.f; rw [stamp_impl h h1]
theorem beatAt_eq {a b c : Int} (h : pok a b c) : impl_PlatCfg_beatAt.f a b c = some (3 + a) := by
  unfold impl_PlatCfg_beatAt.f impl_PlatCfg_regAt.f; unfold pok at h; simp only [Option.bind_some]; rw [w64 (by omega) (by omega)]
theorem headAt_eq {a b c : Int} (h : pok a b c) : impl_PlatCfg_headAt.f a b c = some (3 + 2 * a) := by
  unfold impl_PlatCfg_headAt.f; rw [beatAt_eq h]; unfold pok at h; simp only [Option.bind_some]; rw [w64 (by omega) (by omega)]; congr 1; omega
theorem pageAt_eq {a b c : Int} (h : pok a b c) : impl_PlatCfg_pageAt.f a b c = some (7 + 2 * a) := by
  unfold impl_PlatCfg_pageAt.f; rw [headAt_eq h]; unfold pok at h; simp only [Option.bind_some]; rw [w64 (by omega) (by omega)]; congr 1; omega
theorem tagAt_eq {a b c : Int} (h : pok a b c) : impl_PlatCfg_tagAt.f a b c = some (7 + 2 * a + b) := by
  unfold impl_PlatCfg_tagAt.f; rw [pageAt_eq h]; unfold pok at h; simp only [Option.bind_some]; rw [w64 (by omega) (by omega)]
theorem linkAt_eq {a b c : Int} (h : pok a b c) : impl_PlatCfg_linkAt.f a b c = some (7 + 2 * a + 9 * b) := by
  unfold impl_PlatCfg_linkAt.f; rw [tagAt_eq h]; unfold pok at h; simp only [Option.bind_some]; rw [w64 (n := 8 * b) (by omega) (by omega), w64 (by omega) (by omega)]; congr 1; omega
theorem deskAt_eq {a b c : Int} (h : pok a b c) : impl_PlatCfg_deskAt.f a b c = some (house a b) := by
  unfold impl_PlatCfg_deskAt.f; rw [linkAt_eq h]; unfold house; unfold pok at h; simp only [Option.bind_some]; rw [w64 (n := 8 * b) (by omega) (by omega), w64 (by omega) (by omega)]; congr 1; omega
theorem isize_eq {a b c : Int} (h : pok a b c) : impl_PlatCfg_size.f a b c = some (hsize a b) := by
  unfold impl_PlatCfg_size.f; rw [deskAt_eq h]; unfold house hsize; unfold pok at h; simp only [Option.bind_some]; rw [w64 (n := a * 21) (by omega) (by omega), w64 (by omega) (by omega)]; congr 1; omega
theorem icfg_eq (l : List Int) (hl : ∀ x ∈ l, 0 ≤ x ∧ x ≤ 18446744073709551615) (k : Nat) (hk : 0 < k) : impl_cfgOf.f k l = some (cfgd l) := by
  obtain ⟨k, rfl⟩ : ∃ m, k = m + 1 := ⟨k - 1, by omega⟩
  unfold impl_cfgOf.f cfgd
  by_cases h0 : (l.length : Int) = 0
  · rw [if_pos h0, if_pos (by omega)]; simp only [impl_cfgOf.j0, if_true]
  · rw [if_neg h0, if_pos (by omega), if_neg (by omega)]
    obtain ⟨w0, w1⟩ := hl _ (rd_mem l (i := 0) (by omega) (by omega))
    rw [istamp_eq w0 w1]
    have v0 := wval_lo (rd l 0)
    have v1 := wval_hi (rd l 0)
    simp only [Option.bind_some, impl_cfgOf.j0]
    by_cases hs : wstamp (rd l 0) = 201115
    · rw [if_neg (by simp [hs]), if_pos (by omega), ival_eq w0 w1]
      simp only [Option.bind_some]
      rw [tdivp v0, tdivp v0, tmodp v0, w64 (n := wval (rd l 0) / 8) (by omega) (by omega), w64 (n := wval (rd l 0) / 64) (by omega) (by omega), tmodp (a := wval (rd l 0) / 8) (by omega), iplatok_eq]
      simp only [Option.bind_some]
      rw [if_pos hs]
    · rw [if_pos (by simpa using hs), if_neg hs]
theorem icheck_eq (l : List Int) (hl : ∀ x ∈ l, 0 ≤ x ∧ x ≤ 18446744073709551615) (k : Nat) (hk : 0 < k) : impl_PlatCheck.f k l = some (chk l) := by
  unfold impl_PlatCheck.f
  rw [icfg_eq l hl k hk]; simp only [Option.bind_some]
  unfold cfgd chk
  by_cases h0 : l.length = 0
  · rw [if_pos h0, if_pos h0]; rfl
  · rw [if_neg h0, if_neg h0]
    by_cases hs : wstamp (rd l 0) = 201115
    · rw [if_pos hs]
      simp only [decide_eq_true_eq]
      by_cases hp : pok (wval (rd l 0) % 8) (wval (rd l 0) / 8 % 8) (wval (rd l 0) / 64)
      · rw [if_pos hp, isize_eq hp]
        simp only [Option.bind_some]
        by_cases hn : (l.length : Int) = hsize (wval (rd l 0) % 8) (wval (rd l 0) / 8 % 8)
        · rw [if_pos hn, if_pos ⟨hp, hs, hn⟩]
        · rw [if_neg hn, if_neg (fun h => hn h.2.2)]
      · rw [if_neg hp, if_neg (fun h => hp h.1)]
    · rw [if_neg hs]; simp only [Bool.false_eq_true, if_false]; rw [if_neg (fun h => hs h.2.1)]
theorem sdoorof_eq {w : Int} (h0 : 0 ≤ w) : spec_CellDoorOf.f w = some (wval w % 4, wval w / 4 % 8, wval w / 32) := by
  unfold spec_CellDoorOf.f
  have a := wval_lo w
  have b := wval_hi w
  simp only [sval_eq h0, Option.bind_some]
  rw [tmodp a, tdivp a, tdivp a, w64 (n := wval w / 4) (by omega) (by omega), w64 (n := wval w / 32) (by omega) (by omega), tmodp (a := wval w / 4) (by omega)]
theorem idoorof_eq {w : Int} (h0 : 0 ≤ w) (h1 : w ≤ 18446744073709551615) : impl_CellDoorOf.f w = some (wval w % 4, wval w / 4 % 8, wval w / 32) := by
  unfold impl_CellDoorOf.f
  have a := wval_lo w
  have b := wval_hi w
  simp only [ival_eq h0 h1, Option.bind_some]
  rw [tmodp a, tdivp a, tdivp a, w64 (n := wval w / 4) (by omega) (by omega), w64 (n := wval w / 32) (by omega) (by omega), tmodp (a := wval w / 4) (by omega)]
theorem l2at_no {a b c : Int} (h : ¬ pok a b c) (f n m s : Int) : spec_l2At.f a b c f n m s = some 0 := by
  unfold spec_l2At.f; simp only [splatok_eq, Option.bind_some, decide_eq_true_eq, if_neg h]
theorem l2at_yes {a b c : Int} (h : pok a b c) {f n m s : Int} (f0 : 0 ≤ f) (f1 : f ≤ 1000) (m1 : m ≤ 1000) (s0 : 0 ≤ s) (s1 : s ≤ 100) :
    spec_l2At.f a b c f n m s = some (if 0 ≤ n ∧ n < m then f + n * s else 0) := by
  unfold spec_l2At.f; simp only [splatok_eq, Option.bind_some, decide_eq_true_eq, if_pos h]
  by_cases h0 : n < 0
  · rw [if_pos h0, if_neg (by omega)]
  · rw [if_neg h0]
    by_cases h1 : n ≥ m
    · rw [if_pos h1, if_neg (by omega)]
    · have e0 : 0 ≤ n * s := Int.mul_nonneg (by omega) s0
      have e1 : n * s ≤ 1000 * 100 := Int.mul_le_mul (by omega) s1 s0 (by omega)
      rw [if_neg h1, if_pos (by omega), w64 (n := n * s) (by omega) (by omega), w64 (by omega) (by omega)]
theorem sreg_eq {a b c n : Int} (h : pok a b c) : spec_PlatReg.f a b c n = some (if 0 ≤ n ∧ n < a then 3 + n else 0) := by
  unfold spec_PlatReg.f; rw [l2at_yes h (by omega) (by omega) (by unfold pok at h; omega) (by omega) (by omega), Int.mul_one]; rfl
theorem sbeat_eq {a b c n : Int} (h : pok a b c) : spec_PlatBeat.f a b c n = some (if 0 ≤ n ∧ n < a then 3 + a + n else 0) := by
  have h' := h
  unfold pok at h'
  unfold spec_PlatBeat.f; rw [w64 (n := 3 + a) (by omega) (by omega), l2at_yes h (by omega) (by omega) (by omega) (by omega) (by omega), Int.mul_one]; rfl
theorem sstamp_eq {w : Int} (h : 0 ≤ w) (h1 : w ≤ 18446744073709551615) : spec_CellStamp.f w = some (wstamp w) := by
  unfold spec_CellStamp.f; rw [stamp_spec h h1]
section
variable {l : List Int} (hr : ∀ i : Int, 0 ≤ i → i < (l.length : Int) → 0 ≤ rd l i ∧ rd l i ≤ 18446744073709551615)
include hr
theorem stampOf_eq {i : Int} (h0 : 0 ≤ i) (h1 : i < (l.length : Int)) (h2 : 2 < (l.length : Int)) (k : Nat) (hk : 0 < k) :
    spec_l10Stamp.f k l i = some (decide (if wval (rd l 2) % 4 = 2 then wstamp (rd l i) ≤ wstamp (rd l 2) else if wval (rd l 2) % 4 = 1 ∧ wstamp (rd l i) = wstamp (rd l 2) then True else wstamp (rd l i) < wstamp (rd l 2))) := by
  obtain ⟨k, rfl⟩ : ∃ m, k = m + 1 := ⟨k - 1, by omega⟩
  obtain ⟨b0, b1⟩ := hr i h0 h1
  obtain ⟨c0, c1⟩ := hr 2 (by omega) h2
  unfold spec_l10Stamp.f
  rw [if_pos h2, sdoorof_eq c0]
  simp only [Option.bind_some]
  rw [if_pos h0, if_pos h1, sstamp_eq b0 b1]
  simp only [Option.bind_some, spec_l10Stamp.j0]
  by_cases s2 : wval (rd l 2) % 4 = 2
  · rw [if_pos s2, if_pos trivial, sstamp_eq c0 c1]
    simp only [Option.bind_some, if_pos s2]
  · rw [if_neg s2, if_pos h0]
    by_cases s1 : wval (rd l 2) % 4 = 1
    · rw [if_pos s1, sstamp_eq c0 c1]
      simp only [Option.bind_some, if_neg s2, s1, true_and]
      by_cases e : wstamp (rd l i) = wstamp (rd l 2)
      · simp [e]
      · simp [e]
    · rw [if_neg s1, if_neg (by decide), sstamp_eq c0 c1]
      simp only [Option.bind_some, if_neg s2, s1, false_and, if_false]
theorem body_eq {a b c : Int} (hp : pok a b c) (hn : (l.length : Int) = hsize a b) {i : Int} (h0 : 0 ≤ i) (h1 : i < (l.length : Int)) (m : Nat) (hm : 0 < m) :
    spec_l10House.j1 (m + 1) l (wval (rd l 2) % 4) i false a b c =
      if wstamp (rd l i) > wstamp (rd l 2) ∨ wstamp (rd l i) = wstamp (rd l 2) ∧ wval (rd l 2) % 4 ≠ 2 ∧ (wval (rd l 2) % 4 ≠ 1 ∨ i < house a b) then some false else spec_l10House.l0 m l (wval (rd l 2) % 4) (i + 1) a b c := by
  have hp' := hp
  unfold pok at hp'
  unfold hsize at hn
  obtain ⟨b0, b1⟩ := hr i h0 h1
  obtain ⟨c0, c1⟩ := hr 2 (by omega) (by omega)
  simp only [spec_l10House.j1, Bool.false_eq_true, if_false]
  rw [stampOf_eq hr h0 h1 (by omega) m hm]
  simp only [Option.bind_some, decide_eq_true_eq]
  rw [shouse_eq hp]
  simp only [Option.bind_some]
  rw [sstamp_eq b0 b1, sstamp_eq c0 c1, w64 (n := i + 1) (by omega) (by omega)]
  simp only [Option.bind_some]
  rw [if_pos h0, if_pos h1, if_pos (show (2 : Int) < l.length from by omega)]
  rcases Int.lt_trichotomy (wstamp (rd l i)) (wstamp (rd l 2)) with g | g | g
  · rw [if_neg (show ¬ (wstamp (rd l i) > wstamp (rd l 2) ∨ _) from by omega)]
    rw [if_pos (by split; · omega
                   · split; · trivial
                     · exact g)]
    rw [if_neg (show ¬ wstamp (rd l i) = wstamp (rd l 2) from by omega)]
    split
    · split <;> rfl
    · rfl
  · by_cases s2 : wval (rd l 2) % 4 = 2
    · rw [if_neg (show ¬ (wstamp (rd l i) > wstamp (rd l 2) ∨ _) from by omega), if_pos (by rw [if_pos s2]; omega), if_neg (show ¬ wval (rd l 2) % 4 = 1 from by omega)]
      split <;> rfl
    · by_cases s1 : wval (rd l 2) % 4 = 1
      · rw [if_pos (show (if wval (rd l 2) % 4 = 2 then _ else _) from by rw [if_neg s2, if_pos ⟨s1, g⟩]; trivial), if_pos s1, if_pos g]
        by_cases q : i < house a b
        · rw [if_pos q, if_pos (by omega)]
        · rw [if_neg q, if_neg (by omega)]
      · rw [if_neg (show ¬ (if wval (rd l 2) % 4 = 2 then _ else _) from by rw [if_neg s2, if_neg (fun h => s1 h.1)]; omega), if_pos (by omega)]
  · rw [if_pos (show (wstamp (rd l i) > wstamp (rd l 2) ∨ _) from .inl g), if_neg (by split; · omega
                                                                                      · split; · omega
                                                                                        · omega)]
theorem vow_loop {a b c : Int} (hp : pok a b c) (hn : (l.length : Int) = hsize a b) (d : Nat) : ∀ (k k' : Nat) (i : Int), 3 ≤ i → i ≤ (l.length : Int) → (l.length : Int) - i = d → 3 * d + 3 ≤ k → d + 1 ≤ k' →
    ∃ r, spec_l10House.l0 k l (wval (rd l 2) % 4) i a b c = some r ∧ impl_VowStamps.l0 k' l (wval (rd l 2) % 4) (wstamp (rd l 2)) i a b c = some r := by
  have hp' := hp
  unfold pok at hp'
  have hn' := hn
  unfold hsize at hn'
  induction d with
  | zero =>
    intro k k' i h0 h1 hd hk hk'
    obtain ⟨k, rfl⟩ : ∃ m, k = m + 1 := ⟨k - 1, by omega⟩
    obtain ⟨k', rfl⟩ : ∃ m, k' = m + 1 := ⟨k' - 1, by omega⟩
    refine ⟨true, ?_, ?_⟩
    · simp only [spec_l10House.l0]; rw [if_neg (by omega)]
    · simp only [impl_VowStamps.l0]; rw [if_neg (by omega)]
  | succ d ih =>
    intro k k' i h0 h1 hd hk hk'
    obtain ⟨k, rfl⟩ : ∃ m, k = m + 1 + 1 := ⟨k - 2, by omega⟩
    obtain ⟨k', rfl⟩ : ∃ m, k' = m + 1 := ⟨k' - 1, by omega⟩
    obtain ⟨r, r1, r2⟩ := ih k k' (i + 1) (by omega) (by omega) (by omega) (by omega) (by omega)
    obtain ⟨b0, b1⟩ := hr i (by omega) (by omega)
    have e1 : spec_l10House.l0 (k + 1 + 1) l (wval (rd l 2) % 4) i a b c = spec_l10House.j1 (k + 1) l (wval (rd l 2) % 4) i (decide (3 + a ≤ i ∧ i < 3 + 2 * a)) a b c := by
      rw [show spec_l10House.l0 (k + 1 + 1) l (wval (rd l 2) % 4) i a b c = _ from by rw [spec_l10House.l0]]
      rw [if_pos (by omega), sbeat_eq hp, if_pos (by omega)]
      simp only [Option.bind_some, Int.add_zero]
      rw [w64 (n := 3 + a + a) (by omega) (by omega)]
      by_cases q : i ≥ 3 + a
      · rw [if_pos q]; congr 1; simp only [decide_eq_decide]; omega
      · rw [if_neg q, show decide (3 + a ≤ i ∧ i < 3 + 2 * a) = false from by simp; omega]
    have e2 : impl_VowStamps.l0 (k' + 1) l (wval (rd l 2) % 4) (wstamp (rd l 2)) i a b c =
        if 3 + a ≤ i ∧ i < 3 + 2 * a then impl_VowStamps.l0 k' l (wval (rd l 2) % 4) (wstamp (rd l 2)) (i + 1) a b c else
        if wstamp (rd l i) > wstamp (rd l 2) ∨ wstamp (rd l i) = wstamp (rd l 2) ∧ wval (rd l 2) % 4 ≠ 2 ∧ (wval (rd l 2) % 4 ≠ 1 ∨ i < house a b) then some false else impl_VowStamps.l0 k' l (wval (rd l 2) % 4) (wstamp (rd l 2)) (i + 1) a b c := by
      rw [show impl_VowStamps.l0 (k' + 1) l (wval (rd l 2) % 4) (wstamp (rd l 2)) i a b c = _ from by rw [impl_VowStamps.l0]]
      rw [if_pos (by omega), beatAt_eq hp, headAt_eq hp, deskAt_eq hp]
      simp only [Option.bind_some]
      rw [w64 (n := 3 + 2 * a - 1) (by omega) (by omega), within_eq, w64 (n := i + 1) (by omega) (by omega), istamp_eq b0 b1]
      simp only [Option.bind_some, decide_eq_true_eq]
      by_cases q : 3 + a ≤ i ∧ i < 3 + 2 * a
      · rw [if_pos (by omega), if_pos q]
      · rw [if_neg (by omega), if_neg q, if_pos (by omega)]
        rcases Int.lt_trichotomy (wstamp (rd l i)) (wstamp (rd l 2)) with g | g | g
        · rw [if_neg (by omega), if_neg (by omega), if_neg (by omega)]
        · rw [if_neg (show ¬ wstamp (rd l i) > wstamp (rd l 2) from by omega), if_pos g]
          by_cases s2 : wval (rd l 2) % 4 = 2
          · rw [if_pos s2, if_neg (by omega)]
          · rw [if_neg s2]
            by_cases s1 : wval (rd l 2) % 4 = 1
            · rw [if_pos s1]
              by_cases q : i < house a b
              · rw [if_pos q, if_pos (by omega)]
              · rw [if_neg q, if_neg (by omega)]
            · rw [if_neg s1, if_pos (by omega)]
        · rw [if_pos g, if_pos (.inl g)]
    rw [e1, e2]
    by_cases q : 3 + a ≤ i ∧ i < 3 + 2 * a
    · rw [show decide (3 + a ≤ i ∧ i < 3 + 2 * a) = true from by simpa using q, if_pos q]
      refine ⟨r, ?_, r2⟩
      simp only [spec_l10House.j1, if_true]
      rw [w64 (n := i + 1) (by omega) (by omega)]; exact r1
    · rw [show decide (3 + a ≤ i ∧ i < 3 + 2 * a) = false from by simpa using q, if_neg q, body_eq hr hp hn (by omega) (by omega) k (by omega)]
      by_cases t : wstamp (rd l i) > wstamp (rd l 2) ∨ wstamp (rd l i) = wstamp (rd l 2) ∧ wval (rd l 2) % 4 ≠ 2 ∧ (wval (rd l 2) % 4 ≠ 1 ∨ i < house a b)
      · rw [if_pos t, if_pos t]; exact ⟨false, rfl, rfl⟩
      · rw [if_neg t, if_neg t]; exact ⟨r, r1, r2⟩
end
theorem FnExactVowStamps : ∀ (l0 : List Int), (l0.length ≤ 9223372036854775807 ∧ ∀ y0 ∈ l0, (Lit.int .u64 y0).wf = true) → ∃ k, laws_FnExactVowStamps.f k l0 = some true := by
  intro l ⟨hm, hw⟩
  have hl := words_ok hw
  refine ⟨3 * l.length + 3, ?_⟩
  unfold laws_FnExactVowStamps.f
  by_cases h : (l.length : Int) > 1048576
  · rw [if_pos h]
  · rw [if_neg h, to64 l (by omega) _ (by omega)]
    simp only [Option.bind_some]
    suffices hs : ∃ r, spec_VowStamps.f (3 * l.length + 3) l = some r ∧ impl_VowStamps.f (3 * l.length + 3) l = some r by
      obtain ⟨r, h1, h2⟩ := hs
      rw [h1, h2]
      simp only [Option.bind_some, bne_self_eq_false, Bool.false_eq_true, if_false]
      rw [eq64 l (by omega) _ (by omega)]
      simp
    have hr : ∀ i : Int, 0 ≤ i → i < (l.length : Int) → 0 ≤ rd l i ∧ rd l i ≤ 18446744073709551615 := fun i h0 h1 => hl _ (rd_mem l h0 h1)
    unfold spec_VowStamps.f impl_VowStamps.f
    rw [scheck_eq l hl, icheck_eq l hl _ (by omega)]
    rcases chk_cases l with e | ⟨a, b, c, e, hp, hsz⟩
    · rw [e]; exact ⟨false, by simp, by simp⟩
    · rw [e]
      have hp' := hp
      unfold pok at hp'
      have hsz' := hsz
      unfold hsize at hsz'
      obtain ⟨c0, c1⟩ := hr 2 (by omega) (by omega)
      obtain ⟨r, r1, r2⟩ := vow_loop hr hp hsz (l.length - 3) (3 * l.length + 3) (3 * l.length + 3) 3 (by omega) (by omega) (by omega) (by omega) (by omega)
      refine ⟨r, ?_, ?_⟩
      · unfold spec_l10House.f
        simp only [Option.bind_some, if_true]
        rw [if_pos (by omega), sdoorof_eq c0, sreg_eq hp, if_pos (by omega)]
        simp only [Option.bind_some, Int.add_zero]
        rw [r1]; rfl
      · unfold impl_PlatCfg_regAt.f
        simp only [Option.bind_some, if_true]
        rw [if_pos (by omega), idoorof_eq c0 c1, istamp_eq c0 c1]
        simp only [Option.bind_some]
        exact r2

end Go.Proofs.Ytgeeaieapkfnoaa.Pure

/- FnPlat: the places of a house, in plain numbers. -/
import Derived.Test.YtbcpkbbdmkmpkaaPFnPlatx4
import Derived.Test.YtbcpkbbdmkmpkaaPl
set_option linter.unusedVariables false
set_option linter.unusedSimpArgs false
namespace Go.Proofs.Ytbcpkbbdmkmpkaa.Cl
open Go.RowKit Go.Proofs.Ytbcpkbbdmkmpkaa.PFnPlat Go.Proofs.YtbcpkbbdmkmpkaaW.PrintWords Go.Proofs.YtbcpkbbdmkmpkaaW.PrintLast Go.Proofs.YtbcpkbbdmkmpkaaW.PrintMore Go.Proofs.Ytbcpkbbdmkmpkaa.Pl

/-- A code's bytes. -/
def bytes (s : List Int) : Prop := ∀ x ∈ s, 0 ≤ x ∧ x ≤ 255
theorem bytes_rd {s : List Int} (h : bytes s) {i : Int} (h0 : 0 ≤ i) (h1 : i < (s.length : Int)) : 0 ≤ rd s i ∧ rd s i ≤ 255 := h _ (rd_mem s h0 h1)
theorem open_ok (l : List Int) (hl : l.length ≤ 1048576) (hb : ∀ x ∈ l, (Lit.int .u8 x).wf = true) : ∃ s, spec_l20Open.f l = some (s, 0) ∧ bytes s ∧ s.length ≤ 2000 := by
  have hb' : bytes l := fun x hx => by have := hb x hx; simpa [Lit.wf, IntKind.min, IntKind.max, IntKind.bits, IntKind.signed] using this
  unfold spec_l20Open.f
  by_cases h : (l.length : Int) > 2000
  · rw [if_pos h, if_pos (by omega)]
    exact ⟨l.take 2000, rfl, fun x hx => hb' x (List.mem_of_mem_take hx), by rw [List.length_take]; omega⟩
  · rw [if_neg h]; exact ⟨l, rfl, hb', by omega⟩
theorem tmod_rng {x n : Int} (h0 : 0 ≤ x) (h1 : 1 ≤ n) : 0 ≤ Int.tmod x n ∧ Int.tmod x n < n := by
  rw [Int.tmod_eq_emod_of_nonneg h0]; exact ⟨Int.emod_nonneg _ (by omega), Int.emod_lt_of_pos _ (by omega)⟩
theorem pick_ok (s : List Int) (hb : bytes s) (hl : s.length ≤ 2000) {p n : Int} (p0 : 0 ≤ p) (p1 : p ≤ 1000000000) (n0 : 1 ≤ n) (k : Nat) (hk : 0 < k) :
    ∃ r, spec_l20Rd_pick.f k s p n = some (r, p + 1) ∧ 0 ≤ r ∧ r < n := by
  obtain ⟨k, rfl⟩ : ∃ m, k = m + 1 := ⟨k - 1, by omega⟩
  unfold spec_l20Rd_pick.f
  rw [if_neg (by omega), w64 (n := p + 1) (by omega) (by omega)]
  simp only [spec_l20Rd_pick.j0]
  by_cases e : (s.length : Int) = 0
  · rw [if_pos (by simpa using e)]; exact ⟨0, rfl, by omega, by omega⟩
  · rw [if_neg (by simpa using e), show p + 1 - 1 = p from by omega, w64 (n := p) (by omega) (by omega)]
    by_cases q : p < (s.length : Int)
    · rw [if_pos q, if_pos p0, if_neg (by omega)]
      obtain ⟨b0, b1⟩ := bytes_rd hb p0 q
      rw [w64 (n := rd s p) (by omega) (by omega)]
      exact ⟨_, rfl, tmod_rng b0 n0⟩
    · obtain ⟨u0, u1⟩ := tmod_rng (x := p) (n := (s.length : Int)) p0 (by omega)
      rw [if_neg q, if_neg e, if_pos u0, if_pos u1, w64 (n := p * 7) (by omega) (by omega), w64 (n := p * 7 + 3) (by omega) (by omega)]
      obtain ⟨v0, v1⟩ := tmod_rng (x := p * 7 + 3) (n := (s.length : Int)) (by omega) (by omega)
      rw [if_pos v0, if_pos v1, if_neg (by omega)]
      obtain ⟨b0, b1⟩ := bytes_rd hb u0 u1
      obtain ⟨c0, c1⟩ := bytes_rd hb v0 v1
      have d0 : 0 ≤ Int.tdiv p (s.length : Int) ∧ Int.tdiv p (s.length : Int) ≤ p := by
        rw [Int.tdiv_eq_ediv_of_nonneg p0]
        exact ⟨Int.ediv_nonneg p0 (by omega), Int.ediv_le_self _ p0⟩
      generalize rd s (Int.tmod p (s.length : Int)) = B at *
      generalize rd s (Int.tmod (p * 7 + 3) (s.length : Int)) = C at *
      generalize Int.tdiv p (s.length : Int) = Q at *
      rw [w64 (n := B) (by omega) (by omega), w64 (n := C) (by omega) (by omega), w64 (n := Q) (by omega) (by omega), w64 (n := B * 131) (by omega) (by omega), w64 (n := C * 1117) (by omega) (by omega), w64 (n := p * 29) (by omega) (by omega), w64 (n := Q * 53) (by omega) (by omega), w64 (n := B * 131 + C * 1117) (by omega) (by omega), w64 (n := B * 131 + C * 1117 + p * 29) (by omega) (by omega), w64 (n := B * 131 + C * 1117 + p * 29 + Q * 53) (by omega) (by omega)]
      have X0 : 0 ≤ B * 131 + C * 1117 + p * 29 + Q * 53 ∧ B * 131 + C * 1117 + p * 29 + Q * 53 < 1000000000000 := by omega
      generalize B * 131 + C * 1117 + p * 29 + Q * 53 = X at *
      have D0 : 0 ≤ Int.tdiv X 64 ∧ Int.tdiv X 64 ≤ X := by rw [Int.tdiv_eq_ediv_of_nonneg X0.1]; omega
      rw [w64 (n := Int.tdiv X 64) (by omega) (by omega)]
      obtain ⟨x0, _⟩ := bits_xor_i64 (x := X) (y := Int.tdiv X 64) (by omega) (by omega) (by omega) (by omega)
      exact ⟨_, rfl, tmod_rng x0 n0⟩
theorem num_ok (s : List Int) (hb : bytes s) (hl : s.length ≤ 2000) {p : Int} (p0 : 0 ≤ p) (p1 : p ≤ 1000000000) (l : List Int) (h : 0 < l.length) (k : Nat) (hk : 0 < k) :
    ∃ r, spec_l20Rd_num.f k s p l = some (r, p + 1) ∧ r ∈ l := by
  obtain ⟨i, e, i0, i1⟩ := pick_ok s hb hl p0 p1 (n := (l.length : Int)) (by omega) k hk
  unfold spec_l20Rd_num.f
  rw [e]
  simp only [Option.bind_some]
  rw [if_pos i0, if_pos i1]
  exact ⟨_, rfl, rd_mem l i0 i1⟩
theorem within_eq (n a b : Int) : impl_within.f n a b = some (decide (a ≤ n ∧ n ≤ b)) := by
  unfold impl_within.f
  by_cases h : a ≤ n
  · rw [if_pos h]; congr 1; simp [h]
  · rw [if_neg h]; congr 1; simp [h]
theorem splatok_eq (a b c : Int) : spec_PlatOk.f a b c = some (decide (pok a b c)) := by
  unfold spec_PlatOk.f
  by_cases h : pok a b c
  · have h' := h
    unfold pok at h'
    rw [if_pos (by omega), if_pos (by omega), if_pos (by omega), if_pos (by omega), if_pos (by omega)]
    apply congrArg some
    rw [decide_eq_true h, decide_eq_true_eq]; omega
  · rw [decide_eq_false h]
    unfold pok at h
    repeat' split
    all_goals first | rfl | (apply congrArg some; rw [decide_eq_false_iff_not]; omega)
theorem iplatok_eq (a b c : Int) : impl_PlatOk.f a b c = some (decide (pok a b c)) := by
  unfold impl_PlatOk.f
  simp only [within_eq, Option.bind_some]
  by_cases h : pok a b c
  · have h' := h
    unfold pok at h'
    rw [decide_eq_true h, if_pos (by simp; omega), if_pos (by simp; omega)]
    apply congrArg some
    rw [decide_eq_true_eq]; omega
  · rw [decide_eq_false h]
    unfold pok at h
    repeat' split
    all_goals first | rfl | (apply congrArg some; rw [decide_eq_false_iff_not]; simp only [decide_eq_true_eq] at *; omega)
theorem beatAt_eq {a b c : Int} (h : pok a b c) : impl_PlatCfg_beatAt.f a b c = some (3 + a) := by
  unfold impl_PlatCfg_beatAt.f impl_PlatCfg_regAt.f; unfold pok at h; simp only [Option.bind_some]; rw [w64 (by omega) (by omega)]
theorem headAt_eq {a b c : Int} (h : pok a b c) : impl_PlatCfg_headAt.f a b c = some (3 + 2 * a) := by
  unfold impl_PlatCfg_headAt.f; rw [beatAt_eq h]; unfold pok at h; simp only [Option.bind_some]; rw [w64 (by omega) (by omega)]; congr 1; omega
theorem pageAt_eq {a b c : Int} (h : pok a b c) : impl_PlatCfg_pageAt.f a b c = some (7 + 2 * a) := by
  unfold impl_PlatCfg_pageAt.f; rw [headAt_eq h]; unfold pok at h; simp only [Option.bind_some]; rw [w64 (by omega) (by omega)]; congr 1; omega
theorem tagAt_eq {a b c : Int} (h : pok a b c) : impl_PlatCfg_tagAt.f a b c = some (7 + 2 * a + b) := by
  unfold impl_PlatCfg_tagAt.f; rw [pageAt_eq h]; unfold pok at h; simp only [Option.bind_some]; rw [w64 (by omega) (by omega)]
theorem linkAt_eq {a b c : Int} (h : pok a b c) : impl_PlatCfg_linkAt.f a b c = some (7 + 2 * a + 9 * b) := by
  unfold impl_PlatCfg_linkAt.f; rw [tagAt_eq h]; unfold pok at h; simp only [Option.bind_some]; rw [w64 (n := 8 * b) (by omega) (by omega), w64 (by omega) (by omega)]; congr 1; omega
theorem deskAt_eq {a b c : Int} (h : pok a b c) : impl_PlatCfg_deskAt.f a b c = some (house a b) := by
  unfold impl_PlatCfg_deskAt.f; rw [linkAt_eq h]; unfold house; unfold pok at h; simp only [Option.bind_some]; rw [w64 (n := 8 * b) (by omega) (by omega), w64 (by omega) (by omega)]; congr 1; omega
theorem isize_eq {a b c : Int} (h : pok a b c) : impl_PlatCfg_size.f a b c = some (hsize a b) := by
  unfold impl_PlatCfg_size.f; rw [deskAt_eq h]; unfold house hsize; unfold pok at h; simp only [Option.bind_some]; rw [w64 (n := a * 21) (by omega) (by omega), w64 (by omega) (by omega)]; congr 1; omega
theorem clamp_eq (n m : Int) (h : 0 ≤ m) : impl_clamp.f n m = some (cl n m) := by
  unfold impl_clamp.f; rw [cl_mx n m h]
theorem ipack_eq (v s : Int) : impl_CellPack.f v s = some (pack v s) := by
  unfold impl_CellPack.f; rw [clamp_eq _ _ (by omega), clamp_eq _ _ (by omega)]; simp only [Option.bind_some]; rw [pack_impl]
theorem ival_eq {w : Int} (h : 0 ≤ w) (h1 : w ≤ 18446744073709551615) : impl_CellVal.f w = some (wval w) := by
  unfold impl_CellVal.f; rw [val_impl h h1]
theorem istamp_eq {w : Int} (h : 0 ≤ w) (h1 : w ≤ 18446744073709551615) : impl_CellStamp.f w = some (wstamp w) := by
  unfold impl_CellStamp.f; rw [stamp_impl h h1]
theorem icfg_eq (l : List Int) (hl : ∀ x ∈ l, 0 ≤ x ∧ x ≤ 18446744073709551615) (k : Nat) (hk : 0 < k) : impl_cfgOf.f k l = some (cfgd l) := by
  obtain ⟨k, rfl⟩ : ∃ m, k = m + 1 := ⟨k - 1, by omega⟩
  unfold impl_cfgOf.f cfgd
  by_cases h0 : (l.length : Int) = 0
  · rw [if_pos h0, if_pos (by omega)]; simp only [impl_cfgOf.j0, if_true]
  · rw [if_neg h0, if_pos (by omega), if_neg (by omega)]
    obtain ⟨w0, w1⟩ := hl _ (rd_mem l (i := 0) (by omega) (by omega))
    rw [istamp_eq w0 w1]
    have v0 := wval_lo (rd l 0)
    have v1 := wval_hi (rd l 0)
    simp only [Option.bind_some, impl_cfgOf.j0]
    by_cases hs : wstamp (rd l 0) = 201115
    · rw [if_neg (by simp [hs]), if_pos (by omega), ival_eq w0 w1]
      simp only [Option.bind_some]
      rw [tdivp v0, tdivp v0, tmodp v0, w64 (n := wval (rd l 0) / 8) (by omega) (by omega), w64 (n := wval (rd l 0) / 64) (by omega) (by omega), tmodp (a := wval (rd l 0) / 8) (by omega), iplatok_eq]
      simp only [Option.bind_some]
      rw [if_pos hs]
    · rw [if_pos (by simpa using hs), if_neg hs]
theorem icheck_eq (l : List Int) (hl : ∀ x ∈ l, 0 ≤ x ∧ x ≤ 18446744073709551615) (k : Nat) (hk : 0 < k) : impl_PlatCheck.f k l = some (chk l) := by
  unfold impl_PlatCheck.f
  rw [icfg_eq l hl k hk]; simp only [Option.bind_some]
  unfold cfgd chk
  by_cases h0 : l.length = 0
  · rw [if_pos h0, if_pos h0]; rfl
  · rw [if_neg h0, if_neg h0]
    by_cases hs : wstamp (rd l 0) = 201115
    · rw [if_pos hs]
      simp only [decide_eq_true_eq]
      by_cases hp : pok (wval (rd l 0) % 8) (wval (rd l 0) / 8 % 8) (wval (rd l 0) / 64)
      · rw [if_pos hp, isize_eq hp]
        simp only [Option.bind_some]
        by_cases hn : (l.length : Int) = hsize (wval (rd l 0) % 8) (wval (rd l 0) / 8 % 8)
        · rw [if_pos hn, if_pos ⟨hp, hs, hn⟩]
        · rw [if_neg hn, if_neg (fun h => hn h.2.2)]
      · rw [if_neg hp, if_neg (fun h => hp h.1)]
    · rw [if_neg hs]; simp only [Bool.false_eq_true, if_false]; rw [if_neg (fun h => hs h.2.1)]
theorem PlatReg_in {a b c n : Int} (h : pok a b c) (n0 : 0 ≤ n) (n1 : n < a) : impl_PlatReg.f a b c n = some (3 + n) := by
  have h' := h
  unfold pok at h'
  unfold impl_PlatReg.f impl_place_65_66.f impl_PlatCfg_slots.f
  simp only [iplatok_eq, Option.bind_some, decide_eq_true_eq]
  rw [if_pos h, within_eq, w64 (n := a - 1) (by omega) (by omega)]
  simp only [Option.bind_some, decide_eq_true_eq]
  rw [if_pos (by omega), show impl_PlatCfg_regAt.f a b c = some 3 from rfl]
  simp only [Option.bind_some]
  rw [w64 (by omega) (by omega)]
theorem PlatReg_out {a b c n : Int} (h : pok a b c) (hn : ¬ (0 ≤ n ∧ n < a)) : impl_PlatReg.f a b c n = some 0 := by
  have h' := h
  unfold pok at h'
  unfold impl_PlatReg.f impl_place_65_66.f impl_PlatCfg_slots.f
  simp only [iplatok_eq, Option.bind_some, decide_eq_true_eq]
  rw [if_pos h, within_eq, w64 (n := a - 1) (by omega) (by omega)]
  simp only [Option.bind_some, decide_eq_true_eq]
  rw [if_neg (by omega)]
  rfl
theorem PlatReg_no {a b c n : Int} (h : ¬ pok a b c) : impl_PlatReg.f a b c n = some 0 := by
  unfold impl_PlatReg.f impl_place_65_66.f
  simp only [iplatok_eq, Option.bind_some, decide_eq_true_eq]
  rw [if_neg h]
  rfl
theorem PlatBeat_in {a b c n : Int} (h : pok a b c) (n0 : 0 ≤ n) (n1 : n < a) : impl_PlatBeat.f a b c n = some (3 + a + n) := by
  have h' := h
  unfold pok at h'
  unfold impl_PlatBeat.f impl_place_67_66.f impl_PlatCfg_slots.f
  simp only [iplatok_eq, Option.bind_some, decide_eq_true_eq]
  rw [if_pos h, within_eq, w64 (n := a - 1) (by omega) (by omega)]
  simp only [Option.bind_some, decide_eq_true_eq]
  rw [if_pos (by omega), beatAt_eq h]
  simp only [Option.bind_some]
  rw [w64 (by omega) (by omega)]
theorem PlatBeat_out {a b c n : Int} (h : pok a b c) (hn : ¬ (0 ≤ n ∧ n < a)) : impl_PlatBeat.f a b c n = some 0 := by
  have h' := h
  unfold pok at h'
  unfold impl_PlatBeat.f impl_place_67_66.f impl_PlatCfg_slots.f
  simp only [iplatok_eq, Option.bind_some, decide_eq_true_eq]
  rw [if_pos h, within_eq, w64 (n := a - 1) (by omega) (by omega)]
  simp only [Option.bind_some, decide_eq_true_eq]
  rw [if_neg (by omega)]
  rfl
theorem PlatBeat_no {a b c n : Int} (h : ¬ pok a b c) : impl_PlatBeat.f a b c n = some 0 := by
  unfold impl_PlatBeat.f impl_place_67_66.f
  simp only [iplatok_eq, Option.bind_some, decide_eq_true_eq]
  rw [if_neg h]
  rfl
theorem PlatHead_in {a b c n : Int} (h : pok a b c) (n0 : 0 ≤ n) (n1 : n < 4) : impl_PlatHead.f a b c n = some (3 + 2 * a + n) := by
  have h' := h
  unfold pok at h'
  unfold impl_PlatHead.f impl_place_68_69.f impl_PlatCfg_kinds.f
  simp only [iplatok_eq, Option.bind_some, decide_eq_true_eq]
  rw [if_pos h, within_eq, w64 (n := 4 - 1) (by omega) (by omega)]
  simp only [Option.bind_some, decide_eq_true_eq]
  rw [if_pos (by omega), headAt_eq h]
  simp only [Option.bind_some]
  rw [w64 (by omega) (by omega)]
theorem PlatHead_out {a b c n : Int} (h : pok a b c) (hn : ¬ (0 ≤ n ∧ n < 4)) : impl_PlatHead.f a b c n = some 0 := by
  have h' := h
  unfold pok at h'
  unfold impl_PlatHead.f impl_place_68_69.f impl_PlatCfg_kinds.f
  simp only [iplatok_eq, Option.bind_some, decide_eq_true_eq]
  rw [if_pos h, within_eq, w64 (n := 4 - 1) (by omega) (by omega)]
  simp only [Option.bind_some, decide_eq_true_eq]
  rw [if_neg (by omega)]
  rfl
theorem PlatHead_no {a b c n : Int} (h : ¬ pok a b c) : impl_PlatHead.f a b c n = some 0 := by
  unfold impl_PlatHead.f impl_place_68_69.f
  simp only [iplatok_eq, Option.bind_some, decide_eq_true_eq]
  rw [if_neg h]
  rfl
theorem PlatPage_in {a b c n : Int} (h : pok a b c) (n0 : 0 ≤ n) (n1 : n < b) : impl_PlatPage.f a b c n = some (7 + 2 * a + n) := by
  have h' := h
  unfold pok at h'
  unfold impl_PlatPage.f impl_place_70_71.f impl_PlatCfg_pages.f
  simp only [iplatok_eq, Option.bind_some, decide_eq_true_eq]
  rw [if_pos h, within_eq, w64 (n := b - 1) (by omega) (by omega)]
  simp only [Option.bind_some, decide_eq_true_eq]
  rw [if_pos (by omega), pageAt_eq h]
  simp only [Option.bind_some]
  rw [w64 (by omega) (by omega)]
theorem PlatPage_out {a b c n : Int} (h : pok a b c) (hn : ¬ (0 ≤ n ∧ n < b)) : impl_PlatPage.f a b c n = some 0 := by
  have h' := h
  unfold pok at h'
  unfold impl_PlatPage.f impl_place_70_71.f impl_PlatCfg_pages.f
  simp only [iplatok_eq, Option.bind_some, decide_eq_true_eq]
  rw [if_pos h, within_eq, w64 (n := b - 1) (by omega) (by omega)]
  simp only [Option.bind_some, decide_eq_true_eq]
  rw [if_neg (by omega)]
  rfl
theorem PlatPage_no {a b c n : Int} (h : ¬ pok a b c) : impl_PlatPage.f a b c n = some 0 := by
  unfold impl_PlatPage.f impl_place_70_71.f
  simp only [iplatok_eq, Option.bind_some, decide_eq_true_eq]
  rw [if_neg h]
  rfl
theorem PlatTag_in {a b c n : Int} (h : pok a b c) (n0 : 0 ≤ n) (n1 : n < 8 * b) : impl_PlatTag.f a b c n = some (7 + 2 * a + b + n) := by
  have h' := h
  unfold pok at h'
  unfold impl_PlatTag.f impl_place_72_73.f impl_PlatCfg_units.f
  simp only [iplatok_eq, Option.bind_some, decide_eq_true_eq]
  rw [if_pos h, w64 (n := 8 * b) (by omega) (by omega), within_eq, w64 (n := 8 * b - 1) (by omega) (by omega)]
  simp only [Option.bind_some, decide_eq_true_eq]
  rw [if_pos (by omega), tagAt_eq h]
  simp only [Option.bind_some]
  rw [w64 (by omega) (by omega)]
theorem PlatTag_out {a b c n : Int} (h : pok a b c) (hn : ¬ (0 ≤ n ∧ n < 8 * b)) : impl_PlatTag.f a b c n = some 0 := by
  have h' := h
  unfold pok at h'
  unfold impl_PlatTag.f impl_place_72_73.f impl_PlatCfg_units.f
  simp only [iplatok_eq, Option.bind_some, decide_eq_true_eq]
  rw [if_pos h, w64 (n := 8 * b) (by omega) (by omega), within_eq, w64 (n := 8 * b - 1) (by omega) (by omega)]
  simp only [Option.bind_some, decide_eq_true_eq]
  rw [if_neg (by omega)]
  rfl
theorem PlatTag_no {a b c n : Int} (h : ¬ pok a b c) : impl_PlatTag.f a b c n = some 0 := by
  unfold impl_PlatTag.f impl_place_72_73.f
  simp only [iplatok_eq, Option.bind_some, decide_eq_true_eq]
  rw [if_neg h]
  rfl
theorem PlatLink_in {a b c n : Int} (h : pok a b c) (n0 : 0 ≤ n) (n1 : n < 8 * b) : impl_PlatLink.f a b c n = some (7 + 2 * a + 9 * b + n) := by
  have h' := h
  unfold pok at h'
  unfold impl_PlatLink.f impl_place_74_73.f impl_PlatCfg_units.f
  simp only [iplatok_eq, Option.bind_some, decide_eq_true_eq]
  rw [if_pos h, w64 (n := 8 * b) (by omega) (by omega), within_eq, w64 (n := 8 * b - 1) (by omega) (by omega)]
  simp only [Option.bind_some, decide_eq_true_eq]
  rw [if_pos (by omega), linkAt_eq h]
  simp only [Option.bind_some]
  rw [w64 (by omega) (by omega)]
theorem PlatLink_out {a b c n : Int} (h : pok a b c) (hn : ¬ (0 ≤ n ∧ n < 8 * b)) : impl_PlatLink.f a b c n = some 0 := by
  have h' := h
  unfold pok at h'
  unfold impl_PlatLink.f impl_place_74_73.f impl_PlatCfg_units.f
  simp only [iplatok_eq, Option.bind_some, decide_eq_true_eq]
  rw [if_pos h, w64 (n := 8 * b) (by omega) (by omega), within_eq, w64 (n := 8 * b - 1) (by omega) (by omega)]
  simp only [Option.bind_some, decide_eq_true_eq]
  rw [if_neg (by omega)]
  rfl
theorem PlatLink_no {a b c n : Int} (h : ¬ pok a b c) : impl_PlatLink.f a b c n = some 0 := by
  unfold impl_PlatLink.f impl_place_74_73.f
  simp only [iplatok_eq, Option.bind_some, decide_eq_true_eq]
  rw [if_neg h]
  rfl
theorem PlatDesk_in {a b c n : Int} (h : pok a b c) (n0 : 0 ≤ n) (n1 : n < a) : impl_PlatDesk.f a b c n = some (house a b + n * 21) := by
  have h' := h
  unfold pok at h'
  have hh : 0 ≤ house a b ∧ house a b ≤ 1000 := by unfold house; omega
  unfold impl_PlatDesk.f
  rw [iplatok_eq]
  simp only [Option.bind_some, decide_eq_true_eq]
  rw [if_pos h, within_eq, deskAt_eq h, w64 (n := a - 1) (by omega) (by omega)]
  simp only [Option.bind_some, decide_eq_true_eq]
  rw [if_pos (by omega), w64 (n := n * 21) (by omega) (by omega), w64 (by omega) (by omega)]
theorem PlatDesk_no {a b c n : Int} (h : ¬ pok a b c) : impl_PlatDesk.f a b c n = some 0 := by
  unfold impl_PlatDesk.f
  simp only [iplatok_eq, Option.bind_some, decide_eq_true_eq]
  rw [if_neg h]
theorem shouse_eq' {a b c : Int} (h : pok a b c) : spec_l2House.f a b c = some (house a b) := by
  unfold spec_l2House.f house; unfold pok at h
  rw [w64 (n := 2 * a) (by omega) (by omega), w64 (n := 3 + 2 * a) (by omega) (by omega), w64 (n := 3 + 2 * a + 4) (by omega) (by omega), w64 (n := 3 + 2 * a + 4 + b) (by omega) (by omega), w64 (n := 16 * b) (by omega) (by omega), w64 (by omega) (by omega)]
  congr 1; omega
theorem psizes_eq {a b c : Int} (h : pok a b c) : impl_PlatSize.f a b c = some (hsize a b) ∧ spec_PlatSize.f a b c = some (hsize a b) := by
  unfold impl_PlatSize.f spec_PlatSize.f
  simp only [splatok_eq, iplatok_eq, Option.bind_some, decide_eq_true_eq]
  rw [if_pos h, if_pos h, isize_eq h]
  refine ⟨rfl, ?_⟩
  unfold spec_l2Size.f
  rw [shouse_eq' h]
  simp only [Option.bind_some]
  unfold house hsize
  unfold pok at h
  rw [w64 (n := a * 21) (by omega) (by omega), w64 (by omega) (by omega)]
  congr 1
  omega
theorem psizes_no {a b c : Int} (h : ¬ pok a b c) : impl_PlatSize.f a b c = some 0 ∧ spec_PlatSize.f a b c = some 0 := by
  unfold impl_PlatSize.f spec_PlatSize.f
  simp only [splatok_eq, iplatok_eq, Option.bind_some, decide_eq_true_eq]
  rw [if_neg h, if_neg h]
  exact ⟨rfl, rfl⟩
theorem icelldoor1_eq : impl_CellDoor.f 0 0 0 1 = some (pack 0 1) := by
  unfold impl_CellDoor.f
  simp only [clamp_eq _ 2 (by omega), clamp_eq _ 7 (by omega), clamp_eq _ 4095 (by omega), Option.bind_some, cl_id (n := 0) (m := 2) (by omega) (by omega), cl_id (n := 0) (m := 7) (by omega) (by omega), cl_id (n := 0) (m := 4095) (by omega) (by omega)]
  simp only [Int.mul_zero, Int.add_zero, w64 (n := 0) (by omega) (by omega), ipack_eq, Option.bind_some]
def fmt (a b c : Int) : List Int := if pok a b c then ((List.replicate (hsize a b).toNat 0).set 0 (pack (a + 8 * b + 64 * c) 201115)).set 2 (pack 0 1) else []
theorem ifmt_eq (a b c : Int) : impl_PlatFormat.f a b c = some (fmt a b c) := by
  unfold impl_PlatFormat.f fmt
  simp only [iplatok_eq, Option.bind_some, decide_eq_true_eq]
  by_cases h : pok a b c
  · have h' := h
    unfold pok at h'
    have z : hsize a b = 7 + 23 * a + 17 * b := rfl
    rw [if_pos h, if_pos h, isize_eq h, w64 (n := 8 * b) (by omega) (by omega), w64 (n := 64 * c) (by omega) (by omega), w64 (n := a + 8 * b) (by omega) (by omega), w64 (by omega) (by omega), ipack_eq, icelldoor1_eq]
    simp only [Option.bind_some, List.length_replicate]
    rw [if_pos (by omega), if_pos (by omega), if_pos (by omega), if_pos (by omega)]
    rfl
  · rw [if_neg h, if_neg h]
theorem fmt_no {a b c : Int} (h : ¬ pok a b c) : fmt a b c = [] := if_neg h
theorem fmt_len {a b c : Int} (h : pok a b c) : ((fmt a b c).length : Int) = hsize a b := by
  unfold fmt
  rw [if_pos h, List.length_set, List.length_set, List.length_replicate]
  unfold pok at h; unfold hsize; omega
theorem fmt_rng (a b c : Int) : ∀ x ∈ fmt a b c, 0 ≤ x ∧ x ≤ 18446744073709551615 := by
  intro x hx
  unfold fmt at hx
  split at hx
  · rcases List.mem_or_eq_of_mem_set hx with hx | rfl
    · rcases List.mem_or_eq_of_mem_set hx with hx | rfl
      · have := (List.mem_replicate.1 hx).2; omega
      · exact ⟨pack_lo _ _, pack_hi _ _⟩
    · exact ⟨pack_lo _ _, pack_hi _ _⟩
  · cases hx
theorem pack_val {v s : Int} (h0 : 0 ≤ v) (h1 : v ≤ 4294967295) : wval (pack v s) = v := by
  have := cl_lo s 4294967295 (by omega)
  unfold pack wval; rw [cl_id h0 h1]; omega
theorem pack_stamp {v s : Int} (h0 : 0 ≤ s) (h1 : s ≤ 4294967295) : wstamp (pack v s) = s := by
  have := cl_lo v 4294967295 (by omega); have := cl_hi v 4294967295 (by omega)
  unfold pack wstamp; rw [cl_id h0 h1]; omega
theorem fmt_chk {a b c : Int} (h : pok a b c) : chk (fmt a b c) = (a, b, c, true) := by
  have hn := fmt_len h
  have h' := h
  unfold pok at h'
  have z : hsize a b = 7 + 23 * a + 17 * b := rfl
  have hr : rd (fmt a b c) 0 = pack (a + 8 * b + 64 * c) 201115 := by
    have hp : 0 < (List.replicate (hsize a b).toNat (0 : Int)).length := by rw [List.length_replicate]; omega
    unfold fmt rd
    rw [if_pos h]
    simp only [Int.toNat_zero, List.getD, List.getElem?_set]
    rw [if_neg (by decide), if_pos trivial, if_pos hp]
    rfl
  unfold chk
  rw [if_neg (by omega), hr, pack_val (by omega) (by omega), pack_stamp (by omega) (by omega), show (a + 8 * b + 64 * c) % 8 = a by omega, show (a + 8 * b + 64 * c) / 8 % 8 = b by omega, show (a + 8 * b + 64 * c) / 64 = c by omega, if_pos ⟨h, rfl, hn⟩]
theorem bent_ok (s : List Int) (hs : bytes s) (hn : s.length ≤ 2000) (k : Nat) (hk : 0 < k) : ∃ a b c p, spec_l2Bent.f k s 0 = some (a, b, c, p) := by
  unfold spec_l2Bent.f
  obtain ⟨a, e1, a0, a1⟩ := pick_ok s hs hn (p := 0) (by omega) (by omega) (n := 4) (by omega) k hk
  rw [e1]; simp only [Option.bind_some]
  obtain ⟨b, e2, b0, b1⟩ := pick_ok s hs hn (p := 0 + 1) (by omega) (by omega) (n := 6) (by omega) k hk
  rw [e2]; simp only [Option.bind_some]
  obtain ⟨c, e3, c0, c1⟩ := pick_ok s hs hn (p := 0 + 1 + 1) (by omega) (by omega) (n := 20) (by omega) k hk
  rw [e3]; simp only [Option.bind_some]
  obtain ⟨d, e4, d0, d1⟩ := pick_ok s hs hn (p := 0 + 1 + 1 + 1) (by omega) (by omega) (n := 9) (by omega) k hk
  rw [e4]; simp only [Option.bind_some]
  have num : ∀ l : List Int, 0 < l.length → ∃ r, spec_l20Rd_num.f k s (0 + 1 + 1 + 1 + 1) l = some (r, 0 + 1 + 1 + 1 + 1 + 1) := fun l h => by
    obtain ⟨r, e, _⟩ := num_ok s hs hn (p := 0 + 1 + 1 + 1 + 1) (by omega) (by omega) l h k hk
    exact ⟨r, e⟩
  by_cases h0 : d = 0
  · rw [if_pos h0]; obtain ⟨r, e⟩ := num [-1, 0, 5] (by simp); rw [e]; exact ⟨_, _, _, _, rfl⟩
  · rw [if_neg h0]
    by_cases h1 : d = 1
    · rw [if_pos h1]; obtain ⟨r, e⟩ := num [-1, 0, 7] (by simp); rw [e]; exact ⟨_, _, _, _, rfl⟩
    · rw [if_neg h1]
      by_cases h2 : d = 2
      · rw [if_pos h2]; obtain ⟨r, e⟩ := num [-1, 0, 21] (by simp); rw [e]; exact ⟨_, _, _, _, rfl⟩
      · rw [if_neg h2]; exact ⟨_, _, _, _, rfl⟩
theorem drawplat_ok (l : List Int) (hl : l.length ≤ 1048576) (hb : ∀ x ∈ l, (Lit.int .u8 x).wf = true) (k : Nat) (hk : 0 < k) : ∃ a b c, spec_DrawPlatOk.f k l = some (a, b, c) := by
  obtain ⟨s, e, hs, hn⟩ := open_ok l hl hb
  unfold spec_DrawPlatOk.f
  rw [e]
  simp only [Option.bind_some]
  obtain ⟨a, b, c, p, e1⟩ := bent_ok s hs hn k hk
  rw [e1]
  exact ⟨a, b, c, rfl⟩
/-! ### marks -/
/-- n numbers, 1 where P, else 0. -/
def lst (n : Nat) (P : Nat → Prop) [DecidablePred P] : List Int := (List.range n).map fun x => if P x then 1 else 0
theorem lst_len (n : Nat) (P : Nat → Prop) [DecidablePred P] : (lst n P).length = n := by simp [lst]
theorem lst_at {n : Nat} {P : Nat → Prop} [DecidablePred P] {x : Nat} (h : x < n) : (lst n P).getD x 0 = if P x then 1 else 0 := by simp [lst, List.getD, h]
theorem lst_set {n : Nat} {P Q : Nat → Prop} [DecidablePred P] [DecidablePred Q] {y : Nat} (h : ∀ x, x < n → (Q x ↔ P x ∨ x = y)) : (lst n P).set y 1 = lst n Q := by
  apply List.ext_getElem?
  intro i
  by_cases hi : i < n
  · have hq := h i hi
    rw [List.getElem?_set]
    by_cases e : y = i
    · subst e
      rw [if_pos rfl, if_pos (by rw [lst_len]; exact hi)]
      simp [lst, hi, hq.2 (Or.inr rfl)]
    · rw [if_neg e]
      simp only [lst, List.getElem?_map, List.getElem?_range hi, Option.map_some]
      congr 1
      by_cases hp : P i
      · rw [if_pos hp, if_pos (hq.2 (Or.inl hp))]
      · rw [if_neg hp, if_neg (fun q => (hq.1 q).elim hp (fun e' => e e'.symm))]
  · rw [List.getElem?_eq_none (by rw [List.length_set, lst_len]; omega), List.getElem?_eq_none (by rw [lst_len]; omega)]
theorem lst_zero (n : Nat) {P : Nat → Prop} [DecidablePred P] (h : ∀ x, ¬ P x) : List.replicate n (0 : Int) = lst n P := by
  apply List.ext_getElem?
  intro i
  by_cases hi : i < n
  · simp [lst, hi, h i]
  · rw [List.getElem?_eq_none (by rw [List.length_replicate]; omega), List.getElem?_eq_none (by rw [lst_len]; omega)]
theorem lst_congr {n : Nat} {P Q : Nat → Prop} [DecidablePred P] [DecidablePred Q] (h : ∀ x, x < n → (Q x ↔ P x)) : lst n P = lst n Q := by
  unfold lst
  refine List.map_congr_left fun x hx => ?_
  have := h x (List.mem_range.1 hx)
  by_cases hp : P x
  · rw [if_pos hp, if_pos (this.2 hp)]
  · rw [if_neg hp, if_neg (fun q => hp (this.1 q))]

end Go.Proofs.Ytbcpkbbdmkmpkaa.Cl

/- FnCell: what the words of cells are, in plain numbers. -/
import Derived.Test.YtgeeaieapkfnoaaPFnCellx2
import Derived.Test.YtgeeaieapkfnoaaPl
set_option linter.unusedVariables false
set_option linter.unusedSimpArgs false
namespace Go.Proofs.Ytgeeaieapkfnoaa.Cl
open Go.RowKit Go.Proofs.Ytgeeaieapkfnoaa.PFnCell Go.Proofs.YtgeeaieapkfnoaaW.PrintWords Go.Proofs.YtgeeaieapkfnoaaW.PrintLast Go.Proofs.YtgeeaieapkfnoaaW.PrintMore Go.Proofs.Ytgeeaieapkfnoaa.Pl

/-- A code's bytes. -/
def bytes (s : List Int) : Prop := ∀ x ∈ s, 0 ≤ x ∧ x ≤ 255
theorem bytes_rd {s : List Int} (h : bytes s) {i : Int} (h0 : 0 ≤ i) (h1 : i < (s.length : Int)) : 0 ≤ rd s i ∧ rd s i ≤ 255 := h _ (rd_mem s h0 h1)
theorem open_ok (l : List Int) (hl : l.length ≤ 1048576) (hb : ∀ x ∈ l, (Lit.int .u8 x).wf = true) : ∃ s, spec_l20Open.f l = some (s, 0) ∧ bytes s ∧ s.length ≤ 2000 := by
  have hb' : bytes l := fun x hx => by have := hb x hx; simpa [Lit.wf, IntKind.min, IntKind.max, IntKind.bits, IntKind.signed] using this
  unfold spec_l20Open.f
  by_cases h : (l.length : Int) > 2000
  · rw [if_pos h, if_pos (by omega)]
    exact ⟨l.take 2000, rfl, fun x hx => hb' x (List.mem_of_mem_take hx), by rw [List.length_take]; omega⟩
  · rw [if_neg h]; exact ⟨l, rfl, hb', by omega⟩
theorem tmod_rng {x n : Int} (h0 : 0 ≤ x) (h1 : 1 ≤ n) : 0 ≤ Int.tmod x n ∧ Int.tmod x n < n := by
  rw [Int.tmod_eq_emod_of_nonneg h0]; exact ⟨Int.emod_nonneg _ (by omega), Int.emod_lt_of_pos _ (by omega)⟩
theorem pick_ok (s : List Int) (hb : bytes s) (hl : s.length ≤ 2000) {p n : Int} (p0 : 0 ≤ p) (p1 : p ≤ 1000000000) (n0 : 1 ≤ n) (k : Nat) (hk : 0 < k) :
    ∃ r, spec_l20Rd_pick.f k s p n = some (r, p + 1) ∧ 0 ≤ r ∧ r < n := by
  obtain ⟨k, rfl⟩ : ∃ m, k = m + 1 := ⟨k - 1, by omega⟩
  unfold spec_l20Rd_pick.f
  rw [if_neg (by omega), w64 (n := p + 1) (by omega) (by omega)]
  simp only [spec_l20Rd_pick.j0]
  by_cases e : (s.length : Int) = 0
  · rw [if_pos (by simpa using e)]; exact ⟨0, rfl, by omega, by omega⟩
  · rw [if_neg (by simpa using e), show p + 1 - 1 = p from by omega, w64 (n := p) (by omega) (by omega)]
    by_cases q : p < (s.length : Int)
    · rw [if_pos q, if_pos p0, if_neg (by omega)]
      obtain ⟨b0, b1⟩ := bytes_rd hb p0 q
      rw [w64 (n := rd s p) (by omega) (by omega)]
      exact ⟨_, rfl, tmod_rng b0 n0⟩
    · obtain ⟨u0, u1⟩ := tmod_rng (x := p) (n := (s.length : Int)) p0 (by omega)
      rw [if_neg q, if_neg e, if_pos u0, if_pos u1, w64 (n := p * 7) (by omega) (by omega), w64 (n := p * 7 + 3) (by omega) (by omega)]
      obtain ⟨v0, v1⟩ := tmod_rng (x := p * 7 + 3) (n := (s.length : Int)) (by omega) (by omega)
      rw [if_pos v0, if_pos v1, if_neg (by omega)]
      obtain ⟨b0, b1⟩ := bytes_rd hb u0 u1
      obtain ⟨c0, c1⟩ := bytes_rd hb v0 v1
      have d0 : 0 ≤ Int.tdiv p (s.length : Int) ∧ Int.tdiv p (s.length : Int) ≤ p := by
        rw [Int.tdiv_eq_ediv_of_nonneg p0]
        exact ⟨Int.ediv_nonneg p0 (by omega), Int.ediv_le_self _ p0⟩
      generalize rd s (Int.tmod p (s.length : Int)) = B at *
      generalize rd s (Int.tmod (p * 7 + 3) (s.length : Int)) = C at *
      generalize Int.tdiv p (s.length : Int) = Q at *
      rw [w64 (n := B) (by omega) (by omega), w64 (n := C) (by omega) (by omega), w64 (n := Q) (by omega) (by omega), w64 (n := B * 131) (by omega) (by omega), w64 (n := C * 1117) (by omega) (by omega), w64 (n := p * 29) (by omega) (by omega), w64 (n := Q * 53) (by omega) (by omega), w64 (n := B * 131 + C * 1117) (by omega) (by omega), w64 (n := B * 131 + C * 1117 + p * 29) (by omega) (by omega), w64 (n := B * 131 + C * 1117 + p * 29 + Q * 53) (by omega) (by omega)]
      have X0 : 0 ≤ B * 131 + C * 1117 + p * 29 + Q * 53 ∧ B * 131 + C * 1117 + p * 29 + Q * 53 < 1000000000000 := by omega
      generalize B * 131 + C * 1117 + p * 29 + Q * 53 = X at *
      have D0 : 0 ≤ Int.tdiv X 64 ∧ Int.tdiv X 64 ≤ X := by rw [Int.tdiv_eq_ediv_of_nonneg X0.1]; omega
      rw [w64 (n := Int.tdiv X 64) (by omega) (by omega)]
      obtain ⟨x0, _⟩ := bits_xor_i64 (x := X) (y := Int.tdiv X 64) (by omega) (by omega) (by omega) (by omega)
      exact ⟨_, rfl, tmod_rng x0 n0⟩
theorem num_ok (s : List Int) (hb : bytes s) (hl : s.length ≤ 2000) {p : Int} (p0 : 0 ≤ p) (p1 : p ≤ 1000000000) (l : List Int) (h : 0 < l.length) (k : Nat) (hk : 0 < k) :
    ∃ r, spec_l20Rd_num.f k s p l = some (r, p + 1) ∧ r ∈ l := by
  obtain ⟨i, e, i0, i1⟩ := pick_ok s hb hl p0 p1 (n := (l.length : Int)) (by omega) k hk
  unfold spec_l20Rd_num.f
  rw [e]
  simp only [Option.bind_some]
  rw [if_pos i0, if_pos i1]
  exact ⟨_, rfl, rd_mem l i0 i1⟩
theorem l1num_ok (s : List Int) (hb : bytes s) (hl : s.length ≤ 2000) {p : Int} (p0 : 0 ≤ p) (p1 : p ≤ 100000000) (m : Int) (k : Nat) (hk : 0 < k) :
    ∃ r, spec_l1Num.f k s p m = some (r, p + 2) := by
  obtain ⟨i, e, i0, i1⟩ := pick_ok s hb hl p0 (by omega) (n := 256) (by omega) k hk
  unfold spec_l1Num.f
  rw [e]
  simp only [Option.bind_some]
  obtain ⟨r, e2, _⟩ := num_ok s hb hl (p := p + 1) (by omega) (by omega) [(-1), 0, 1, 2, 3, 5, i, wrap64 (m - 1), m, wrap64 (m + 1)] (by simp) k hk
  rw [e2]
  simp only [Option.bind_some]
  exact ⟨r, by rw [show p + 1 + 1 = p + 2 from by omega]⟩
theorem drawpack_ok (l : List Int) (hl : l.length ≤ 1048576) (hb : ∀ x ∈ l, (Lit.int .u8 x).wf = true) (k : Nat) (hk : 0 < k) : ∃ v s, spec_DrawCellPack.f k l = some (v, s) := by
  obtain ⟨s, e, hs, hn⟩ := open_ok l hl hb
  unfold spec_DrawCellPack.f
  rw [e]
  simp only [Option.bind_some]
  obtain ⟨a, e1⟩ := l1num_ok s hs hn (p := 0) (by omega) (by omega) 4294967295 k hk
  rw [e1]
  simp only [Option.bind_some]
  obtain ⟨b, e2⟩ := l1num_ok s hs hn (p := 0 + 2) (by omega) (by omega) 4294967295 k hk
  rw [e2]
  exact ⟨a, b, rfl⟩
theorem low_eq (n m : Int) : spec_l1Low.f n m = some (cl n m) := by
  unfold spec_l1Low.f cl
  by_cases a : n < 0
  · rw [if_pos a, if_pos a]
  · rw [if_neg a, if_neg a]
    by_cases b : n > m
    · rw [if_pos b, if_pos b]
    · rw [if_neg b, if_neg b]
theorem spack_eq (v s : Int) : spec_CellPack.f v s = some (pack v s) := by
  unfold spec_CellPack.f; simp only [low_eq, Option.bind_some]; rw [pack_spec]
theorem clamp_eq (n m : Int) (h : 0 ≤ m) : impl_clamp.f n m = some (cl n m) := by
  unfold impl_clamp.f; rw [cl_mx n m h]
theorem ipack_eq (v s : Int) : impl_CellPack.f v s = some (pack v s) := by
  unfold impl_CellPack.f; rw [clamp_eq _ _ (by omega), clamp_eq _ _ (by omega)]; simp only [Option.bind_some]; rw [pack_impl]
theorem ival_eq {w : Int} (h : 0 ≤ w) (h1 : w ≤ 18446744073709551615) : impl_CellVal.f w = some (wval w) := by
  unfold impl_CellVal.f; rw [val_impl h h1]
theorem istamp_eq {w : Int} (h : 0 ≤ w) (h1 : w ≤ 18446744073709551615) : impl_CellStamp.f w = some (wstamp w) := by
  unfold impl_CellStamp.f; rw [stamp_impl h h1]
theorem idoorof_eq {w : Int} (h0 : 0 ≤ w) (h1 : w ≤ 18446744073709551615) : impl_CellDoorOf.f w = some (wval w % 4, wval w / 4 % 8, wval w / 32) := by
  unfold impl_CellDoorOf.f
  have a := wval_lo w
  have b := wval_hi w
  simp only [ival_eq h0 h1, Option.bind_some]
  rw [tmodp a, tdivp a, tdivp a, w64 (n := wval w / 4) (by omega) (by omega), w64 (n := wval w / 32) (by omega) (by omega), tmodp (a := wval w / 4) (by omega)]
theorem iregof_eq {w : Int} (h0 : 0 ≤ w) (h1 : w ≤ 18446744073709551615) : impl_CellRegOf.f w = some (wval w % 4, wval w / 4) := by
  unfold impl_CellRegOf.f
  have a := wval_lo w
  have b := wval_hi w
  simp only [ival_eq h0 h1, Option.bind_some]
  rw [tmodp a, tdivp a, w64 (by omega) (by omega)]
theorem idoor_eq (a b c d : Int) : impl_CellDoor.f a b c d = some (pack (cl a 2 + 4 * cl b 7 + 32 * cl c 4095) d) := by
  unfold impl_CellDoor.f
  have := cl_lo a 2 (by omega); have := cl_hi a 2 (by omega); have := cl_lo b 7 (by omega); have := cl_hi b 7 (by omega); have := cl_lo c 4095 (by omega); have := cl_hi c 4095 (by omega)
  simp only [clamp_eq _ 2 (by omega), clamp_eq _ 7 (by omega), clamp_eq _ 4095 (by omega), Option.bind_some, ipack_eq]
  rw [w64 (n := 4 * cl b 7) (by omega) (by omega), w64 (n := 32 * cl c 4095) (by omega) (by omega), w64 (n := cl a 2 + 4 * cl b 7) (by omega) (by omega), w64 (by omega) (by omega)]
theorem sdoor_eq (a b c d : Int) : spec_CellDoor.f a b c d = some (pack (cl a 2 + 4 * cl b 7 + 32 * cl c 4095) d) := by
  unfold spec_CellDoor.f
  have := cl_lo a 2 (by omega); have := cl_hi a 2 (by omega); have := cl_lo b 7 (by omega); have := cl_hi b 7 (by omega); have := cl_lo c 4095 (by omega); have := cl_hi c 4095 (by omega)
  simp only [low_eq, Option.bind_some, spack_eq]
  rw [w64 (n := 4 * cl b 7) (by omega) (by omega), w64 (n := 32 * cl c 4095) (by omega) (by omega), w64 (n := cl a 2 + 4 * cl b 7) (by omega) (by omega), w64 (by omega) (by omega)]
theorem ireg_eq (a c d : Int) : impl_CellReg.f a c d = some (pack (cl a 2 + 4 * cl c 4095) d) := by
  unfold impl_CellReg.f
  have := cl_lo a 2 (by omega); have := cl_hi a 2 (by omega); have := cl_lo c 4095 (by omega); have := cl_hi c 4095 (by omega)
  simp only [clamp_eq _ 2 (by omega), clamp_eq _ 4095 (by omega), Option.bind_some, ipack_eq]
  rw [w64 (n := 4 * cl c 4095) (by omega) (by omega), w64 (by omega) (by omega)]
theorem ientry_eq (a b d : Int) : impl_CellEntry.f a b d = some (pack (cl a 4095 * 1048576 + cl b 1048575) d) := by
  unfold impl_CellEntry.f
  have := cl_lo a 4095 (by omega); have := cl_hi a 4095 (by omega); have := cl_lo b 1048575 (by omega); have := cl_hi b 1048575 (by omega)
  simp only [clamp_eq _ 1048575 (by omega), clamp_eq _ 4095 (by omega), Option.bind_some, ipack_eq]
  rw [w64 (n := cl a 4095 * 1048576) (by omega) (by omega), w64 (by omega) (by omega)]
theorem sentry_eq (a b d : Int) : spec_CellEntry.f a b d = some (pack (cl a 4095 * 1048576 + cl b 1048575) d) := by
  unfold spec_CellEntry.f
  have := cl_lo a 4095 (by omega); have := cl_hi a 4095 (by omega); have := cl_lo b 1048575 (by omega); have := cl_hi b 1048575 (by omega)
  simp only [low_eq, Option.bind_some, spack_eq]
  rw [w64 (n := cl a 4095 * 1048576) (by omega) (by omega), w64 (by omega) (by omega)]
theorem ientryof_eq {w : Int} (h0 : 0 ≤ w) (h1 : w ≤ 18446744073709551615) : impl_CellEntryOf.f w = some (wval w / 1048576, wval w % 1048576) := by
  unfold impl_CellEntryOf.f
  have a := wval_lo w
  have b := wval_hi w
  simp only [ival_eq h0 h1, Option.bind_some]
  rw [tmodp a, tdivp a, w64 (by omega) (by omega)]
theorem pack_val {v s : Int} (h0 : 0 ≤ v) (h1 : v ≤ 4294967295) : wval (pack v s) = v := by
  have := cl_lo s 4294967295 (by omega)
  unfold pack wval; rw [cl_id h0 h1]; omega
theorem pack_stamp {v s : Int} (h0 : 0 ≤ s) (h1 : s ≤ 4294967295) : wstamp (pack v s) = s := by
  have := cl_lo v 4294967295 (by omega); have := cl_hi v 4294967295 (by omega)
  unfold pack wstamp; rw [cl_id h0 h1]; omega
theorem pack_own {w : Int} (h0 : 0 ≤ w) (h1 : w ≤ 18446744073709551615) : pack (wval w) (wstamp w) = w := by
  unfold pack; rw [cl_id (wval_lo w) (wval_hi w), cl_id (wstamp_lo h0) (wstamp_hi h1)]; unfold wval wstamp; omega
theorem drawdoor_ok (l : List Int) (hl : l.length ≤ 1048576) (hb : ∀ x ∈ l, (Lit.int .u8 x).wf = true) (k : Nat) (hk : 0 < k) : ∃ a b c d, spec_DrawCellDoor.f k l = some (a, b, c, d) := by
  obtain ⟨s, e, hs, hn⟩ := open_ok l hl hb
  unfold spec_DrawCellDoor.f
  rw [e]
  simp only [Option.bind_some]
  obtain ⟨a, e1⟩ := l1num_ok s hs hn (p := 0) (by omega) (by omega) 2 k hk
  rw [e1]; simp only [Option.bind_some]
  obtain ⟨b, e2⟩ := l1num_ok s hs hn (p := 0 + 2) (by omega) (by omega) 7 k hk
  rw [e2]; simp only [Option.bind_some]
  obtain ⟨c, e3⟩ := l1num_ok s hs hn (p := 0 + 2 + 2) (by omega) (by omega) 4095 k hk
  rw [e3]; simp only [Option.bind_some]
  obtain ⟨d, e4⟩ := l1num_ok s hs hn (p := 0 + 2 + 2 + 2) (by omega) (by omega) 4294967295 k hk
  rw [e4]
  exact ⟨a, b, c, d, rfl⟩
theorem drawentry_ok (l : List Int) (hl : l.length ≤ 1048576) (hb : ∀ x ∈ l, (Lit.int .u8 x).wf = true) (k : Nat) (hk : 0 < k) : ∃ a b c, spec_DrawCellEntry.f k l = some (a, b, c) := by
  obtain ⟨s, e, hs, hn⟩ := open_ok l hl hb
  unfold spec_DrawCellEntry.f
  rw [e]
  simp only [Option.bind_some]
  obtain ⟨a, e1⟩ := l1num_ok s hs hn (p := 0) (by omega) (by omega) 4095 k hk
  rw [e1]; simp only [Option.bind_some]
  obtain ⟨b, e2⟩ := l1num_ok s hs hn (p := 0 + 2) (by omega) (by omega) 1048575 k hk
  rw [e2]; simp only [Option.bind_some]
  obtain ⟨c, e3⟩ := l1num_ok s hs hn (p := 0 + 2 + 2) (by omega) (by omega) 4294967295 k hk
  rw [e3]
  exact ⟨a, b, c, rfl⟩
theorem word_l (s : List Int) (hs : bytes s) (hn : s.length ≤ 2000) (d : Nat) : ∀ (k : Nat) (x i p : Int), 0 ≤ x → x ≤ 18446744073709551615 → 0 ≤ p → p ≤ 1000 + i → 0 ≤ i → i ≤ 8 → 8 - i = d → d + 1 < k → ∃ r q, spec_l20Rd_word.l0 k x i s p = some (r, q) ∧ 0 ≤ r ∧ r ≤ 18446744073709551615 := by
  induction d with
  | zero =>
    intro k x i p x0 x1 p0 p1 i0 i1 hd hk
    obtain ⟨k, rfl⟩ : ∃ m, k = m + 1 := ⟨k - 1, by omega⟩
    simp only [spec_l20Rd_word.l0]
    rw [if_neg (by omega)]
    exact ⟨x, p, rfl, x0, x1⟩
  | succ d ih =>
    intro k x i p x0 x1 p0 p1 i0 i1 hd hk
    obtain ⟨k, rfl⟩ : ∃ m, k = m + 1 := ⟨k - 1, by omega⟩
    simp only [spec_l20Rd_word.l0]
    rw [if_pos (by omega)]
    obtain ⟨r, e, _, _⟩ := pick_ok s hs hn p0 (by omega) (n := 256) (by omega) k (by omega)
    rw [e, w64 (n := i + 1) (by omega) (by omega)]
    simp only [Option.bind_some]
    exact ih k _ (i + 1) (p + 1) (by rw [wu64']; omega) (by rw [wu64']; omega) (by omega) (by omega) (by omega) (by omega) (by omega) (by omega)
theorem drawval_ok (l : List Int) (hl : l.length ≤ 1048576) (hb : ∀ x ∈ l, (Lit.int .u8 x).wf = true) (k : Nat) (hk : 9 < k) : ∃ w, spec_DrawCellVal.f k l = some w ∧ 0 ≤ w ∧ w ≤ 18446744073709551615 := by
  obtain ⟨s, e, hs, hn⟩ := open_ok l hl hb
  unfold spec_DrawCellVal.f spec_l20Rd_word.f
  rw [e]
  simp only [Option.bind_some]
  obtain ⟨r, q, e1, r0, r1⟩ := word_l s hs hn 8 k 0 0 0 (by omega) (by omega) (by omega) (by omega) (by omega) (by omega) (by omega) (by omega)
  rw [e1]
  exact ⟨r, rfl, r0, r1⟩

end Go.Proofs.Ytgeeaieapkfnoaa.Cl

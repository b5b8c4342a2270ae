/- For all two codes of at most 2^20 bytes, of the two words drawn from them the one with the greater stamp, or with the same stamp and the greater value, is the greater number. -/
import Derived.Test.YtgeeaieapkfnoaaPFnCellOrderx1
import Derived.Test.YtgeeaieapkfnoaaPl
set_option linter.unusedVariables false
set_option linter.unusedSimpArgs false
namespace Go.Proofs.Ytgeeaieapkfnoaa.Pure
open Go.RowKit Go.Proofs.Ytgeeaieapkfnoaa.PFnCellOrder Go.Proofs.YtgeeaieapkfnoaaW.PrintWords Go.Proofs.YtgeeaieapkfnoaaW.PrintLast Go.Proofs.YtgeeaieapkfnoaaW.PrintMore Go.Proofs.Ytgeeaieapkfnoaa.Pl

/-- A code's bytes. -/
def bytes (s : List Int) : Prop := ∀ x ∈ s, 0 ≤ x ∧ x ≤ 255
theorem bytes_rd {s : List Int} (h : bytes s) {i : Int} (h0 : 0 ≤ i) (h1 : i < (s.length : Int)) : 0 ≤ rd s i ∧ rd s i ≤ 255 := h _ (rd_mem s h0 h1)
theorem open_ok (l : List Int) (hl : l.length ≤ 1048576) (hb : ∀ x ∈ l, (Lit.int .u8 x).wf = true) : ∃ s, spec_l20Open.f l = some (s, 0) ∧ bytes s ∧ s.length ≤ 2000 := by
  have hb' : bytes l := fun x hx => by have := hb x hx; simpa [Lit.wf, IntKind.min, IntKind.max, IntKind.bits, IntKind.signed] using this
  unfold spec_l20Open.f
  by_cases h : (l.length : Int) > 2000
  · rw [if_pos h, if_pos (by omega)]
    exact ⟨l.take 2000, rfl, fun x hx => hb' x (List.mem_of_mem_take hx), by rw [List.length_take]; omega⟩
  · rw [if_neg h]; exact ⟨l, rfl, hb', by omega⟩
theorem tmod_rng {x n : Int} (h0 : 0 ≤ x) (h1 : 1 ≤ n) : 0 ≤ Int.tmod x n ∧ Int.tmod x n < n := by
  rw [Int.tmod_eq_emod_of_nonneg h0]; exact ⟨Int.emod_nonneg _ (by omega), Int.emod_lt_of_pos _ (by omega)⟩
theorem pick_ok (s : List Int) (hb : bytes s) (hl : s.length ≤ 2000) {p n : Int} (p0 : 0 ≤ p) (p1 : p ≤ 1000000000) (n0 : 1 ≤ n) (k : Nat) (hk : 0 < k) :
    ∃ r, spec_l20Rd_pick.f k s p n = some (r, p + 1) ∧ 0 ≤ r ∧ r < n := by
  obtain ⟨k, rfl⟩ : ∃ m, k = m + 1 := ⟨k - 1, by omega⟩
  unfold spec_l20Rd_pick.f
  rw [if_neg (by omega), w64 (n := p + 1) (by omega) (by omega)]
  simp only [spec_l20Rd_pick.j0]
  by_cases e : (s.length : Int) = 0
  · rw [if_pos (by simpa using e)]; exact ⟨0, rfl, by omega, by omega⟩
  · rw [if_neg (by simpa using e), show p + 1 - 1 = p from by omega, w64 (n := p) (by omega) (by omega)]
    by_cases q : p < (s.length : Int)
    · rw [if_pos q, if_pos p0, if_neg (by omega)]
      obtain ⟨b0, b1⟩ := bytes_rd hb p0 q
      rw [w64 (n := rd s p) (by omega) (by omega)]
      exact ⟨_, rfl, tmod_rng b0 n0⟩
    · obtain ⟨u0, u1⟩ := tmod_rng (x := p) (n := (s.length : Int)) p0 (by omega)
      rw [if_neg q, if_neg e, if_pos u0, if_pos u1, w64 (n := p * 7) (by omega) (by omega), w64 (n := p * 7 + 3) (by omega) (by omega)]
      obtain ⟨v0, v1⟩ := tmod_rng (x := p * 7 + 3) (n := (s.length : Int)) (by omega) (by omega)
      rw [if_pos v0, if_pos v1, if_neg (by omega)]
      obtain ⟨b0, b1⟩ := bytes_rd hb u0 u1
      obtain ⟨c0, c1⟩ := bytes_rd hb v0 v1
      have d0 : 0 ≤ Int.tdiv p (s.length : Int) ∧ Int.tdiv p (s.length : Int) ≤ p := by
        rw [Int.tdiv_eq_ediv_of_nonneg p0]
        exact ⟨Int.ediv_nonneg p0 (by omega), Int.ediv_le_self _ p0⟩
      generalize rd s (Int.tmod p (s.length : Int)) = B at *
      generalize rd s (Int.tmod (p * 7 + 3) (s.length : Int)) = C at *
      generalize Int.tdiv p (s.length : Int) = Q at *
      rw [w64 (n := B) (by omega) (by omega), w64 (n := C) (by omega) (by omega), w64 (n := Q) (by omega) (by omega), w64 (n := B * 131) (by omega) (by omega), w64 (n := C * 1117) (by omega) (by omega), w64 (n := p * 29) (by omega) (by omega), w64 (n := Q * 53) (by omega) (by omega), w64 (n := B * 131 + C * 1117) (by omega) (by omega), w64 (n := B * 131 + C * 1117 + p * 29) (by omega) (by omega), w64 (n := B * 131 + C * 1117 + p * 29 + Q * 53) (by omega) (by omega)]
      have X0 : 0 ≤ B * 131 + C * 1117 + p * 29 + Q * 53 ∧ B * 131 + C * 1117 + p * 29 + Q * 53 < 1000000000000 := by omega
      generalize B * 131 + C * 1117 + p * 29 + Q * 53 = X at *
      have D0 : 0 ≤ Int.tdiv X 64 ∧ Int.tdiv X 64 ≤ X := by rw [Int.tdiv_eq_ediv_of_nonneg X0.1]; omega
      rw [w64 (n := Int.tdiv X 64) (by omega) (by omega)]
      obtain ⟨x0, _⟩ := bits_xor_i64 (x := X) (y := Int.tdiv X 64) (by omega) (by omega) (by omega) (by omega)
      exact ⟨_, rfl, tmod_rng x0 n0⟩
theorem num_ok (s : List Int) (hb : bytes s) (hl : s.length ≤ 2000) {p : Int} (p0 : 0 ≤ p) (p1 : p ≤ 1000000000) (l : List Int) (h : 0 < l.length) (k : Nat) (hk : 0 < k) :
    ∃ r, spec_l20Rd_num.f k s p l = some (r, p + 1) ∧ r ∈ l := by
  obtain ⟨i, e, i0, i1⟩ := pick_ok s hb hl p0 p1 (n := (l.length : Int)) (by omega) k hk
  unfold spec_l20Rd_num.f
  rw [e]
  simp only [Option.bind_some]
  rw [if_pos i0, if_pos i1]
  exact ⟨_, rfl, rd_mem l i0 i1⟩
theorem l1num_ok (s : List Int) (hb : bytes s) (hl : s.length ≤ 2000) {p : Int} (p0 : 0 ≤ p) (p1 : p ≤ 100000000) (m : Int) (k : Nat) (hk : 0 < k) :
    ∃ r, spec_l1Num.f k s p m = some (r, p + 2) := by
  obtain ⟨i, e, i0, i1⟩ := pick_ok s hb hl p0 (by omega) (n := 256) (by omega) k hk
  unfold spec_l1Num.f
  rw [e]
  simp only [Option.bind_some]
  obtain ⟨r, e2, _⟩ := num_ok s hb hl (p := p + 1) (by omega) (by omega) [(-1), 0, 1, 2, 3, 5, i, wrap64 (m - 1), m, wrap64 (m + 1)] (by simp) k hk
  rw [e2]
  simp only [Option.bind_some]
  exact ⟨r, by rw [show p + 1 + 1 = p + 2 from by omega]⟩
theorem drawpack_ok (l : List Int) (hl : l.length ≤ 1048576) (hb : ∀ x ∈ l, (Lit.int .u8 x).wf = true) (k : Nat) (hk : 0 < k) : ∃ v s, spec_DrawCellPack.f k l = some (v, s) := by
  obtain ⟨s, e, hs, hn⟩ := open_ok l hl hb
  unfold spec_DrawCellPack.f
  rw [e]
  simp only [Option.bind_some]
  obtain ⟨a, e1⟩ := l1num_ok s hs hn (p := 0) (by omega) (by omega) 4294967295 k hk
  rw [e1]
  simp only [Option.bind_some]
  obtain ⟨b, e2⟩ := l1num_ok s hs hn (p := 0 + 2) (by omega) (by omega) 4294967295 k hk
  rw [e2]
  exact ⟨a, b, rfl⟩
theorem low_eq (n m : Int) : spec_l1Low.f n m = some (cl n m) := by
  unfold spec_l1Low.f cl
  by_cases a : n < 0
  · rw [if_pos a, if_pos a]
  · rw [if_neg a, if_neg a]
    by_cases b : n > m
    · rw [if_pos b, if_pos b]
    · rw [if_neg b, if_neg b]
theorem spack_eq (v s : Int) : spec_CellPack.f v s = some (pack v s) := by
  unfold spec_CellPack.f; simp only [low_eq, Option.bind_some]; rw [pack_spec]
theorem clamp_eq (n m : Int) (h : 0 ≤ m) : impl_clamp.f n m = some (cl n m) := by
  unfold impl_clamp.f; rw [cl_mx n m h]
theorem ipack_eq (v s : Int) : impl_CellPack.f v s = some (pack v s) := by
  unfold impl_CellPack.f; rw [clamp_eq _ _ (by omega), clamp_eq _ _ (by omega)]; simp only [Option.bind_some]; rw [pack_impl]
theorem ival_eq {w : Int} (h : 0 ≤ w) (h1 : w ≤ 18446744073709551615) : impl_CellVal.f w = some (wval w) := by
  unfold impl_CellVal.f; rw [val_impl h h1]
theorem istamp_eq {w : Int} (h : 0 ≤ w) (h1 : w ≤ 18446744073709551615) : impl_CellStamp.f w = some (wstamp w) := by
  unfold impl_CellStamp.f; rw [stamp_impl h h1]
theorem order_words (x y : Int) (x0 : 0 ≤ x) (x1 : x ≤ 18446744073709551615) (y0 : 0 ≤ y) (y1 : y ≤ 18446744073709551615) :
    (if wstamp x < wstamp y then (if ((decide (x < y)) == true) = true then (if wstamp x = wstamp y then (some ((x == y) == (wval x == wval y))) else (some ((x == y) == false))) else (some false)) else (if wstamp x = wstamp y then (if ((decide (x < y)) == (decide (wval x < wval y))) = true then (some ((x == y) == (wval x == wval y))) else (some false)) else (if ((decide (x < y)) == false) = true then (some ((x == y) == false)) else (some false)))) = some true := by
  have fx : x = wstamp x * 4294967296 + wval x := by unfold wstamp wval; omega
  have fy : y = wstamp y * 4294967296 + wval y := by unfold wstamp wval; omega
  have vx0 := wval_lo x
  have vx1 := wval_hi x
  have vy0 := wval_lo y
  have vy1 := wval_hi y
  generalize wstamp x = p at *
  generalize wstamp y = q at *
  generalize wval x = v at *
  generalize wval y = w at *
  by_cases c : p < q
  · have h1 : x < y := by omega
    have h2 : ¬ x = y := by omega
    rw [if_pos c, if_pos (by rw [decide_eq_true h1]; rfl), if_neg (by omega), show (x == y) = false from beq_eq_false_iff_ne.2 h2]
    rfl
  · rw [if_neg c]
    by_cases d : p = q
    · have h1 : decide (x < y) = decide (v < w) := by rw [decide_eq_decide]; omega
      have h2 : (x == y) = (v == w) := by rw [Bool.eq_iff_iff, beq_iff_eq, beq_iff_eq]; omega
      rw [if_pos d, if_pos (by rw [h1, beq_self_eq_true]), h2, beq_self_eq_true]
    · have h1 : ¬ x < y := by omega
      have h2 : ¬ x = y := by omega
      rw [if_neg d, if_pos (by rw [decide_eq_false h1]; rfl), show (x == y) = false from beq_eq_false_iff_ne.2 h2]
      rfl
theorem order_core (k : Nat) (l m : List Int) (a s b t x y : Int) (e1 : spec_DrawCellPack.f k l = some (a, s)) (e2 : spec_DrawCellPack.f k m = some (b, t))
    (h1 : impl_CellPack.f a s = some x) (h2 : impl_CellPack.f b t = some y) (h3 : spec_CellPack.f a s = some x) (x0 : 0 ≤ x) (x1 : x ≤ 18446744073709551615) (y0 : 0 ≤ y) (y1 : y ≤ 18446744073709551615) : laws_FnCellOrder.j0 (k + 1) l m false = some true := by
  simp only [laws_FnCellOrder.j0, Bool.false_eq_true, if_false]
  rw [e1, e2]
  simp only [Option.bind_some]
  rw [h1, h2, h3]
  simp only [Option.bind_some]
  rw [if_pos trivial, istamp_eq x0 x1, istamp_eq y0 y1, ival_eq x0 x1, ival_eq y0 y1]
  exact order_words x y x0 x1 y0 y1
theorem FnCellOrder : ∀ (l0 : List Int) (l1 : List Int), (l0.length ≤ 9223372036854775807 ∧ ∀ y0 ∈ l0, (Lit.int .u8 y0).wf = true) → (l1.length ≤ 9223372036854775807 ∧ ∀ y0 ∈ l1, (Lit.int .u8 y0).wf = true) → ∃ k, laws_FnCellOrder.f k l0 l1 = some true := by
  intro l m ⟨_, hl⟩ ⟨_, hm⟩
  by_cases h : (l.length : Int) > 1048576
  · refine ⟨1, ?_⟩
    unfold laws_FnCellOrder.f
    rw [if_pos h]; simp only [laws_FnCellOrder.j0, if_true]
  · by_cases g : (m.length : Int) > 1048576
    · refine ⟨1, ?_⟩
      unfold laws_FnCellOrder.f
      rw [if_neg h, decide_eq_true g]; simp only [laws_FnCellOrder.j0, if_true]
    · obtain ⟨a, s, e1⟩ := drawpack_ok l (by omega) hl 1 (by omega)
      obtain ⟨b, t, e2⟩ := drawpack_ok m (by omega) hm 1 (by omega)
      refine ⟨1 + 1, ?_⟩
      unfold laws_FnCellOrder.f
      rw [if_neg h, decide_eq_false g]
      exact order_core 1 l m a s b t _ _ e1 e2 (ipack_eq a s) (ipack_eq b t) (spack_eq a s) (pack_lo _ _) (pack_hi _ _) (pack_lo _ _) (pack_hi _ _)

end Go.Proofs.Ytgeeaieapkfnoaa.Pure

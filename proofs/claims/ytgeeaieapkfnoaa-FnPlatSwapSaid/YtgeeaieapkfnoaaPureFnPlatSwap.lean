/- For every code of at most 2^20 bytes, the swap drawn from it puts its word just where the old one is, turns nothing else, and can be swapped back. -/
import Derived.Test.YtgeeaieapkfnoaaPFnPlatSwapx2
import Derived.Test.YtgeeaieapkfnoaaPl
set_option linter.unusedVariables false
set_option linter.unusedSimpArgs false
namespace Go.Proofs.Ytgeeaieapkfnoaa.Pure
open Go.RowKit Go.Proofs.Ytgeeaieapkfnoaa.PFnPlatSwap Go.Proofs.YtgeeaieapkfnoaaW.PrintWords Go.Proofs.YtgeeaieapkfnoaaW.PrintLast Go.Proofs.YtgeeaieapkfnoaaW.PrintMore Go.Proofs.Ytgeeaieapkfnoaa.Pl

theorem within_eq (n a b : Int) : impl_within.f n a b = some (decide (a ≤ n ∧ n ≤ b)) := by
  unfold impl_within.f
  by_cases h : a ≤ n
  · rw [if_pos h]; congr 1; simp [h]
  · rw [if_neg h]; congr 1; simp [h]
theorem clone64 (l : List Int) (h : l.length < 17592186044416) : slices_Clone_uint64_uint64.f l = some l := by
  unfold slices_Clone_uint64_uint64.f
  simp only [Option.bind_some, List.length_nil, Nat.zero_add, List.nil_append]
  rw [if_pos h]
/-- A swap: the words then, and whether the old one was there. -/
def swp (l : List Int) (a o n : Int) : List Int × Bool := if (0 ≤ a ∧ a < (l.length : Int)) ∧ rd l a = o then (l.set a.toNat n, true) else (l, false)
theorem swp_len (l : List Int) (a o n : Int) : (swp l a o n).1.length = l.length := by
  unfold swp
  split
  · exact List.length_set
  · rfl
theorem sswap_eq (l : List Int) (a o n : Int) (h : l.length ≤ 1048576) : spec_PlatSwap.f l a o n = some (swp l a o n) := by
  unfold spec_PlatSwap.f swp
  simp only [Option.bind_some, List.length_nil, Nat.zero_add, List.nil_append]
  rw [if_pos (by omega)]
  by_cases h0 : a < 0
  · rw [if_pos h0, if_neg (by omega)]
  · rw [if_neg h0]
    by_cases h1 : a ≥ (l.length : Int)
    · rw [if_pos h1, if_neg (by omega)]
    · rw [if_neg h1, if_pos (by omega), if_pos (by omega)]
      by_cases h2 : rd l a = o
      · rw [if_pos h2, if_pos (by omega), if_pos ⟨by omega, h2⟩]
      · rw [if_neg h2, if_neg (fun h => h2 h.2)]
theorem iswap_eq (l : List Int) (a o n : Int) (h : l.length ≤ 1048576) : impl_PlatSwap.f l a o n = some (swp l a o n) := by
  unfold impl_PlatSwap.f swp
  rw [clone64 l (by omega), within_eq, w64 (n := (l.length : Int) - 1) (by omega) (by omega)]
  simp only [Option.bind_some, decide_eq_true_eq]
  by_cases h0 : 0 ≤ a ∧ a < (l.length : Int)
  · rw [if_pos (by omega), if_pos h0.1, if_pos h0.2]
    by_cases h2 : rd l a = o
    · rw [if_pos h2, if_pos h0.2, if_pos ⟨h0, h2⟩]
    · rw [if_neg h2, if_neg (fun h => h2 h.2)]
  · rw [if_neg (by omega), if_neg (fun h => h0 h.1)]
/-- A code's bytes. -/
def bytes (s : List Int) : Prop := ∀ x ∈ s, 0 ≤ x ∧ x ≤ 255
theorem bytes_rd {s : List Int} (h : bytes s) {i : Int} (h0 : 0 ≤ i) (h1 : i < (s.length : Int)) : 0 ≤ rd s i ∧ rd s i ≤ 255 := h _ (rd_mem s h0 h1)
theorem open_ok (l : List Int) (hl : l.length ≤ 1048576) (hb : ∀ x ∈ l, (Lit.int .u8 x).wf = true) : ∃ s, spec_l20Open.f l = some (s, 0) ∧ bytes s ∧ s.length ≤ 2000 := by
  have hb' : bytes l := fun x hx => by have := hb x hx; simpa [Lit.wf, IntKind.min, IntKind.max, IntKind.bits, IntKind.signed] using this
  unfold spec_l20Open.f
  by_cases h : (l.length : Int) > 2000
  · rw [if_pos h, if_pos (by omega)]
    exact ⟨l.take 2000, rfl, fun x hx => hb' x (List.mem_of_mem_take hx), by rw [List.length_take]; omega⟩
  · rw [if_neg h]; exact ⟨l, rfl, hb', by omega⟩
theorem tmod_rng {x n : Int} (h0 : 0 ≤ x) (h1 : 1 ≤ n) : 0 ≤ Int.tmod x n ∧ Int.tmod x n < n := by
  rw [Int.tmod_eq_emod_of_nonneg h0]; exact ⟨Int.emod_nonneg _ (by omega), Int.emod_lt_of_pos _ (by omega)⟩
theorem pick_ok (s : List Int) (hb : bytes s) (hl : s.length ≤ 2000) {p n : Int} (p0 : 0 ≤ p) (p1 : p ≤ 1000000000) (n0 : 1 ≤ n) (k : Nat) (hk : 0 < k) :
    ∃ r, spec_l20Rd_pick.f k s p n = some (r, p + 1) ∧ 0 ≤ r ∧ r < n := by
  obtain ⟨k, rfl⟩ : ∃ m, k = m + 1 := ⟨k - 1, by omega⟩
  unfold spec_l20Rd_pick.f
  rw [if_neg (by omega), w64 (n := p + 1) (by omega) (by omega)]
  simp only [spec_l20Rd_pick.j0]
  by_cases e : (s.length : Int) = 0
  · rw [if_pos (by simpa using e)]; exact ⟨0, rfl, by omega, by omega⟩
  · rw [if_neg (by simpa using e), show p + 1 - 1 = p from by omega, w64 (n := p) (by omega) (by omega)]
    by_cases q : p < (s.length : Int)
    · rw [if_pos q, if_pos p0, if_neg (by omega)]
      obtain ⟨b0, b1⟩ := bytes_rd hb p0 q
      rw [w64 (n := rd s p) (by omega) (by omega)]
      exact ⟨_, rfl, tmod_rng b0 n0⟩
    · obtain ⟨u0, u1⟩ := tmod_rng (x := p) (n := (s.length : Int)) p0 (by omega)
      rw [if_neg q, if_neg e, if_pos u0, if_pos u1, w64 (n := p * 7) (by omega) (by omega), w64 (n := p * 7 + 3) (by omega) (by omega)]
      obtain ⟨v0, v1⟩ := tmod_rng (x := p * 7 + 3) (n := (s.length : Int)) (by omega) (by omega)
      rw [if_pos v0, if_pos v1, if_neg (by omega)]
      obtain ⟨b0, b1⟩ := bytes_rd hb u0 u1
      obtain ⟨c0, c1⟩ := bytes_rd hb v0 v1
      have d0 : 0 ≤ Int.tdiv p (s.length : Int) ∧ Int.tdiv p (s.length : Int) ≤ p := by
        rw [Int.tdiv_eq_ediv_of_nonneg p0]
        exact ⟨Int.ediv_nonneg p0 (by omega), Int.ediv_le_self _ p0⟩
      generalize rd s (Int.tmod p (s.length : Int)) = B at *
      generalize rd s (Int.tmod (p * 7 + 3) (s.length : Int)) = C at *
      generalize Int.tdiv p (s.length : Int) = Q at *
      rw [w64 (n := B) (by omega) (by omega), w64 (n := C) (by omega) (by omega), w64 (n := Q) (by omega) (by omega), w64 (n := B * 131) (by omega) (by omega), w64 (n := C * 1117) (by omega) (by omega), w64 (n := p * 29) (by omega) (by omega), w64 (n := Q * 53) (by omega) (by omega), w64 (n := B * 131 + C * 1117) (by omega) (by omega), w64 (n := B * 131 + C * 1117 + p * 29) (by omega) (by omega), w64 (n := B * 131 + C * 1117 + p * 29 + Q * 53) (by omega) (by omega)]
      have X0 : 0 ≤ B * 131 + C * 1117 + p * 29 + Q * 53 ∧ B * 131 + C * 1117 + p * 29 + Q * 53 < 1000000000000 := by omega
      generalize B * 131 + C * 1117 + p * 29 + Q * 53 = X at *
      have D0 : 0 ≤ Int.tdiv X 64 ∧ Int.tdiv X 64 ≤ X := by rw [Int.tdiv_eq_ediv_of_nonneg X0.1]; omega
      rw [w64 (n := Int.tdiv X 64) (by omega) (by omega)]
      obtain ⟨x0, _⟩ := bits_xor_i64 (x := X) (y := Int.tdiv X 64) (by omega) (by omega) (by omega) (by omega)
      exact ⟨_, rfl, tmod_rng x0 n0⟩
theorem load_eq (l : List Int) (a : Int) (h : l.length ≤ 1048576) : impl_PlatLoad.f l a = some (if 0 ≤ a ∧ a < (l.length : Int) then rd l a else 0) := by
  unfold impl_PlatLoad.f
  rw [within_eq, w64 (by omega) (by omega)]
  simp only [Option.bind_some, decide_eq_true_eq]
  by_cases h0 : 0 ≤ a ∧ a < (l.length : Int)
  · rw [if_pos (by omega), if_pos h0.1, if_pos h0.2, if_pos h0]
  · rw [if_neg (by omega), if_neg h0]
theorem draw_l (s : List Int) (hs : bytes s) (hn : s.length ≤ 2000) (d : Nat) : ∀ (k : Nat) (x : List Int) (i p : Int), x.length + d ≤ 6 → 0 ≤ p → p + d ≤ 100 → i = d → d + 2 ≤ k →
    ∃ y a o n, spec_DrawPlatSwap.l0 k x i s p = some (y, a, o, n) ∧ y.length ≤ 6 := by
  induction d with
  | zero =>
    intro k x i p hx p0 p1 hi hk
    obtain ⟨k, rfl⟩ : ∃ m, k = m + 1 := ⟨k - 1, by omega⟩
    simp only [spec_DrawPlatSwap.l0]
    rw [if_neg (by omega)]
    by_cases hk0 : 0 < k
    · obtain ⟨r, e, _, _⟩ := pick_ok s hs hn p0 (by omega) (n := 8) (by omega) k hk0
      rw [e]; simp only [Option.bind_some]
      obtain ⟨r2, e2, _, _⟩ := pick_ok s hs hn (p := p + 1) (by omega) (by omega) (n := 3) (by omega) k hk0
      rw [e2]; simp only [Option.bind_some]
      obtain ⟨r3, e3, _, _⟩ := pick_ok s hs hn (p := p + 1 + 1) (by omega) (by omega) (n := 3) (by omega) k hk0
      rw [e3]; exact ⟨x, _, _, _, rfl, by omega⟩
    · omega
  | succ d ih =>
    intro k x i p hx p0 p1 hi hk
    obtain ⟨k, rfl⟩ : ∃ m, k = m + 1 := ⟨k - 1, by omega⟩
    simp only [spec_DrawPlatSwap.l0]
    rw [if_pos (by omega)]
    obtain ⟨r, e, _, _⟩ := pick_ok s hs hn p0 (by omega) (n := 3) (by omega) k (by omega)
    rw [e]; simp only [Option.bind_some]
    rw [if_pos (by omega), w64 (n := i - 1) (by omega) (by omega)]
    exact ih k _ _ _ (by rw [List.length_append]; simp; omega) (by omega) (by omega) (by omega) (by omega)
theorem back_l (y : List Int) (hy : y.length ≤ 1048576) (k : Nat) (w x z : List Int) (a o n : Int) (b : Bool) (hx : x = w) (hw : w = y) (d : Nat) : ∀ (k i : Nat), i ≤ y.length → y.length - i = d → d < k →
    laws_FnPlatSwap.l1 k y a o z w b i = if b = true then (impl_PlatLoad.f z a).bind fun t => some (t == o) else some false := by
  subst hw
  induction d with
  | zero =>
    intro k i hi hd hk
    obtain ⟨k, rfl⟩ : ∃ m, k = m + 1 := ⟨k - 1, by omega⟩
    simp only [laws_FnPlatSwap.l1]
    rw [if_neg (by omega)]
  | succ d ih =>
    intro k i hi hd hk
    obtain ⟨k, rfl⟩ : ∃ m, k = m + 1 := ⟨k - 1, by omega⟩
    simp only [laws_FnPlatSwap.l1]
    rw [if_pos (by omega), if_pos (by omega), if_pos (by omega), if_pos trivial, w64 (by omega) (by omega), succ_cast]
    exact ih k (i + 1) (by omega) (by omega) (by omega)
theorem fore_l (y : List Int) (hy : y.length ≤ 1048576) (a o n : Int) (d : Nat) : ∀ (k i : Nat), i ≤ y.length → y.length - i = d → d + y.length + 2 < k →
    laws_FnPlatSwap.l0 k y a o n (swp y a o n).1 (swp y a o n).2 i = some true := by
  have hl := swp_len y a o n
  induction d with
  | zero =>
    intro k i hi hd hk
    obtain ⟨k, rfl⟩ : ∃ m, k = m + 1 := ⟨k - 1, by omega⟩
    simp only [laws_FnPlatSwap.l0]
    rw [if_neg (by omega), iswap_eq _ a n o (by omega)]
    simp only [Option.bind_some]
    by_cases q : (0 ≤ a ∧ a < (y.length : Int)) ∧ rd y a = o
    · have e : swp y a o n = (y.set a.toNat n, true) := by unfold swp; rw [if_pos q]
      have hr : rd (y.set a.toNat n) a = n := by rw [rd_get _ q.1.1 (by rw [List.length_set]; omega), List.getElem_set_self]
      have e2 : swp (y.set a.toNat n) a n o = (y, true) := by
        unfold swp
        rw [if_pos ⟨by rw [List.length_set]; exact q.1, hr⟩, List.set_set]
        rw [show y.set a.toNat o = y from by rw [← q.2, rd_get y q.1.1 (by omega), List.set_getElem_self]]
      rw [e]
      simp only [e2, if_true]
      have := back_l y hy k y y (y.set a.toNat n) a n n true rfl rfl y.length k 0 (by omega) (by omega) (by omega)
      rw [show ((0 : Nat) : Int) = 0 from rfl] at this
      rw [this, if_pos rfl, load_eq _ _ (by rw [List.length_set]; omega), if_pos (by rw [List.length_set]; exact q.1), hr]
      simp
    · have e : swp y a o n = (y, false) := by unfold swp; rw [if_neg q]
      rw [e]; simp
  | succ d ih =>
    intro k i hi hd hk
    obtain ⟨k, rfl⟩ : ∃ m, k = m + 1 := ⟨k - 1, by omega⟩
    simp only [laws_FnPlatSwap.l0]
    have go := ih k (i + 1) (by omega) (by omega) (by omega)
    rw [if_pos (by omega), w64 (n := (i : Int) + 1) (by omega) (by omega), succ_cast, go]
    have same : ¬ ((i : Int) = a ∧ (swp y a o n).2 = true) → rd (swp y a o n).1 i = rd y i := by
      intro hne
      unfold swp at hne ⊢
      by_cases q : (0 ≤ a ∧ a < (y.length : Int)) ∧ rd y a = o
      · rw [if_pos q] at hne ⊢
        have hia : (i : Int) ≠ a := fun h => hne ⟨h, rfl⟩
        rw [rd_nat _ i (by rw [List.length_set]; omega), rd_nat y i (by omega), List.getElem_set_ne (by omega)]
      · rw [if_neg q]
    by_cases c : (i : Int) = a
    · rw [if_pos c]
      cases hb : (swp y a o n).2 with
      | true => rw [if_pos rfl]
      | false => rw [if_neg (by decide), if_pos (by omega), if_pos (by omega), if_pos (same (fun h => by rw [hb] at h; cases h.2))]
    · rw [if_neg c, if_pos (by omega), if_pos (by omega), if_pos (same (fun h => c h.1))]
theorem FnPlatSwap : ∀ (l0 : List Int), (l0.length ≤ 9223372036854775807 ∧ ∀ y0 ∈ l0, (Lit.int .u8 y0).wf = true) → ∃ k, laws_FnPlatSwap.f k l0 = some true := by
  intro l ⟨_, hb⟩
  refine ⟨20, ?_⟩
  unfold laws_FnPlatSwap.f
  by_cases h : (l.length : Int) > 1048576
  · rw [if_pos h]
  · rw [if_neg h]
    obtain ⟨s, e, hs, hn⟩ := open_ok l (by omega) hb
    obtain ⟨q, eq, q0, q1⟩ := pick_ok s hs hn (p := 0) (by omega) (by omega) (n := 6) (by omega) 20 (by omega)
    obtain ⟨y, a, o, n, ey, hy⟩ := draw_l s hs hn q.toNat 20 [] q (0 + 1) (by simp; omega) (by omega) (by omega) (by omega) (by omega)
    have ed : spec_DrawPlatSwap.f 20 l = some (y, a, o, n) := by
      unfold spec_DrawPlatSwap.f
      rw [e]; simp only [Option.bind_some]
      rw [eq]; simp only [Option.bind_some]
      exact ey
    have hl := swp_len y a o n
    have go := fore_l y (by omega) a o n y.length 19 0 (by omega) (by omega) (by omega)
    rw [show ((0 : Nat) : Int) = 0 from rfl] at go
    have fin : laws_FnPlatSwap.j0 20 y a o n (swp y a o n).1 (swp y a o n).2 false = some true := by
      simp only [laws_FnPlatSwap.j0, Bool.false_eq_true, if_false]; exact go
    rw [ed]
    simp only [Option.bind_some]
    rw [sswap_eq y a o n (by omega), iswap_eq y a o n (by omega)]
    simp only [Option.bind_some, bne_self_eq_false, Bool.false_eq_true, if_false, hl, if_true]
    rw [load_eq y a (by omega)]
    simp only [Option.bind_some]
    by_cases c0 : a ≥ 0
    · rw [if_pos c0]
      by_cases c1 : a < (y.length : Int)
      · rw [if_pos c1, if_pos ⟨c0, c1⟩, show ((swp y a o n).2 != (rd y a == o)) = false from by
          unfold swp
          by_cases c2 : rd y a = o
          · rw [if_pos ⟨⟨c0, c1⟩, c2⟩]; simp [c2]
          · rw [if_neg (fun h => c2 h.2)]; simp [c2]]
        exact fin
      · rw [if_neg c1, show ((swp y a o n).2 != false) = false from by unfold swp; rw [if_neg (fun h => c1 h.1.2)]; rfl]
        exact fin
    · rw [if_neg c0, show ((swp y a o n).2 != false) = false from by unfold swp; rw [if_neg (fun h => c0 h.1.1)]; rfl]
      exact fin

end Go.Proofs.Ytgeeaieapkfnoaa.Pure

/- For every two books, the program and the reference say alike whether they are the same, and leave both as they were; of more than 2^20 numbers in all, the law answers true at once. -/
import Derived.Test.YtekneicikmaplaaPFnExactBookSamex6
import Derived.Test.YtekneicikmaplaaPl
set_option linter.unusedVariables false
set_option linter.unusedSimpArgs false
namespace Go.Proofs.Ytekneicikmaplaa.Pure
open Go.RowKit Go.Proofs.Ytekneicikmaplaa.PFnExactBookSame Go.Proofs.YtekneicikmaplaaW.PrintWords Go.Proofs.YtekneicikmaplaaW.PrintLast Go.Proofs.YtekneicikmaplaaW.PrintMore Go.Proofs.Ytekneicikmaplaa.Pl

theorem toI_l (x : List Int) (hn : x.length ≤ 35184372088832) (d : Nat) : ∀ (k i : Nat), i ≤ x.length → x.length - i = d → d < k → laws_toIntS.l0 k x (x.take i ++ List.replicate (x.length - i) 0) i = some x := by
  induction d with
  | zero =>
    intro k i hi hd hk
    obtain ⟨k, rfl⟩ : ∃ m, k = m + 1 := ⟨k - 1, by omega⟩
    have e : i = x.length := by omega
    subst e
    simp only [laws_toIntS.l0]
    rw [if_neg (by omega)]; simp
  | succ d ih =>
    intro k i hi hd hk
    obtain ⟨k, rfl⟩ : ∃ m, k = m + 1 := ⟨k - 1, by omega⟩
    simp only [laws_toIntS.l0]
    rw [if_pos (by omega), if_pos (by omega), if_pos (by rw [List.length_append, List.length_take, List.length_replicate]; omega), Int.toNat_natCast, rd_nat x i (by omega), take_set x 0 i (by omega), w64 (by omega) (by omega), succ_cast]
    exact ih k (i + 1) (by omega) (by omega) (by omega)
theorem toI (x : List Int) (hn : x.length ≤ 35184372088832) (k : Nat) (hk : x.length < k) : laws_toIntS.f k x = some x := by
  unfold laws_toIntS.f
  rw [if_pos (by omega), if_pos (by omega), Int.toNat_natCast]
  have := toI_l x hn x.length k 0 (by omega) (by omega) (by omega)
  simpa using this
theorem w01 : wrap64 (0 + 1) = 1 := by unfold wrap64; omega
theorem w11 : wrap64 (1 + 1) = 2 := by unfold wrap64; omega
theorem w21 : wrap64 (2 + 1) = 3 := by unfold wrap64; omega
theorem w31 : wrap64 (3 + 1) = 4 := by unfold wrap64; omega
theorem toA4 {a b c d : List Int} {n : Nat} (hn : n ≤ 35184372088832) (ha : a.length ≤ n) (hb : b.length ≤ n) (hc : c.length ≤ n) (hd : d.length ≤ n) (k : Nat) (hk : n + 5 < k) : laws_toIntSA4.f k a b c d = some (a, b, c, d) := by
  obtain ⟨m, rfl⟩ : ∃ m, k = m + 1 + 1 + 1 + 1 + 1 := ⟨k - 5, by omega⟩
  have e1 := toI a (by omega) (m + 1 + 1 + 1 + 1) (by omega)
  have e2 := toI b (by omega) (m + 1 + 1 + 1) (by omega)
  have e3 := toI c (by omega) (m + 1 + 1) (by omega)
  have e4 := toI d (by omega) (m + 1) (by omega)
  unfold laws_toIntSA4.f
  simp only [laws_toIntSA4.l0, e1, e2, e3, e4, w01, w11, w21, w31, Option.bind_some, Int.reduceLT, Int.reduceEq, reduceIte]
theorem toBook {s : Int} {p a b c d o i e : List Int} {n : Nat} (hn : n ≤ 35184372088832) (hp : p.length ≤ n) (ha : a.length ≤ n) (hb : b.length ≤ n) (hc : c.length ≤ n) (hd : d.length ≤ n) (ho : o.length ≤ n) (hi : i.length ≤ n) (he : e.length ≤ n) (k : Nat) (hk : n + 5 < k) :
    laws_toBook.f k s p a b c d o i e = some (s, p, a, b, c, d, o, i, e) := by
  unfold laws_toBook.f
  rw [toI p (by omega) k (by omega), toA4 hn ha hb hc hd k hk, toI o (by omega) k (by omega), toI i (by omega) k (by omega), toI e (by omega) k (by omega)]
  rfl
theorem eqI_l (x : List Int) (hn : x.length ≤ 35184372088832) (d : Nat) : ∀ (k i : Nat), i ≤ x.length → x.length - i = d → d < k → laws_eqIntS.l0 k x x i = some true := by
  induction d with
  | zero =>
    intro k i hi hd hk
    obtain ⟨k, rfl⟩ : ∃ m, k = m + 1 := ⟨k - 1, by omega⟩
    simp only [laws_eqIntS.l0]
    rw [if_neg (by omega)]
  | succ d ih =>
    intro k i hi hd hk
    obtain ⟨k, rfl⟩ : ∃ m, k = m + 1 := ⟨k - 1, by omega⟩
    simp only [laws_eqIntS.l0]
    rw [if_pos (by omega), if_pos (by omega), if_pos (by omega), if_pos trivial, w64 (by omega) (by omega), succ_cast]
    exact ih k (i + 1) (by omega) (by omega) (by omega)
theorem eqI (x : List Int) (hn : x.length ≤ 35184372088832) (k : Nat) (hk : x.length < k) : laws_eqIntS.f k x x = some true := by
  unfold laws_eqIntS.f
  rw [if_pos rfl]
  exact eqI_l x hn x.length k 0 (by omega) (by omega) (by omega)
theorem eqA4 {a b c d : List Int} {n : Nat} (hn : n ≤ 35184372088832) (ha : a.length ≤ n) (hb : b.length ≤ n) (hc : c.length ≤ n) (hd : d.length ≤ n) (k : Nat) (hk : n + 5 < k) : laws_eqIntSA4.f k a b c d a b c d = some true := by
  obtain ⟨m, rfl⟩ : ∃ m, k = m + 1 + 1 + 1 + 1 + 1 := ⟨k - 5, by omega⟩
  have e1 := eqI a (by omega) (m + 1 + 1 + 1 + 1) (by omega)
  have e2 := eqI b (by omega) (m + 1 + 1 + 1) (by omega)
  have e3 := eqI c (by omega) (m + 1 + 1) (by omega)
  have e4 := eqI d (by omega) (m + 1) (by omega)
  unfold laws_eqIntSA4.f
  simp only [laws_eqIntSA4.l0, e1, e2, e3, e4, w01, w11, w21, w31, Option.bind_some, Int.reduceLT, Int.reduceEq, reduceIte]
theorem eqBook {s : Int} {p a b c d o i e : List Int} {n : Nat} (hn : n ≤ 35184372088832) (hp : p.length ≤ n) (ha : a.length ≤ n) (hb : b.length ≤ n) (hc : c.length ≤ n) (hd : d.length ≤ n) (ho : o.length ≤ n) (hi : i.length ≤ n) (he : e.length ≤ n) (k : Nat) (hk : n + 5 < k) :
    laws_eqBook.f k s p a b c d o i e s p a b c d o i e = some true := by
  unfold laws_eqBook.f
  rw [if_pos rfl, eqI p (by omega) k (by omega), eqA4 hn ha hb hc hd k hk, eqI o (by omega) k (by omega), eqI i (by omega) k (by omega), eqI e (by omega) k (by omega)]
  rfl
theorem szI (l : List Int) (n : Int) (n0 : 0 ≤ n) (n1 : n ≤ 1048576) (hl : l.length ≤ 9223372036854775807) : ∃ r, laws_szIntS.f l n = some r ∧ (r < 0 ∨ 0 ≤ r ∧ r ≤ n ∧ (l.length : Int) ≤ n) := by
  unfold laws_szIntS.f
  rw [w64 (n := n - l.length) (by omega) (by omega)]
  by_cases h : n - l.length < 0
  · rw [if_pos h]; exact ⟨-1, rfl, .inl (by omega)⟩
  · rw [if_neg h]; exact ⟨_, rfl, .inr (by omega)⟩
theorem szA4 (a b c d : List Int) (n : Int) (n0 : 0 ≤ n) (n1 : n ≤ 1048576) (ha : a.length ≤ 9223372036854775807) (hb : b.length ≤ 9223372036854775807) (hc : c.length ≤ 9223372036854775807) (hd : d.length ≤ 9223372036854775807) (k : Nat) (hk : 4 < k) :
    ∃ r, laws_szIntSA4.f k a b c d n = some r ∧ (r < 0 ∨ 0 ≤ r ∧ r ≤ n ∧ (a.length : Int) ≤ n ∧ (b.length : Int) ≤ n ∧ (c.length : Int) ≤ n ∧ (d.length : Int) ≤ n) := by
  obtain ⟨m, rfl⟩ : ∃ m, k = m + 1 + 1 + 1 + 1 + 1 := ⟨k - 5, by omega⟩
  unfold laws_szIntSA4.f
  obtain ⟨r1, e1, h1⟩ := szI a n n0 n1 ha
  simp only [laws_szIntSA4.l0, e1, w01, w11, w21, w31, Option.bind_some, Int.reduceLT, Int.reduceEq, reduceIte]
  by_cases c1 : r1 < 0
  · rw [if_pos c1]; exact ⟨-1, rfl, .inl (by omega)⟩
  rw [if_neg c1]
  obtain ⟨r2, e2, h2⟩ := szI b r1 (by omega) (by omega) hb
  simp only [e2, Option.bind_some]
  by_cases c2 : r2 < 0
  · rw [if_pos c2]; exact ⟨-1, rfl, .inl (by omega)⟩
  rw [if_neg c2]
  obtain ⟨r3, e3, h3⟩ := szI c r2 (by omega) (by omega) hc
  simp only [e3, Option.bind_some]
  by_cases c3 : r3 < 0
  · rw [if_pos c3]; exact ⟨-1, rfl, .inl (by omega)⟩
  rw [if_neg c3]
  obtain ⟨r4, e4, h4⟩ := szI d r3 (by omega) (by omega) hd
  simp only [e4, Option.bind_some]
  by_cases c4 : r4 < 0
  · rw [if_pos c4]; exact ⟨-1, rfl, .inl (by omega)⟩
  rw [if_neg c4]
  exact ⟨r4, rfl, .inr (by omega)⟩
theorem szBook (s : Int) (p a b c d o i e : List Int) (n : Int) (n0 : 0 ≤ n) (n1 : n ≤ 1048576) (hp : p.length ≤ 9223372036854775807) (ha : a.length ≤ 9223372036854775807) (hb : b.length ≤ 9223372036854775807) (hc : c.length ≤ 9223372036854775807) (hd : d.length ≤ 9223372036854775807)
    (ho : o.length ≤ 9223372036854775807) (hi : i.length ≤ 9223372036854775807) (he : e.length ≤ 9223372036854775807) (k : Nat) (hk : 4 < k) :
    ∃ r, laws_szBook.f k s p a b c d o i e n = some r ∧ (r < 0 ∨ 0 ≤ r ∧ r ≤ n ∧ (p.length : Int) ≤ n ∧ (a.length : Int) ≤ n ∧ (b.length : Int) ≤ n ∧ (c.length : Int) ≤ n ∧ (d.length : Int) ≤ n ∧ (o.length : Int) ≤ n ∧ (i.length : Int) ≤ n ∧ (e.length : Int) ≤ n) := by
  unfold laws_szBook.f
  obtain ⟨r1, e1, h1⟩ := szI p n n0 n1 hp
  simp only [e1, Option.bind_some]
  by_cases c1 : r1 < 0
  · rw [if_pos c1]; exact ⟨-1, rfl, .inl (by omega)⟩
  rw [if_neg c1]
  obtain ⟨r2, e2, h2⟩ := szA4 a b c d r1 (by omega) (by omega) ha hb hc hd k hk
  simp only [e2, Option.bind_some]
  by_cases c2 : r2 < 0
  · rw [if_pos c2]; exact ⟨-1, rfl, .inl (by omega)⟩
  rw [if_neg c2]
  obtain ⟨r3, e3, h3⟩ := szI o r2 (by omega) (by omega) ho
  simp only [e3, Option.bind_some]
  by_cases c3 : r3 < 0
  · rw [if_pos c3]; exact ⟨-1, rfl, .inl (by omega)⟩
  rw [if_neg c3]
  obtain ⟨r4, e4, h4⟩ := szI i r3 (by omega) (by omega) hi
  simp only [e4, Option.bind_some]
  by_cases c4 : r4 < 0
  · rw [if_pos c4]; exact ⟨-1, rfl, .inl (by omega)⟩
  rw [if_neg c4]
  obtain ⟨r5, e5, h5⟩ := szI e r4 (by omega) (by omega) he
  simp only [e5, Option.bind_some]
  by_cases c5 : r5 < 0
  · rw [if_pos c5]; exact ⟨-1, rfl, .inl (by omega)⟩
  rw [if_neg c5]
  exact ⟨r5, rfl, .inr (by omega)⟩
theorem ints_l (x y : List Int) (h : x.length = y.length) (hn : x.length ≤ 35184372088832) (d : Nat) : ∀ (k i : Nat), i ≤ x.length → x.length - i = d → d < k → spec_l3Ints.l0 k x y i = some (decide (x.drop i = y.drop i)) := by
  induction d with
  | zero =>
    intro k i hi hd hk
    obtain ⟨k, rfl⟩ : ∃ m, k = m + 1 := ⟨k - 1, by omega⟩
    simp only [spec_l3Ints.l0]
    rw [if_neg (by omega), List.drop_eq_nil_of_le (by omega), List.drop_eq_nil_of_le (by omega)]; rfl
  | succ d ih =>
    intro k i hi hd hk
    obtain ⟨k, rfl⟩ : ∃ m, k = m + 1 := ⟨k - 1, by omega⟩
    have g : i < x.length := by omega
    have g' : i < y.length := by omega
    simp only [spec_l3Ints.l0]
    rw [if_pos (by omega), if_pos (by omega), if_pos (by omega), w64 (by omega) (by omega), succ_cast, ih k (i + 1) (by omega) (by omega) (by omega), List.drop_eq_getElem_cons g, List.drop_eq_getElem_cons g', ← rd_nat x i g, ← rd_nat y i g']
    by_cases q : rd x i = rd y i
    · rw [if_pos q, q]; simp
    · rw [if_neg q]; simp [q]
theorem ints_eq (x y : List Int) (hn : x.length ≤ 35184372088832) (k : Nat) (hk : x.length < k) : spec_l3Ints.f k x y = some (decide (x = y)) := by
  unfold spec_l3Ints.f
  by_cases h : x.length = y.length
  · rw [if_pos (by omega)]
    have := ints_l x y h hn x.length k 0 (by omega) (by omega) hk
    simpa using this
  · rw [if_neg (by omega), decide_eq_false (fun e => h (by rw [e]))]
theorem equal_l (x y : List Int) (h : x.length = y.length) (hn : x.length ≤ 35184372088832) (d : Nat) : ∀ (k i : Nat), i ≤ x.length → x.length - i = d → d < k → slices_Equal_int_int.l0 k x y (x.length : Int) i = some (decide (x.drop i = y.drop i)) := by
  induction d with
  | zero =>
    intro k i hi hd hk
    obtain ⟨k, rfl⟩ : ∃ m, k = m + 1 := ⟨k - 1, by omega⟩
    simp only [slices_Equal_int_int.l0]
    rw [if_neg (by omega), List.drop_eq_nil_of_le (by omega), List.drop_eq_nil_of_le (by omega)]; rfl
  | succ d ih =>
    intro k i hi hd hk
    obtain ⟨k, rfl⟩ : ∃ m, k = m + 1 := ⟨k - 1, by omega⟩
    have g : i < x.length := by omega
    have g' : i < y.length := by omega
    simp only [slices_Equal_int_int.l0]
    rw [if_pos (by omega), if_pos (by omega), if_pos (by omega), if_pos (by omega), w64 (by omega) (by omega), succ_cast, ih k (i + 1) (by omega) (by omega) (by omega), List.drop_eq_getElem_cons g, List.drop_eq_getElem_cons g', ← rd_nat x i g, ← rd_nat y i g']
    by_cases q : rd x i = rd y i
    · rw [if_pos q, q]; simp
    · rw [if_neg q]; simp [q]
theorem equal_eq (x y : List Int) (hn : x.length ≤ 35184372088832) (k : Nat) (hk : x.length < k) : slices_Equal_int_int.f k x y = some (decide (x = y)) := by
  unfold slices_Equal_int_int.f
  by_cases h : x.length = y.length
  · rw [if_pos (by omega)]
    have := equal_l x y h hn x.length k 0 (by omega) (by omega) hk
    simpa using this
  · rw [if_neg (by omega), decide_eq_false (fun e => h (by rw [e]))]
theorem same_both {s : Int} {p a b c d o i e : List Int} {n : Nat} (hn : n ≤ 1048576) (hp : p.length ≤ n) (ha : a.length ≤ n) (hb : b.length ≤ n) (hc : c.length ≤ n) (hd : d.length ≤ n) (ho : o.length ≤ n) (hi : i.length ≤ n) (he : e.length ≤ n)
    (s' : Int) (p' a' b' c' d' o' i' e' : List Int) (k : Nat) (hk : n + 5 < k) : ∃ r, spec_BookSame.f k s p a b c d o i e s' p' a' b' c' d' o' i' e' = some r ∧ impl_BookSame.f k s p a b c d o i e s' p' a' b' c' d' o' i' e' = some r := by
  obtain ⟨m, rfl⟩ : ∃ m, k = m + 1 + 1 + 1 + 1 + 1 := ⟨k - 5, by omega⟩
  have s1 := ints_eq a a' (by omega) (m + 1 + 1 + 1 + 1) (by omega)
  have s2 := ints_eq b b' (by omega) (m + 1 + 1 + 1) (by omega)
  have s3 := ints_eq c c' (by omega) (m + 1 + 1) (by omega)
  have s4 := ints_eq d d' (by omega) (m + 1) (by omega)
  have s5 := ints_eq p p' (by omega) m (by omega)
  have s6 := ints_eq o o' (by omega) m (by omega)
  have s7 := ints_eq i i' (by omega) m (by omega)
  have s8 := ints_eq e e' (by omega) m (by omega)
  have t1 := equal_eq a a' (by omega) (m + 1 + 1 + 1 + 1) (by omega)
  have t2 := equal_eq b b' (by omega) (m + 1 + 1 + 1) (by omega)
  have t3 := equal_eq c c' (by omega) (m + 1 + 1) (by omega)
  have t4 := equal_eq d d' (by omega) (m + 1) (by omega)
  have t5 := equal_eq p p' (by omega) m (by omega)
  have t6 := equal_eq o o' (by omega) m (by omega)
  have t7 := equal_eq i i' (by omega) m (by omega)
  have t8 := equal_eq e e' (by omega) m (by omega)
  have q : spec_BookSame.f (m + 1 + 1 + 1 + 1 + 1) s p a b c d o i e s' p' a' b' c' d' o' i' e' = impl_BookSame.f (m + 1 + 1 + 1 + 1 + 1) s p a b c d o i e s' p' a' b' c' d' o' i' e' := by
    unfold spec_BookSame.f impl_BookSame.f
    simp only [spec_BookSame.l0, impl_BookSame.l0, s1, s2, s3, s4, s5, s6, s7, s8, t1, t2, t3, t4, t5, t6, t7, t8, w01, w11, w21, w31, Option.bind_some, Int.reduceLT, Int.reduceEq, reduceIte]
  rw [q]
  unfold impl_BookSame.f
  simp only [impl_BookSame.l0, t1, t2, t3, t4, t5, t6, t7, t8, w01, w11, w21, w31, Option.bind_some, Int.reduceLT, Int.reduceEq, reduceIte]
  repeat' split
  all_goals exact ⟨_, rfl, rfl⟩
theorem FnExactBookSame : ∀ (a0_0 : Int) (l0_1 : List Int) (l0_2 : List Int) (l0_3 : List Int) (l0_4 : List Int) (l0_5 : List Int) (l0_6 : List Int) (l0_7 : List Int) (l0_8 : List Int) (a1_0 : Int) (l1_1 : List Int) (l1_2 : List Int) (l1_3 : List Int) (l1_4 : List Int) (l1_5 : List Int) (l1_6 : List Int) (l1_7 : List Int) (l1_8 : List Int), (Lit.int .i64 a0_0).wf = true → (l0_1.length ≤ 9223372036854775807 ∧ ∀ y0 ∈ l0_1, (Lit.int .i64 y0).wf = true) → (l0_2.length ≤ 9223372036854775807 ∧ ∀ y0 ∈ l0_2, (Lit.int .i64 y0).wf = true) → (l0_3.length ≤ 9223372036854775807 ∧ ∀ y0 ∈ l0_3, (Lit.int .i64 y0).wf = true) → (l0_4.length ≤ 9223372036854775807 ∧ ∀ y0 ∈ l0_4, (Lit.int .i64 y0).wf = true) → (l0_5.length ≤ 9223372036854775807 ∧ ∀ y0 ∈ l0_5, (Lit.int .i64 y0).wf = true) → (l0_6.length ≤ 9223372036854775807 ∧ ∀ y0 ∈ l0_6, (Lit.int .i64 y0).wf = true) → (l0_7.length ≤ 9223372036854775807 ∧ ∀ y0 ∈ l0_7, (Lit.int .i64 y0).wf = true) → (l0_8.length ≤ 9223372036854775807 ∧ ∀ y0 ∈ l0_8, (Lit.int .i64 y0).wf = true) → (Lit.int .i64 a1_0).wf = true → (l1_1.length ≤ 9223372036854775807 ∧ ∀ y0 ∈ l1_1, (Lit.int .i64 y0).wf = true) → (l1_2.length ≤ 9223372036854775807 ∧ ∀ y0 ∈ l1_2, (Lit.int .i64 y0).wf = true) → (l1_3.length ≤ 9223372036854775807 ∧ ∀ y0 ∈ l1_3, (Lit.int .i64 y0).wf = true) → (l1_4.length ≤ 9223372036854775807 ∧ ∀ y0 ∈ l1_4, (Lit.int .i64 y0).wf = true) → (l1_5.length ≤ 9223372036854775807 ∧ ∀ y0 ∈ l1_5, (Lit.int .i64 y0).wf = true) → (l1_6.length ≤ 9223372036854775807 ∧ ∀ y0 ∈ l1_6, (Lit.int .i64 y0).wf = true) → (l1_7.length ≤ 9223372036854775807 ∧ ∀ y0 ∈ l1_7, (Lit.int .i64 y0).wf = true) → (l1_8.length ≤ 9223372036854775807 ∧ ∀ y0 ∈ l1_8, (Lit.int .i64 y0).wf = true) → ∃ k, laws_FnExactBookSame.f k a0_0 l0_1 l0_2 l0_3 l0_4 l0_5 l0_6 l0_7 l0_8 a1_0 l1_1 l1_2 l1_3 l1_4 l1_5 l1_6 l1_7 l1_8 = some true := by
  intro s p a b c d o i e s' p' a' b' c' d' o' i' e' _ hp ha hb hc hd ho hi he _ hp' ha' hb' hc' hd' ho' hi' he'
  refine ⟨1048576 + 6, ?_⟩
  unfold laws_FnExactBookSame.f
  obtain ⟨r1, e1, h1⟩ := szBook s p a b c d o i e 1048576 (by omega) (by omega) hp.1 ha.1 hb.1 hc.1 hd.1 ho.1 hi.1 he.1 (1048576 + 6) (by omega)
  rw [e1]
  simp only [Option.bind_some]
  by_cases c1 : r1 < 0
  · rw [if_pos c1]
  rw [if_neg c1]
  obtain ⟨r2, e2, h2⟩ := szBook s' p' a' b' c' d' o' i' e' r1 (by omega) (by omega) hp'.1 ha'.1 hb'.1 hc'.1 hd'.1 ho'.1 hi'.1 he'.1 (1048576 + 6) (by omega)
  rw [e2]
  simp only [Option.bind_some]
  by_cases c2 : r2 < 0
  · rw [if_pos c2]
  rw [if_neg c2, toBook (n := 1048576) (by omega) (by omega) (by omega) (by omega) (by omega) (by omega) (by omega) (by omega) (by omega) _ (by omega), toBook (n := 1048576) (by omega) (by omega) (by omega) (by omega) (by omega) (by omega) (by omega) (by omega) (by omega) _ (by omega)]
  simp only [Option.bind_some]
  obtain ⟨r, q1, q2⟩ := same_both (s := s) (p := p) (a := a) (b := b) (c := c) (d := d) (o := o) (i := i) (e := e) (n := 1048576) (by omega) (by omega) (by omega) (by omega) (by omega) (by omega) (by omega) (by omega) (by omega) s' p' a' b' c' d' o' i' e' (1048576 + 6) (by omega)
  rw [q1, q2]
  simp only [Option.bind_some]
  rw [if_neg (by simp), eqBook (n := 1048576) (by omega) (by omega) (by omega) (by omega) (by omega) (by omega) (by omega) (by omega) (by omega) _ (by omega), eqBook (n := 1048576) (by omega) (by omega) (by omega) (by omega) (by omega) (by omega) (by omega) (by omega) (by omega) _ (by omega)]
  simp only [Option.bind_some, if_true]

end Go.Proofs.Ytekneicikmaplaa.Pure

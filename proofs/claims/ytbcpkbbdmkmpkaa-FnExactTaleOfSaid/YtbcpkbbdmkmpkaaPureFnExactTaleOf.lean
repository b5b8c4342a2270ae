/- For every tale and guest, the program and the reference pick the same items, in memory of their own, and leave the tale as it was; of more than 2^20 items, the law answers true at once. -/
import Derived.Test.YtbcpkbbdmkmpkaaPFnExactTaleOfx3
import Derived.Test.YtbcpkbbdmkmpkaaPl
set_option linter.unusedVariables false
set_option linter.unusedSimpArgs false
namespace Go.Proofs.Ytbcpkbbdmkmpkaa.Pure
open Go.RowKit Go.Proofs.Ytbcpkbbdmkmpkaa.PFnExactTaleOf Go.Proofs.YtbcpkbbdmkmpkaaW.PrintWords Go.Proofs.YtbcpkbbdmkmpkaaW.PrintLast Go.Proofs.YtbcpkbbdmkmpkaaW.PrintMore Go.Proofs.Ytbcpkbbdmkmpkaa.Pl

/-- An item as the program has it. -/
def conv (y : S88) : S85 := ⟨y.f0, y.f1, ⟨y.f2.f0, y.f2.f1, y.f2.f2, y.f2.f3⟩, y.f3, y.f4⟩
theorem rdT (x : List S85) (i : Nat) (h : i < x.length) : rd_T85 x i = x[i] := by
  unfold rd_T85; rw [Int.toNat_natCast, List.getD_eq_getElem?_getD, List.getElem?_eq_getElem h]; rfl
theorem rdT88 (x : List S88) (i : Nat) (h : i < x.length) : rd_T88 x i = x[i] := by
  unfold rd_T88; rw [Int.toNat_natCast, List.getD_eq_getElem?_getD, List.getElem?_eq_getElem h]; rfl
theorem rdT_set (x : List S85) (i : Nat) (h : i < x.length) (v : S85) : rd_T85 (x.set i v) i = v := by
  rw [rdT _ i (by rw [List.length_set]; exact h), List.getElem_set_self]
theorem toT_l (x : List S88) (hn : x.length ≤ 1048576) (d : Nat) : ∀ (k i : Nat), i ≤ x.length → x.length - i = d → d < k → laws_toTaleItemS.l0 k x ((x.map conv).take i ++ List.replicate (x.length - i) z85) i = some (x.map conv) := by
  induction d with
  | zero =>
    intro k i hi hd hk
    obtain ⟨k, rfl⟩ : ∃ m, k = m + 1 := ⟨k - 1, by omega⟩
    have e : i = x.length := by omega
    subst e
    simp only [laws_toTaleItemS.l0]
    rw [if_neg (by omega), Nat.sub_self, List.replicate_zero, List.append_nil, List.take_of_length_le (by rw [List.length_map]; omega)]
  | succ d ih =>
    intro k i hi hd hk
    obtain ⟨k, rfl⟩ : ∃ m, k = m + 1 := ⟨k - 1, by omega⟩
    have g : i < x.length := by omega
    have ts := take_set (x.map conv) z85 i (by rw [List.length_map]; exact g)
    simp only [List.length_map, List.getElem_map] at ts
    simp only [laws_toTaleItemS.l0]
    rw [if_pos (by omega), if_pos (by omega), rdT88 x i g]
    simp only [laws_toTaleItem.f, laws_toBookOp.f, Option.bind_some]
    rw [if_pos (by rw [List.length_append, List.length_take, List.length_map, List.length_replicate]; omega), Int.toNat_natCast]
    refine Eq.trans ?_ (ih k (i + 1) (by omega) (by omega) (by omega))
    rw [← ts, w64 (by omega) (by omega), succ_cast]
    rfl
theorem toT (x : List S88) (hn : x.length ≤ 1048576) (k : Nat) (hk : x.length < k) : laws_toTaleItemS.f k x = some (x.map conv) := by
  unfold laws_toTaleItemS.f
  rw [if_pos (by omega), if_pos (by omega), Int.toNat_natCast]
  have := toT_l x hn x.length k 0 (by omega) (by omega) (by omega)
  simpa using this
theorem eqT_l (x : List S85) (hn : x.length ≤ 1048576) (d : Nat) : ∀ (k i : Nat), i ≤ x.length → x.length - i = d → d < k → laws_eqTaleItemS.l0 k x x i = some true := by
  induction d with
  | zero =>
    intro k i hi hd hk
    obtain ⟨k, rfl⟩ : ∃ m, k = m + 1 := ⟨k - 1, by omega⟩
    simp only [laws_eqTaleItemS.l0]
    rw [if_neg (by omega)]
  | succ d ih =>
    intro k i hi hd hk
    obtain ⟨k, rfl⟩ : ∃ m, k = m + 1 := ⟨k - 1, by omega⟩
    simp only [laws_eqTaleItemS.l0, laws_eqTaleItem.f, laws_eqBookOp.f]
    rw [if_pos (by omega), if_pos (by omega), if_pos (by omega), w64 (by omega) (by omega), succ_cast, ih k (i + 1) (by omega) (by omega) (by omega)]
    simp
theorem eqT (x : List S85) (hn : x.length ≤ 1048576) (k : Nat) (hk : x.length < k) : laws_eqTaleItemS.f k x x = some true := by
  unfold laws_eqTaleItemS.f
  rw [if_pos rfl]
  exact eqT_l x hn x.length k 0 (by omega) (by omega) (by omega)
/-- Is it the guest's own? -/
def own (g : Int) (y : S85) : Bool := !y.f0 && decide (y.f1 = g)
theorem staleof_l (x : List S85) (hn : x.length ≤ 1048576) (g : Int) (d : Nat) : ∀ (k i : Nat) (o : List S85), i ≤ x.length → x.length - i = d → d < k → o.length + d ≤ 2097152 → spec_TaleOf.l0 k x g o i = some (o ++ (x.drop i).filter (own g)) := by
  induction d with
  | zero =>
    intro k i o hi hd hk _
    obtain ⟨k, rfl⟩ : ∃ m, k = m + 1 := ⟨k - 1, by omega⟩
    simp only [spec_TaleOf.l0]
    rw [if_neg (by omega), List.drop_eq_nil_of_le (by omega)]; simp
  | succ d ih =>
    intro k i o hi hd hk ho
    obtain ⟨k, rfl⟩ : ∃ m, k = m + 1 := ⟨k - 1, by omega⟩
    have h : i < x.length := by omega
    simp only [spec_TaleOf.l0]
    have nx := fun (o : List S85) (ho : o.length + d ≤ 2097152) => ih k (i + 1) o (by omega) (by omega) (by omega) ho
    rw [if_pos (by omega), if_pos (by omega), w64 (by omega) (by omega), succ_cast, rdT x i h, List.drop_eq_getElem_cons h]
    generalize x.drop (i + 1) = t at *
    generalize x[i] = y
    by_cases c1 : y.f0 = true
    · rw [if_pos c1, nx o (by omega)]; simp [own, c1]
    · rw [if_neg c1]
      by_cases c2 : y.f1 = g
      · rw [if_pos c2, if_pos (by omega)]
        refine Eq.trans (nx (o ++ [y]) (by simp; omega)) ?_
        simp [own, c1, c2]
      · rw [if_neg c2, nx o (by omega)]; simp [own, c1, c2]
theorem italeof_l (x : List S85) (hn : x.length ≤ 1048576) (g : Int) (d : Nat) : ∀ (k i : Nat) (o : List S85), i ≤ x.length → x.length - i = d → d < k → o.length + d ≤ 2097152 → impl_TaleOf.l0 k g o x (x.length : Int) i = some (o ++ (x.drop i).filter (own g)) := by
  induction d with
  | zero =>
    intro k i o hi hd hk _
    obtain ⟨k, rfl⟩ : ∃ m, k = m + 1 := ⟨k - 1, by omega⟩
    simp only [impl_TaleOf.l0]
    rw [if_neg (by omega), List.drop_eq_nil_of_le (by omega)]; simp
  | succ d ih =>
    intro k i o hi hd hk ho
    obtain ⟨k, rfl⟩ : ∃ m, k = m + 1 := ⟨k - 1, by omega⟩
    have h : i < x.length := by omega
    simp only [impl_TaleOf.l0]
    have nx := fun (o : List S85) (ho : o.length + d ≤ 2097152) => ih k (i + 1) o (by omega) (by omega) (by omega) ho
    rw [if_pos (by omega), if_pos (by omega), if_pos (by omega), w64 (by omega) (by omega), succ_cast, rdT x i h, List.drop_eq_getElem_cons h]
    generalize x.drop (i + 1) = t at *
    generalize x[i] = y
    by_cases c1 : y.f0 = true
    · rw [if_pos c1, nx o (by omega)]; simp [own, c1]
    · rw [if_neg c1]
      by_cases c2 : y.f1 = g
      · rw [if_pos c2, if_pos (by omega)]
        refine Eq.trans (nx (o ++ [y]) (by simp; omega)) ?_
        simp [own, c1, c2]
      · rw [if_neg c2, nx o (by omega)]; simp [own, c1, c2]
theorem staleof (x : List S85) (hn : x.length ≤ 1048576) (g : Int) (k : Nat) (hk : x.length < k) : spec_TaleOf.f k x g = some (x.filter (own g)) := by
  unfold spec_TaleOf.f
  have := staleof_l x hn g x.length k 0 [] (by omega) (by omega) hk (by simp; omega)
  simpa using this
theorem italeof (x : List S85) (hn : x.length ≤ 1048576) (g : Int) (k : Nat) (hk : x.length < k) : impl_TaleOf.f k x g = some (x.filter (own g)) := by
  unfold impl_TaleOf.f
  have := italeof_l x hn g x.length k 0 [] (by omega) (by omega) hk (by simp; omega)
  simpa using this
/-- An item that is marked from c on. -/
def item (c : Int) : S85 := ⟨(Int.tmod c 3 == 0), c + 1, ⟨c + 2, c + 3, c + 4, c + 5⟩, c + 6, c + 7⟩
def items (n : Nat) (a : Int) : List S85 := (List.range n).map fun j : Nat => item (a + 8 * (j : Int))
theorem items_len (n : Nat) (a : Int) : (items n a).length = n := by simp [items]
theorem items_get (n : Nat) (a : Int) (i : Nat) (h : i < n) : (items n a)[i]'(by rw [items_len]; exact h) = item (a + 8 * (i : Int)) := by simp [items]
theorem items_set (x : List S85) (a : Int) (i : Nat) (h : i < x.length) : (items i a ++ x.drop i).set i (item (a + 8 * (i : Int))) = items (i + 1) a ++ x.drop (i + 1) := by
  rw [List.set_append_right _ _ (by rw [items_len]; omega), items_len, Nat.sub_self, List.drop_eq_getElem_cons h, List.set_cons_zero, show items (i + 1) a = items i a ++ [item (a + 8 * (i : Int))] from by simp [items, List.range_succ], List.append_assoc]
  rfl
theorem markT_l (x : List S85) (a : Int) (ha : 0 ≤ a) (ha' : a ≤ 1048576) (hn : x.length ≤ 1048576) (d : Nat) : ∀ (k i : Nat), i ≤ x.length → x.length - i = d → d < k → laws_markTaleItemS.l0 k (items i a ++ x.drop i) (a + 8 * (i : Int)) i = some (a + 8 * (x.length : Int), items x.length a) := by
  induction d with
  | zero =>
    intro k i hi hd hk
    obtain ⟨k, rfl⟩ : ∃ m, k = m + 1 := ⟨k - 1, by omega⟩
    have e : i = x.length := by omega
    subst e
    simp only [laws_markTaleItemS.l0]
    rw [if_neg (by rw [List.length_append, items_len, List.length_drop]; omega), List.drop_length, List.append_nil]
  | succ d ih =>
    intro k i hi hd hk
    obtain ⟨k, rfl⟩ : ∃ m, k = m + 1 := ⟨k - 1, by omega⟩
    have g : i < (items i a ++ x.drop i).length := by rw [List.length_append, items_len, List.length_drop]; omega
    have s := items_set x a i (by omega)
    have nx := ih k (i + 1) (by omega) (by omega) (by omega)
    rw [← s] at nx
    generalize hy : items i a ++ x.drop i = y at *
    generalize hc : a + 8 * (i : Int) = c at *
    simp only [laws_markTaleItemS.l0]
    rw [if_pos (by omega), if_pos (by omega)]
    simp only [Int.toNat_natCast]
    rw [w64 (n := c + 1) (by omega) (by omega), w64 (n := c + 1 + 1) (by omega) (by omega), w64 (n := c + 1 + 1 + 1) (by omega) (by omega), w64 (n := c + 1 + 1 + 1 + 1) (by omega) (by omega), w64 (n := c + 1 + 1 + 1 + 1 + 1) (by omega) (by omega), w64 (n := c + 1 + 1 + 1 + 1 + 1 + 1) (by omega) (by omega), w64 (n := c + 1 + 1 + 1 + 1 + 1 + 1 + 1) (by omega) (by omega), w64 (n := c + 1 + 1 + 1 + 1 + 1 + 1 + 1 + 1) (by omega) (by omega), w64 (n := (i : Int) + 1) (by omega) (by omega), succ_cast]
    iterate 7 (rw [Option.bind_some]; simp only [rdT_set _ i g, List.set_set])
    rw [← nx, show a + 8 * ((i + 1 : Nat) : Int) = c + 1 + 1 + 1 + 1 + 1 + 1 + 1 + 1 from by omega]
    simp only [item, Int.add_assoc, Int.reduceAdd]
theorem markT (x : List S85) (hn : x.length ≤ 1048576) (k : Nat) (hk : x.length < k) : laws_markTaleItemS.f k x 1 = some (1 + 8 * (x.length : Int), items x.length 1) := by
  unfold laws_markTaleItemS.f
  have := markT_l x 1 (by omega) (by omega) hn x.length k 0 (by omega) (by omega) hk
  simpa [items] using this
theorem heldT_l (n : Nat) (a : Int) (ha : 0 ≤ a) (ha' : a ≤ 1048576) (hn : n ≤ 1048576) (d : Nat) : ∀ (k i : Nat), i ≤ n → n - i = d → d < k → laws_heldTaleItemS.l0 k (items n a) (a + 8 * (i : Int)) i = some (a + 8 * (n : Int)) := by
  induction d with
  | zero =>
    intro k i hi hd hk
    obtain ⟨k, rfl⟩ : ∃ m, k = m + 1 := ⟨k - 1, by omega⟩
    have e : i = n := by omega
    subst e
    simp only [laws_heldTaleItemS.l0]
    rw [if_neg (by rw [items_len]; omega)]
  | succ d ih =>
    intro k i hi hd hk
    obtain ⟨k, rfl⟩ : ∃ m, k = m + 1 := ⟨k - 1, by omega⟩
    have nx := ih k (i + 1) (by omega) (by omega) (by omega)
    have g : i < (items n a).length := by rw [items_len]; omega
    have r : rd_T85 (items n a) i = item (a + 8 * (i : Int)) := by rw [rdT _ i g, items_get n a i (by omega)]
    have gl := items_len n a
    generalize hy : items n a = y at *
    generalize hc : a + 8 * (i : Int) = c at *
    simp only [laws_heldTaleItemS.l0]
    rw [if_pos (by omega), if_pos (by omega), r]
    rw [w64 (n := c + 1) (by omega) (by omega), w64 (n := c + 1 + 1) (by omega) (by omega), w64 (n := c + 1 + 1 + 1) (by omega) (by omega), w64 (n := c + 1 + 1 + 1 + 1) (by omega) (by omega), w64 (n := c + 1 + 1 + 1 + 1 + 1) (by omega) (by omega), w64 (n := c + 1 + 1 + 1 + 1 + 1 + 1) (by omega) (by omega), w64 (n := c + 1 + 1 + 1 + 1 + 1 + 1 + 1) (by omega) (by omega), w64 (n := c + 1 + 1 + 1 + 1 + 1 + 1 + 1 + 1) (by omega) (by omega), w64 (n := (i : Int) + 1) (by omega) (by omega), succ_cast]
    rw [if_neg (show ¬ ((item c).f0 != (Int.tmod c 3 == 0)) = true from by simp [item]), if_pos (show (item c).f1 = c + 1 from rfl), if_pos (show (item c).f2.f0 = c + 1 + 1 from by show c + 2 = _; omega), if_pos (show (item c).f2.f1 = c + 1 + 1 + 1 from by show c + 3 = _; omega), if_pos (show (item c).f2.f2 = c + 1 + 1 + 1 + 1 from by show c + 4 = _; omega), if_pos (show (item c).f2.f3 = c + 1 + 1 + 1 + 1 + 1 from by show c + 5 = _; omega), if_pos (show (item c).f3 = c + 1 + 1 + 1 + 1 + 1 + 1 from by show c + 6 = _; omega), if_pos (show (item c).f4 = c + 1 + 1 + 1 + 1 + 1 + 1 + 1 from by show c + 7 = _; omega)]
    rw [show c + 1 + 1 + 1 + 1 + 1 + 1 + 1 + 1 = a + 8 * ((i + 1 : Nat) : Int) from by omega]
    exact nx
theorem heldT (n : Nat) (hn : n ≤ 1048576) (k : Nat) (hk : n < k) : laws_heldTaleItemS.f k (items n 1) 1 = some (1 + 8 * (n : Int)) := by
  unfold laws_heldTaleItemS.f
  have := heldT_l n 1 (by omega) (by omega) hn n k 0 (by omega) (by omega) hk
  simpa using this
theorem FnExactTaleOf : ∀ (l0 : List S88) (a1 : Int), (l0.length ≤ 9223372036854775807 ∧ ∀ y0 ∈ l0, (True ∧ (Lit.int .i64 y0.f1).wf = true ∧ ((Lit.int .i64 y0.f2.f0).wf = true ∧ (Lit.int .i64 y0.f2.f1).wf = true ∧ (Lit.int .i64 y0.f2.f2).wf = true ∧ (Lit.int .i64 y0.f2.f3).wf = true) ∧ (Lit.int .i64 y0.f3).wf = true ∧ (Lit.int .i64 y0.f4).wf = true)) → (Lit.int .i64 a1).wf = true → ∃ k, laws_FnExactTaleOf.f k l0 a1 = some true := by
  intro l g ⟨hl, _⟩ _
  refine ⟨1048576 + 2 + 1, ?_⟩
  unfold laws_FnExactTaleOf.f laws_szTaleItemS.f
  rw [w64 (n := 1048576 - l.length) (by omega) (by omega)]
  by_cases h : 1048576 - (l.length : Int) < 0
  · rw [if_pos h]; simp
  · rw [if_neg h]
    simp only [Option.bind_some]
    have hx : (l.map conv).length ≤ 1048576 := by rw [List.length_map]; omega
    have t : ∀ k, l.length < k → laws_toTaleItemS.f k l = some (l.map conv) := fun k hk => toT l (by omega) k hk
    generalize l.map conv = x at *
    have hy : (x.filter (own g)).length ≤ 1048576 := Nat.le_trans (List.length_filter_le _ _) hx
    have ti : ∀ k, 1048576 < k → impl_TaleOf.f k x g = some (x.filter (own g)) := fun k hk => italeof x hx g k (by omega)
    have ts : ∀ k, 1048576 < k → spec_TaleOf.f k x g = some (x.filter (own g)) := fun k hk => staleof x hx g k (by omega)
    generalize x.filter (own g) = y at *
    rw [if_neg h, t _ (by omega)]
    simp only [Option.bind_some]
    rw [ti _ (by omega), ts _ (by omega)]
    simp only [Option.bind_some]
    rw [eqT y hy _ (by omega)]
    simp only [Option.bind_some, if_true]
    rw [eqT x hx _ (by omega)]
    simp only [Option.bind_some, if_true]
    rw [markT x hx _ (by omega)]
    simp only [Option.bind_some]
    rw [if_neg (by omega)]
    simp only [Bool.not_true, laws_FnExactTaleOf.j0, Bool.false_eq_true, if_false]
    rw [markT y hy _ (by omega)]
    simp only [Option.bind_some]
    rw [heldT y.length hy _ (by omega)]
    simp only [Option.bind_some, if_true]
    rw [if_neg (by omega), t _ (by omega)]
    simp only [Option.bind_some]
    rw [ti _ (by omega)]
    simp only [Option.bind_some]
    rw [eqT y hy _ (by omega)]
    simp only [Option.bind_some, if_true]
    rw [if_neg (by omega)]

end Go.Proofs.Ytbcpkbbdmkmpkaa.Pure

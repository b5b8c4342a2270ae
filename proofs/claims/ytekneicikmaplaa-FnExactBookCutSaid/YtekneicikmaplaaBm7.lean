/- Books of a slab allocator: walks and plain laws, part 7. -/
import Derived.Test.YtekneicikmaplaaBm1
set_option linter.unusedVariables false
set_option linter.unusedSimpArgs false
namespace Go.Proofs.Ytekneicikmaplaa.Bk
open Go.RowKit Go.Proofs.YtekneicikmaplaaW.PrintWords Go.Proofs.YtekneicikmaplaaW.PrintLast Go.Proofs.YtekneicikmaplaaW.PrintMore

/-- How many operations have not come up. -/
def missing (l : Array Bool) : Nat := l.toList.count false
theorem missing_set {l : Array Bool} {i : Nat} (h : l.getD i true = false) : missing (l.setIfInBounds i true) + 1 = missing l := by
  have hlt : i < l.size := by
    rcases Nat.lt_or_ge i l.size with h1 | h1
    · exact h1
    · simp [Array.getD, Nat.not_lt.2 h1] at h
  have hb : l[i] = false := by simpa [Array.getD, hlt] using h
  have hb' : l.toList[i]'(by simpa using hlt) = false := by simpa using hb
  unfold missing
  rw [Array.toList_setIfInBounds, List.count_set (by simpa using hlt), hb']
  have : 0 < l.toList.count false := List.count_pos_iff.2 (by rw [← hb']; exact List.getElem_mem _)
  simp only [show (false == false) = true from rfl, show (true == false) = false from rfl, if_true, Bool.false_eq_true, if_false]
  omega
section
variable {P : Program} {ops : Array Oper} {Q : Exit → Act → World → Prop} {md : Region.Mode} {S : World → Prop} {ds : List Nat}
/-- An invariant over what has come up: shown behind every operation that may come up, left where 'hstep' chooses its first way. -/
theorem inv_go (I : Array Bool → Act → World → Prop)
    (hstep : ∀ l a w, S w → I l a w → (∀ fuel, missing l ≤ fuel → wpAnyLast P md ops Q S ds fuel l a w) ∨ (Region.ready md ops l ≠ [] ∧ ∀ i ∈ Region.ready md ops l, wpOp P ops Q i (fun a' w' => S w' ∧ I (l.setIfInBounds i true) a' w') a w)) :
    ∀ fuel l a w, missing l ≤ fuel → S w → I l a w → wpAnyLast P md ops Q S ds fuel l a w
  | 0, l, a, w, hm, hs, hi => by
    rcases hstep l a w hs hi with h | ⟨h0, h1⟩
    · exact h 0 hm
    · obtain ⟨i, hi'⟩ := List.exists_mem_of_ne_nil _ h0
      have := missing_set (mem_ready.1 hi').1
      omega
  | fuel + 1, l, a, w, hm, hs, hi => by
    rcases hstep l a w hs hi with h | ⟨h0, h1⟩
    · exact h _ hm
    · exact ⟨fun h => absurd h h0, fun i hi' => wpOp_mono (fun a' w' h => ⟨fun _ _ => h.1, inv_go I hstep fuel _ a' w' (by have := missing_set (mem_ready.1 hi').1; omega) h.1 h.2⟩) (h1 i hi')⟩
theorem inv_ {fuel : Nat} {l0 : Array Bool} {A0 : Act} {w0 : World} (I : Act → World → Array Bool → Act → World → Prop) (hm : missing l0 ≤ fuel) (hs : S w0) (hi : I A0 w0 l0 A0 w0)
    (hstep : ∀ l a w, S w → I A0 w0 l a w → (∀ fuel, missing l ≤ fuel → wpAnyLast P md ops Q S ds fuel l a w) ∨ (Region.ready md ops l ≠ [] ∧ ∀ i ∈ Region.ready md ops l, wpOp P ops Q i (fun a' w' => S w' ∧ I A0 w0 (l.setIfInBounds i true) a' w') a w)) :
    wpAnyLast P md ops Q S ds fuel l0 A0 w0 := inv_go (I A0 w0) hstep fuel l0 A0 w0 hm hs hi
theorem ready_ne {l : Array Bool} {i : Nat} (h : i ∈ Region.ready md ops l) : Region.ready md ops l ≠ [] := fun e => by rw [e] at h; cases h
end

/-! ### Rows of the call's own -/
theorem R_tight {w : World} {base : Nat} {ok : Nat → Prop} {v : Value} {l : List Int} (h : Kd.R (Kd.int .i64) 3 w base ok v l) : Kd.R (Kd.int .i64) 3 w base (fun k => v.ownBlock = some k) v l := by
  obtain ⟨_, inner, ho, hr⟩ := h
  exact ⟨fun k hk => hk, inner, ho, hr.imp_ (fun _ _ hp => hp)⟩
/-- Each row of D is the call's own, none is another's. -/
def Own (w : World) (lo : Nat) (D : Nat → Option (Value × List Int)) : Prop :=
  (∀ i v l, D i = some (v, l) → Kd.R (Kd.int .i64) 3 w lo (fun _ => True) v l) ∧ ∀ i j v l v' l', i ≠ j → D i = some (v, l) → D j = some (v', l') → NeRow v v'
theorem NeRow.symm {v v' : Value} (h : NeRow v v') : NeRow v' v := fun k hk hk' => h k hk' hk
theorem Own.nil (w : World) (lo : Nat) : Own w lo (fun _ => none) := ⟨fun i v l h => (by cases h), fun i j v l v' l' _ h => (by cases h)⟩
theorem Own.congr {w : World} {lo : Nat} {D D' : Nat → Option (Value × List Int)} (h : Own w lo D) (e : ∀ i, D' i = D i) : Own w lo D' := by
  obtain rfl : D' = D := funext e
  exact h
theorem R_keep {w w1 : World} {lo : Nat} {ok : Nat → Prop} {v : Value} {l : List Int} (h : Kd.R (Kd.int .i64) 3 w lo ok v l) {row : Option Nat} (hg : w.grownBy w1 row) (hne : ∀ k, v.ownBlock = some k → some k ≠ row) : Kd.R (Kd.int .i64) 3 w1 lo (fun _ => True) v l :=
  Kd.R_mono (Kd.R_grown (R_tight h) hg hne) (fun _ _ => trivial)
theorem Own.keep {w w1 : World} {lo : Nat} {D : Nat → Option (Value × List Int)} (h : Own w lo D) (hg : w.grownBy w1 none) : Own w1 lo D :=
  ⟨fun i v l e => R_keep (h.1 i v l e) hg (fun k hk => by simp), h.2⟩
theorem Own.below {w w1 : World} {lo : Nat} {D : Nat → Option (Value × List Int)} (h : Own w lo D) (hb : Below w.heap.size w w1) : Own w1 lo D := h.keep (grown_of_below hb none)
theorem Own.add {w w1 : World} {lo : Nat} {D D' : Nat → Option (Value × List Int)} (h : Own w lo D) (hg : w.grownBy w1 none) (i : Nat) {v : Value} {l : List Int} (hv : Kd.R (Kd.int .i64) 3 w1 lo (fun _ => True) v l) (hnew : ∀ k, v.ownBlock = some k → w.heap.size ≤ k)
    (hi : D' i = some (v, l)) (hD : ∀ j, j ≠ i → D' j = D j) : Own w1 lo D' := by
  refine ⟨fun j v' l' e => ?_, fun j j' v1 l1 v2 l2 hne e1 e2 => ?_⟩
  · by_cases hj : j = i
    · subst hj; rw [hi] at e; cases e; exact hv
    · rw [hD j hj] at e; exact R_keep (h.1 j _ _ e) hg (fun k hk => by simp)
  · by_cases hj : j = i
    · subst hj
      rw [hi] at e1; cases e1
      rw [hD j' (Ne.symm hne)] at e2
      exact fun k hk hk' => by have := hnew k hk; have := Kd.R_lt (h.1 j' _ _ e2) k hk'; omega
    · rw [hD j hj] at e1
      by_cases hj' : j' = i
      · subst hj'
        rw [hi] at e2; cases e2
        exact fun k hk hk' => by have := hnew k hk'; have := Kd.R_lt (h.1 j _ _ e1) k hk; omega
      · rw [hD j' hj'] at e2; exact h.2 j j' _ _ _ _ hne e1 e2
theorem Own.app {w w1 : World} {lo : Nat} {D D' : Nat → Option (Value × List Int)} (h : Own w lo D) (i : Nat) {v0 v : Value} {l0 l : List Int} (h0 : D i = some (v0, l0)) (hg : w.grownBy w1 v0.ownBlock) (hv : Kd.R (Kd.int .i64) 3 w1 lo (fun _ => True) v l)
    (hat : v.ownBlock = v0.ownBlock ∨ ∃ b, v.ownBlock = some b ∧ w.heap.size ≤ b) (hi : D' i = some (v, l)) (hD : ∀ j, j ≠ i → D' j = D j) : Own w1 lo D' := by
  have far : ∀ j v' l', j ≠ i → D j = some (v', l') → NeRow v v' := fun j v' l' hj e k hk hk' => by
    rcases hat with ha | ⟨b, hb, hs⟩
    · exact h.2 i j _ _ _ _ (Ne.symm hj) h0 e k (by rw [← ha]; exact hk) hk'
    · rw [hb] at hk; cases hk; have := Kd.R_lt (h.1 j _ _ e) k hk'; omega
  refine ⟨fun j v' l' e => ?_, fun j j' v1 l1 v2 l2 hne e1 e2 => ?_⟩
  · by_cases hj : j = i
    · subst hj; rw [hi] at e; cases e; exact hv
    · rw [hD j hj] at e; exact R_keep (h.1 j _ _ e) hg (fun k hk hk' => h.2 j i _ _ _ _ hj e h0 k hk hk'.symm)
  · by_cases hj : j = i
    · subst hj
      rw [hi] at e1; cases e1
      rw [hD j' (Ne.symm hne)] at e2
      exact far j' _ _ (Ne.symm hne) e2
    · rw [hD j hj] at e1
      by_cases hj' : j' = i
      · subst hj'
        rw [hi] at e2; cases e2
        exact NeRow.symm (far j _ _ hj e1)
      · rw [hD j' hj'] at e2; exact h.2 j j' _ _ _ _ hne e1 e2
theorem Own.row {w : World} {lo : Nat} {D : Nat → Option (Value × List Int)} (h : Own w lo D) {g t : Nat} {cells : Array Value} (hb : w.heap[g]? = some (.cells cells t (0, 0))) (ht : 3 ≠ t) (cs : Array Value) : Own (w.setRow g cs) lo D :=
  ⟨fun i v l e => Row.row_R rfl (h.1 i v l e) hb (fun q hq => by simp [Kd.int, Kd.scalar] at hq; subst hq; exact ht), h.2⟩
theorem Own.set {w : World} {lo : Nat} {D : Nat → Option (Value × List Int)} (h : Own w lo D) {g t : Nat} {cells : Array Value} (hb : w.heap[g]? = some (.cells cells t (0, 0))) (ht : 3 ≠ t) (j : Nat) (u : Value) : Own (w.setCell ⟨g, j, none⟩ u) lo D :=
  ⟨fun i v l e => Kd.R_set (h.1 i v l e) hb (fun q hq => by simp [Kd.int, Kd.scalar] at hq; subst hq; exact ht) j u, h.2⟩
/-- Eight rows, each of D or nil: a book of the call's own. -/
theorem Own.bk {w : World} {lo : Nat} {D : Nat → Option (Value × List Int)} (h : Own w lo D) {V : Nat → Value} {L : Nat → List Int} (hD : ∀ i, i < 8 → D i = some (V i, L i) ∨ (V i = .slice none 0 0 ∧ L i = [])) :
    BkO w lo w.heap.size (fun i => aOf (V i)) (fun i => cOf (V i)) L := by
  refine VO.sl ⟨fun i hi => ?_, fun i j hi hj hne => ?_⟩
  · rcases hD i hi with e | ⟨e, e'⟩
    · have hr := h.1 i _ _ e
      obtain ⟨A, c, hv⟩ := Kd.R_slice hr
      refine ⟨A, c, hv, ?_⟩
      rw [hv] at hr
      exact Kd.R_mono (Kd.R_bound hr) (fun k hk => ⟨hk.2.1, hk.2.2.1⟩)
    · exact ⟨none, 0, by rw [e, e']; rfl, by rw [e']; exact Kd.R_nil _ _ _ _ _⟩
  · rcases hD i hi with e | ⟨e, e'⟩
    · rcases hD j hj with f | ⟨f, f'⟩
      · exact h.2 i j _ _ _ _ hne e f
      · rw [f]; exact fun k hk hk' => by simp [Value.ownBlock] at hk'
    · rw [e]; exact fun k hk => by simp [Value.ownBlock] at hk
theorem Own.slice {w : World} {lo : Nat} {D : Nat → Option (Value × List Int)} (h : Own w lo D) {i : Nat} {v : Value} {l : List Int} (e : D i = some (v, l)) : v = .slice (aOf v) l.length (cOf v) := by
  obtain ⟨A, c, rfl⟩ := Kd.R_slice (h.1 i v l e)
  rfl
/-- Four rows at 0, 5, 6, 7. -/
def four8 (o0 o1 o2 o3 : Option (Value × List Int)) : Nat → Option (Value × List Int)
  | 0 => o0
  | 5 => o1
  | 6 => o2
  | 7 => o3
  | _ => none
theorem four8_ne0 {o0 o1 o2 o3 o : Option (Value × List Int)} : ∀ j, j ≠ 0 → four8 o o1 o2 o3 j = four8 o0 o1 o2 o3 j := fun j hj => by unfold four8; split <;> first | rfl | exact absurd rfl hj
theorem four8_ne5 {o0 o1 o2 o3 o : Option (Value × List Int)} : ∀ j, j ≠ 5 → four8 o0 o o2 o3 j = four8 o0 o1 o2 o3 j := fun j hj => by unfold four8; split <;> first | rfl | exact absurd rfl hj
theorem four8_ne6 {o0 o1 o2 o3 o : Option (Value × List Int)} : ∀ j, j ≠ 6 → four8 o0 o1 o o3 j = four8 o0 o1 o2 o3 j := fun j hj => by unfold four8; split <;> first | rfl | exact absurd rfl hj
theorem four8_ne7 {o0 o1 o2 o3 o : Option (Value × List Int)} : ∀ j, j ≠ 7 → four8 o0 o1 o2 o j = four8 o0 o1 o2 o3 j := fun j hj => by unfold four8; split <;> first | rfl | exact absurd rfl hj
end Go.Proofs.Ytekneicikmaplaa.Bk

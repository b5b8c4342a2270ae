/- Books of a slab allocator: walks and plain laws, part 8. -/
import Derived.Test.YtekneicikmaplaaBm7
import Derived.Test.YtekneicikmaplaaPFnExactBookOpenx2
import Derived.Test.YtekneicikmaplaaPFnExactBookOpenx4
import Derived.Test.YtekneicikmaplaaBm4
set_option linter.unusedVariables false
set_option linter.unusedSimpArgs false
namespace Go.Proofs.Ytekneicikmaplaa.Bk
open Go.RowKit Go.Proofs.YtekneicikmaplaaW.PrintWords Go.Proofs.YtekneicikmaplaaW.PrintLast Go.Proofs.YtekneicikmaplaaW.PrintMore

def val8 (v0 v1 v2 v3 v4 v5 v6 v7 : Value) : Nat → Value
  | 0 => v0
  | 1 => v1
  | 2 => v2
  | 3 => v3
  | 4 => v4
  | 5 => v5
  | 6 => v6
  | _ => v7
theorem all8 {p : Nat → Prop} (h0 : p 0) (h1 : p 1) (h2 : p 2) (h3 : p 3) (h4 : p 4) (h5 : p 5) (h6 : p 6) (h7 : p 7) : ∀ i, i < 8 → p i := fun i hi => match i, hi with
  | 0, _ => h0
  | 1, _ => h1
  | 2, _ => h2
  | 3, _ => h3
  | 4, _ => h4
  | 5, _ => h5
  | 6, _ => h6
  | 7, _ => h7
def d8 (V : Nat → Value) (L : Nat → List Int) (i : Nat) : Option (Value × List Int) := if i < 8 then some (V i, L i) else none
theorem d8_lt {V : Nat → Value} {L : Nat → List Int} {i : Nat} (h : i < 8) : d8 V L i = some (V i, L i) := if_pos h
theorem d8_of {V : Nat → Value} {L : Nat → List Int} {i : Nat} {v : Value} {l : List Int} (h : d8 V L i = some (v, l)) : i < 8 ∧ v = V i ∧ l = L i := by
  unfold d8 at h
  by_cases hi : i < 8
  · rw [if_pos hi] at h; cases h; exact ⟨hi, rfl, rfl⟩
  · rw [if_neg hi] at h; cases h
theorem own8 {w : World} {lo : Nat} {V : Nat → Value} {L : Nat → List Int} (h : ∀ i, i < 8 → Kd.R (Kd.int .i64) 3 w lo (fun k => ∀ j, j < 8 → j ≠ i → some k ≠ (V j).ownBlock) (V i) (L i)) : Own w lo (d8 V L) := by
  refine ⟨fun i v l e => ?_, fun i j v l v' l' hne e e' => ?_⟩
  · obtain ⟨hi, rfl, rfl⟩ := d8_of e
    exact Kd.R_mono (h i hi) (fun _ _ => trivial)
  · obtain ⟨hi, rfl, rfl⟩ := d8_of e
    obtain ⟨hj, rfl, rfl⟩ := d8_of e'
    exact fun k hk hk' => (h i hi).1 k hk j hj (Ne.symm hne) hk'.symm
set_option maxRecDepth 100000 in
theorem bk_of_print {w w' : World} {e : Ending} {s : Int} {L : Nat → List Int} (h : ∃ v0 v1 v2 v3 v4 v5 v6 v7 : Value, e = .returned (.agg #[.int .i64 s, v0, v1, v2, v3, v4, v5, v6, v7]) ∧ Kd.R (Kd.int .i64) 3 w' w.heap.size (fun k => some k ≠ (v1 : Value).ownBlock ∧ some k ≠ (v2 : Value).ownBlock ∧ some k ≠ (v3 : Value).ownBlock ∧ some k ≠ (v4 : Value).ownBlock ∧ some k ≠ (v5 : Value).ownBlock ∧ some k ≠ (v6 : Value).ownBlock ∧ some k ≠ (v7 : Value).ownBlock) v0 (L 0) ∧ Kd.R (Kd.int .i64) 3 w' w.heap.size (fun k => some k ≠ (v0 : Value).ownBlock ∧ some k ≠ (v2 : Value).ownBlock ∧ some k ≠ (v3 : Value).ownBlock ∧ some k ≠ (v4 : Value).ownBlock ∧ some k ≠ (v5 : Value).ownBlock ∧ some k ≠ (v6 : Value).ownBlock ∧ some k ≠ (v7 : Value).ownBlock) v1 (L 1) ∧ Kd.R (Kd.int .i64) 3 w' w.heap.size (fun k => some k ≠ (v0 : Value).ownBlock ∧ some k ≠ (v1 : Value).ownBlock ∧ some k ≠ (v3 : Value).ownBlock ∧ some k ≠ (v4 : Value).ownBlock ∧ some k ≠ (v5 : Value).ownBlock ∧ some k ≠ (v6 : Value).ownBlock ∧ some k ≠ (v7 : Value).ownBlock) v2 (L 2) ∧ Kd.R (Kd.int .i64) 3 w' w.heap.size (fun k => some k ≠ (v0 : Value).ownBlock ∧ some k ≠ (v1 : Value).ownBlock ∧ some k ≠ (v2 : Value).ownBlock ∧ some k ≠ (v4 : Value).ownBlock ∧ some k ≠ (v5 : Value).ownBlock ∧ some k ≠ (v6 : Value).ownBlock ∧ some k ≠ (v7 : Value).ownBlock) v3 (L 3) ∧ Kd.R (Kd.int .i64) 3 w' w.heap.size (fun k => some k ≠ (v0 : Value).ownBlock ∧ some k ≠ (v1 : Value).ownBlock ∧ some k ≠ (v2 : Value).ownBlock ∧ some k ≠ (v3 : Value).ownBlock ∧ some k ≠ (v5 : Value).ownBlock ∧ some k ≠ (v6 : Value).ownBlock ∧ some k ≠ (v7 : Value).ownBlock) v4 (L 4) ∧ Kd.R (Kd.int .i64) 3 w' w.heap.size (fun k => some k ≠ (v0 : Value).ownBlock ∧ some k ≠ (v1 : Value).ownBlock ∧ some k ≠ (v2 : Value).ownBlock ∧ some k ≠ (v3 : Value).ownBlock ∧ some k ≠ (v4 : Value).ownBlock ∧ some k ≠ (v6 : Value).ownBlock ∧ some k ≠ (v7 : Value).ownBlock) v5 (L 5) ∧ Kd.R (Kd.int .i64) 3 w' w.heap.size (fun k => some k ≠ (v0 : Value).ownBlock ∧ some k ≠ (v1 : Value).ownBlock ∧ some k ≠ (v2 : Value).ownBlock ∧ some k ≠ (v3 : Value).ownBlock ∧ some k ≠ (v4 : Value).ownBlock ∧ some k ≠ (v5 : Value).ownBlock ∧ some k ≠ (v7 : Value).ownBlock) v6 (L 6) ∧ Kd.R (Kd.int .i64) 3 w' w.heap.size (fun k => some k ≠ (v0 : Value).ownBlock ∧ some k ≠ (v1 : Value).ownBlock ∧ some k ≠ (v2 : Value).ownBlock ∧ some k ≠ (v3 : Value).ownBlock ∧ some k ≠ (v4 : Value).ownBlock ∧ some k ≠ (v5 : Value).ownBlock ∧ some k ≠ (v6 : Value).ownBlock) v7 (L 7) ∧ Below w.heap.size w w') :
    ∃ A c, e = .returned (.agg (bkCells s A c L)) ∧ BkO w' w.heap.size w'.heap.size A c L ∧ Below w.heap.size w w' := by
  obtain ⟨v0, v1, v2, v3, v4, v5, v6, v7, he, h0, h1, h2, h3, h4, h5, h6, h7, hb⟩ := h
  have g0 := Kd.R_mono h0 (ok' := fun k => ∀ j, j < 8 → j ≠ 0 → some k ≠ (val8 v0 v1 v2 v3 v4 v5 v6 v7 j).ownBlock) (fun k hk => all8 (p := fun j => j ≠ 0 → some k ≠ (val8 v0 v1 v2 v3 v4 v5 v6 v7 j).ownBlock) (fun hne => absurd rfl hne) (fun _ => hk.1) (fun _ => hk.2.1) (fun _ => hk.2.2.1) (fun _ => hk.2.2.2.1) (fun _ => hk.2.2.2.2.1) (fun _ => hk.2.2.2.2.2.1) (fun _ => hk.2.2.2.2.2.2))
  have g1 := Kd.R_mono h1 (ok' := fun k => ∀ j, j < 8 → j ≠ 1 → some k ≠ (val8 v0 v1 v2 v3 v4 v5 v6 v7 j).ownBlock) (fun k hk => all8 (p := fun j => j ≠ 1 → some k ≠ (val8 v0 v1 v2 v3 v4 v5 v6 v7 j).ownBlock) (fun _ => hk.1) (fun hne => absurd rfl hne) (fun _ => hk.2.1) (fun _ => hk.2.2.1) (fun _ => hk.2.2.2.1) (fun _ => hk.2.2.2.2.1) (fun _ => hk.2.2.2.2.2.1) (fun _ => hk.2.2.2.2.2.2))
  have g2 := Kd.R_mono h2 (ok' := fun k => ∀ j, j < 8 → j ≠ 2 → some k ≠ (val8 v0 v1 v2 v3 v4 v5 v6 v7 j).ownBlock) (fun k hk => all8 (p := fun j => j ≠ 2 → some k ≠ (val8 v0 v1 v2 v3 v4 v5 v6 v7 j).ownBlock) (fun _ => hk.1) (fun _ => hk.2.1) (fun hne => absurd rfl hne) (fun _ => hk.2.2.1) (fun _ => hk.2.2.2.1) (fun _ => hk.2.2.2.2.1) (fun _ => hk.2.2.2.2.2.1) (fun _ => hk.2.2.2.2.2.2))
  have g3 := Kd.R_mono h3 (ok' := fun k => ∀ j, j < 8 → j ≠ 3 → some k ≠ (val8 v0 v1 v2 v3 v4 v5 v6 v7 j).ownBlock) (fun k hk => all8 (p := fun j => j ≠ 3 → some k ≠ (val8 v0 v1 v2 v3 v4 v5 v6 v7 j).ownBlock) (fun _ => hk.1) (fun _ => hk.2.1) (fun _ => hk.2.2.1) (fun hne => absurd rfl hne) (fun _ => hk.2.2.2.1) (fun _ => hk.2.2.2.2.1) (fun _ => hk.2.2.2.2.2.1) (fun _ => hk.2.2.2.2.2.2))
  have g4 := Kd.R_mono h4 (ok' := fun k => ∀ j, j < 8 → j ≠ 4 → some k ≠ (val8 v0 v1 v2 v3 v4 v5 v6 v7 j).ownBlock) (fun k hk => all8 (p := fun j => j ≠ 4 → some k ≠ (val8 v0 v1 v2 v3 v4 v5 v6 v7 j).ownBlock) (fun _ => hk.1) (fun _ => hk.2.1) (fun _ => hk.2.2.1) (fun _ => hk.2.2.2.1) (fun hne => absurd rfl hne) (fun _ => hk.2.2.2.2.1) (fun _ => hk.2.2.2.2.2.1) (fun _ => hk.2.2.2.2.2.2))
  have g5 := Kd.R_mono h5 (ok' := fun k => ∀ j, j < 8 → j ≠ 5 → some k ≠ (val8 v0 v1 v2 v3 v4 v5 v6 v7 j).ownBlock) (fun k hk => all8 (p := fun j => j ≠ 5 → some k ≠ (val8 v0 v1 v2 v3 v4 v5 v6 v7 j).ownBlock) (fun _ => hk.1) (fun _ => hk.2.1) (fun _ => hk.2.2.1) (fun _ => hk.2.2.2.1) (fun _ => hk.2.2.2.2.1) (fun hne => absurd rfl hne) (fun _ => hk.2.2.2.2.2.1) (fun _ => hk.2.2.2.2.2.2))
  have g6 := Kd.R_mono h6 (ok' := fun k => ∀ j, j < 8 → j ≠ 6 → some k ≠ (val8 v0 v1 v2 v3 v4 v5 v6 v7 j).ownBlock) (fun k hk => all8 (p := fun j => j ≠ 6 → some k ≠ (val8 v0 v1 v2 v3 v4 v5 v6 v7 j).ownBlock) (fun _ => hk.1) (fun _ => hk.2.1) (fun _ => hk.2.2.1) (fun _ => hk.2.2.2.1) (fun _ => hk.2.2.2.2.1) (fun _ => hk.2.2.2.2.2.1) (fun hne => absurd rfl hne) (fun _ => hk.2.2.2.2.2.2))
  have g7 := Kd.R_mono h7 (ok' := fun k => ∀ j, j < 8 → j ≠ 7 → some k ≠ (val8 v0 v1 v2 v3 v4 v5 v6 v7 j).ownBlock) (fun k hk => all8 (p := fun j => j ≠ 7 → some k ≠ (val8 v0 v1 v2 v3 v4 v5 v6 v7 j).ownBlock) (fun _ => hk.1) (fun _ => hk.2.1) (fun _ => hk.2.2.1) (fun _ => hk.2.2.2.1) (fun _ => hk.2.2.2.2.1) (fun _ => hk.2.2.2.2.2.1) (fun _ => hk.2.2.2.2.2.2) (fun hne => absurd rfl hne))
  have ho : Own w' w.heap.size (d8 (val8 v0 v1 v2 v3 v4 v5 v6 v7) L) := own8 (all8 (p := fun i => Kd.R (Kd.int .i64) 3 w' w.heap.size (fun k => ∀ j, j < 8 → j ≠ i → some k ≠ (val8 v0 v1 v2 v3 v4 v5 v6 v7 j).ownBlock) (val8 v0 v1 v2 v3 v4 v5 v6 v7 i) (L i)) g0 g1 g2 g3 g4 g5 g6 g7)
  have e0 : v0 = .slice (aOf v0) (L 0).length (cOf v0) := ho.slice (i := 0) rfl
  have e1 : v1 = .slice (aOf v1) (L 1).length (cOf v1) := ho.slice (i := 1) rfl
  have e2 : v2 = .slice (aOf v2) (L 2).length (cOf v2) := ho.slice (i := 2) rfl
  have e3 : v3 = .slice (aOf v3) (L 3).length (cOf v3) := ho.slice (i := 3) rfl
  have e4 : v4 = .slice (aOf v4) (L 4).length (cOf v4) := ho.slice (i := 4) rfl
  have e5 : v5 = .slice (aOf v5) (L 5).length (cOf v5) := ho.slice (i := 5) rfl
  have e6 : v6 = .slice (aOf v6) (L 6).length (cOf v6) := ho.slice (i := 6) rfl
  have e7 : v7 = .slice (aOf v7) (L 7).length (cOf v7) := ho.slice (i := 7) rfl
  refine ⟨_, _, ?_, ho.bk (V := val8 v0 v1 v2 v3 v4 v5 v6 v7) (fun i hi => Or.inl (d8_lt hi)), hb⟩
  rw [he]
  show Ending.returned (.agg #[.int .i64 s, v0, v1, v2, v3, v4, v5, v6, v7]) = .returned (.agg #[.int .i64 s, .slice (aOf v0) (L 0).length (cOf v0), .slice (aOf v1) (L 1).length (cOf v1), .slice (aOf v2) (L 2).length (cOf v2), .slice (aOf v3) (L 3).length (cOf v3), .slice (aOf v4) (L 4).length (cOf v4), .slice (aOf v5) (L 5).length (cOf v5), .slice (aOf v6) (L 6).length (cOf v6), .slice (aOf v7) (L 7).length (cOf v7)])
  rw [← e0, ← e1, ← e2, ← e3, ← e4, ← e5, ← e6, ← e7]
def okCfg (a b c : Int) : Bool := decide (1 ≤ a) && decide (a ≤ 4) && decide (1 ≤ b) && decide (b ≤ 6) && decide (1 ≤ c) && decide (c ≤ 20)
theorem specPlatOk_f (a b c : Int) : PFnExactBookOpen.spec_PlatOk.f a b c = some (okCfg a b c) := by
  unfold PFnExactBookOpen.spec_PlatOk.f okCfg
  by_cases h1 : 1 ≤ a <;> by_cases h2 : a ≤ 4 <;> by_cases h3 : 1 ≤ b <;> by_cases h4 : b ≤ 6 <;> by_cases h5 : 1 ≤ c <;> simp [h1, h2, h3, h4, h5]
theorem implPlatOk_f (a b c : Int) : PFnExactBookOpen.impl_PlatOk.f a b c = some (okCfg a b c) := by
  unfold PFnExactBookOpen.impl_PlatOk.f PFnExactBookOpen.impl_within.f okCfg
  by_cases h1 : 1 ≤ a <;> by_cases h2 : a ≤ 4 <;> by_cases h3 : 1 ≤ b <;> by_cases h4 : b ≤ 6 <;> by_cases h5 : 1 ≤ c <;> simp [h1, h2, h3, h4, h5]
def opS (a b c : Int) : Int := if okCfg a b c = true then a else 0
def opLN (a b c : Int) : Nat → List Int
  | 0 => List.replicate b.toNat 0
  | 5 => List.replicate (wrap64 (b * 8)).toNat 0
  | 6 => List.replicate a.toNat 0
  | 7 => List.replicate a.toNat 0
  | _ => []
def opL (a b c : Int) (i : Nat) : List Int := if okCfg a b c = true then opLN a b c i else []
theorem okCfg_le {a b c : Int} (h : okCfg a b c = true) : 1 ≤ a ∧ a ≤ 4 ∧ 1 ≤ b ∧ b ≤ 6 := by
  simp [okCfg] at h
  omega
theorem opL_len (a b c : Int) (i : Nat) : (opL a b c i).length ≤ 48 := by
  unfold opL
  split
  · rename_i h
    have := okCfg_le h
    unfold opLN
    split <;> simp
    all_goals try (unfold wrap64)
    all_goals omega
  · simp
theorem specOpen_f (a b c : Int) : PFnExactBookOpen.spec_BookOpen.f a b c = some (opS a b c, opL a b c 0, opL a b c 1, opL a b c 2, opL a b c 3, opL a b c 4, opL a b c 5, opL a b c 6, opL a b c 7) := by
  unfold PFnExactBookOpen.spec_BookOpen.f
  rw [specPlatOk_f]
  by_cases h : okCfg a b c = true
  · have := okCfg_le h
    have h1 : 0 ≤ wrap64 (b * 8) := by unfold wrap64; omega
    have h2 : (wrap64 (b * 8)).toNat ≤ 35184372088832 := by unfold wrap64; omega
    simp only [Option.bind_some, opS, opL, if_pos h]
    rw [if_pos (by omega), if_pos (by omega), if_pos h1, if_pos h2, if_pos (by omega), if_pos (by omega)]
    rfl
  · simp only [Option.bind_some, opS, opL, if_neg h]
theorem implOpen_f (a b c : Int) : PFnExactBookOpen.impl_BookOpen.f a b c = some (opS a b c, opL a b c 0, opL a b c 1, opL a b c 2, opL a b c 3, opL a b c 4, opL a b c 5, opL a b c 6, opL a b c 7) := by
  unfold PFnExactBookOpen.impl_BookOpen.f
  rw [implPlatOk_f]
  by_cases h : okCfg a b c = true
  · have := okCfg_le h
    rw [show (8 : Int) * b = b * 8 from Int.mul_comm _ _]
    have h1 : 0 ≤ wrap64 (b * 8) := by unfold wrap64; omega
    have h2 : (wrap64 (b * 8)).toNat ≤ 35184372088832 := by unfold wrap64; omega
    simp only [Option.bind_some, opS, opL, if_pos h]
    rw [if_pos (by omega), if_pos (by omega), if_pos h1, if_pos h2, if_pos (by omega), if_pos (by omega)]
    rfl
  · simp only [Option.bind_some, opS, opL, if_neg h]
theorem specOpen_calls (a b c : Int) (w : World) : Calls Try.prog 11 #[.agg #[.int .i64 a, .int .i64 b, .int .i64 c]] w fun e w' => ∃ A k, e = .returned (.agg (bkCells (opS a b c) A k (opL a b c))) ∧ BkO w' w.heap.size w'.heap.size A k (opL a b c) ∧ Below w.heap.size w w' :=
  (PFnExactBookOpen.spec_BookOpen.calls a b c _ _ _ _ _ _ _ _ _ w (specOpen_f a b c)).mono fun e w' h => bk_of_print h
theorem implOpen_calls (a b c : Int) (w : World) : Calls Try.prog 13 #[.agg #[.int .i64 a, .int .i64 b, .int .i64 c]] w fun e w' => ∃ A k, e = .returned (.agg (bkCells (opS a b c) A k (opL a b c))) ∧ BkO w' w.heap.size w'.heap.size A k (opL a b c) ∧ Below w.heap.size w w' :=
  (PFnExactBookOpen.impl_BookOpen.calls a b c _ _ _ _ _ _ _ _ _ w (implOpen_f a b c)).mono fun e w' h => bk_of_print h
theorem toCfg_calls (a b c : Int) (w : World) : Calls Try.prog 12 #[.agg #[.int .i64 a, .int .i64 b, .int .i64 c]] w fun e w' => e = .returned (.agg #[.int .i64 a, .int .i64 b, .int .i64 c]) ∧ Below w.heap.size w w' :=
  PFnExactBookOpen.laws_toPlatCfg.calls a b c a b c w rfl


theorem BkO.kept {w w1 : World} {lo hi lo' hi' : Nat} {A : Nat → Option Addr} {c : Nat → Nat} {L : Nat → List Int} (h : BkO w lo hi A c L) (hk : Keep lo' hi' w w1) (hd : hi ≤ lo' ∨ hi' ≤ lo) : BkO w1 lo hi A c L := VO.map h fun ho => ho.kept hk hd
theorem bkCells_lens {s : Int} {A : Nat → Option Addr} {c : Nat → Nat} {L L' : Nat → List Int} (h : ∀ i, (L' i).length = (L i).length) : bkCells s A c L = bkCells s A c L' := by simp only [bkCells, h]
set_option maxHeartbeats 8000000 in
set_option maxRecDepth 100000 in
theorem lawBookOpen_calls (a b c : Int) (w : World) :
    Calls Try.prog 3 #[.agg #[.int .i64 a, .int .i64 b, .int .i64 c]] w fun e w' => e = .returned (.bool true) ∧ Below w.heap.size w w' := by
  obtain ⟨s, hs⟩ : ∃ s, opS a b c = s := ⟨_, rfl⟩
  obtain ⟨L, hL⟩ : ∃ L, opL a b c = L := ⟨_, rfl⟩
  have SP := Aside0.mk (show ∀ w, Calls Try.prog 11 #[.agg #[.int .i64 a, .int .i64 b, .int .i64 c]] w fun e w' => ∃ A k, e = .returned (.agg (bkCells s A k L)) ∧ BkO w' w.heap.size w'.heap.size A k L ∧ Below w.heap.size w w' from fun w => by rw [← hs, ← hL]; exact specOpen_calls a b c w)
  have IM := Aside0.mk (show ∀ w, Calls Try.prog 13 #[.agg #[.int .i64 a, .int .i64 b, .int .i64 c]] w fun e w' => ∃ A k, e = .returned (.agg (bkCells s A k L)) ∧ BkO w' w.heap.size w'.heap.size A k L ∧ Below w.heap.size w w' from fun w => by rw [← hs, ← hL]; exact implOpen_calls a b c w)
  have HM : Aside0 (∀ i, (L i).length ≤ 1048576) := ⟨fun i => by rw [← hL]; have := opL_len a b c i; omega⟩
  have HL : Aside0 (∀ i, (L i).length ≤ 9223372036854775807) := ⟨fun i => by have := HM.out i; omega⟩
  clear hs hL
  have HB := Aside0.mk (Below.refl w.heap.size w)
  go_enter Try.func3, Try.ntmps3
  go_wp2_with (first | ((with_reducible refine gate_dst (N := 1) rfl ?_); refine box_event rfl (N := 1) rfl (cs := #[.int .i64 a, .int .i64 b, .int .i64 c]) (t := 23) (by first | (go_simp; done) | (go_simp; rfl)) ?_; intro gc hggc w1 hbox hb; have n0_ := Aside0.mk (below_step HB.out hb); have BKgc := Aside0.mk hbox; have HGgc := Aside0.mk (show w.heap.size ≤ gc by rw [hggc]; exact HB.out.size); clear HB; have HB := n0_; have fc0 : w1.cell? ⟨gc, 0, none⟩ = some (.int .i64 a) := (blk_cell BKgc.out 0).trans rfl; have fc1 : w1.cell? ⟨gc, 1, none⟩ = some (.int .i64 b) := (blk_cell BKgc.out 1).trans rfl; have fc2 : w1.cell? ⟨gc, 2, none⟩ = some (.int .i64 c) := (blk_cell BKgc.out 2).trans rfl; have zc0 := blk_frozen BKgc.out 0; have zc1 := blk_frozen BKgc.out 1; have zc2 := blk_frozen BKgc.out 2; clear n0_ hbox hb hggc))
  refine (toCfg_calls a b c _).mono ?_
  rintro e w2 ⟨rfl, hb⟩
  clear fc0 fc1 fc2 zc0 zc1 zc2
  have HBn := Aside0.mk (below_step HB.out hb)
  have BKgcn := Aside0.mk (blk_below BKgc.out hb)
  clear HB BKgc
  have HB := HBn
  have BKgc := BKgcn
  clear HBn BKgcn
  have HGC : Aside0 (gc < w2.heap.size) := ⟨blk_lt BKgc.out⟩
  have HS2 : Aside0 (w.heap.size ≤ w2.heap.size) := ⟨HB.out.size⟩
  clear hb
  go_wp2_with fail
  refine (SP.out _).mono ?_
  rintro e w3 ⟨A0, c0, rfl, ho, hb⟩
  have H0 := Aside0.mk ho
  have HBn := Aside0.mk (below_step HB.out hb)
  have BKgcn := Aside0.mk (blk_below BKgc.out hb)
  clear HB BKgc
  have HB := HBn
  have BKgc := BKgcn
  clear HBn BKgcn
  clear hb ho
  go_wp2_with (first | ((with_reducible refine gate_dst (N := 3) rfl ?_); refine box_event rfl (N := 3) rfl (cs := #[.int .i64 0, .slice none 0 0, .slice none 0 0, .slice none 0 0, .slice none 0 0, .slice none 0 0, .slice none 0 0, .slice none 0 0, .slice none 0 0]) (t := 27) (by first | (go_simp; done) | (go_simp; rfl)) ?_; intro g3 hgg3 w4 hbox hb; have n0_ := Aside0.mk (below_step HB.out hb); have BKg3 := Aside0.mk hbox; have HGg3 := Aside0.mk (show w.heap.size ≤ g3 by rw [hgg3]; exact HB.out.size); clear HB; have HB := n0_; have HXg3 : Aside0 (w3.heap.size ≤ g3) := ⟨by omega⟩; have NEgcg3 := Aside0.mk (show gc ≠ g3 by have := blk_lt BKgc.out; omega); have BKgcm := Aside0.mk (blk_below BKgc.out hb); have H0m := Aside0.mk (BkO.below H0.out hb); clear BKgc H0; clear n0_ hbox hb hgg3) | ((with_reducible refine gate_store (t := 27) (p := 3) rfl ?_); refine store_event (t := 27) (p := 3) (v := ?vo_1) (w1 := w4.setRow g3 (bkCells s A0 c0 L)) ?hg ?ho ?hn ?hr ?_; (case ho => rfl); (case hg => rfl); (case hn => rfl); (case hr => exact (Row.store_row_run (g := g3) (cells := bkCells s A0 c0 L) (t := 27) (old := #[.int .i64 0, .slice none 0 0, .slice none 0 0, .slice none 0 0, .slice none 0 0, .slice none 0 0, .slice none 0 0, .slice none 0 0, .slice none 0 0]) rfl (by rfl) (by rfl) BKg3.out (by kernel_rfl) rfl (by simp [Value.oneCell']))); intro w5 hw; have HBv := Aside0.mk (Row.row_below hw HB.out HGg3.out); have BKg3v := Aside0.mk (Row.row_here hw BKg3.out); have BKgc := Aside0.mk (Row.row_there hw BKgcm.out NEgcg3.out); have H0 := Aside0.mk (show BkO w5 w2.heap.size w3.heap.size A0 c0 L by rw [hw]; exact VO.row H0m.out BKg3.out (by decide) _); clear HB BKg3 BKgcm H0m; have HB := HBv; have BKg3 := BKg3v; clear HBv BKg3v; have fc0 : w5.cell? ⟨gc, 0, none⟩ = some (.int .i64 a) := (blk_cell BKgc.out 0).trans rfl; have fc1 : w5.cell? ⟨gc, 1, none⟩ = some (.int .i64 b) := (blk_cell BKgc.out 1).trans rfl; have fc2 : w5.cell? ⟨gc, 2, none⟩ = some (.int .i64 c) := (blk_cell BKgc.out 2).trans rfl; have zc0 := blk_frozen BKgc.out 0; have zc1 := blk_frozen BKgc.out 1; have zc2 := blk_frozen BKgc.out 2; clear hw))
  have HS35 : Aside0 (w3.heap.size ≤ w5.heap.size) := ⟨by have := HXg3.out; have := blk_lt BKg3.out; omega⟩
  refine (toCfg_calls a b c _).mono ?_
  rintro e w6 ⟨rfl, hb⟩
  clear fc0 fc1 fc2 zc0 zc1 zc2
  have HBn := Aside0.mk (below_step HB.out hb)
  have H0n := Aside0.mk (BkO.below H0.out hb)
  have BKgcn := Aside0.mk (blk_below BKgc.out hb)
  have BKg3n := Aside0.mk (blk_below BKg3.out hb)
  clear HB H0 BKgc BKg3
  have HB := HBn
  have H0 := H0n
  have BKgc := BKgcn
  have BKg3 := BKg3n
  clear HBn H0n BKgcn BKg3n
  have HS36 : Aside0 (w3.heap.size ≤ w6.heap.size) := ⟨by have := HS35.out; have := hb.size; omega⟩
  have HG36 : Aside0 (g3 < w6.heap.size) := ⟨blk_lt BKg3.out⟩
  have HG16 : Aside0 (gc < w6.heap.size) := ⟨blk_lt BKgc.out⟩
  have HS6 : Aside0 (w.heap.size ≤ w6.heap.size) := ⟨HB.out.size⟩
  clear hb
  go_wp2_with fail
  refine (IM.out _).mono ?_
  rintro e w7 ⟨A1, c1, rfl, ho, hb⟩
  have H1 := Aside0.mk ho
  have HBn := Aside0.mk (below_step HB.out hb)
  have H0n := Aside0.mk (BkO.below H0.out hb)
  have BKgcn := Aside0.mk (blk_below BKgc.out hb)
  have BKg3n := Aside0.mk (blk_below BKg3.out hb)
  clear HB H0 BKgc BKg3
  have HB := HBn
  have H0 := H0n
  have BKgc := BKgcn
  have BKg3 := BKg3n
  clear HBn H0n BKgcn BKg3n
  clear hb ho
  go_wp2_with (first | ((with_reducible refine gate_dst (N := 4) rfl ?_); refine box_event rfl (N := 4) rfl (cs := #[.int .i64 0, .slice none 0 0, .slice none 0 0, .slice none 0 0, .slice none 0 0, .slice none 0 0, .slice none 0 0, .slice none 0 0, .slice none 0 0]) (t := 27) (by first | (go_simp; done) | (go_simp; rfl)) ?_; intro g4 hgg4 w8 hbox hb; have n0_ := Aside0.mk (below_step HB.out hb); have BKg4 := Aside0.mk hbox; have HGg4 := Aside0.mk (show w.heap.size ≤ g4 by rw [hgg4]; exact HB.out.size); clear HB; have HB := n0_; have HXg4 : Aside0 (w7.heap.size ≤ g4) := ⟨by omega⟩; have NEgcg4 := Aside0.mk (show gc ≠ g4 by have := blk_lt BKgc.out; omega); have BKgcm := Aside0.mk (blk_below BKgc.out hb); have NEg3g4 := Aside0.mk (show g3 ≠ g4 by have := blk_lt BKg3.out; omega); have BKg3m := Aside0.mk (blk_below BKg3.out hb); have H0m := Aside0.mk (BkO.below H0.out hb); have H1m := Aside0.mk (BkO.below H1.out hb); clear BKgc BKg3 H0 H1; clear n0_ hbox hb hgg4) | ((with_reducible refine gate_store (t := 27) (p := 4) rfl ?_); refine store_event (t := 27) (p := 4) (v := ?vo_2) (w1 := w8.setRow g4 (bkCells s A1 c1 L)) ?hg ?ho ?hn ?hr ?_; (case ho => rfl); (case hg => rfl); (case hn => rfl); (case hr => exact (Row.store_row_run (g := g4) (cells := bkCells s A1 c1 L) (t := 27) (old := #[.int .i64 0, .slice none 0 0, .slice none 0 0, .slice none 0 0, .slice none 0 0, .slice none 0 0, .slice none 0 0, .slice none 0 0, .slice none 0 0]) rfl (by rfl) (by rfl) BKg4.out (by kernel_rfl) rfl (by simp [Value.oneCell']))); intro w9 hw; have HBv := Aside0.mk (Row.row_below hw HB.out HGg4.out); have BKg4v := Aside0.mk (Row.row_here hw BKg4.out); have BKgc := Aside0.mk (Row.row_there hw BKgcm.out NEgcg4.out); have BKg3 := Aside0.mk (Row.row_there hw BKg3m.out NEg3g4.out); have H0 := Aside0.mk (show BkO w9 w2.heap.size w3.heap.size A0 c0 L by rw [hw]; exact VO.row H0m.out BKg4.out (by decide) _); have H1 := Aside0.mk (show BkO w9 w6.heap.size w7.heap.size A1 c1 L by rw [hw]; exact VO.row H1m.out BKg4.out (by decide) _); clear HB BKg4 BKgcm BKg3m H0m H1m; have HB := HBv; have BKg4 := BKg4v; clear HBv BKg4v; have fg4s0 : w9.cell? ⟨g4, 0, none⟩ = some (.int .i64 _) := (blk_cell BKg4.out 0).trans rfl; have fg41 : w9.cell? ⟨g4, 1, none⟩ = some (.slice (A1 0) (L 0).length (c1 0)) := (blk_cell BKg4.out 1).trans rfl; have fg42 : w9.cell? ⟨g4, 2, none⟩ = some (.slice (A1 1) (L 1).length (c1 1)) := (blk_cell BKg4.out 2).trans rfl; have fg43 : w9.cell? ⟨g4, 3, none⟩ = some (.slice (A1 2) (L 2).length (c1 2)) := (blk_cell BKg4.out 3).trans rfl; have fg44 : w9.cell? ⟨g4, 4, none⟩ = some (.slice (A1 3) (L 3).length (c1 3)) := (blk_cell BKg4.out 4).trans rfl; have fg45 : w9.cell? ⟨g4, 5, none⟩ = some (.slice (A1 4) (L 4).length (c1 4)) := (blk_cell BKg4.out 5).trans rfl; have fg46 : w9.cell? ⟨g4, 6, none⟩ = some (.slice (A1 5) (L 5).length (c1 5)) := (blk_cell BKg4.out 6).trans rfl; have fg47 : w9.cell? ⟨g4, 7, none⟩ = some (.slice (A1 6) (L 6).length (c1 6)) := (blk_cell BKg4.out 7).trans rfl; have fg48 : w9.cell? ⟨g4, 8, none⟩ = some (.slice (A1 7) (L 7).length (c1 7)) := (blk_cell BKg4.out 8).trans rfl; have fg4z0 := blk_frozen BKg4.out 0; have fg4z1 := blk_frozen BKg4.out 1; have fg4z2 := blk_frozen BKg4.out 2; have fg4z3 := blk_frozen BKg4.out 3; have fg4z4 := blk_frozen BKg4.out 4; have fg4z5 := blk_frozen BKg4.out 5; have fg4z6 := blk_frozen BKg4.out 6; have fg4z7 := blk_frozen BKg4.out 7; have fg4z8 := blk_frozen BKg4.out 8; have fg3s0 : w9.cell? ⟨g3, 0, none⟩ = some (.int .i64 _) := (blk_cell BKg3.out 0).trans rfl; have fg31 : w9.cell? ⟨g3, 1, none⟩ = some (.slice (A0 0) (L 0).length (c0 0)) := (blk_cell BKg3.out 1).trans rfl; have fg32 : w9.cell? ⟨g3, 2, none⟩ = some (.slice (A0 1) (L 1).length (c0 1)) := (blk_cell BKg3.out 2).trans rfl; have fg33 : w9.cell? ⟨g3, 3, none⟩ = some (.slice (A0 2) (L 2).length (c0 2)) := (blk_cell BKg3.out 3).trans rfl; have fg34 : w9.cell? ⟨g3, 4, none⟩ = some (.slice (A0 3) (L 3).length (c0 3)) := (blk_cell BKg3.out 4).trans rfl; have fg35 : w9.cell? ⟨g3, 5, none⟩ = some (.slice (A0 4) (L 4).length (c0 4)) := (blk_cell BKg3.out 5).trans rfl; have fg36 : w9.cell? ⟨g3, 6, none⟩ = some (.slice (A0 5) (L 5).length (c0 5)) := (blk_cell BKg3.out 6).trans rfl; have fg37 : w9.cell? ⟨g3, 7, none⟩ = some (.slice (A0 6) (L 6).length (c0 6)) := (blk_cell BKg3.out 7).trans rfl; have fg38 : w9.cell? ⟨g3, 8, none⟩ = some (.slice (A0 7) (L 7).length (c0 7)) := (blk_cell BKg3.out 8).trans rfl; have fg3z0 := blk_frozen BKg3.out 0; have fg3z1 := blk_frozen BKg3.out 1; have fg3z2 := blk_frozen BKg3.out 2; have fg3z3 := blk_frozen BKg3.out 3; have fg3z4 := blk_frozen BKg3.out 4; have fg3z5 := blk_frozen BKg3.out 5; have fg3z6 := blk_frozen BKg3.out 6; have fg3z7 := blk_frozen BKg3.out 7; have fg3z8 := blk_frozen BKg3.out 8; clear hw))
  have HS79 : Aside0 (w7.heap.size ≤ w9.heap.size) := ⟨by have := HXg4.out; have := blk_lt BKg4.out; omega⟩
  refine (eqBook_same s A1 c1 A0 c0 L _ H1.out.c H0.out.c HL.out).mono ?_
  rintro e w10 ⟨rfl, hb⟩
  clear fg4s0 fg4z0 fg41 fg4z1 fg42 fg4z2 fg43 fg4z3 fg44 fg4z4 fg45 fg4z5 fg46 fg4z6 fg47 fg4z7 fg48 fg4z8
  clear fg3s0 fg3z0 fg31 fg3z1 fg32 fg3z2 fg33 fg3z3 fg34 fg3z4 fg35 fg3z5 fg36 fg3z6 fg37 fg3z7 fg38 fg3z8
  have HBn := Aside0.mk (below_step HB.out hb)
  have H0n := Aside0.mk (BkO.below H0.out hb)
  have H1n := Aside0.mk (BkO.below H1.out hb)
  have BKgcn := Aside0.mk (blk_below BKgc.out hb)
  have BKg3n := Aside0.mk (blk_below BKg3.out hb)
  have BKg4n := Aside0.mk (blk_below BKg4.out hb)
  clear HB H0 H1 BKgc BKg3 BKg4
  have HB := HBn
  have H0 := H0n
  have H1 := H1n
  have BKgc := BKgcn
  have BKg3 := BKg3n
  have BKg4 := BKg4n
  clear HBn H0n H1n BKgcn BKg3n BKg4n
  have HS70 : Aside0 (w7.heap.size ≤ w10.heap.size) := ⟨by have := HS79.out; have := hb.size; omega⟩
  clear hb
  have fg4s0 : w10.cell? ⟨g4, 0, none⟩ = some (.int .i64 _) := (blk_cell BKg4.out 0).trans rfl; have fg41 : w10.cell? ⟨g4, 1, none⟩ = some (.slice (A1 0) (L 0).length (c1 0)) := (blk_cell BKg4.out 1).trans rfl; have fg42 : w10.cell? ⟨g4, 2, none⟩ = some (.slice (A1 1) (L 1).length (c1 1)) := (blk_cell BKg4.out 2).trans rfl; have fg43 : w10.cell? ⟨g4, 3, none⟩ = some (.slice (A1 2) (L 2).length (c1 2)) := (blk_cell BKg4.out 3).trans rfl; have fg44 : w10.cell? ⟨g4, 4, none⟩ = some (.slice (A1 3) (L 3).length (c1 3)) := (blk_cell BKg4.out 4).trans rfl; have fg45 : w10.cell? ⟨g4, 5, none⟩ = some (.slice (A1 4) (L 4).length (c1 4)) := (blk_cell BKg4.out 5).trans rfl; have fg46 : w10.cell? ⟨g4, 6, none⟩ = some (.slice (A1 5) (L 5).length (c1 5)) := (blk_cell BKg4.out 6).trans rfl; have fg47 : w10.cell? ⟨g4, 7, none⟩ = some (.slice (A1 6) (L 6).length (c1 6)) := (blk_cell BKg4.out 7).trans rfl; have fg48 : w10.cell? ⟨g4, 8, none⟩ = some (.slice (A1 7) (L 7).length (c1 7)) := (blk_cell BKg4.out 8).trans rfl; have fg4z0 := blk_frozen BKg4.out 0; have fg4z1 := blk_frozen BKg4.out 1; have fg4z2 := blk_frozen BKg4.out 2; have fg4z3 := blk_frozen BKg4.out 3; have fg4z4 := blk_frozen BKg4.out 4; have fg4z5 := blk_frozen BKg4.out 5; have fg4z6 := blk_frozen BKg4.out 6; have fg4z7 := blk_frozen BKg4.out 7; have fg4z8 := blk_frozen BKg4.out 8
  go_wp2_with fail
  refine (markBook_calls s A1 c1 L 1 w6.heap.size w7.heap.size _ H1.out HS70.out (by omega) (by have := off8_le HM.out; omega)).mono ?_
  rintro e w11 ⟨L', rfl, hlL, hmk, hbo, hkp⟩
  have hk1 : (0 : Int) ≤ 1 + ((off L 8 : Nat) : Int) := by omega
  clear fg4s0 fg4z0 fg41 fg4z1 fg42 fg4z2 fg43 fg4z3 fg44 fg4z4 fg45 fg4z5 fg46 fg4z6 fg47 fg4z7 fg48 fg4z8
  have HBn := Aside0.mk (Keep.below HB.out hkp HS6.out)
  have H0n := Aside0.mk (H0.out.kept hkp (Or.inl HS36.out))
  have H1n := Aside0.mk hbo
  have HLL := Aside0.mk hlL
  have HMK := Aside0.mk hmk
  have BKgcn := Aside0.mk (hkp.blk BKgc.out (by have := HG16.out; omega))
  have BKg3n := Aside0.mk (hkp.blk BKg3.out (by have := HG36.out; omega))
  have BKg4n := Aside0.mk (hkp.blk BKg4.out (by have := HXg4.out; omega))
  clear HB H0 H1 BKgc BKg3 BKg4 hlL hmk hbo hkp
  have HB := HBn
  have H0 := H0n
  have H1 := H1n
  have BKgc := BKgcn
  have BKg3 := BKg3n
  have BKg4 := BKg4n
  clear HBn H0n H1n BKgcn BKg3n BKg4n
  have fg4s0 : w11.cell? ⟨g4, 0, none⟩ = some (.int .i64 _) := (blk_cell BKg4.out 0).trans rfl; have fg41 : w11.cell? ⟨g4, 1, none⟩ = some (.slice (A1 0) (L 0).length (c1 0)) := (blk_cell BKg4.out 1).trans rfl; have fg42 : w11.cell? ⟨g4, 2, none⟩ = some (.slice (A1 1) (L 1).length (c1 1)) := (blk_cell BKg4.out 2).trans rfl; have fg43 : w11.cell? ⟨g4, 3, none⟩ = some (.slice (A1 2) (L 2).length (c1 2)) := (blk_cell BKg4.out 3).trans rfl; have fg44 : w11.cell? ⟨g4, 4, none⟩ = some (.slice (A1 3) (L 3).length (c1 3)) := (blk_cell BKg4.out 4).trans rfl; have fg45 : w11.cell? ⟨g4, 5, none⟩ = some (.slice (A1 4) (L 4).length (c1 4)) := (blk_cell BKg4.out 5).trans rfl; have fg46 : w11.cell? ⟨g4, 6, none⟩ = some (.slice (A1 5) (L 5).length (c1 5)) := (blk_cell BKg4.out 6).trans rfl; have fg47 : w11.cell? ⟨g4, 7, none⟩ = some (.slice (A1 6) (L 6).length (c1 6)) := (blk_cell BKg4.out 7).trans rfl; have fg48 : w11.cell? ⟨g4, 8, none⟩ = some (.slice (A1 7) (L 7).length (c1 7)) := (blk_cell BKg4.out 8).trans rfl; have fg4z0 := blk_frozen BKg4.out 0; have fg4z1 := blk_frozen BKg4.out 1; have fg4z2 := blk_frozen BKg4.out 2; have fg4z3 := blk_frozen BKg4.out 3; have fg4z4 := blk_frozen BKg4.out 4; have fg4z5 := blk_frozen BKg4.out 5; have fg4z6 := blk_frozen BKg4.out 6; have fg4z7 := blk_frozen BKg4.out 7; have fg4z8 := blk_frozen BKg4.out 8
  go_wp2_with fail
  refine calls_of_args (args' := #[.agg (bkCells s A1 c1 L'), .int .i64 1]) (by rw [← bkCells_lens (s := s) (A := A1) (c := c1) HLL.out]) ?_
  refine (heldBook_calls s A1 c1 L' 1 _ H1.out.c (by omega) (by rw [off_same HLL.out]; have := off8_le HM.out; omega) (fun i hi => (HMK.out i hi).same (fun j => (HLL.out j).symm))).mono ?_
  rintro e w12 ⟨rfl, hb⟩
  rw [off_same HLL.out]
  clear fg4s0 fg4z0 fg41 fg4z1 fg42 fg4z2 fg43 fg4z3 fg44 fg4z4 fg45 fg4z5 fg46 fg4z6 fg47 fg4z7 fg48 fg4z8
  have HBn := Aside0.mk (below_step HB.out hb)
  have H0n := Aside0.mk (BkO.below H0.out hb)
  have H1n := Aside0.mk (BkO.below H1.out hb)
  have BKgcn := Aside0.mk (blk_below BKgc.out hb)
  have BKg3n := Aside0.mk (blk_below BKg3.out hb)
  have BKg4n := Aside0.mk (blk_below BKg4.out hb)
  clear HB H0 H1 BKgc BKg3 BKg4
  have HB := HBn
  have H0 := H0n
  have H1 := H1n
  have BKgc := BKgcn
  have BKg3 := BKg3n
  have BKg4 := BKg4n
  clear HBn H0n H1n BKgcn BKg3n BKg4n
  clear hb
  have fc0 : w12.cell? ⟨gc, 0, none⟩ = some (.int .i64 a) := (blk_cell BKgc.out 0).trans rfl
  have fc1 : w12.cell? ⟨gc, 1, none⟩ = some (.int .i64 b) := (blk_cell BKgc.out 1).trans rfl
  have fc2 : w12.cell? ⟨gc, 2, none⟩ = some (.int .i64 c) := (blk_cell BKgc.out 2).trans rfl
  have zc0 := blk_frozen BKgc.out 0
  have zc1 := blk_frozen BKgc.out 1
  have zc2 := blk_frozen BKgc.out 2
  go_wp2_with fail
  refine (toCfg_calls a b c _).mono ?_
  rintro e w13 ⟨rfl, hb⟩
  clear fc0 fc1 fc2 zc0 zc1 zc2
  have HBn := Aside0.mk (below_step HB.out hb)
  have H0n := Aside0.mk (BkO.below H0.out hb)
  have H1n := Aside0.mk (BkO.below H1.out hb)
  have BKg3n := Aside0.mk (blk_below BKg3.out hb)
  have BKg4n := Aside0.mk (blk_below BKg4.out hb)
  clear HB H0 H1 BKg3 BKg4
  have HB := HBn
  have H0 := H0n
  have H1 := H1n
  have BKg3 := BKg3n
  have BKg4 := BKg4n
  clear HBn H0n H1n BKg3n BKg4n
  clear hb
  go_wp2_with fail
  refine (IM.out _).mono ?_
  rintro e w14 ⟨A2, c2, rfl, ho, hb⟩
  have H2 := Aside0.mk ho
  have HBn := Aside0.mk (below_step HB.out hb)
  have H0n := Aside0.mk (BkO.below H0.out hb)
  have H1n := Aside0.mk (BkO.below H1.out hb)
  have BKg3n := Aside0.mk (blk_below BKg3.out hb)
  have BKg4n := Aside0.mk (blk_below BKg4.out hb)
  clear HB H0 H1 BKg3 BKg4
  have HB := HBn
  have H0 := H0n
  have H1 := H1n
  have BKg3 := BKg3n
  have BKg4 := BKg4n
  clear HBn H0n H1n BKg3n BKg4n
  clear hb ho
  go_wp2_with (first | ((with_reducible refine gate_dst (N := 7) rfl ?_); refine box_event rfl (N := 7) rfl (cs := #[.int .i64 0, .slice none 0 0, .slice none 0 0, .slice none 0 0, .slice none 0 0, .slice none 0 0, .slice none 0 0, .slice none 0 0, .slice none 0 0]) (t := 27) (by first | (go_simp; done) | (go_simp; rfl)) ?_; intro g7 hgg7 w15 hbox hb; have n0_ := Aside0.mk (below_step HB.out hb); have BKg7 := Aside0.mk hbox; have HGg7 := Aside0.mk (show w.heap.size ≤ g7 by rw [hgg7]; exact HB.out.size); clear HB; have HB := n0_; have HXg7 : Aside0 (w14.heap.size ≤ g7) := ⟨by omega⟩; have NEg3g7 := Aside0.mk (show g3 ≠ g7 by have := blk_lt BKg3.out; omega); have BKg3m := Aside0.mk (blk_below BKg3.out hb); have NEg4g7 := Aside0.mk (show g4 ≠ g7 by have := blk_lt BKg4.out; omega); have BKg4m := Aside0.mk (blk_below BKg4.out hb); have H0m := Aside0.mk (BkO.below H0.out hb); have H1m := Aside0.mk (BkO.below H1.out hb); have H2m := Aside0.mk (BkO.below H2.out hb); clear BKg3 BKg4 H0 H1 H2; clear n0_ hbox hb hgg7) | ((with_reducible refine gate_store (t := 27) (p := 7) rfl ?_); refine store_event (t := 27) (p := 7) (v := ?vo_3) (w1 := w15.setRow g7 (bkCells s A2 c2 L)) ?hg ?ho ?hn ?hr ?_; (case ho => rfl); (case hg => rfl); (case hn => rfl); (case hr => exact (Row.store_row_run (g := g7) (cells := bkCells s A2 c2 L) (t := 27) (old := #[.int .i64 0, .slice none 0 0, .slice none 0 0, .slice none 0 0, .slice none 0 0, .slice none 0 0, .slice none 0 0, .slice none 0 0, .slice none 0 0]) rfl (by rfl) (by rfl) BKg7.out (by kernel_rfl) rfl (by simp [Value.oneCell']))); intro w16 hw; have HBv := Aside0.mk (Row.row_below hw HB.out HGg7.out); have BKg7v := Aside0.mk (Row.row_here hw BKg7.out); have BKg3 := Aside0.mk (Row.row_there hw BKg3m.out NEg3g7.out); have BKg4 := Aside0.mk (Row.row_there hw BKg4m.out NEg4g7.out); have H0 := Aside0.mk (show BkO w16 w2.heap.size w3.heap.size A0 c0 L by rw [hw]; exact VO.row H0m.out BKg7.out (by decide) _); have H1 := Aside0.mk (show BkO w16 w6.heap.size w7.heap.size A1 c1 L' by rw [hw]; exact VO.row H1m.out BKg7.out (by decide) _); have H2 := Aside0.mk (show BkO w16 w13.heap.size w14.heap.size A2 c2 L by rw [hw]; exact VO.row H2m.out BKg7.out (by decide) _); clear HB BKg7 BKg3m BKg4m H0m H1m H2m; have HB := HBv; have BKg7 := BKg7v; clear HBv BKg7v; have fg7s0 : w16.cell? ⟨g7, 0, none⟩ = some (.int .i64 _) := (blk_cell BKg7.out 0).trans rfl; have fg71 : w16.cell? ⟨g7, 1, none⟩ = some (.slice (A2 0) (L 0).length (c2 0)) := (blk_cell BKg7.out 1).trans rfl; have fg72 : w16.cell? ⟨g7, 2, none⟩ = some (.slice (A2 1) (L 1).length (c2 1)) := (blk_cell BKg7.out 2).trans rfl; have fg73 : w16.cell? ⟨g7, 3, none⟩ = some (.slice (A2 2) (L 2).length (c2 2)) := (blk_cell BKg7.out 3).trans rfl; have fg74 : w16.cell? ⟨g7, 4, none⟩ = some (.slice (A2 3) (L 3).length (c2 3)) := (blk_cell BKg7.out 4).trans rfl; have fg75 : w16.cell? ⟨g7, 5, none⟩ = some (.slice (A2 4) (L 4).length (c2 4)) := (blk_cell BKg7.out 5).trans rfl; have fg76 : w16.cell? ⟨g7, 6, none⟩ = some (.slice (A2 5) (L 5).length (c2 5)) := (blk_cell BKg7.out 6).trans rfl; have fg77 : w16.cell? ⟨g7, 7, none⟩ = some (.slice (A2 6) (L 6).length (c2 6)) := (blk_cell BKg7.out 7).trans rfl; have fg78 : w16.cell? ⟨g7, 8, none⟩ = some (.slice (A2 7) (L 7).length (c2 7)) := (blk_cell BKg7.out 8).trans rfl; have fg7z0 := blk_frozen BKg7.out 0; have fg7z1 := blk_frozen BKg7.out 1; have fg7z2 := blk_frozen BKg7.out 2; have fg7z3 := blk_frozen BKg7.out 3; have fg7z4 := blk_frozen BKg7.out 4; have fg7z5 := blk_frozen BKg7.out 5; have fg7z6 := blk_frozen BKg7.out 6; have fg7z7 := blk_frozen BKg7.out 7; have fg7z8 := blk_frozen BKg7.out 8; have fg3s0 : w16.cell? ⟨g3, 0, none⟩ = some (.int .i64 _) := (blk_cell BKg3.out 0).trans rfl; have fg31 : w16.cell? ⟨g3, 1, none⟩ = some (.slice (A0 0) (L 0).length (c0 0)) := (blk_cell BKg3.out 1).trans rfl; have fg32 : w16.cell? ⟨g3, 2, none⟩ = some (.slice (A0 1) (L 1).length (c0 1)) := (blk_cell BKg3.out 2).trans rfl; have fg33 : w16.cell? ⟨g3, 3, none⟩ = some (.slice (A0 2) (L 2).length (c0 2)) := (blk_cell BKg3.out 3).trans rfl; have fg34 : w16.cell? ⟨g3, 4, none⟩ = some (.slice (A0 3) (L 3).length (c0 3)) := (blk_cell BKg3.out 4).trans rfl; have fg35 : w16.cell? ⟨g3, 5, none⟩ = some (.slice (A0 4) (L 4).length (c0 4)) := (blk_cell BKg3.out 5).trans rfl; have fg36 : w16.cell? ⟨g3, 6, none⟩ = some (.slice (A0 5) (L 5).length (c0 5)) := (blk_cell BKg3.out 6).trans rfl; have fg37 : w16.cell? ⟨g3, 7, none⟩ = some (.slice (A0 6) (L 6).length (c0 6)) := (blk_cell BKg3.out 7).trans rfl; have fg38 : w16.cell? ⟨g3, 8, none⟩ = some (.slice (A0 7) (L 7).length (c0 7)) := (blk_cell BKg3.out 8).trans rfl; have fg3z0 := blk_frozen BKg3.out 0; have fg3z1 := blk_frozen BKg3.out 1; have fg3z2 := blk_frozen BKg3.out 2; have fg3z3 := blk_frozen BKg3.out 3; have fg3z4 := blk_frozen BKg3.out 4; have fg3z5 := blk_frozen BKg3.out 5; have fg3z6 := blk_frozen BKg3.out 6; have fg3z7 := blk_frozen BKg3.out 7; have fg3z8 := blk_frozen BKg3.out 8; clear hw))
  refine (eqBook_same s A2 c2 A0 c0 L _ H2.out.c H0.out.c HL.out).mono ?_
  rintro e w17 ⟨rfl, hb⟩
  clear fg7s0 fg7z0 fg71 fg7z1 fg72 fg7z2 fg73 fg7z3 fg74 fg7z4 fg75 fg7z5 fg76 fg7z6 fg77 fg7z7 fg78 fg7z8
  clear fg3s0 fg3z0 fg31 fg3z1 fg32 fg3z2 fg33 fg3z3 fg34 fg3z4 fg35 fg3z5 fg36 fg3z6 fg37 fg3z7 fg38 fg3z8
  have HBn := Aside0.mk (below_step HB.out hb)
  have H1n := Aside0.mk (BkO.below H1.out hb)
  have BKg4n := Aside0.mk (blk_below BKg4.out hb)
  clear HB H1 BKg4
  have HB := HBn
  have H1 := H1n
  have BKg4 := BKg4n
  clear HBn H1n BKg4n
  clear hb
  have fg4s0 : w17.cell? ⟨g4, 0, none⟩ = some (.int .i64 _) := (blk_cell BKg4.out 0).trans rfl; have fg41 : w17.cell? ⟨g4, 1, none⟩ = some (.slice (A1 0) (L 0).length (c1 0)) := (blk_cell BKg4.out 1).trans rfl; have fg42 : w17.cell? ⟨g4, 2, none⟩ = some (.slice (A1 1) (L 1).length (c1 1)) := (blk_cell BKg4.out 2).trans rfl; have fg43 : w17.cell? ⟨g4, 3, none⟩ = some (.slice (A1 2) (L 2).length (c1 2)) := (blk_cell BKg4.out 3).trans rfl; have fg44 : w17.cell? ⟨g4, 4, none⟩ = some (.slice (A1 3) (L 3).length (c1 3)) := (blk_cell BKg4.out 4).trans rfl; have fg45 : w17.cell? ⟨g4, 5, none⟩ = some (.slice (A1 4) (L 4).length (c1 4)) := (blk_cell BKg4.out 5).trans rfl; have fg46 : w17.cell? ⟨g4, 6, none⟩ = some (.slice (A1 5) (L 5).length (c1 5)) := (blk_cell BKg4.out 6).trans rfl; have fg47 : w17.cell? ⟨g4, 7, none⟩ = some (.slice (A1 6) (L 6).length (c1 6)) := (blk_cell BKg4.out 7).trans rfl; have fg48 : w17.cell? ⟨g4, 8, none⟩ = some (.slice (A1 7) (L 7).length (c1 7)) := (blk_cell BKg4.out 8).trans rfl; have fg4z0 := blk_frozen BKg4.out 0; have fg4z1 := blk_frozen BKg4.out 1; have fg4z2 := blk_frozen BKg4.out 2; have fg4z3 := blk_frozen BKg4.out 3; have fg4z4 := blk_frozen BKg4.out 4; have fg4z5 := blk_frozen BKg4.out 5; have fg4z6 := blk_frozen BKg4.out 6; have fg4z7 := blk_frozen BKg4.out 7; have fg4z8 := blk_frozen BKg4.out 8
  go_wp2_with fail
  refine calls_of_args (args' := #[.agg (bkCells s A1 c1 L'), .int .i64 1]) (by rw [← bkCells_lens (s := s) (A := A1) (c := c1) HLL.out]) ?_
  refine (heldBook_calls s A1 c1 L' 1 _ H1.out.c (by omega) (by rw [off_same HLL.out]; have := off8_le HM.out; omega) (fun i hi => (HMK.out i hi).same (fun j => (HLL.out j).symm))).mono ?_
  rintro e w18 ⟨rfl, hb⟩
  rw [off_same HLL.out]
  clear fg4s0 fg4z0 fg41 fg4z1 fg42 fg4z2 fg43 fg4z3 fg44 fg4z4 fg45 fg4z5 fg46 fg4z6 fg47 fg4z7 fg48 fg4z8
  have HBn := Aside0.mk (below_step HB.out hb)
  go_wp2
  go_ret
  exact ⟨rfl, HBn.out⟩
end Go.Proofs.Ytekneicikmaplaa.Bk

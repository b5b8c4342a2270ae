/- Books of a slab allocator: walks and plain laws, part 2. -/
import Derived.Test.YtekneicikmaplaaBm1
import Derived.StillTailTactics
import Derived.DataElems
set_option linter.unusedVariables false
set_option linter.unusedSimpArgs false
namespace Go.Proofs.Ytekneicikmaplaa.Bk
open Go.RowKit Go.Proofs.YtekneicikmaplaaW.PrintWords Go.Proofs.YtekneicikmaplaaW.PrintLast Go.Proofs.YtekneicikmaplaaW.PrintMore

def kindN (s : Int) : Int := if s < 1 then -1 else if s > 4 then -1 else s - 1
theorem l3Kind_calls (s : Int) (w : World) : Calls Try.prog 66 #[.int .i64 s] w fun e w' => e = .returned (.int .i64 (kindN s)) ∧ w = w' := by
  by_cases h1 : s < 1
  · have HF : Aside0 (kindN s = -1) := ⟨if_pos h1⟩
    go_enter Try.func66, Try.ntmps66
    go_wp2
    go_ret
    exact ⟨by rw [HF.out]; rfl, rfl⟩
  · by_cases h2 : s > 4
    · have HF : Aside0 (kindN s = -1) := ⟨by unfold kindN; rw [if_neg h1, if_pos h2]⟩
      go_enter Try.func66, Try.ntmps66
      go_wp2
      go_ret
      exact ⟨by rw [HF.out]; rfl, rfl⟩
    · have HF : Aside0 (kindN s = s - 1) := ⟨by unfold kindN; rw [if_neg h1, if_neg h2]⟩
      go_enter Try.func66, Try.ntmps66
      go_wp2
      go_ret
      exact ⟨by rw [HF.out]; rfl, rfl⟩
def sizeN : Nat → Nat
  | 0 => 1
  | 1 => 2
  | 2 => 4
  | _ => 8
theorem l3Size_calls (k : Nat) (hk : k < 4) (w : World) : Calls Try.prog 67 #[.int .i64 (k : Int)] w fun e w' => e = .returned (.int .i64 (sizeN k : Nat)) ∧ Below w.heap.size w w' := by
  match k, hk with
  | 0, _ =>
    go_enter Try.func67, Try.ntmps67
    go_wp2
    go_ret
    exact ⟨rfl, below_alloc (Below.refl _ _) _⟩
  | 1, _ =>
    go_enter Try.func67, Try.ntmps67
    go_wp2
    go_ret
    exact ⟨rfl, below_alloc (Below.refl _ _) _⟩
  | 2, _ =>
    go_enter Try.func67, Try.ntmps67
    go_wp2
    go_ret
    exact ⟨rfl, below_alloc (Below.refl _ _) _⟩
  | 3, _ =>
    go_enter Try.func67, Try.ntmps67
    go_wp2
    go_ret
    exact ⟨rfl, below_alloc (Below.refl _ _) _⟩
def cnt (l : List Int) (x : Int) : Nat := l.count x
theorem cnt_succ (l : List Int) (x : Int) (k : Nat) (hk : k < l.length) : cnt (l.take (k + 1)) x = cnt (l.take k) x + (if l.getD k 0 = x then 1 else 0) := by
  unfold cnt
  rw [List.take_succ_eq_append_getElem hk, List.count_append, List.count_singleton]
  have : l.getD k 0 = l[k] := by simp [List.getD, List.getElem?_eq_getElem hk]
  rw [this]
  congr 1
  by_cases e : l[k] = x <;> simp [e]
theorem cnt_le (l : List Int) (x : Int) : cnt l x ≤ l.length := List.count_le_length
set_option maxRecDepth 100000 in
theorem l3In_calls (A : Option Addr) (c : Nat) (l : List Int) (x : Int) (w : World) (h : SlC w A c l) (hl : l.length ≤ 35184372088832) :
    Calls Try.prog 90 #[.slice A l.length c, .int .i64 x] w fun e w' => e = .returned (.int .i64 (cnt l x : Nat)) ∧ w = w' := by
  have HR := Aside0.mk h
  have HLn := Aside0.mk hl
  clear h
  go_enter Try.func90, Try.ntmps90
  go_wp2
  go_loopg [5, 6] (l.length + 1) (fun kq v5 v6 w' => ∃ k n : Nat, k ≤ l.length ∧ kq = l.length + 1 - k ∧ n ≤ k ∧ v5 = .int .i64 n ∧ v6 = .int .i64 k ∧ Aside0 (n = cnt (l.take k) x) ∧ w = w')
  case atStart => exact ⟨0, 0, by omega, by omega, by omega, rfl, rfl, ⟨by simp [cnt]⟩, rfl⟩
  case round =>
    obtain ⟨k, n, hk, rfl, hnk, rfl, rfl, HN, rfl⟩ := hrel
    by_cases hlt : k < l.length
    · obtain ⟨ad, rfl, hc⟩ := at_nat HR.out k hlt
      have hi : (k : Int) < (l.length : Int) := by omega
      have HS := Aside0.mk (cnt_succ l x k hlt)
      generalize hv : l.getD k 0 = v at hc
      rw [hv] at HS
      clear hv
      by_cases e : v = x
      · subst e
        have HS2 : Aside0 (n + 1 = cnt (l.take (k + 1)) v) := ⟨by rw [HS.out, HN.out]; simp⟩
        go_wp2
        go_roundg (l.length + 1 - (k + 1))
        case measure => omega
        case rel => exact ⟨k + 1, n + 1, by omega, rfl, by omega, by go_num, by go_num, HS2, rfl⟩
      · have HS2 : Aside0 (n = cnt (l.take (k + 1)) x) := ⟨by rw [HS.out, HN.out, if_neg e]; rfl⟩
        have hb : (v == x) = false := beq_eq_false_iff_ne.mpr e
        clear e
        go_wp2
        go_roundg (l.length + 1 - (k + 1))
        case measure => omega
        case rel => exact ⟨k + 1, n, by omega, rfl, by omega, rfl, by go_num, HS2, rfl⟩
    · have hkl : k = l.length := by omega
      have HZ : Aside0 (cnt l x = n) := ⟨by rw [HN.out, hkl, List.take_length]⟩
      go_wp2
      go_ret
      exact ⟨by rw [HZ.out]; rfl, rfl⟩


/-- The call answers a bool, which is P's. -/
def RetB (P : Prop) (w : World) (e : Ending) (w' : World) : Prop := ∃ r : Bool, e = .returned (.bool r) ∧ (r = true ↔ P) ∧ Below w.heap.size w w'
theorem RetB.mk {P : Prop} {w w' : World} {e : Ending} {r : Bool} (he : e = .returned (.bool r)) (h : r = true ↔ P) (hb : Below w.heap.size w w') : RetB P w e w' := ⟨r, he, h, hb⟩
theorem iff_t {P : Prop} (h : P) : true = true ↔ P := ⟨fun _ => h, fun _ => rfl⟩
theorem iff_f {P : Prop} (h : ¬ P) : false = true ↔ P := ⟨fun e => (by cases e), fun p => absurd p h⟩
theorem at_v {w : World} {A : Option Addr} {c : Nat} {l : List Int} (h : SlC w A c l) (k : Nat) (hk : k < l.length) : ∃ ad v, A = some ad ∧ w.cell? (ad.add k) = some (.int .i64 v) ∧ Aside0 (l.getD k 0 = v) := by
  obtain ⟨ad, h1, h2⟩ := at_nat h k hk
  exact ⟨ad, _, h1, h2, ⟨rfl⟩⟩
def FreeP (O : List Int) (p f : Nat) : Prop := ∀ u, f ≤ u → u < 8 → ¬ O.getD (p * 8 + u) 0 > 0
set_option maxRecDepth 100000 in
theorem l3Free_calls (s : Int) (A : Nat → Option Addr) (c : Nat → Nat) (L : Nat → List Int) (p f : Nat) (w : World) (h : BkC w A c L) (hp : p * 8 + 8 ≤ (L 5).length) (hl : (L 5).length ≤ 35184372088832) (hf : f ≤ 8) :
    Calls Try.prog 68 #[.agg (bkCells s A c L), .int .i64 (p : Int), .int .i64 (f : Int)] w (RetB (FreeP (L 5) p f) w) := by
  have HR := Aside0.mk h
  have HP := Aside0.mk hp
  have HLn := Aside0.mk hl
  clear h
  have HB := Aside0.mk (Below.refl w.heap.size w)
  go_enter Try.func68, Try.ntmps68
  go_wp2_with (first | ((with_reducible refine gate_dst (N := 3) rfl ?_); refine box_event rfl (N := 3) rfl (cs := bkCells s A c L) (t := 27) (by first | (go_simp; done) | (go_simp; rfl)) ?_; intro gb hggb w1 hbox hb; have n0_ := Aside0.mk (below_step HB.out hb); have BKgb := Aside0.mk hbox; have HGgb := Aside0.mk (show w.heap.size ≤ gb by rw [hggb]; exact HB.out.size); clear HB; have HB := n0_; clear n0_ hbox hb hggb))
  go_loopg [7] (9 - f) (fun kq v7 w' => ∃ k : Nat, k ≤ 8 ∧ kq = 9 - k ∧ v7 = .int .i64 k ∧ Aside0 (f ≤ k) ∧ Aside0 (∀ u, f ≤ u → u < k → ¬ (L 5).getD (p * 8 + u) 0 > 0) ∧ Aside0 (w'.heap[gb]? = some (.cells (bkCells s A c L) 27 (0, 0))) ∧ Aside0 (Below w.heap.size w w'))
  case atStart => exact ⟨f, by omega, rfl, rfl, ⟨by omega⟩, ⟨fun u h1 h2 => by omega⟩, BKgb, HB⟩
  case round =>
    clear HB BKgb
    obtain ⟨k, hk, rfl, rfl, HF, HU, BKgb, HB⟩ := hrel
    by_cases hlt : k < 8
    · have p1 : (0 : Int) ≤ (p : Int) * 8 + (k : Int) := by omega
      have p2 : (p : Int) * 8 + (k : Int) < ((L 5).length : Int) := by have := HP.out; omega
      obtain ⟨ad, v, ea, hx, HV⟩ := at_v ((HR.out 5 (by omega)).below HB.out) (p * 8 + k) (by have := HP.out; omega)
      have hc6 : wr.cell? ⟨gb, 6, none⟩ = some (.slice (some ad) (L 5).length (c 5)) := (blk_cell BKgb.out 6).trans (by rw [← ea]; rfl)
      have hz6 := blk_frozen BKgb.out 6
      clear ea
      have hi : (k : Int) < 8 := by omega
      have hp6 : (p : Int) ≤ 35184372088832 := by have := HP.out; have := HLn.out; omega
      by_cases hv : v > 0
      · have HZ : Aside0 (¬ FreeP (L 5) p f) := ⟨fun hh => hh k HF.out hlt (by rw [HV.out]; exact hv)⟩
        go_wp2
        go_ret
        exact RetB.mk rfl (iff_f HZ.out) HB.out
      · have HZ : Aside0 (∀ u, f ≤ u → u < k + 1 → ¬ (L 5).getD (p * 8 + u) 0 > 0) := ⟨fun u h1 h2 => if e : u < k then HU.out u h1 e else (show k = u by omega) ▸ (show ¬ (L 5).getD (p * 8 + k) 0 > 0 by rw [HV.out]; exact hv)⟩
        go_wp2
        go_roundg (9 - (k + 1))
        case measure => omega
        case rel => exact ⟨k + 1, by omega, rfl, by go_num, ⟨by have := HF.out; omega⟩, HZ, BKgb, HB⟩
    · have HZ : Aside0 (FreeP (L 5) p f) := ⟨fun u h1 h2 => HU.out u h1 (by omega)⟩
      go_wp2
      go_ret
      exact RetB.mk rfl (iff_t HZ.out) HB.out


def RoomU (O H : List Int) (z p u : Nat) : Prop :=
  if u % z > 0 then ¬ (O.getD (p * 8 + u) 0 > 0 ∨ cnt H ((p : Int) * 8 + (u : Int)) > 0)
  else ¬ ((O.getD (p * 8 + u) 0 > 0 ↔ cnt H ((p : Int) * 8 + (u : Int)) > 0) ∨ cnt H ((p : Int) * 8 + (u : Int)) > 1)
def RoomsP (O H : List Int) (z p : Nat) : Prop := (∀ u, u < 8 → RoomU O H z p u) ∧ ∃ u, u < 8 ∧ u % z = 0 ∧ O.getD (p * 8 + u) 0 > 0
theorem sizeN_pos (k : Nat) : 0 < sizeN k := by unfold sizeN; split <;> omega
theorem sizeN_le (k : Nat) : sizeN k ≤ 8 := by unfold sizeN; split <;> omega
/-- How many of the first n units, that are a room's first, have an owner. -/
def OwnN (O : List Int) (z p : Nat) : Nat → Nat
  | 0 => 0
  | n + 1 => OwnN O z p n + if n % z = 0 ∧ O.getD (p * 8 + n) 0 > 0 then 1 else 0
theorem OwnN_pos (O : List Int) (z p n : Nat) : OwnN O z p n > 0 ↔ ∃ u, u < n ∧ u % z = 0 ∧ O.getD (p * 8 + u) 0 > 0 := by
  induction n with
  | zero => simp [OwnN]
  | succ n ih =>
    unfold OwnN
    by_cases h : n % z = 0 ∧ O.getD (p * 8 + n) 0 > 0
    · rw [if_pos h]; exact ⟨fun _ => ⟨n, by omega, h.1, h.2⟩, fun _ => by omega⟩
    · rw [if_neg h, Nat.add_zero, ih]
      exact ⟨fun ⟨u, a, b⟩ => ⟨u, by omega, b⟩, fun ⟨u, a, b⟩ => by
        by_cases e : u = n
        · subst e; exact absurd b h
        · exact ⟨u, by omega, b⟩⟩
theorem OwnN_le (O : List Int) (z p n : Nat) : OwnN O z p n ≤ n := by
  induction n with
  | zero => simp [OwnN]
  | succ n ih => unfold OwnN; split <;> omega
set_option maxHeartbeats 1000000 in
set_option maxRecDepth 100000 in
theorem l3Rooms_calls (s : Int) (A : Nat → Option Addr) (c : Nat → Nat) (L : Nat → List Int) (p k : Nat) (w : World) (h : BkC w A c L) (hk : k < 4) (hp : p * 8 + 8 ≤ (L 5).length) (hl : ∀ i, (L i).length ≤ 35184372088832) :
    Calls Try.prog 69 #[.agg (bkCells s A c L), .int .i64 (p : Int), .int .i64 (k : Int)] w (RetB (RoomsP (L 5) (L (k + 1)) (sizeN k) p) w) := by
  have HR := Aside0.mk h
  have HP := Aside0.mk hp
  have HLn := Aside0.mk hl
  clear h hl
  have HB := Aside0.mk (Below.refl w.heap.size w)
  have HZ0 := Aside0.mk (sizeN_pos k)
  have HZ8 := Aside0.mk (sizeN_le k)
  have hp6 : (p : Int) ≤ 35184372088832 := by have := HP.out; have := HLn.out 5; omega
  go_enter Try.func69, Try.ntmps69
  go_wp2_with (first | ((with_reducible refine gate_dst (N := 3) rfl ?_); refine box_event rfl (N := 3) rfl (cs := bkCells s A c L) (t := 27) (by first | (go_simp; done) | (go_simp; rfl)) ?_; intro gb hggb w1 hbox hb; have n0_ := Aside0.mk (below_step HB.out hb); have BKgb := Aside0.mk hbox; have HGgb := Aside0.mk (show w.heap.size ≤ gb by rw [hggb]; exact HB.out.size); clear HB; have HB := n0_; clear n0_ hbox hb hggb))
  go_loopg [7, 8] 9 (fun kq v7 v8 w' => ∃ u : Nat, u ≤ 8 ∧ kq = 9 - u ∧ v8 = .int .i64 u ∧ v7 = .int .i64 (OwnN (L 5) (sizeN k) p u : Nat) ∧ Aside0 (∀ j, j < u → RoomU (L 5) (L (k + 1)) (sizeN k) p j) ∧ Aside0 (w'.heap[gb]? = some (.cells (bkCells s A c L) 27 (0, 0))) ∧ Aside0 (Below w.heap.size w w'))
  case atStart => exact ⟨0, by omega, rfl, rfl, rfl, ⟨fun u h1 => by omega⟩, BKgb, HB⟩
  case round =>
    clear HB BKgb
    obtain ⟨u, hu, rfl, rfl, rfl, HU, BKgb, HB⟩ := hrel
    have HO := Aside0.mk (OwnN_le (L 5) (sizeN k) p u)
    obtain ⟨ow, how⟩ : ∃ ow : Nat, OwnN (L 5) (sizeN k) p u = ow := ⟨_, rfl⟩
    rw [how] at HO
    rw [how]
    have HOW := Aside0.mk how
    have how8 : (ow : Int) ≤ 8 := by have := HO.out; omega
    clear how
    by_cases hlt : u < 8
    · have hi : (u : Int) < 8 := by omega
      have p1 : (0 : Int) ≤ (p : Int) * 8 + (u : Int) := by omega
      have p2 : (p : Int) * 8 + (u : Int) < ((L 5).length : Int) := by have := HP.out; omega
      obtain ⟨ad, v, ea, hx, HV⟩ := at_v ((HR.out 5 (by omega)).below HB.out) (p * 8 + u) (by have := HP.out; omega)
      have hc6 : wr.cell? ⟨gb, 6, none⟩ = some (.slice (some ad) (L 5).length (c 5)) := (blk_cell BKgb.out 6).trans (by rw [← ea]; rfl)
      have hz6 := blk_frozen BKgb.out 6
      have hck : wr.cell? ⟨gb, 2 + k, none⟩ = some (.slice (A (k + 1)) (L (k + 1)).length (c (k + 1))) := (blk_cell BKgb.out (2 + k)).trans (by match k, hk with | 0, _ => rfl | 1, _ => rfl | 2, _ => rfl | 3, _ => rfl)
      have hzk := blk_frozen BKgb.out (2 + k)
      have hki : (k : Int) < 4 := by omega
      go_wp2_with fail
      refine (l3In_calls _ _ _ _ _ ((HR.out (k + 1) (by omega)).below HB.out) (HLn.out (k + 1))).mono ?_
      rintro e w2 ⟨rfl, rfl⟩
      obtain ⟨n, hn⟩ : ∃ n : Nat, cnt (L (k + 1)) ((p : Int) * 8 + (u : Int)) = n := ⟨_, rfl⟩
      rw [hn]
      have HN := Aside0.mk hn
      have hn8 : (n : Int) ≤ 35184372088832 := by have := cnt_le (L (k + 1)) ((p : Int) * 8 + (u : Int)); have := HLn.out (k + 1); rw [HN.out] at *; omega
      clear hn
      go_wp2_with fail
      refine (l3Size_calls k hk _).mono ?_
      rintro e w3 ⟨rfl, hb⟩
      have HB3 := Aside0.mk (below_step HB.out hb)
      have BK3 := Aside0.mk (blk_below BKgb.out hb)
      have hx3 := (hb.cell (World.block_lt_of_cell? _ _ hx)).trans hx
      clear hb hx hc6 hz6 hck hzk HB BKgb
      have hc6 : w3.cell? ⟨gb, 6, none⟩ = some (.slice (some ad) (L 5).length (c 5)) := (blk_cell BK3.out 6).trans (by rw [← ea]; rfl)
      have hz6 := blk_frozen BK3.out 6
      clear ea
      obtain ⟨z, hz⟩ : ∃ z : Nat, sizeN k = z := ⟨_, rfl⟩
      rw [hz]
      have HZ := Aside0.mk hz
      have z0 : (0 : Int) < (z : Int) := by have := HZ0.out; omega
      clear hz
      have hmod : (u : Int) % (z : Int) = ((u % z : Nat) : Int) := by omega
      have hz' : ((z : Int) == 0) = false := by rw [beq_eq_false_iff_ne]; omega
      by_cases hm : u % z > 0
      · have hm' : 0 < (u : Int) % (z : Int) := by omega
        have HRU : Aside0 (RoomU (L 5) (L (k + 1)) (sizeN k) p u ↔ ¬ (v > 0 ∨ n > 0)) := ⟨by unfold RoomU; rw [HZ.out, HV.out, HN.out, if_pos hm]⟩
        have hmn : ¬ (u % z = 0) := by omega
        have HMN := Aside0.mk hmn
        clear hmod hmn hm
        by_cases hv : v > 0
        · have HF : Aside0 (¬ RoomsP (L 5) (L (k + 1)) (sizeN k) p) := ⟨fun hh => (HRU.out.mp (hh.1 u hlt)) (Or.inl hv)⟩
          go_wp2
          go_ret
          exact RetB.mk rfl (iff_f HF.out) HB3.out
        · by_cases hn : 0 < n
          · have hn' : 0 < (n : Int) := by omega
            have HF : Aside0 (¬ RoomsP (L 5) (L (k + 1)) (sizeN k) p) := ⟨fun hh => (HRU.out.mp (hh.1 u hlt)) (Or.inr hn)⟩
            go_wp2
            go_ret
            exact RetB.mk rfl (iff_f HF.out) HB3.out
          · have hn' : ¬ 0 < (n : Int) := by omega
            have HU2 : Aside0 (∀ j, j < u + 1 → RoomU (L 5) (L (k + 1)) (sizeN k) p j) := ⟨fun j hj => if e : j < u then HU.out j e else (show u = j by omega) ▸ HRU.out.mpr (fun o => o.elim hv hn)⟩
            have HO2 : Aside0 (OwnN (L 5) (sizeN k) p (u + 1) = ow) := ⟨by unfold OwnN; rw [HOW.out, HZ.out, HV.out, if_neg (fun q => HMN.out q.1), Nat.add_zero]⟩
            go_wp2
            go_roundg (9 - (u + 1))
            case measure => omega
            case rel => exact ⟨u + 1, by omega, rfl, by go_num, by rw [HO2.out], HU2, BK3, HB3⟩
      · have hm0 : u % z = 0 := by omega
        have hm' : ¬ 0 < (u : Int) % (z : Int) := by omega
        have HRU : Aside0 (RoomU (L 5) (L (k + 1)) (sizeN k) p u ↔ ¬ ((v > 0 ↔ n > 0) ∨ n > 1)) := ⟨by unfold RoomU; rw [HZ.out, HV.out, HN.out, if_neg hm]⟩
        have HM0 := Aside0.mk hm0
        clear hmod hm hm0
        by_cases hv : v > 0
        · by_cases hn : 0 < n
          · have hn' : 0 < (n : Int) := by omega
            have HF : Aside0 (¬ RoomsP (L 5) (L (k + 1)) (sizeN k) p) := ⟨fun hh => (HRU.out.mp (hh.1 u hlt)) (Or.inl ⟨fun _ => hn, fun _ => hv⟩)⟩
            go_wp2
            go_ret
            exact RetB.mk rfl (iff_f HF.out) HB3.out
          · have hn' : ¬ 0 < (n : Int) := by omega
            have hn2 : ¬ 1 < (n : Int) := by omega
            have hn3 : ¬ 1 < n := by omega
            have HU2 : Aside0 (∀ j, j < u + 1 → RoomU (L 5) (L (k + 1)) (sizeN k) p j) := ⟨fun j hj => if e : j < u then HU.out j e else (show u = j by omega) ▸ HRU.out.mpr (fun o => o.elim (fun q => hn (q.mp hv)) (fun q => by omega))⟩
            have HO2 : Aside0 (OwnN (L 5) (sizeN k) p (u + 1) = ow + 1) := ⟨by unfold OwnN; rw [HOW.out, HZ.out, HV.out, if_pos ⟨HM0.out, hv⟩]⟩
            go_wp2
            go_roundg (9 - (u + 1))
            case measure => omega
            case rel => exact ⟨u + 1, by omega, rfl, by go_num, by rw [HO2.out]; go_num, HU2, BK3, HB3⟩
        · by_cases hn : 0 < n
          · have hn' : 0 < (n : Int) := by omega
            by_cases hn1 : 1 < n
            · have hn1' : 1 < (n : Int) := by omega
              have HF : Aside0 (¬ RoomsP (L 5) (L (k + 1)) (sizeN k) p) := ⟨fun hh => (HRU.out.mp (hh.1 u hlt)) (Or.inr hn1)⟩
              go_wp2
              go_ret
              exact RetB.mk rfl (iff_f HF.out) HB3.out
            · have hn1' : ¬ 1 < (n : Int) := by omega
              have HU2 : Aside0 (∀ j, j < u + 1 → RoomU (L 5) (L (k + 1)) (sizeN k) p j) := ⟨fun j hj => if e : j < u then HU.out j e else (show u = j by omega) ▸ HRU.out.mpr (fun o => o.elim (fun q => hv (q.mpr hn)) (fun q => hn1 q))⟩
              have HO2 : Aside0 (OwnN (L 5) (sizeN k) p (u + 1) = ow) := ⟨by unfold OwnN; rw [HOW.out, HZ.out, HV.out, if_neg (fun q => hv q.2), Nat.add_zero]⟩
              go_wp2
              go_roundg (9 - (u + 1))
              case measure => omega
              case rel => exact ⟨u + 1, by omega, rfl, by go_num, by rw [HO2.out], HU2, BK3, HB3⟩
          · have hn' : ¬ 0 < (n : Int) := by omega
            have HF : Aside0 (¬ RoomsP (L 5) (L (k + 1)) (sizeN k) p) := ⟨fun hh => (HRU.out.mp (hh.1 u hlt)) (Or.inl ⟨fun q => absurd q hv, fun q => absurd q hn⟩)⟩
            go_wp2
            go_ret
            exact RetB.mk rfl (iff_f HF.out) HB3.out
    · have hu8 : u = 8 := by omega
      subst hu8
      by_cases how : 0 < ow
      · have how' : 0 < (ow : Int) := by omega
        have HF : Aside0 (RoomsP (L 5) (L (k + 1)) (sizeN k) p) := ⟨⟨HU.out, (OwnN_pos _ _ _ _).mp (by rw [HOW.out]; exact how)⟩⟩
        go_wp2
        go_ret
        exact RetB.mk rfl (iff_t HF.out) HB.out
      · have how' : ¬ 0 < (ow : Int) := by omega
        have HF : Aside0 (¬ RoomsP (L 5) (L (k + 1)) (sizeN k) p) := ⟨fun hh => how (by have := (OwnN_pos _ _ _ _).mpr hh.2; rw [HOW.out] at this; exact this)⟩
        go_wp2
        go_ret
        exact RetB.mk rfl (iff_f HF.out) HB.out


/-- A list of 64-bit numbers. -/
def Wf64 (l : List Int) : Prop := ∀ k, -9223372036854775808 ≤ l.getD k 0 ∧ l.getD k 0 ≤ 9223372036854775807
def WideP (P O : List Int) (p : Nat) : Prop :=
  2 ≤ P.getD p 0 - 8 ∧ P.getD p 0 - 8 ≤ 4 ∧ (p : Int) + (P.getD p 0 - 8) ≤ P.length ∧ O.getD (p * 8) 0 ≠ 0 ∧ FreeP O p 1 ∧ ∀ i : Nat, 1 ≤ i → (i : Int) < P.getD p 0 - 8 → P.getD (p + i) 0 = 7
theorem wrap_sub8 {v n : Int} (h0 : -9223372036854775808 ≤ v) (h1 : v ≤ 9223372036854775807) (hn : wrap64 (v - 8) = n) : (n = v - 8) ∨ (v - 8 < 2 ∧ 4 < n) := by
  unfold wrap64 at hn
  omega
set_option maxHeartbeats 1000000 in
set_option maxRecDepth 100000 in
theorem l3Wide_calls (s : Int) (A : Nat → Option Addr) (c : Nat → Nat) (L : Nat → List Int) (p : Nat) (w : World) (h : BkC w A c L) (hp0 : p < (L 0).length) (hp : p * 8 + 8 ≤ (L 5).length) (hl : ∀ i, (L i).length ≤ 35184372088832) (hw : Wf64 (L 0)) :
    Calls Try.prog 71 #[.agg (bkCells s A c L), .int .i64 (p : Int)] w (RetB (WideP (L 0) (L 5) p) w) := by
  have HR := Aside0.mk h
  have HP := Aside0.mk hp
  have HP0 := Aside0.mk hp0
  have HLn := Aside0.mk hl
  clear h hl hp hp0
  have HB := Aside0.mk (Below.refl w.heap.size w)
  have hp6 : (p : Int) ≤ 35184372088832 := by have := HP.out; have := HLn.out 5; omega
  obtain ⟨ad, v, ea, hx, HV⟩ := at_v (HR.out 0 (by omega)) p HP0.out
  obtain ⟨n, hn⟩ : ∃ n, wrap64 (v - 8) = n := ⟨_, rfl⟩
  have HN : Aside0 (n = v - 8 ∨ (v - 8 < 2 ∧ 4 < n)) := ⟨wrap_sub8 (by rw [← HV.out]; exact (hw p).1) (by rw [← HV.out]; exact (hw p).2) hn⟩
  obtain ⟨ad5, o, ea5, hx5, HO⟩ := at_v (HR.out 5 (by omega)) (p * 8) (by have := HP.out; omega)
  have p0 : (0 : Int) ≤ (p : Int) := by omega
  have p1 : (p : Int) < ((L 0).length : Int) := by have := HP0.out; omega
  have p5 : (p : Int) * 8 < ((L 5).length : Int) := by have := HP.out; omega
  clear hw
  by_cases hA : n < 2
  · have HF : Aside0 (¬ WideP (L 0) (L 5) p) := ⟨fun hh => by obtain ⟨h1, h2, h3, h4, h5, h6⟩ := hh; rw [HV.out] at h1 h2; have := HN.out; omega⟩
    go_enter Try.func71, Try.ntmps71
    go_wp2_with (first | ((with_reducible refine gate_dst (N := 2) rfl ?_); refine box_event rfl (N := 2) rfl (cs := bkCells s A c L) (t := 27) (by first | (go_simp; done) | (go_simp; rfl)) ?_; intro gb hggb w1 hbox hb; have n0_ := Aside0.mk (below_step HB.out hb); have BKgb := Aside0.mk hbox; have HGgb := Aside0.mk (show w.heap.size ≤ gb by rw [hggb]; exact HB.out.size); clear HB; have HB := n0_; have hx1 := (hb.cell (World.block_lt_of_cell? _ _ hx)).trans hx; have hx51 := (hb.cell (World.block_lt_of_cell? _ _ hx5)).trans hx5; have fgbs0 : w1.cell? ⟨gb, 0, none⟩ = some (.int .i64 _) := (blk_cell BKgb.out 0).trans rfl; have fgb1 : w1.cell? ⟨gb, 1, none⟩ = some (.slice (A 0) (L 0).length (c 0)) := (blk_cell BKgb.out 1).trans rfl; have fgb2 : w1.cell? ⟨gb, 2, none⟩ = some (.slice (A 1) (L 1).length (c 1)) := (blk_cell BKgb.out 2).trans rfl; have fgb3 : w1.cell? ⟨gb, 3, none⟩ = some (.slice (A 2) (L 2).length (c 2)) := (blk_cell BKgb.out 3).trans rfl; have fgb4 : w1.cell? ⟨gb, 4, none⟩ = some (.slice (A 3) (L 3).length (c 3)) := (blk_cell BKgb.out 4).trans rfl; have fgb5 : w1.cell? ⟨gb, 5, none⟩ = some (.slice (A 4) (L 4).length (c 4)) := (blk_cell BKgb.out 5).trans rfl; have fgb6 : w1.cell? ⟨gb, 6, none⟩ = some (.slice (A 5) (L 5).length (c 5)) := (blk_cell BKgb.out 6).trans rfl; have fgb7 : w1.cell? ⟨gb, 7, none⟩ = some (.slice (A 6) (L 6).length (c 6)) := (blk_cell BKgb.out 7).trans rfl; have fgb8 : w1.cell? ⟨gb, 8, none⟩ = some (.slice (A 7) (L 7).length (c 7)) := (blk_cell BKgb.out 8).trans rfl; have fgbz0 := blk_frozen BKgb.out 0; have fgbz1 := blk_frozen BKgb.out 1; have fgbz2 := blk_frozen BKgb.out 2; have fgbz3 := blk_frozen BKgb.out 3; have fgbz4 := blk_frozen BKgb.out 4; have fgbz5 := blk_frozen BKgb.out 5; have fgbz6 := blk_frozen BKgb.out 6; have fgbz7 := blk_frozen BKgb.out 7; have fgbz8 := blk_frozen BKgb.out 8; rw [ea] at fgb1; rw [ea5] at fgb6; clear n0_ hbox hb hggb))
    go_ret
    exact RetB.mk rfl (iff_f HF.out) HB.out
  by_cases hB : n > 4
  · have HF : Aside0 (¬ WideP (L 0) (L 5) p) := ⟨fun hh => by obtain ⟨h1, h2, h3, h4, h5, h6⟩ := hh; rw [HV.out] at h1 h2; have := HN.out; omega⟩
    go_enter Try.func71, Try.ntmps71
    go_wp2_with (first | ((with_reducible refine gate_dst (N := 2) rfl ?_); refine box_event rfl (N := 2) rfl (cs := bkCells s A c L) (t := 27) (by first | (go_simp; done) | (go_simp; rfl)) ?_; intro gb hggb w1 hbox hb; have n0_ := Aside0.mk (below_step HB.out hb); have BKgb := Aside0.mk hbox; have HGgb := Aside0.mk (show w.heap.size ≤ gb by rw [hggb]; exact HB.out.size); clear HB; have HB := n0_; have hx1 := (hb.cell (World.block_lt_of_cell? _ _ hx)).trans hx; have hx51 := (hb.cell (World.block_lt_of_cell? _ _ hx5)).trans hx5; have fgbs0 : w1.cell? ⟨gb, 0, none⟩ = some (.int .i64 _) := (blk_cell BKgb.out 0).trans rfl; have fgb1 : w1.cell? ⟨gb, 1, none⟩ = some (.slice (A 0) (L 0).length (c 0)) := (blk_cell BKgb.out 1).trans rfl; have fgb2 : w1.cell? ⟨gb, 2, none⟩ = some (.slice (A 1) (L 1).length (c 1)) := (blk_cell BKgb.out 2).trans rfl; have fgb3 : w1.cell? ⟨gb, 3, none⟩ = some (.slice (A 2) (L 2).length (c 2)) := (blk_cell BKgb.out 3).trans rfl; have fgb4 : w1.cell? ⟨gb, 4, none⟩ = some (.slice (A 3) (L 3).length (c 3)) := (blk_cell BKgb.out 4).trans rfl; have fgb5 : w1.cell? ⟨gb, 5, none⟩ = some (.slice (A 4) (L 4).length (c 4)) := (blk_cell BKgb.out 5).trans rfl; have fgb6 : w1.cell? ⟨gb, 6, none⟩ = some (.slice (A 5) (L 5).length (c 5)) := (blk_cell BKgb.out 6).trans rfl; have fgb7 : w1.cell? ⟨gb, 7, none⟩ = some (.slice (A 6) (L 6).length (c 6)) := (blk_cell BKgb.out 7).trans rfl; have fgb8 : w1.cell? ⟨gb, 8, none⟩ = some (.slice (A 7) (L 7).length (c 7)) := (blk_cell BKgb.out 8).trans rfl; have fgbz0 := blk_frozen BKgb.out 0; have fgbz1 := blk_frozen BKgb.out 1; have fgbz2 := blk_frozen BKgb.out 2; have fgbz3 := blk_frozen BKgb.out 3; have fgbz4 := blk_frozen BKgb.out 4; have fgbz5 := blk_frozen BKgb.out 5; have fgbz6 := blk_frozen BKgb.out 6; have fgbz7 := blk_frozen BKgb.out 7; have fgbz8 := blk_frozen BKgb.out 8; rw [ea] at fgb1; rw [ea5] at fgb6; clear n0_ hbox hb hggb))
    go_ret
    exact RetB.mk rfl (iff_f HF.out) HB.out
  have HN2 : Aside0 (v - 8 = n) := ⟨by have := HN.out; omega⟩
  have hA' : 2 ≤ n := by omega
  have hB' : n ≤ 4 := by omega
  clear HN hA hB
  by_cases hC : (p : Int) + n > ((L 0).length : Int)
  · have HF : Aside0 (¬ WideP (L 0) (L 5) p) := ⟨fun hh => by obtain ⟨h1, h2, h3, h4, h5, h6⟩ := hh; rw [HV.out, HN2.out] at h3; omega⟩
    go_enter Try.func71, Try.ntmps71
    go_wp2_with (first | ((with_reducible refine gate_dst (N := 2) rfl ?_); refine box_event rfl (N := 2) rfl (cs := bkCells s A c L) (t := 27) (by first | (go_simp; done) | (go_simp; rfl)) ?_; intro gb hggb w1 hbox hb; have n0_ := Aside0.mk (below_step HB.out hb); have BKgb := Aside0.mk hbox; have HGgb := Aside0.mk (show w.heap.size ≤ gb by rw [hggb]; exact HB.out.size); clear HB; have HB := n0_; have hx1 := (hb.cell (World.block_lt_of_cell? _ _ hx)).trans hx; have hx51 := (hb.cell (World.block_lt_of_cell? _ _ hx5)).trans hx5; have fgbs0 : w1.cell? ⟨gb, 0, none⟩ = some (.int .i64 _) := (blk_cell BKgb.out 0).trans rfl; have fgb1 : w1.cell? ⟨gb, 1, none⟩ = some (.slice (A 0) (L 0).length (c 0)) := (blk_cell BKgb.out 1).trans rfl; have fgb2 : w1.cell? ⟨gb, 2, none⟩ = some (.slice (A 1) (L 1).length (c 1)) := (blk_cell BKgb.out 2).trans rfl; have fgb3 : w1.cell? ⟨gb, 3, none⟩ = some (.slice (A 2) (L 2).length (c 2)) := (blk_cell BKgb.out 3).trans rfl; have fgb4 : w1.cell? ⟨gb, 4, none⟩ = some (.slice (A 3) (L 3).length (c 3)) := (blk_cell BKgb.out 4).trans rfl; have fgb5 : w1.cell? ⟨gb, 5, none⟩ = some (.slice (A 4) (L 4).length (c 4)) := (blk_cell BKgb.out 5).trans rfl; have fgb6 : w1.cell? ⟨gb, 6, none⟩ = some (.slice (A 5) (L 5).length (c 5)) := (blk_cell BKgb.out 6).trans rfl; have fgb7 : w1.cell? ⟨gb, 7, none⟩ = some (.slice (A 6) (L 6).length (c 6)) := (blk_cell BKgb.out 7).trans rfl; have fgb8 : w1.cell? ⟨gb, 8, none⟩ = some (.slice (A 7) (L 7).length (c 7)) := (blk_cell BKgb.out 8).trans rfl; have fgbz0 := blk_frozen BKgb.out 0; have fgbz1 := blk_frozen BKgb.out 1; have fgbz2 := blk_frozen BKgb.out 2; have fgbz3 := blk_frozen BKgb.out 3; have fgbz4 := blk_frozen BKgb.out 4; have fgbz5 := blk_frozen BKgb.out 5; have fgbz6 := blk_frozen BKgb.out 6; have fgbz7 := blk_frozen BKgb.out 7; have fgbz8 := blk_frozen BKgb.out 8; rw [ea] at fgb1; rw [ea5] at fgb6; clear n0_ hbox hb hggb))
    go_ret
    exact RetB.mk rfl (iff_f HF.out) HB.out
  by_cases hD : o = 0
  · have HD := Aside0.mk hD
    have hD' : (o == 0) = true := by rw [hD]; rfl
    clear hD
    have HF : Aside0 (¬ WideP (L 0) (L 5) p) := ⟨fun hh => by obtain ⟨h1, h2, h3, h4, h5, h6⟩ := hh; exact h4 (by rw [HO.out, HD.out])⟩
    go_enter Try.func71, Try.ntmps71
    go_wp2_with (first | ((with_reducible refine gate_dst (N := 2) rfl ?_); refine box_event rfl (N := 2) rfl (cs := bkCells s A c L) (t := 27) (by first | (go_simp; done) | (go_simp; rfl)) ?_; intro gb hggb w1 hbox hb; have n0_ := Aside0.mk (below_step HB.out hb); have BKgb := Aside0.mk hbox; have HGgb := Aside0.mk (show w.heap.size ≤ gb by rw [hggb]; exact HB.out.size); clear HB; have HB := n0_; have hx1 := (hb.cell (World.block_lt_of_cell? _ _ hx)).trans hx; have hx51 := (hb.cell (World.block_lt_of_cell? _ _ hx5)).trans hx5; have fgbs0 : w1.cell? ⟨gb, 0, none⟩ = some (.int .i64 _) := (blk_cell BKgb.out 0).trans rfl; have fgb1 : w1.cell? ⟨gb, 1, none⟩ = some (.slice (A 0) (L 0).length (c 0)) := (blk_cell BKgb.out 1).trans rfl; have fgb2 : w1.cell? ⟨gb, 2, none⟩ = some (.slice (A 1) (L 1).length (c 1)) := (blk_cell BKgb.out 2).trans rfl; have fgb3 : w1.cell? ⟨gb, 3, none⟩ = some (.slice (A 2) (L 2).length (c 2)) := (blk_cell BKgb.out 3).trans rfl; have fgb4 : w1.cell? ⟨gb, 4, none⟩ = some (.slice (A 3) (L 3).length (c 3)) := (blk_cell BKgb.out 4).trans rfl; have fgb5 : w1.cell? ⟨gb, 5, none⟩ = some (.slice (A 4) (L 4).length (c 4)) := (blk_cell BKgb.out 5).trans rfl; have fgb6 : w1.cell? ⟨gb, 6, none⟩ = some (.slice (A 5) (L 5).length (c 5)) := (blk_cell BKgb.out 6).trans rfl; have fgb7 : w1.cell? ⟨gb, 7, none⟩ = some (.slice (A 6) (L 6).length (c 6)) := (blk_cell BKgb.out 7).trans rfl; have fgb8 : w1.cell? ⟨gb, 8, none⟩ = some (.slice (A 7) (L 7).length (c 7)) := (blk_cell BKgb.out 8).trans rfl; have fgbz0 := blk_frozen BKgb.out 0; have fgbz1 := blk_frozen BKgb.out 1; have fgbz2 := blk_frozen BKgb.out 2; have fgbz3 := blk_frozen BKgb.out 3; have fgbz4 := blk_frozen BKgb.out 4; have fgbz5 := blk_frozen BKgb.out 5; have fgbz6 := blk_frozen BKgb.out 6; have fgbz7 := blk_frozen BKgb.out 7; have fgbz8 := blk_frozen BKgb.out 8; rw [ea] at fgb1; rw [ea5] at fgb6; clear n0_ hbox hb hggb))
    go_ret
    exact RetB.mk rfl (iff_f HF.out) HB.out
  have HD := Aside0.mk hD
  have hD' : (o == 0) = false := beq_eq_false_iff_ne.mpr hD
  have HC := Aside0.mk (show (p : Int) + n ≤ ((L 0).length : Int) by omega)
  clear hD
  go_enter Try.func71, Try.ntmps71
  go_wp2_with (first | ((with_reducible refine gate_dst (N := 2) rfl ?_); refine box_event rfl (N := 2) rfl (cs := bkCells s A c L) (t := 27) (by first | (go_simp; done) | (go_simp; rfl)) ?_; intro gb hggb w1 hbox hb; have n0_ := Aside0.mk (below_step HB.out hb); have BKgb := Aside0.mk hbox; have HGgb := Aside0.mk (show w.heap.size ≤ gb by rw [hggb]; exact HB.out.size); clear HB; have HB := n0_; have hx1 := (hb.cell (World.block_lt_of_cell? _ _ hx)).trans hx; have hx51 := (hb.cell (World.block_lt_of_cell? _ _ hx5)).trans hx5; have fgbs0 : w1.cell? ⟨gb, 0, none⟩ = some (.int .i64 _) := (blk_cell BKgb.out 0).trans rfl; have fgb1 : w1.cell? ⟨gb, 1, none⟩ = some (.slice (A 0) (L 0).length (c 0)) := (blk_cell BKgb.out 1).trans rfl; have fgb2 : w1.cell? ⟨gb, 2, none⟩ = some (.slice (A 1) (L 1).length (c 1)) := (blk_cell BKgb.out 2).trans rfl; have fgb3 : w1.cell? ⟨gb, 3, none⟩ = some (.slice (A 2) (L 2).length (c 2)) := (blk_cell BKgb.out 3).trans rfl; have fgb4 : w1.cell? ⟨gb, 4, none⟩ = some (.slice (A 3) (L 3).length (c 3)) := (blk_cell BKgb.out 4).trans rfl; have fgb5 : w1.cell? ⟨gb, 5, none⟩ = some (.slice (A 4) (L 4).length (c 4)) := (blk_cell BKgb.out 5).trans rfl; have fgb6 : w1.cell? ⟨gb, 6, none⟩ = some (.slice (A 5) (L 5).length (c 5)) := (blk_cell BKgb.out 6).trans rfl; have fgb7 : w1.cell? ⟨gb, 7, none⟩ = some (.slice (A 6) (L 6).length (c 6)) := (blk_cell BKgb.out 7).trans rfl; have fgb8 : w1.cell? ⟨gb, 8, none⟩ = some (.slice (A 7) (L 7).length (c 7)) := (blk_cell BKgb.out 8).trans rfl; have fgbz0 := blk_frozen BKgb.out 0; have fgbz1 := blk_frozen BKgb.out 1; have fgbz2 := blk_frozen BKgb.out 2; have fgbz3 := blk_frozen BKgb.out 3; have fgbz4 := blk_frozen BKgb.out 4; have fgbz5 := blk_frozen BKgb.out 5; have fgbz6 := blk_frozen BKgb.out 6; have fgbz7 := blk_frozen BKgb.out 7; have fgbz8 := blk_frozen BKgb.out 8; rw [ea] at fgb1; rw [ea5] at fgb6; clear n0_ hbox hb hggb))
  have HW : Aside0 (WideP (L 0) (L 5) p ↔ (FreeP (L 5) p 1 ∧ ∀ i : Nat, 1 ≤ i → (i : Int) < n → (L 0).getD (p + i) 0 = 7)) := ⟨by
    unfold WideP
    rw [HV.out, HN2.out, HO.out]
    exact ⟨fun hh => ⟨hh.2.2.2.2.1, hh.2.2.2.2.2⟩, fun hh => ⟨hA', hB', HC.out, HD.out, hh.1, hh.2⟩⟩⟩
  rw [← ea, ← ea5]
  refine (l3Free_calls s A c L p 1 _ (HR.out.below HB.out) HP.out (HLn.out 5) (by omega)).mono ?_
  rintro e w3 ⟨r, rfl, hr, hb⟩
  have HB3 := Aside0.mk (below_step HB.out hb)
  have BK3 := Aside0.mk (blk_below BKgb.out hb)
  clear HB BKgb fgbs0 fgbz0 fgb1 fgbz1 fgb2 fgbz2 fgb3 fgbz3 fgb4 fgbz4 fgb5 fgbz5 fgb6 fgbz6 fgb7 fgbz7 fgb8 fgbz8 hx hx1 hx5 hx51 hb
  cases r with
  | false =>
    have HF : Aside0 (¬ WideP (L 0) (L 5) p) := ⟨fun hh => by have := hr.mpr (HW.out.mp hh).1; cases this⟩
    clear hr
    go_wp2
    go_ret
    exact RetB.mk rfl (iff_f HF.out) HB3.out
  | true =>
    have HFr := Aside0.mk (hr.mp rfl)
    clear hr
    go_wp2
    go_loopg [6] 4 (fun kq v6 w' => ∃ i : Nat, i ≤ 4 ∧ kq = 5 - i ∧ v6 = .int .i64 i ∧ Aside0 ((i : Int) ≤ n ∧ 1 ≤ i) ∧ Aside0 (∀ j : Nat, 1 ≤ j → j < i → (L 0).getD (p + j) 0 = 7) ∧ Aside0 (w'.heap[gb]? = some (.cells (bkCells s A c L) 27 (0, 0))) ∧ Aside0 (Below w.heap.size w w'))
    case atStart => exact ⟨1, by omega, rfl, rfl, ⟨by omega, by omega⟩, ⟨fun j h1 h2 => by omega⟩, BK3, HB3⟩
    case round =>
      clear HB3 BK3
      obtain ⟨i, hi4, rfl, rfl, HI, HU, BKgb, HB⟩ := hrel
      by_cases hlt : (i : Int) < n
      · have q0 : (0 : Int) ≤ (p : Int) + (i : Int) := by omega
        have q1 : (p : Int) + (i : Int) < ((L 0).length : Int) := by have := HC.out; omega
        obtain ⟨adi, vi, eai, hxi, HVi⟩ := at_v ((HR.out 0 (by omega)).below HB.out) (p + i) (by omega)
        have hc1 : wr.cell? ⟨gb, 1, none⟩ = some (.slice (some adi) (L 0).length (c 0)) := (blk_cell BKgb.out 1).trans (by rw [← eai]; rfl)
        have hz1 := blk_frozen BKgb.out 1
        clear eai
        by_cases hv : vi = 7
        · have HZ : Aside0 (∀ j : Nat, 1 ≤ j → j < i + 1 → (L 0).getD (p + j) 0 = 7) := ⟨fun j h1 h2 => if e : j < i then HU.out j h1 e else (show i = j by omega) ▸ (by rw [HVi.out, hv])⟩
          have hv' : (vi != 7) = false := by rw [hv]; rfl
          clear hv
          go_wp2
          go_roundg (5 - (i + 1))
          case measure => omega
          case rel => exact ⟨i + 1, by omega, rfl, by go_num, ⟨by omega, by omega⟩, HZ, BKgb, HB⟩
        · have HF : Aside0 (¬ WideP (L 0) (L 5) p) := ⟨fun hh => hv (by rw [← HVi.out]; exact (HW.out.mp hh).2 i HI.out.2 hlt)⟩
          have hv' : (vi != 7) = true := bne_iff_ne.mpr hv
          clear hv
          go_wp2
          go_ret
          exact RetB.mk rfl (iff_f HF.out) HB.out
      · have HF : Aside0 (WideP (L 0) (L 5) p) := ⟨HW.out.mpr ⟨HFr.out, fun j h1 h2 => HU.out j h1 (by have := HI.out; omega)⟩⟩
        go_wp2
        go_ret
        exact RetB.mk rfl (iff_t HF.out) HB.out


/-- q is where a page's room begins. -/
def RestQ (P : List Int) (p q : Nat) : Prop := q ≤ p ∧ (∀ j, q < j → j ≤ p → P.getD j 0 = 7) ∧ (q = 0 ∨ P.getD q 0 ≠ 7)
theorem RestQ.one {P : List Int} {p q q' : Nat} (h : RestQ P p q) (h' : RestQ P p q') : q = q' := by
  obtain ⟨a, b, c⟩ := h
  obtain ⟨a', b', c'⟩ := h'
  by_cases e : q < q'
  · have := b q' e a'
    rcases c' with c' | c'
    · omega
    · exact absurd this c'
  · by_cases e' : q' < q
    · have := b' q e' a
      rcases c with c | c
      · omega
      · exact absurd this c
    · omega
def RestP (P O : List Int) (p : Nat) : Prop := ∃ q, RestQ P p q ∧ P.getD q 0 > 8 ∧ wrap64 (wrap64 ((q : Int) + P.getD q 0) - 8) > (p : Int) ∧ FreeP O p 0
set_option maxHeartbeats 1000000 in
set_option maxRecDepth 100000 in
theorem l3Rest_calls (s : Int) (A : Nat → Option Addr) (c : Nat → Nat) (L : Nat → List Int) (p : Nat) (w : World) (h : BkC w A c L) (hp0 : p < (L 0).length) (hp : p * 8 + 8 ≤ (L 5).length) (hl : ∀ i, (L i).length ≤ 35184372088832) :
    Calls Try.prog 70 #[.agg (bkCells s A c L), .int .i64 (p : Int)] w (RetB (RestP (L 0) (L 5) p) w) := by
  have HR := Aside0.mk h
  have HP := Aside0.mk hp
  have HP0 := Aside0.mk hp0
  have HLn := Aside0.mk hl
  clear h hl hp hp0
  have HB := Aside0.mk (Below.refl w.heap.size w)
  have hp6 : (p : Int) ≤ 35184372088832 := by have := HP.out; have := HLn.out 5; omega
  go_enter Try.func70, Try.ntmps70
  go_wp2_with (first | ((with_reducible refine gate_dst (N := 2) rfl ?_); refine box_event rfl (N := 2) rfl (cs := bkCells s A c L) (t := 27) (by first | (go_simp; done) | (go_simp; rfl)) ?_; intro gb hggb w1 hbox hb; have n0_ := Aside0.mk (below_step HB.out hb); have BKgb := Aside0.mk hbox; have HGgb := Aside0.mk (show w.heap.size ≤ gb by rw [hggb]; exact HB.out.size); clear HB; have HB := n0_; clear n0_ hbox hb hggb))
  go_loopg [5] (p + 1) (fun kq v5 w' => ∃ q : Nat, q ≤ p ∧ kq = q + 1 ∧ v5 = .int .i64 q ∧ Aside0 (∀ j, q < j → j ≤ p → (L 0).getD j 0 = 7) ∧ Aside0 (w'.heap[gb]? = some (.cells (bkCells s A c L) 27 (0, 0))) ∧ Aside0 (Below w.heap.size w w'))
  case atStart => exact ⟨p, by omega, rfl, rfl, ⟨fun j h1 h2 => by omega⟩, BKgb, HB⟩
  case round =>
    clear HB BKgb
    obtain ⟨q, hq, rfl, rfl, HU, BKgb, HB⟩ := hrel
    have q0 : (0 : Int) ≤ (q : Int) := by omega
    have q1 : (q : Int) < ((L 0).length : Int) := by have := HP0.out; omega
    obtain ⟨ad, v, ea, hx, HV⟩ := at_v ((HR.out 0 (by omega)).below HB.out) q (by omega)
    have hc1 : wr.cell? ⟨gb, 1, none⟩ = some (.slice (some ad) (L 0).length (c 0)) := (blk_cell BKgb.out 1).trans (by rw [← ea]; rfl)
    have hz1 := blk_frozen BKgb.out 1
    by_cases hg : 0 < q ∧ v = 7
    · obtain ⟨hg0, hg7⟩ := hg
      have hg0' : (0 : Int) < (q : Int) := by omega
      have hv' : (v == 7) = true := by rw [hg7]; rfl
      have HZ : Aside0 (∀ j, q - 1 < j → j ≤ p → (L 0).getD j 0 = 7) := ⟨fun j h1 h2 => if e : q < j then HU.out j e h2 else (show q = j by omega) ▸ (by rw [HV.out, hg7])⟩
      clear hg7 ea
      go_wp2
      go_roundg (q - 1 + 1)
      case measure => omega
      case rel => exact ⟨q - 1, by omega, rfl, by rw [show ((q - 1 : Nat) : Int) = (q : Int) - 1 by omega], HZ, BKgb, HB⟩
    · have HQ : Aside0 (RestQ (L 0) p q) := ⟨⟨hq, HU.out, by rw [HV.out]; by_cases e : q = 0; exact Or.inl e; exact Or.inr (fun e7 => hg ⟨by omega, e7⟩)⟩⟩
      have HRP : Aside0 (RestP (L 0) (L 5) p ↔ (v > 8 ∧ wrap64 (wrap64 ((q : Int) + v) - 8) > (p : Int) ∧ FreeP (L 5) p 0)) := ⟨⟨fun ⟨q', h1, h2, h3, h4⟩ => by
        obtain rfl := HQ.out.one h1
        rw [HV.out] at h2 h3
        exact ⟨h2, h3, h4⟩, fun ⟨h2, h3, h4⟩ => ⟨q, HQ.out, by rw [HV.out]; exact h2, by rw [HV.out]; exact h3, h4⟩⟩⟩
      by_cases hq0 : q = 0
      · have hqz : (q : Int) ≤ 0 := by omega
        clear hg hq0
        by_cases hv : v > 8
        · by_cases ht : wrap64 (wrap64 ((q : Int) + v) - 8) > (p : Int)
          · have HF : Aside0 (RestP (L 0) (L 5) p ↔ FreeP (L 5) p 0) := ⟨by rw [HRP.out]; exact ⟨fun hh => hh.2.2, fun hh => ⟨hv, ht, hh⟩⟩⟩
            clear HRP
            have HE := Aside0.mk ea
            clear ea
            have fgbs0 : wr.cell? ⟨gb, 0, none⟩ = some (.int .i64 _) := (blk_cell BKgb.out 0).trans rfl; have fgb1 : wr.cell? ⟨gb, 1, none⟩ = some (.slice (A 0) (L 0).length (c 0)) := (blk_cell BKgb.out 1).trans rfl; have fgb2 : wr.cell? ⟨gb, 2, none⟩ = some (.slice (A 1) (L 1).length (c 1)) := (blk_cell BKgb.out 2).trans rfl; have fgb3 : wr.cell? ⟨gb, 3, none⟩ = some (.slice (A 2) (L 2).length (c 2)) := (blk_cell BKgb.out 3).trans rfl; have fgb4 : wr.cell? ⟨gb, 4, none⟩ = some (.slice (A 3) (L 3).length (c 3)) := (blk_cell BKgb.out 4).trans rfl; have fgb5 : wr.cell? ⟨gb, 5, none⟩ = some (.slice (A 4) (L 4).length (c 4)) := (blk_cell BKgb.out 5).trans rfl; have fgb6 : wr.cell? ⟨gb, 6, none⟩ = some (.slice (A 5) (L 5).length (c 5)) := (blk_cell BKgb.out 6).trans rfl; have fgb7 : wr.cell? ⟨gb, 7, none⟩ = some (.slice (A 6) (L 6).length (c 6)) := (blk_cell BKgb.out 7).trans rfl; have fgb8 : wr.cell? ⟨gb, 8, none⟩ = some (.slice (A 7) (L 7).length (c 7)) := (blk_cell BKgb.out 8).trans rfl; have fgbz0 := blk_frozen BKgb.out 0; have fgbz1 := blk_frozen BKgb.out 1; have fgbz2 := blk_frozen BKgb.out 2; have fgbz3 := blk_frozen BKgb.out 3; have fgbz4 := blk_frozen BKgb.out 4; have fgbz5 := blk_frozen BKgb.out 5; have fgbz6 := blk_frozen BKgb.out 6; have fgbz7 := blk_frozen BKgb.out 7; have fgbz8 := blk_frozen BKgb.out 8
            clear fgb1 fgbz1
            go_wp2_with fail
            rw [← HE.out]
            refine (l3Free_calls s A c L p 0 _ (HR.out.below HB.out) HP.out (HLn.out 5) (by omega)).mono ?_
            rintro e w3 ⟨r, rfl, hr, hb⟩
            have HB3 := Aside0.mk (below_step HB.out hb)
            have HRR := Aside0.mk hr
            clear hr hb
            go_wp2
            go_ret
            exact RetB.mk rfl (HRR.out.trans HF.out.symm) HB3.out
          · have HF : Aside0 (¬ RestP (L 0) (L 5) p) := ⟨fun hh => ht (HRP.out.mp hh).2.1⟩
            clear HRP
            go_wp2
            go_ret
            exact RetB.mk rfl (iff_f HF.out) HB.out
        · have HF : Aside0 (¬ RestP (L 0) (L 5) p) := ⟨fun hh => hv (HRP.out.mp hh).1⟩
          clear HRP
          go_wp2
          go_ret
          exact RetB.mk rfl (iff_f HF.out) HB.out
      · have hqz : (0 : Int) < (q : Int) := by omega
        have hv7 : (v == 7) = false := beq_eq_false_iff_ne.mpr (fun e7 => hg ⟨by omega, e7⟩)
        clear hg hq0
        by_cases hv : v > 8
        · by_cases ht : wrap64 (wrap64 ((q : Int) + v) - 8) > (p : Int)
          · have HF : Aside0 (RestP (L 0) (L 5) p ↔ FreeP (L 5) p 0) := ⟨by rw [HRP.out]; exact ⟨fun hh => hh.2.2, fun hh => ⟨hv, ht, hh⟩⟩⟩
            clear HRP
            have HE := Aside0.mk ea
            clear ea
            have fgbs0 : wr.cell? ⟨gb, 0, none⟩ = some (.int .i64 _) := (blk_cell BKgb.out 0).trans rfl; have fgb1 : wr.cell? ⟨gb, 1, none⟩ = some (.slice (A 0) (L 0).length (c 0)) := (blk_cell BKgb.out 1).trans rfl; have fgb2 : wr.cell? ⟨gb, 2, none⟩ = some (.slice (A 1) (L 1).length (c 1)) := (blk_cell BKgb.out 2).trans rfl; have fgb3 : wr.cell? ⟨gb, 3, none⟩ = some (.slice (A 2) (L 2).length (c 2)) := (blk_cell BKgb.out 3).trans rfl; have fgb4 : wr.cell? ⟨gb, 4, none⟩ = some (.slice (A 3) (L 3).length (c 3)) := (blk_cell BKgb.out 4).trans rfl; have fgb5 : wr.cell? ⟨gb, 5, none⟩ = some (.slice (A 4) (L 4).length (c 4)) := (blk_cell BKgb.out 5).trans rfl; have fgb6 : wr.cell? ⟨gb, 6, none⟩ = some (.slice (A 5) (L 5).length (c 5)) := (blk_cell BKgb.out 6).trans rfl; have fgb7 : wr.cell? ⟨gb, 7, none⟩ = some (.slice (A 6) (L 6).length (c 6)) := (blk_cell BKgb.out 7).trans rfl; have fgb8 : wr.cell? ⟨gb, 8, none⟩ = some (.slice (A 7) (L 7).length (c 7)) := (blk_cell BKgb.out 8).trans rfl; have fgbz0 := blk_frozen BKgb.out 0; have fgbz1 := blk_frozen BKgb.out 1; have fgbz2 := blk_frozen BKgb.out 2; have fgbz3 := blk_frozen BKgb.out 3; have fgbz4 := blk_frozen BKgb.out 4; have fgbz5 := blk_frozen BKgb.out 5; have fgbz6 := blk_frozen BKgb.out 6; have fgbz7 := blk_frozen BKgb.out 7; have fgbz8 := blk_frozen BKgb.out 8
            clear fgb1 fgbz1
            go_wp2_with fail
            rw [← HE.out]
            refine (l3Free_calls s A c L p 0 _ (HR.out.below HB.out) HP.out (HLn.out 5) (by omega)).mono ?_
            rintro e w3 ⟨r, rfl, hr, hb⟩
            have HB3 := Aside0.mk (below_step HB.out hb)
            have HRR := Aside0.mk hr
            clear hr hb
            go_wp2
            go_ret
            exact RetB.mk rfl (HRR.out.trans HF.out.symm) HB3.out
          · have HF : Aside0 (¬ RestP (L 0) (L 5) p) := ⟨fun hh => ht (HRP.out.mp hh).2.1⟩
            clear HRP
            go_wp2
            go_ret
            exact RetB.mk rfl (iff_f HF.out) HB.out
        · have HF : Aside0 (¬ RestP (L 0) (L 5) p) := ⟨fun hh => hv (HRP.out.mp hh).1⟩
          clear HRP
          go_wp2
          go_ret
          exact RetB.mk rfl (iff_f HF.out) HB.out


def PageP (L : Nat → List Int) (p : Nat) : Prop :=
  if (L 0).getD p 0 = 0 then FreeP (L 5) p 0
  else if 1 ≤ (L 0).getD p 0 ∧ (L 0).getD p 0 ≤ 4 then RoomsP (L 5) (L (((L 0).getD p 0 - 1).toNat + 1)) (sizeN ((L 0).getD p 0 - 1).toNat) p
  else if (L 0).getD p 0 = 7 then RestP (L 0) (L 5) p
  else WideP (L 0) (L 5) p
set_option maxHeartbeats 1000000 in
set_option maxRecDepth 100000 in
theorem l3Page_calls (s : Int) (A : Nat → Option Addr) (c : Nat → Nat) (L : Nat → List Int) (p : Nat) (w : World) (h : BkC w A c L) (hp0 : p < (L 0).length) (hp : p * 8 + 8 ≤ (L 5).length) (hl : ∀ i, (L i).length ≤ 35184372088832) (hw : Wf64 (L 0)) :
    Calls Try.prog 48 #[.agg (bkCells s A c L), .int .i64 (p : Int)] w (RetB (PageP L p) w) := by
  have HR := Aside0.mk h
  have HP := Aside0.mk hp
  have HP0 := Aside0.mk hp0
  have HLn := Aside0.mk hl
  have HW := Aside0.mk hw
  clear h hl hp hp0 hw
  have HB := Aside0.mk (Below.refl w.heap.size w)
  have hp6 : (p : Int) ≤ 35184372088832 := by have := HP.out; have := HLn.out 5; omega
  obtain ⟨ad, v, ea, hx, HV⟩ := at_v (HR.out 0 (by omega)) p HP0.out
  have p0 : (0 : Int) ≤ (p : Int) := by omega
  have p1 : (p : Int) < ((L 0).length : Int) := by have := HP0.out; omega
  have HE := Aside0.mk ea
  have hPG : PageP L p = if v = 0 then FreeP (L 5) p 0 else if 1 ≤ v ∧ v ≤ 4 then RoomsP (L 5) (L ((v - 1).toNat + 1)) (sizeN (v - 1).toNat) p else if v = 7 then RestP (L 0) (L 5) p else WideP (L 0) (L 5) p := by unfold PageP; rw [HV.out]
  have HPG := Aside0.mk hPG
  clear hPG
  by_cases h0 : v = 0
  · have HF : Aside0 (PageP L p = FreeP (L 5) p 0) := ⟨by rw [HPG.out, if_pos h0]⟩
    have h0' : (v == 0) = true := by rw [h0]; rfl
    clear h0
    go_enter Try.func48, Try.ntmps48
    go_wp2_with (first | ((with_reducible refine gate_dst (N := 2) rfl ?_); refine box_event rfl (N := 2) rfl (cs := bkCells s A c L) (t := 27) (by first | (go_simp; done) | (go_simp; rfl)) ?_; intro gb hggb w1 hbox hb; have n0_ := Aside0.mk (below_step HB.out hb); have BKgb := Aside0.mk hbox; have HGgb := Aside0.mk (show w.heap.size ≤ gb by rw [hggb]; exact HB.out.size); clear HB; have HB := n0_; have hx1 := (hb.cell (World.block_lt_of_cell? _ _ hx)).trans hx; have fgbs0 : w1.cell? ⟨gb, 0, none⟩ = some (.int .i64 _) := (blk_cell BKgb.out 0).trans rfl; have fgb1 : w1.cell? ⟨gb, 1, none⟩ = some (.slice (A 0) (L 0).length (c 0)) := (blk_cell BKgb.out 1).trans rfl; have fgb2 : w1.cell? ⟨gb, 2, none⟩ = some (.slice (A 1) (L 1).length (c 1)) := (blk_cell BKgb.out 2).trans rfl; have fgb3 : w1.cell? ⟨gb, 3, none⟩ = some (.slice (A 2) (L 2).length (c 2)) := (blk_cell BKgb.out 3).trans rfl; have fgb4 : w1.cell? ⟨gb, 4, none⟩ = some (.slice (A 3) (L 3).length (c 3)) := (blk_cell BKgb.out 4).trans rfl; have fgb5 : w1.cell? ⟨gb, 5, none⟩ = some (.slice (A 4) (L 4).length (c 4)) := (blk_cell BKgb.out 5).trans rfl; have fgb6 : w1.cell? ⟨gb, 6, none⟩ = some (.slice (A 5) (L 5).length (c 5)) := (blk_cell BKgb.out 6).trans rfl; have fgb7 : w1.cell? ⟨gb, 7, none⟩ = some (.slice (A 6) (L 6).length (c 6)) := (blk_cell BKgb.out 7).trans rfl; have fgb8 : w1.cell? ⟨gb, 8, none⟩ = some (.slice (A 7) (L 7).length (c 7)) := (blk_cell BKgb.out 8).trans rfl; have fgbz0 := blk_frozen BKgb.out 0; have fgbz1 := blk_frozen BKgb.out 1; have fgbz2 := blk_frozen BKgb.out 2; have fgbz3 := blk_frozen BKgb.out 3; have fgbz4 := blk_frozen BKgb.out 4; have fgbz5 := blk_frozen BKgb.out 5; have fgbz6 := blk_frozen BKgb.out 6; have fgbz7 := blk_frozen BKgb.out 7; have fgbz8 := blk_frozen BKgb.out 8; rw [ea] at fgb1; clear ea; clear n0_ hbox hb hggb))
    rw [← HE.out]
    refine (l3Free_calls s A c L p 0 _ (HR.out.below HB.out) HP.out (HLn.out 5) (by omega)).mono ?_
    rintro e w3 ⟨r, rfl, hr, hb⟩
    have HB3 := Aside0.mk (below_step HB.out hb)
    have HRR := Aside0.mk hr
    clear hr hb
    go_wp2
    go_ret
    exact RetB.mk rfl (HRR.out.trans (iff_of_eq HF.out.symm)) HB3.out
  by_cases h4 : 1 ≤ v ∧ v ≤ 4
  · obtain ⟨h41, h42⟩ := h4
    have HF : Aside0 (PageP L p = RoomsP (L 5) (L ((v - 1).toNat + 1)) (sizeN (v - 1).toNat) p) := ⟨by rw [HPG.out, if_neg h0, if_pos ⟨h41, h42⟩]⟩
    have h0' : (v == 0) = false := beq_eq_false_iff_ne.mpr h0
    have HK : Aside0 (kindN v = v - 1) := ⟨by unfold kindN; rw [if_neg (by omega), if_neg (by omega)]⟩
    clear h0
    go_enter Try.func48, Try.ntmps48
    go_wp2_with (first | ((with_reducible refine gate_dst (N := 2) rfl ?_); refine box_event rfl (N := 2) rfl (cs := bkCells s A c L) (t := 27) (by first | (go_simp; done) | (go_simp; rfl)) ?_; intro gb hggb w1 hbox hb; have n0_ := Aside0.mk (below_step HB.out hb); have BKgb := Aside0.mk hbox; have HGgb := Aside0.mk (show w.heap.size ≤ gb by rw [hggb]; exact HB.out.size); clear HB; have HB := n0_; have hx1 := (hb.cell (World.block_lt_of_cell? _ _ hx)).trans hx; have fgbs0 : w1.cell? ⟨gb, 0, none⟩ = some (.int .i64 _) := (blk_cell BKgb.out 0).trans rfl; have fgb1 : w1.cell? ⟨gb, 1, none⟩ = some (.slice (A 0) (L 0).length (c 0)) := (blk_cell BKgb.out 1).trans rfl; have fgb2 : w1.cell? ⟨gb, 2, none⟩ = some (.slice (A 1) (L 1).length (c 1)) := (blk_cell BKgb.out 2).trans rfl; have fgb3 : w1.cell? ⟨gb, 3, none⟩ = some (.slice (A 2) (L 2).length (c 2)) := (blk_cell BKgb.out 3).trans rfl; have fgb4 : w1.cell? ⟨gb, 4, none⟩ = some (.slice (A 3) (L 3).length (c 3)) := (blk_cell BKgb.out 4).trans rfl; have fgb5 : w1.cell? ⟨gb, 5, none⟩ = some (.slice (A 4) (L 4).length (c 4)) := (blk_cell BKgb.out 5).trans rfl; have fgb6 : w1.cell? ⟨gb, 6, none⟩ = some (.slice (A 5) (L 5).length (c 5)) := (blk_cell BKgb.out 6).trans rfl; have fgb7 : w1.cell? ⟨gb, 7, none⟩ = some (.slice (A 6) (L 6).length (c 6)) := (blk_cell BKgb.out 7).trans rfl; have fgb8 : w1.cell? ⟨gb, 8, none⟩ = some (.slice (A 7) (L 7).length (c 7)) := (blk_cell BKgb.out 8).trans rfl; have fgbz0 := blk_frozen BKgb.out 0; have fgbz1 := blk_frozen BKgb.out 1; have fgbz2 := blk_frozen BKgb.out 2; have fgbz3 := blk_frozen BKgb.out 3; have fgbz4 := blk_frozen BKgb.out 4; have fgbz5 := blk_frozen BKgb.out 5; have fgbz6 := blk_frozen BKgb.out 6; have fgbz7 := blk_frozen BKgb.out 7; have fgbz8 := blk_frozen BKgb.out 8; rw [ea] at fgb1; clear ea; clear n0_ hbox hb hggb) | (go_at_call 66; refine (l3Kind_calls _ _).mono ?_; rintro e w' ⟨rfl, rfl⟩; rw [HK.out]))
    refine wp_region_still_tail 4 (by kernel_rfl) (by kernel_rfl) ?_
    simp only [List.take_succ_cons, List.take_zero, List.drop_succ_cons, List.drop_zero]
    change wpStill _ _ w1.drew _ _ _
    still_step
    still_step
    still_step
    still_call ((l3Kind_calls v w1.drew).mono fun _ _ ⟨h1, h2⟩ => ⟨h1, h2.symm⟩)
    refine wpStill_nil ?_
    change wpList _ _ _ _ _ w1.drew
    rw [HK.out]
    go_wp2_with fail
    rw [← HE.out, show v - 1 = ((v - 1).toNat : Int) by omega]
    refine (l3Rooms_calls s A c L p (v - 1).toNat _ (HR.out.below (below_drew HB.out)) (by omega) HP.out HLn.out).mono ?_
    rintro e w3 ⟨r, rfl, hr, hb⟩
    have HB3 := Aside0.mk (below_step (below_drew HB.out) hb)
    have HRR := Aside0.mk hr
    clear hr hb
    go_wp2
    go_ret
    exact RetB.mk rfl (HRR.out.trans (iff_of_eq HF.out.symm)) HB3.out
  have h0' : (v == 0) = false := beq_eq_false_iff_ne.mpr h0
  have HK : Aside0 (kindN v = -1) := ⟨by unfold kindN; by_cases e : v < 1; exact if_pos e; rw [if_neg e, if_pos (by omega)]⟩
  by_cases h7 : v = 7
  · have HF : Aside0 (PageP L p = RestP (L 0) (L 5) p) := ⟨by rw [HPG.out, if_neg h0, if_neg h4, if_pos h7]⟩
    have h7' : (v == 7) = true := by rw [h7]; rfl
    clear h0 h4 h7
    go_enter Try.func48, Try.ntmps48
    go_wp2_with (first | ((with_reducible refine gate_dst (N := 2) rfl ?_); refine box_event rfl (N := 2) rfl (cs := bkCells s A c L) (t := 27) (by first | (go_simp; done) | (go_simp; rfl)) ?_; intro gb hggb w1 hbox hb; have n0_ := Aside0.mk (below_step HB.out hb); have BKgb := Aside0.mk hbox; have HGgb := Aside0.mk (show w.heap.size ≤ gb by rw [hggb]; exact HB.out.size); clear HB; have HB := n0_; have hx1 := (hb.cell (World.block_lt_of_cell? _ _ hx)).trans hx; have fgbs0 : w1.cell? ⟨gb, 0, none⟩ = some (.int .i64 _) := (blk_cell BKgb.out 0).trans rfl; have fgb1 : w1.cell? ⟨gb, 1, none⟩ = some (.slice (A 0) (L 0).length (c 0)) := (blk_cell BKgb.out 1).trans rfl; have fgb2 : w1.cell? ⟨gb, 2, none⟩ = some (.slice (A 1) (L 1).length (c 1)) := (blk_cell BKgb.out 2).trans rfl; have fgb3 : w1.cell? ⟨gb, 3, none⟩ = some (.slice (A 2) (L 2).length (c 2)) := (blk_cell BKgb.out 3).trans rfl; have fgb4 : w1.cell? ⟨gb, 4, none⟩ = some (.slice (A 3) (L 3).length (c 3)) := (blk_cell BKgb.out 4).trans rfl; have fgb5 : w1.cell? ⟨gb, 5, none⟩ = some (.slice (A 4) (L 4).length (c 4)) := (blk_cell BKgb.out 5).trans rfl; have fgb6 : w1.cell? ⟨gb, 6, none⟩ = some (.slice (A 5) (L 5).length (c 5)) := (blk_cell BKgb.out 6).trans rfl; have fgb7 : w1.cell? ⟨gb, 7, none⟩ = some (.slice (A 6) (L 6).length (c 6)) := (blk_cell BKgb.out 7).trans rfl; have fgb8 : w1.cell? ⟨gb, 8, none⟩ = some (.slice (A 7) (L 7).length (c 7)) := (blk_cell BKgb.out 8).trans rfl; have fgbz0 := blk_frozen BKgb.out 0; have fgbz1 := blk_frozen BKgb.out 1; have fgbz2 := blk_frozen BKgb.out 2; have fgbz3 := blk_frozen BKgb.out 3; have fgbz4 := blk_frozen BKgb.out 4; have fgbz5 := blk_frozen BKgb.out 5; have fgbz6 := blk_frozen BKgb.out 6; have fgbz7 := blk_frozen BKgb.out 7; have fgbz8 := blk_frozen BKgb.out 8; rw [ea] at fgb1; clear ea; clear n0_ hbox hb hggb) | (go_at_call 66; refine (l3Kind_calls _ _).mono ?_; rintro e w' ⟨rfl, rfl⟩; rw [HK.out]))
    rw [← HE.out]
    refine (l3Rest_calls s A c L p _ (HR.out.below HB.out) HP0.out HP.out HLn.out).mono ?_
    rintro e w3 ⟨r, rfl, hr, hb⟩
    have HB3 := Aside0.mk (below_step HB.out hb)
    have HRR := Aside0.mk hr
    clear hr hb
    go_wp2
    go_ret
    exact RetB.mk rfl (HRR.out.trans (iff_of_eq HF.out.symm)) HB3.out
  have HF : Aside0 (PageP L p = WideP (L 0) (L 5) p) := ⟨by rw [HPG.out, if_neg h0, if_neg h4, if_neg h7]⟩
  have h7' : (v == 7) = false := beq_eq_false_iff_ne.mpr h7
  clear h0 h4 h7
  go_enter Try.func48, Try.ntmps48
  go_wp2_with (first | ((with_reducible refine gate_dst (N := 2) rfl ?_); refine box_event rfl (N := 2) rfl (cs := bkCells s A c L) (t := 27) (by first | (go_simp; done) | (go_simp; rfl)) ?_; intro gb hggb w1 hbox hb; have n0_ := Aside0.mk (below_step HB.out hb); have BKgb := Aside0.mk hbox; have HGgb := Aside0.mk (show w.heap.size ≤ gb by rw [hggb]; exact HB.out.size); clear HB; have HB := n0_; have hx1 := (hb.cell (World.block_lt_of_cell? _ _ hx)).trans hx; have fgbs0 : w1.cell? ⟨gb, 0, none⟩ = some (.int .i64 _) := (blk_cell BKgb.out 0).trans rfl; have fgb1 : w1.cell? ⟨gb, 1, none⟩ = some (.slice (A 0) (L 0).length (c 0)) := (blk_cell BKgb.out 1).trans rfl; have fgb2 : w1.cell? ⟨gb, 2, none⟩ = some (.slice (A 1) (L 1).length (c 1)) := (blk_cell BKgb.out 2).trans rfl; have fgb3 : w1.cell? ⟨gb, 3, none⟩ = some (.slice (A 2) (L 2).length (c 2)) := (blk_cell BKgb.out 3).trans rfl; have fgb4 : w1.cell? ⟨gb, 4, none⟩ = some (.slice (A 3) (L 3).length (c 3)) := (blk_cell BKgb.out 4).trans rfl; have fgb5 : w1.cell? ⟨gb, 5, none⟩ = some (.slice (A 4) (L 4).length (c 4)) := (blk_cell BKgb.out 5).trans rfl; have fgb6 : w1.cell? ⟨gb, 6, none⟩ = some (.slice (A 5) (L 5).length (c 5)) := (blk_cell BKgb.out 6).trans rfl; have fgb7 : w1.cell? ⟨gb, 7, none⟩ = some (.slice (A 6) (L 6).length (c 6)) := (blk_cell BKgb.out 7).trans rfl; have fgb8 : w1.cell? ⟨gb, 8, none⟩ = some (.slice (A 7) (L 7).length (c 7)) := (blk_cell BKgb.out 8).trans rfl; have fgbz0 := blk_frozen BKgb.out 0; have fgbz1 := blk_frozen BKgb.out 1; have fgbz2 := blk_frozen BKgb.out 2; have fgbz3 := blk_frozen BKgb.out 3; have fgbz4 := blk_frozen BKgb.out 4; have fgbz5 := blk_frozen BKgb.out 5; have fgbz6 := blk_frozen BKgb.out 6; have fgbz7 := blk_frozen BKgb.out 7; have fgbz8 := blk_frozen BKgb.out 8; rw [ea] at fgb1; clear ea; clear n0_ hbox hb hggb) | (go_at_call 66; refine (l3Kind_calls _ _).mono ?_; rintro e w' ⟨rfl, rfl⟩; rw [HK.out]))
  rw [← HE.out]
  refine (l3Wide_calls s A c L p _ (HR.out.below HB.out) HP0.out HP.out HLn.out HW.out).mono ?_
  rintro e w3 ⟨r, rfl, hr, hb⟩
  have HB3 := Aside0.mk (below_step HB.out hb)
  have HRR := Aside0.mk hr
  clear hr hb
  go_wp2
  go_ret
  exact RetB.mk rfl (HRR.out.trans (iff_of_eq HF.out.symm)) HB3.out


def withinB (n lo hi : Int) : Bool := decide (lo ≤ n) && decide (n ≤ hi)
theorem within_t {n lo hi : Int} : withinB n lo hi = true ↔ lo ≤ n ∧ n ≤ hi := by simp [withinB]
theorem within_calls (n lo hi : Int) (w : World) : Calls Try.prog 53 #[.int .i64 n, .int .i64 lo, .int .i64 hi] w fun e w' => e = .returned (.bool (withinB n lo hi)) ∧ w = w' := by
  by_cases h : lo ≤ n
  · have HF : Aside0 (withinB n lo hi = decide (n ≤ hi)) := ⟨by simp [withinB, h]⟩
    go_enter Try.func53, Try.ntmps53
    go_wp2
    go_ret
    exact ⟨by rw [HF.out]; rfl, rfl⟩
  · have HF : Aside0 (withinB n lo hi = false) := ⟨by simp [withinB, h]⟩
    go_enter Try.func53, Try.ntmps53
    go_wp2
    go_ret
    exact ⟨by rw [HF.out]; rfl, rfl⟩
theorem isKind_calls (n : Int) (w : World) : Calls Try.prog 51 #[.int .i64 n] w fun e w' => e = .returned (.bool (withinB n 1 4)) ∧ w = w' := by
  go_enter Try.func51, Try.ntmps51
  go_wp2_with (go_at_call 53; refine (within_calls _ _ _ _).mono ?_; rintro e w' ⟨rfl, rfl⟩)
  go_ret
  exact ⟨rfl, rfl⟩
theorem unitsOf_calls (k : Nat) (hk : k < 4) (w : World) : Calls Try.prog 73 #[.int .i64 (k : Int)] w fun e w' => e = .returned (.int .i64 (sizeN k : Nat)) ∧ w = w' := by
  match k, hk with
  | 0, _ =>
    go_enter Try.func73, Try.ntmps73
    go_wp2
    go_ret
    exact ⟨rfl, rfl⟩
  | 1, _ =>
    go_enter Try.func73, Try.ntmps73
    go_wp2
    go_ret
    exact ⟨rfl, rfl⟩
  | 2, _ =>
    go_enter Try.func73, Try.ntmps73
    go_wp2
    go_ret
    exact ⟨rfl, rfl⟩
  | 3, _ =>
    go_enter Try.func73, Try.ntmps73
    go_wp2
    go_ret
    exact ⟨rfl, rfl⟩
set_option maxRecDepth 100000 in
theorem isSlot_calls (s : Int) (A : Nat → Option Addr) (c : Nat → Nat) (L : Nat → List Int) (x : Int) (w : World) (h0 : 1 ≤ s) (h4 : s ≤ 4) :
    Calls Try.prog 56 #[.agg (bkCells s A c L), .int .i64 x] w fun e w' => e = .returned (.bool (withinB x 0 (s - 1))) ∧ Below w.heap.size w w' := by
  have HB := Aside0.mk (Below.refl w.heap.size w)
  go_enter Try.func56, Try.ntmps56
  go_wp2_with (first | ((with_reducible refine gate_dst (N := 2) rfl ?_); refine box_event rfl (N := 2) rfl (cs := bkCells s A c L) (t := 27) (by first | (go_simp; done) | (go_simp; rfl)) ?_; intro gb hggb w1 hbox hb; have n0_ := Aside0.mk (below_step HB.out hb); have BKgb := Aside0.mk hbox; have HGgb := Aside0.mk (show w.heap.size ≤ gb by rw [hggb]; exact HB.out.size); clear HB; have HB := n0_; have fgbs0 : w1.cell? ⟨gb, 0, none⟩ = some (.int .i64 _) := (blk_cell BKgb.out 0).trans rfl; have fgb1 : w1.cell? ⟨gb, 1, none⟩ = some (.slice (A 0) (L 0).length (c 0)) := (blk_cell BKgb.out 1).trans rfl; have fgb2 : w1.cell? ⟨gb, 2, none⟩ = some (.slice (A 1) (L 1).length (c 1)) := (blk_cell BKgb.out 2).trans rfl; have fgb3 : w1.cell? ⟨gb, 3, none⟩ = some (.slice (A 2) (L 2).length (c 2)) := (blk_cell BKgb.out 3).trans rfl; have fgb4 : w1.cell? ⟨gb, 4, none⟩ = some (.slice (A 3) (L 3).length (c 3)) := (blk_cell BKgb.out 4).trans rfl; have fgb5 : w1.cell? ⟨gb, 5, none⟩ = some (.slice (A 4) (L 4).length (c 4)) := (blk_cell BKgb.out 5).trans rfl; have fgb6 : w1.cell? ⟨gb, 6, none⟩ = some (.slice (A 5) (L 5).length (c 5)) := (blk_cell BKgb.out 6).trans rfl; have fgb7 : w1.cell? ⟨gb, 7, none⟩ = some (.slice (A 6) (L 6).length (c 6)) := (blk_cell BKgb.out 7).trans rfl; have fgb8 : w1.cell? ⟨gb, 8, none⟩ = some (.slice (A 7) (L 7).length (c 7)) := (blk_cell BKgb.out 8).trans rfl; have fgbz0 := blk_frozen BKgb.out 0; have fgbz1 := blk_frozen BKgb.out 1; have fgbz2 := blk_frozen BKgb.out 2; have fgbz3 := blk_frozen BKgb.out 3; have fgbz4 := blk_frozen BKgb.out 4; have fgbz5 := blk_frozen BKgb.out 5; have fgbz6 := blk_frozen BKgb.out 6; have fgbz7 := blk_frozen BKgb.out 7; have fgbz8 := blk_frozen BKgb.out 8; clear n0_ hbox hb hggb) | (go_at_call 53; refine (within_calls _ _ _ _).mono ?_; rintro e w' ⟨rfl, rfl⟩))
  go_ret
  exact ⟨rfl, HB.out⟩
def InP (s : Int) (I : List Int) (x : Int) : Prop := 0 ≤ x ∧ x ≤ s - 1 ∧ I.getD x.toNat 0 ≠ 0
set_option maxHeartbeats 1000000 in
set_option maxRecDepth 100000 in
theorem isIn_calls (s : Int) (A : Nat → Option Addr) (c : Nat → Nat) (L : Nat → List Int) (x : Int) (w : World) (h : BkC w A c L) (h0 : 1 ≤ s) (h4 : s ≤ 4) (h6 : ((L 6).length : Int) = s) :
    Calls Try.prog 72 #[.agg (bkCells s A c L), .int .i64 x] w (RetB (InP s (L 6) x) w) := by
  have HR := Aside0.mk h
  have H6 := Aside0.mk h6
  clear h h6
  have HB := Aside0.mk (Below.refl w.heap.size w)
  have hw := @within_t x 0 (s - 1)
  obtain ⟨b, hb0⟩ : ∃ b, withinB x 0 (s - 1) = b := ⟨_, rfl⟩
  rw [hb0] at hw
  have HB0 := Aside0.mk hb0
  clear hb0
  cases b with
  | false =>
    have HF : Aside0 (¬ InP s (L 6) x) := ⟨fun hh => by have := hw.mpr ⟨hh.1, hh.2.1⟩; cases this⟩
    clear hw
    go_enter Try.func72, Try.ntmps72
    go_wp2_with (first | ((with_reducible refine gate_dst (N := 2) rfl ?_); refine box_event rfl (N := 2) rfl (cs := bkCells s A c L) (t := 27) (by first | (go_simp; done) | (go_simp; rfl)) ?_; intro gb hggb w1 hbox hb; have n0_ := Aside0.mk (below_step HB.out hb); have BKgb := Aside0.mk hbox; have HGgb := Aside0.mk (show w.heap.size ≤ gb by rw [hggb]; exact HB.out.size); clear HB; have HB := n0_; have fgbs0 : w1.cell? ⟨gb, 0, none⟩ = some (.int .i64 _) := (blk_cell BKgb.out 0).trans rfl; have fgb1 : w1.cell? ⟨gb, 1, none⟩ = some (.slice (A 0) (L 0).length (c 0)) := (blk_cell BKgb.out 1).trans rfl; have fgb2 : w1.cell? ⟨gb, 2, none⟩ = some (.slice (A 1) (L 1).length (c 1)) := (blk_cell BKgb.out 2).trans rfl; have fgb3 : w1.cell? ⟨gb, 3, none⟩ = some (.slice (A 2) (L 2).length (c 2)) := (blk_cell BKgb.out 3).trans rfl; have fgb4 : w1.cell? ⟨gb, 4, none⟩ = some (.slice (A 3) (L 3).length (c 3)) := (blk_cell BKgb.out 4).trans rfl; have fgb5 : w1.cell? ⟨gb, 5, none⟩ = some (.slice (A 4) (L 4).length (c 4)) := (blk_cell BKgb.out 5).trans rfl; have fgb6 : w1.cell? ⟨gb, 6, none⟩ = some (.slice (A 5) (L 5).length (c 5)) := (blk_cell BKgb.out 6).trans rfl; have fgb7 : w1.cell? ⟨gb, 7, none⟩ = some (.slice (A 6) (L 6).length (c 6)) := (blk_cell BKgb.out 7).trans rfl; have fgb8 : w1.cell? ⟨gb, 8, none⟩ = some (.slice (A 7) (L 7).length (c 7)) := (blk_cell BKgb.out 8).trans rfl; have fgbz0 := blk_frozen BKgb.out 0; have fgbz1 := blk_frozen BKgb.out 1; have fgbz2 := blk_frozen BKgb.out 2; have fgbz3 := blk_frozen BKgb.out 3; have fgbz4 := blk_frozen BKgb.out 4; have fgbz5 := blk_frozen BKgb.out 5; have fgbz6 := blk_frozen BKgb.out 6; have fgbz7 := blk_frozen BKgb.out 7; have fgbz8 := blk_frozen BKgb.out 8; clear n0_ hbox hb hggb))
    refine (isSlot_calls s A c L x _ h0 h4).mono ?_
    rintro e w3 ⟨rfl, hb⟩
    rw [HB0.out]
    have HB3 := Aside0.mk (below_step HB.out hb)
    clear hb
    go_wp2
    go_ret
    exact RetB.mk rfl (iff_f HF.out) HB3.out
  | true =>
    have HX := Aside0.mk (hw.mp rfl)
    clear hw
    have x0 : 0 ≤ x := HX.out.1
    have x1 : x < ((L 6).length : Int) := by have := HX.out.2; have := H6.out; omega
    go_enter Try.func72, Try.ntmps72
    go_wp2_with (first | ((with_reducible refine gate_dst (N := 2) rfl ?_); refine box_event rfl (N := 2) rfl (cs := bkCells s A c L) (t := 27) (by first | (go_simp; done) | (go_simp; rfl)) ?_; intro gb hggb w1 hbox hb; have n0_ := Aside0.mk (below_step HB.out hb); have BKgb := Aside0.mk hbox; have HGgb := Aside0.mk (show w.heap.size ≤ gb by rw [hggb]; exact HB.out.size); clear HB; have HB := n0_; have fgbs0 : w1.cell? ⟨gb, 0, none⟩ = some (.int .i64 _) := (blk_cell BKgb.out 0).trans rfl; have fgb1 : w1.cell? ⟨gb, 1, none⟩ = some (.slice (A 0) (L 0).length (c 0)) := (blk_cell BKgb.out 1).trans rfl; have fgb2 : w1.cell? ⟨gb, 2, none⟩ = some (.slice (A 1) (L 1).length (c 1)) := (blk_cell BKgb.out 2).trans rfl; have fgb3 : w1.cell? ⟨gb, 3, none⟩ = some (.slice (A 2) (L 2).length (c 2)) := (blk_cell BKgb.out 3).trans rfl; have fgb4 : w1.cell? ⟨gb, 4, none⟩ = some (.slice (A 3) (L 3).length (c 3)) := (blk_cell BKgb.out 4).trans rfl; have fgb5 : w1.cell? ⟨gb, 5, none⟩ = some (.slice (A 4) (L 4).length (c 4)) := (blk_cell BKgb.out 5).trans rfl; have fgb6 : w1.cell? ⟨gb, 6, none⟩ = some (.slice (A 5) (L 5).length (c 5)) := (blk_cell BKgb.out 6).trans rfl; have fgb7 : w1.cell? ⟨gb, 7, none⟩ = some (.slice (A 6) (L 6).length (c 6)) := (blk_cell BKgb.out 7).trans rfl; have fgb8 : w1.cell? ⟨gb, 8, none⟩ = some (.slice (A 7) (L 7).length (c 7)) := (blk_cell BKgb.out 8).trans rfl; have fgbz0 := blk_frozen BKgb.out 0; have fgbz1 := blk_frozen BKgb.out 1; have fgbz2 := blk_frozen BKgb.out 2; have fgbz3 := blk_frozen BKgb.out 3; have fgbz4 := blk_frozen BKgb.out 4; have fgbz5 := blk_frozen BKgb.out 5; have fgbz6 := blk_frozen BKgb.out 6; have fgbz7 := blk_frozen BKgb.out 7; have fgbz8 := blk_frozen BKgb.out 8; clear n0_ hbox hb hggb))
    refine (isSlot_calls s A c L x _ h0 h4).mono ?_
    rintro e w3 ⟨rfl, hb⟩
    rw [HB0.out]
    have HB3 := Aside0.mk (below_step HB.out hb)
    have BK3 := Aside0.mk (blk_below BKgb.out hb)
    clear hb HB BKgb fgbs0 fgbz0 fgb1 fgbz1 fgb2 fgbz2 fgb3 fgbz3 fgb4 fgbz4 fgb5 fgbz5 fgb6 fgbz6 fgb7 fgbz7 fgb8 fgbz8
    obtain ⟨ad, v, ea, hx, HV⟩ := at_v ((HR.out 6 (by omega)).below HB3.out) x.toNat (by omega)
    have hc7 : w3.cell? ⟨gb, 7, none⟩ = some (.slice (some ad) (L 6).length (c 6)) := (blk_cell BK3.out 7).trans (by rw [← ea]; rfl)
    have hz7 := blk_frozen BK3.out 7
    clear ea
    by_cases hv : v = 0
    · have HF : Aside0 (¬ InP s (L 6) x) := ⟨fun hh => hh.2.2 (by rw [HV.out]; exact hv)⟩
      have hv' : (v != 0) = false := by rw [hv]; rfl
      clear hv
      go_wp2
      go_ret
      exact RetB.mk rfl (iff_f HF.out) HB3.out
    · have HF : Aside0 (InP s (L 6) x) := ⟨⟨HX.out.1, HX.out.2, by rw [HV.out]; exact hv⟩⟩
      have hv' : (v != 0) = true := bne_iff_ne.mpr hv
      clear hv
      go_wp2
      go_ret
      exact RetB.mk rfl (iff_t HF.out) HB3.out


/-- How many of the n units from f on have an owner. -/
def NzN (O : List Int) (f : Nat) : Nat → Nat
  | 0 => 0
  | n + 1 => NzN O f n + if O.getD (f + n) 0 ≠ 0 then 1 else 0
theorem NzN_le (O : List Int) (f n : Nat) : NzN O f n ≤ n := by
  induction n with
  | zero => simp [NzN]
  | succ n ih => unfold NzN; split <;> omega
set_option maxHeartbeats 1000000 in
set_option maxRecDepth 100000 in
theorem owned_calls (s : Int) (A : Nat → Option Addr) (c : Nat → Nat) (L : Nat → List Int) (x t : Int) (f n : Nat) (w : World) (h : BkC w A c L) (hx : x = (f : Int)) (ht : t = (f : Int) + (n : Int)) (hn : 0 < n) (hf : f + n ≤ (L 5).length) (hl : (L 5).length ≤ 35184372088832) :
    Calls Try.prog 50 #[.agg (bkCells s A c L), .int .i64 x, .int .i64 t] w fun e w' => e = .returned (.int .i64 (NzN (L 5) f n : Nat)) ∧ Below w.heap.size w w' := by
  subst hx ht
  have HR := Aside0.mk h
  have HFN := Aside0.mk hf
  have hc5 := (h 5 (by omega)).2
  have HC5 := Aside0.mk hc5
  have HLn := Aside0.mk hl
  clear h
  have HB := Aside0.mk (Below.refl w.heap.size w)
  have q1 : (f : Int) + (n : Int) ≤ 35184372088832 := by omega
  have q2 : (f : Int) + (n : Int) ≤ (c 5 : Int) := by omega
  have q3 : ¬ (c 5 = f) := by omega
  have q4 : f + n ≤ c 5 := by omega
  have hu24 := Try.underlying24
  go_enter Try.func50, Try.ntmps50
  go_wp2_with (first | ((with_reducible refine gate_dst (N := 3) rfl ?_); refine box_event rfl (N := 3) rfl (cs := bkCells s A c L) (t := 27) (by first | (go_simp; done) | (go_simp; rfl)) ?_; intro gb hggb w1 hbox hb; have n0_ := Aside0.mk (below_step HB.out hb); have BKgb := Aside0.mk hbox; have HGgb := Aside0.mk (show w.heap.size ≤ gb by rw [hggb]; exact HB.out.size); clear HB; have HB := n0_; have fgbs0 : w1.cell? ⟨gb, 0, none⟩ = some (.int .i64 _) := (blk_cell BKgb.out 0).trans rfl; have fgb1 : w1.cell? ⟨gb, 1, none⟩ = some (.slice (A 0) (L 0).length (c 0)) := (blk_cell BKgb.out 1).trans rfl; have fgb2 : w1.cell? ⟨gb, 2, none⟩ = some (.slice (A 1) (L 1).length (c 1)) := (blk_cell BKgb.out 2).trans rfl; have fgb3 : w1.cell? ⟨gb, 3, none⟩ = some (.slice (A 2) (L 2).length (c 2)) := (blk_cell BKgb.out 3).trans rfl; have fgb4 : w1.cell? ⟨gb, 4, none⟩ = some (.slice (A 3) (L 3).length (c 3)) := (blk_cell BKgb.out 4).trans rfl; have fgb5 : w1.cell? ⟨gb, 5, none⟩ = some (.slice (A 4) (L 4).length (c 4)) := (blk_cell BKgb.out 5).trans rfl; have fgb6 : w1.cell? ⟨gb, 6, none⟩ = some (.slice (A 5) (L 5).length (c 5)) := (blk_cell BKgb.out 6).trans rfl; have fgb7 : w1.cell? ⟨gb, 7, none⟩ = some (.slice (A 6) (L 6).length (c 6)) := (blk_cell BKgb.out 7).trans rfl; have fgb8 : w1.cell? ⟨gb, 8, none⟩ = some (.slice (A 7) (L 7).length (c 7)) := (blk_cell BKgb.out 8).trans rfl; have fgbz0 := blk_frozen BKgb.out 0; have fgbz1 := blk_frozen BKgb.out 1; have fgbz2 := blk_frozen BKgb.out 2; have fgbz3 := blk_frozen BKgb.out 3; have fgbz4 := blk_frozen BKgb.out 4; have fgbz5 := blk_frozen BKgb.out 5; have fgbz6 := blk_frozen BKgb.out 6; have fgbz7 := blk_frozen BKgb.out 7; have fgbz8 := blk_frozen BKgb.out 8; clear n0_ hbox hb hggb))
  go_loopg [7, 16] (n + 1) (fun kq v7 v16 w' => ∃ j m : Nat, j ≤ n ∧ kq = n + 1 - j ∧ v16 = .int .i64 j ∧ v7 = .int .i64 m ∧ m ≤ j ∧ Aside0 (m = NzN (L 5) f j) ∧ Aside0 (Below w.heap.size w w'))
  case atStart => exact ⟨0, 0, by omega, rfl, rfl, rfl, by omega, ⟨rfl⟩, HB⟩
  case round =>
    clear HB BKgb fgbs0 fgbz0 fgb1 fgbz1 fgb2 fgbz2 fgb3 fgbz3 fgb4 fgbz4 fgb5 fgbz5 fgb6 fgbz6 fgb7 fgbz7 fgb8 fgbz8
    obtain ⟨j, m, hj, rfl, rfl, rfl, hm, HM, HB⟩ := hrel
    have hn64 : (n : Int) ≤ 35184372088832 := by omega
    have hm64 : (m : Int) ≤ 35184372088832 := by omega
    by_cases hlt : j < n
    · have j0 : (0 : Int) ≤ (j : Int) := by omega
      have j1 : (j : Int) < (n : Int) := by omega
      obtain ⟨ad, v, ea, hx, HV⟩ := at_v ((HR.out 5 (by omega)).below HB.out) (f + j) (by have := HFN.out; omega)
      have hx2 : wr.cell? ((ad.add f).add j) = some (.int .i64 v) := by rw [Go.Addr.add_add]; exact hx
      by_cases hv : v = 0
      · have HM2 : Aside0 (m = NzN (L 5) f (j + 1)) := ⟨by unfold NzN; rw [← HM.out, HV.out, if_neg (by simp [hv]), Nat.add_zero]⟩
        have hv' : (v != 0) = false := by rw [hv]; rfl
        clear hv
        go_wp2
        go_roundg (n + 1 - (j + 1))
        case measure => omega
        case rel => exact ⟨j + 1, m, by omega, rfl, by go_num, rfl, by omega, HM2, HB⟩
      · have HM2 : Aside0 (m + 1 = NzN (L 5) f (j + 1)) := ⟨by unfold NzN; rw [← HM.out, HV.out, if_pos hv]⟩
        have hv' : (v != 0) = true := bne_iff_ne.mpr hv
        clear hv
        go_wp2
        go_roundg (n + 1 - (j + 1))
        case measure => omega
        case rel => exact ⟨j + 1, m + 1, by omega, rfl, by go_num, by go_num, by omega, HM2, HB⟩
    · have HZ : Aside0 (NzN (L 5) f n = m) := ⟨by rw [HM.out, show j = n by omega]⟩
      go_wp2
      go_ret
      exact ⟨by rw [HZ.out]; rfl, HB.out⟩


def isRow (l : List Int) : Bool := decide (l.length ≤ 9223372036854775807) && l.all isI64
theorem isRow_of {l : List Int} (h : l.length ≤ 9223372036854775807 ∧ ∀ y0 ∈ l, (Lit.int .i64 y0).wf = true) : isRow l = true := by
  unfold isRow
  rw [Bool.and_eq_true]
  exact ⟨decide_eq_true h.1, List.all_eq_true.mpr fun y hy => isI64_of (h.2 y hy)⟩
theorem isRow_r {l : List Int} (h : isRow l = true) : l.length ≤ 9223372036854775807 ∧ Wf64 l := by
  unfold isRow at h
  rw [Bool.and_eq_true] at h
  refine ⟨of_decide_eq_true h.1, fun k => ?_⟩
  by_cases hk : k < l.length
  · have hm := List.all_eq_true.mp h.2 l[k] (List.getElem_mem hk)
    have := isI64_r hm
    simpa [List.getD, List.getElem?_eq_getElem hk] using this
  · simp [List.getD, List.getElem?_eq_none (by omega : l.length ≤ k)]
def lst8 (a b c d e f g h : List Int) : Nat → List Int
  | 0 => a
  | 1 => b
  | 2 => c
  | 3 => d
  | 4 => e
  | 5 => f
  | 6 => g
  | 7 => h
  | _ => []
def adr8 (a b c d e f g h : Option Addr) : Nat → Option Addr
  | 0 => a
  | 1 => b
  | 2 => c
  | 3 => d
  | 4 => e
  | 5 => f
  | 6 => g
  | _ => h
def cap8 (a b c d e f g h : Nat) : Nat → Nat
  | 0 => a
  | 1 => b
  | 2 => c
  | 3 => d
  | 4 => e
  | 5 => f
  | 6 => g
  | _ => h
theorem lst8_over (a b c d e f g h : List Int) (i : Nat) (hi : 8 ≤ i) : lst8 a b c d e f g h i = [] := by
  match i, hi with
  | i + 8, _ => rfl
theorem lst8_all {Q : List Int → Prop} {a b c d e f g h : List Int} (h0 : Q a) (h1 : Q b) (h2 : Q c) (h3 : Q d) (h4 : Q e) (h5 : Q f) (h6 : Q g) (h7 : Q h) (hn : Q []) : ∀ i, Q (lst8 a b c d e f g h i)
  | 0 => h0
  | 1 => h1
  | 2 => h2
  | 3 => h3
  | 4 => h4
  | 5 => h5
  | 6 => h6
  | 7 => h7
  | _ + 8 => hn
theorem wf64_nil : Wf64 [] := fun k => by simp
end Go.Proofs.Ytekneicikmaplaa.Bk

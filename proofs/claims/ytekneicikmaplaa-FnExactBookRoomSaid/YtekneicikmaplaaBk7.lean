/- The reference's look at a page of rooms: a walk. -/
import Derived.Test.YtekneicikmaplaaBk6
set_option linter.unusedVariables false
set_option linter.unusedSimpArgs false
namespace Go.Proofs.Ytekneicikmaplaa.Bk
open Go.RowKit Go.Proofs.YtekneicikmaplaaW.PrintWords Go.Proofs.YtekneicikmaplaaW.PrintLast Go.Proofs.YtekneicikmaplaaW.PrintMore

def RoomU (O H : List Int) (z p u : Nat) : Prop :=
  if u % z > 0 then ¬ (O.getD (p * 8 + u) 0 > 0 ∨ cnt H ((p : Int) * 8 + (u : Int)) > 0)
  else ¬ ((O.getD (p * 8 + u) 0 > 0 ↔ cnt H ((p : Int) * 8 + (u : Int)) > 0) ∨ cnt H ((p : Int) * 8 + (u : Int)) > 1)
def RoomsP (O H : List Int) (z p : Nat) : Prop := (∀ u, u < 8 → RoomU O H z p u) ∧ ∃ u, u < 8 ∧ u % z = 0 ∧ O.getD (p * 8 + u) 0 > 0
theorem sizeN_pos (k : Nat) : 0 < sizeN k := by unfold sizeN; split <;> omega
theorem sizeN_le (k : Nat) : sizeN k ≤ 8 := by unfold sizeN; split <;> omega
/-- How many of the first n units, that are a room's first, have an owner. -/
def OwnN (O : List Int) (z p : Nat) : Nat → Nat
  | 0 => 0
  | n + 1 => OwnN O z p n + if n % z = 0 ∧ O.getD (p * 8 + n) 0 > 0 then 1 else 0
theorem OwnN_pos (O : List Int) (z p n : Nat) : OwnN O z p n > 0 ↔ ∃ u, u < n ∧ u % z = 0 ∧ O.getD (p * 8 + u) 0 > 0 := by
  induction n with
  | zero => simp [OwnN]
  | succ n ih =>
    unfold OwnN
    by_cases h : n % z = 0 ∧ O.getD (p * 8 + n) 0 > 0
    · rw [if_pos h]; exact ⟨fun _ => ⟨n, by omega, h.1, h.2⟩, fun _ => by omega⟩
    · rw [if_neg h, Nat.add_zero, ih]
      exact ⟨fun ⟨u, a, b⟩ => ⟨u, by omega, b⟩, fun ⟨u, a, b⟩ => by
        by_cases e : u = n
        · subst e; exact absurd b h
        · exact ⟨u, by omega, b⟩⟩
theorem OwnN_le (O : List Int) (z p n : Nat) : OwnN O z p n ≤ n := by
  induction n with
  | zero => simp [OwnN]
  | succ n ih => unfold OwnN; split <;> omega
set_option maxHeartbeats 1000000 in
set_option maxRecDepth 100000 in
theorem l3Rooms_calls (s : Int) (A : Nat → Option Addr) (c : Nat → Nat) (L : Nat → List Int) (p k : Nat) (w : World) (h : BkC w A c L) (hk : k < 4) (hp : p * 8 + 8 ≤ (L 5).length) (hl : ∀ i, (L i).length ≤ 35184372088832) :
    Calls Try.prog 69 #[.agg (bkCells s A c L), .int .i64 (p : Int), .int .i64 (k : Int)] w (RetB (RoomsP (L 5) (L (k + 1)) (sizeN k) p) w) := by
  have HR := Aside0.mk h
  have HP := Aside0.mk hp
  have HLn := Aside0.mk hl
  clear h hl
  have HB := Aside0.mk (Below.refl w.heap.size w)
  have HZ0 := Aside0.mk (sizeN_pos k)
  have HZ8 := Aside0.mk (sizeN_le k)
  have hp6 : (p : Int) ≤ 35184372088832 := by have := HP.out; have := HLn.out 5; omega
  go_enter Try.func69, Try.ntmps69
  go_wp2_with (first | ((with_reducible refine gate_dst (N := 3) rfl ?_); refine box_event rfl (N := 3) rfl (cs := bkCells s A c L) (t := 27) (by first | (go_simp; done) | (go_simp; rfl)) ?_; intro gb hggb w1 hbox hb; have n0_ := Aside0.mk (below_step HB.out hb); have BKgb := Aside0.mk hbox; have HGgb := Aside0.mk (show w.heap.size ≤ gb by rw [hggb]; exact HB.out.size); clear HB; have HB := n0_; clear n0_ hbox hb hggb))
  go_loopg [7, 8] 9 (fun kq v7 v8 w' => ∃ u : Nat, u ≤ 8 ∧ kq = 9 - u ∧ v8 = .int .i64 u ∧ v7 = .int .i64 (OwnN (L 5) (sizeN k) p u : Nat) ∧ Aside0 (∀ j, j < u → RoomU (L 5) (L (k + 1)) (sizeN k) p j) ∧ Aside0 (w'.heap[gb]? = some (.cells (bkCells s A c L) 27 (0, 0))) ∧ Aside0 (Below w.heap.size w w'))
  case atStart => exact ⟨0, by omega, rfl, rfl, rfl, ⟨fun u h1 => by omega⟩, BKgb, HB⟩
  case round =>
    clear HB BKgb
    obtain ⟨u, hu, rfl, rfl, rfl, HU, BKgb, HB⟩ := hrel
    have HO := Aside0.mk (OwnN_le (L 5) (sizeN k) p u)
    obtain ⟨ow, how⟩ : ∃ ow : Nat, OwnN (L 5) (sizeN k) p u = ow := ⟨_, rfl⟩
    rw [how] at HO
    rw [how]
    have HOW := Aside0.mk how
    have how8 : (ow : Int) ≤ 8 := by have := HO.out; omega
    clear how
    by_cases hlt : u < 8
    · have hi : (u : Int) < 8 := by omega
      have p1 : (0 : Int) ≤ (p : Int) * 8 + (u : Int) := by omega
      have p2 : (p : Int) * 8 + (u : Int) < ((L 5).length : Int) := by have := HP.out; omega
      obtain ⟨ad, v, ea, hx, HV⟩ := at_v ((HR.out 5 (by omega)).below HB.out) (p * 8 + u) (by have := HP.out; omega)
      have hc6 : wr.cell? ⟨gb, 6, none⟩ = some (.slice (some ad) (L 5).length (c 5)) := (blk_cell BKgb.out 6).trans (by rw [← ea]; rfl)
      have hz6 := blk_frozen BKgb.out 6
      have hck : wr.cell? ⟨gb, 2 + k, none⟩ = some (.slice (A (k + 1)) (L (k + 1)).length (c (k + 1))) := (blk_cell BKgb.out (2 + k)).trans (by match k, hk with | 0, _ => rfl | 1, _ => rfl | 2, _ => rfl | 3, _ => rfl)
      have hzk := blk_frozen BKgb.out (2 + k)
      have hki : (k : Int) < 4 := by omega
      go_wp2_with fail
      refine (l3In_calls _ _ _ _ _ ((HR.out (k + 1) (by omega)).below HB.out) (HLn.out (k + 1))).mono ?_
      rintro e w2 ⟨rfl, rfl⟩
      obtain ⟨n, hn⟩ : ∃ n : Nat, cnt (L (k + 1)) ((p : Int) * 8 + (u : Int)) = n := ⟨_, rfl⟩
      rw [hn]
      have HN := Aside0.mk hn
      have hn8 : (n : Int) ≤ 35184372088832 := by have := cnt_le (L (k + 1)) ((p : Int) * 8 + (u : Int)); have := HLn.out (k + 1); rw [HN.out] at *; omega
      clear hn
      go_wp2_with fail
      refine (l3Size_calls k hk _).mono ?_
      rintro e w3 ⟨rfl, hb⟩
      have HB3 := Aside0.mk (below_step HB.out hb)
      have BK3 := Aside0.mk (blk_below BKgb.out hb)
      have hx3 := (hb.cell (World.block_lt_of_cell? _ _ hx)).trans hx
      clear hb hx hc6 hz6 hck hzk HB BKgb
      have hc6 : w3.cell? ⟨gb, 6, none⟩ = some (.slice (some ad) (L 5).length (c 5)) := (blk_cell BK3.out 6).trans (by rw [← ea]; rfl)
      have hz6 := blk_frozen BK3.out 6
      clear ea
      obtain ⟨z, hz⟩ : ∃ z : Nat, sizeN k = z := ⟨_, rfl⟩
      rw [hz]
      have HZ := Aside0.mk hz
      have z0 : (0 : Int) < (z : Int) := by have := HZ0.out; omega
      clear hz
      have hmod : (u : Int) % (z : Int) = ((u % z : Nat) : Int) := by omega
      have hz' : ((z : Int) == 0) = false := by rw [beq_eq_false_iff_ne]; omega
      by_cases hm : u % z > 0
      · have hm' : 0 < (u : Int) % (z : Int) := by omega
        have HRU : Aside0 (RoomU (L 5) (L (k + 1)) (sizeN k) p u ↔ ¬ (v > 0 ∨ n > 0)) := ⟨by unfold RoomU; rw [HZ.out, HV.out, HN.out, if_pos hm]⟩
        have hmn : ¬ (u % z = 0) := by omega
        have HMN := Aside0.mk hmn
        clear hmod hmn hm
        by_cases hv : v > 0
        · have HF : Aside0 (¬ RoomsP (L 5) (L (k + 1)) (sizeN k) p) := ⟨fun hh => (HRU.out.mp (hh.1 u hlt)) (Or.inl hv)⟩
          go_wp2
          go_ret
          exact RetB.mk rfl (iff_f HF.out) HB3.out
        · by_cases hn : 0 < n
          · have hn' : 0 < (n : Int) := by omega
            have HF : Aside0 (¬ RoomsP (L 5) (L (k + 1)) (sizeN k) p) := ⟨fun hh => (HRU.out.mp (hh.1 u hlt)) (Or.inr hn)⟩
            go_wp2
            go_ret
            exact RetB.mk rfl (iff_f HF.out) HB3.out
          · have hn' : ¬ 0 < (n : Int) := by omega
            have HU2 : Aside0 (∀ j, j < u + 1 → RoomU (L 5) (L (k + 1)) (sizeN k) p j) := ⟨fun j hj => if e : j < u then HU.out j e else (show u = j by omega) ▸ HRU.out.mpr (fun o => o.elim hv hn)⟩
            have HO2 : Aside0 (OwnN (L 5) (sizeN k) p (u + 1) = ow) := ⟨by unfold OwnN; rw [HOW.out, HZ.out, HV.out, if_neg (fun q => HMN.out q.1), Nat.add_zero]⟩
            go_wp2
            go_roundg (9 - (u + 1))
            case measure => omega
            case rel => exact ⟨u + 1, by omega, rfl, by go_num, by rw [HO2.out], HU2, BK3, HB3⟩
      · have hm0 : u % z = 0 := by omega
        have hm' : ¬ 0 < (u : Int) % (z : Int) := by omega
        have HRU : Aside0 (RoomU (L 5) (L (k + 1)) (sizeN k) p u ↔ ¬ ((v > 0 ↔ n > 0) ∨ n > 1)) := ⟨by unfold RoomU; rw [HZ.out, HV.out, HN.out, if_neg hm]⟩
        have HM0 := Aside0.mk hm0
        clear hmod hm hm0
        by_cases hv : v > 0
        · by_cases hn : 0 < n
          · have hn' : 0 < (n : Int) := by omega
            have HF : Aside0 (¬ RoomsP (L 5) (L (k + 1)) (sizeN k) p) := ⟨fun hh => (HRU.out.mp (hh.1 u hlt)) (Or.inl ⟨fun _ => hn, fun _ => hv⟩)⟩
            go_wp2
            go_ret
            exact RetB.mk rfl (iff_f HF.out) HB3.out
          · have hn' : ¬ 0 < (n : Int) := by omega
            have hn2 : ¬ 1 < (n : Int) := by omega
            have hn3 : ¬ 1 < n := by omega
            have HU2 : Aside0 (∀ j, j < u + 1 → RoomU (L 5) (L (k + 1)) (sizeN k) p j) := ⟨fun j hj => if e : j < u then HU.out j e else (show u = j by omega) ▸ HRU.out.mpr (fun o => o.elim (fun q => hn (q.mp hv)) (fun q => by omega))⟩
            have HO2 : Aside0 (OwnN (L 5) (sizeN k) p (u + 1) = ow + 1) := ⟨by unfold OwnN; rw [HOW.out, HZ.out, HV.out, if_pos ⟨HM0.out, hv⟩]⟩
            go_wp2
            go_roundg (9 - (u + 1))
            case measure => omega
            case rel => exact ⟨u + 1, by omega, rfl, by go_num, by rw [HO2.out]; go_num, HU2, BK3, HB3⟩
        · by_cases hn : 0 < n
          · have hn' : 0 < (n : Int) := by omega
            by_cases hn1 : 1 < n
            · have hn1' : 1 < (n : Int) := by omega
              have HF : Aside0 (¬ RoomsP (L 5) (L (k + 1)) (sizeN k) p) := ⟨fun hh => (HRU.out.mp (hh.1 u hlt)) (Or.inr hn1)⟩
              go_wp2
              go_ret
              exact RetB.mk rfl (iff_f HF.out) HB3.out
            · have hn1' : ¬ 1 < (n : Int) := by omega
              have HU2 : Aside0 (∀ j, j < u + 1 → RoomU (L 5) (L (k + 1)) (sizeN k) p j) := ⟨fun j hj => if e : j < u then HU.out j e else (show u = j by omega) ▸ HRU.out.mpr (fun o => o.elim (fun q => hv (q.mpr hn)) (fun q => hn1 q))⟩
              have HO2 : Aside0 (OwnN (L 5) (sizeN k) p (u + 1) = ow) := ⟨by unfold OwnN; rw [HOW.out, HZ.out, HV.out, if_neg (fun q => hv q.2), Nat.add_zero]⟩
              go_wp2
              go_roundg (9 - (u + 1))
              case measure => omega
              case rel => exact ⟨u + 1, by omega, rfl, by go_num, by rw [HO2.out], HU2, BK3, HB3⟩
          · have hn' : ¬ 0 < (n : Int) := by omega
            have HF : Aside0 (¬ RoomsP (L 5) (L (k + 1)) (sizeN k) p) := ⟨fun hh => (HRU.out.mp (hh.1 u hlt)) (Or.inl ⟨fun q => absurd q hv, fun q => absurd q hn⟩)⟩
            go_wp2
            go_ret
            exact RetB.mk rfl (iff_f HF.out) HB3.out
    · have hu8 : u = 8 := by omega
      subst hu8
      by_cases how : 0 < ow
      · have how' : 0 < (ow : Int) := by omega
        have HF : Aside0 (RoomsP (L 5) (L (k + 1)) (sizeN k) p) := ⟨⟨HU.out, (OwnN_pos _ _ _ _).mp (by rw [HOW.out]; exact how)⟩⟩
        go_wp2
        go_ret
        exact RetB.mk rfl (iff_t HF.out) HB.out
      · have how' : ¬ 0 < (ow : Int) := by omega
        have HF : Aside0 (¬ RoomsP (L 5) (L (k + 1)) (sizeN k) p) := ⟨fun hh => how (by have := (OwnN_pos _ _ _ _).mpr hh.2; rw [HOW.out] at this; exact this)⟩
        go_wp2
        go_ret
        exact RetB.mk rfl (iff_f HF.out) HB.out
end Go.Proofs.Ytekneicikmaplaa.Bk

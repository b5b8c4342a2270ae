/- The law's small functions: a book made anew. -/
import Derived.Test.YtekneicikmaplaaBk2
import Derived.Test.YtekneicikmaplaaRow
set_option linter.unusedVariables false
set_option linter.unusedSimpArgs false
namespace Go.Proofs.Ytekneicikmaplaa.Bk
open Go.RowKit Go.Proofs.YtekneicikmaplaaW.PrintWords Go.Proofs.YtekneicikmaplaaW.PrintLast Go.Proofs.YtekneicikmaplaaW.PrintMore

/-- A row of the call's own, its block from lo on and below hi. -/
def SlO (w : World) (lo hi : Nat) (A : Option Addr) (c : Nat) (l : List Int) : Prop := Kd.R (Kd.int .i64) 3 w lo (fun k => lo ≤ k ∧ k < hi) (.slice A l.length c) l
theorem SlO.move {w w1 : World} {lo hi : Nat} {A : Option Addr} {c : Nat} {l : List Int} (h : SlO w lo hi A c l) (hm : ∀ k, lo ≤ k → k < hi → k < w.heap.size → w1.heap[k]? = w.heap[k]?) : SlO w1 lo hi A c l := Kd.R_step h (fun k hk hs => hm k hk.1 hk.2 hs)
theorem SlO.below {w w1 : World} {lo hi : Nat} {A : Option Addr} {c : Nat} {l : List Int} (h : SlO w lo hi A c l) (hb : Below w.heap.size w w1) : SlO w1 lo hi A c l := Kd.R_below h hb
theorem SlO.wide {w : World} {lo hi lo' hi' : Nat} {A : Option Addr} {c : Nat} {l : List Int} (h : SlO w lo hi A c l) (h0 : lo' ≤ lo) (h1 : hi ≤ hi') : SlO w lo' hi' A c l := Kd.R_lower (Kd.R_mono h (fun k hk => ⟨by omega, by omega⟩)) h0
theorem SlO.c {w : World} {lo hi : Nat} {A : Option Addr} {c : Nat} {l : List Int} (h : SlO w lo hi A c l) : SlC w A c l := by
  obtain ⟨A', c', he, hl, hc⟩ := Kd.R_reads h
  injection he with ha hn hcc
  subst ha
  subst hcc
  exact ⟨hc, hl⟩
theorem SlO.of {w w' : World} {v : Value} {l : List Int} (h : Kd.R (Kd.int .i64) 3 w' w.heap.size (fun _ => True) v l) : ∃ A c, v = .slice A l.length c ∧ SlO w' w.heap.size w'.heap.size A c l := by
  obtain ⟨A, c, rfl⟩ := Kd.R_slice h
  exact ⟨A, c, rfl, Kd.R_mono (Kd.R_bound h) (fun k hk => ⟨hk.2.1, hk.2.2.1⟩)⟩
theorem getD_set_self (x : List Int) (k : Nat) (v : Int) (h : k < x.length) : (x.set k v).getD k 0 = v := by simp [h]
theorem getD_set_ne (x : List Int) (k j : Nat) (v : Int) (h : j ≠ k) : (x.set k v).getD j 0 = x.getD j 0 := by simp [List.getD, List.getElem?_set, Ne.symm h]
theorem eq_of_getD {x l : List Int} (hn : x.length = l.length) (h : ∀ j, j < l.length → x.getD j 0 = l.getD j 0) : x = l := by
  apply List.ext_getElem hn
  intro i h1 h2
  have := h i h2
  simpa [List.getD, List.getElem?_eq_getElem h1, List.getElem?_eq_getElem h2] using this
set_option maxRecDepth 100000 in
theorem toIntS_calls (A : Option Addr) (c : Nat) (l : List Int) (w : World) (h : SlC w A c l) (hl : l.length ≤ 35184372088832) :
    Calls Try.prog 43 #[.slice A l.length c] w fun e w' => ∃ A' c', e = .returned (.slice A' l.length c') ∧ SlO w' w.heap.size w'.heap.size A' c' l ∧ Below w.heap.size w w' := by
  have HR := Aside0.mk h
  have HLn := Aside0.mk hl
  clear h
  have HB := Aside0.mk (Below.refl w.heap.size w)
  go_enter Try.func43, Try.ntmps43
  go_wp2_with (first | ((with_reducible refine gate_dst (N := 7) rfl ?_); refine Kd.R_make (Kd.int .i64) _ 3 rfl (N := 7) rfl 24 _ _ rfl (l.length : Int) rfl rfl Try.underlying24 (.int .i64 0) 8 info3 rfl (by decide) (by omega) 0 (ok := fun _ => True) (okp := fun _ => True) rfl (fun _ hk => hk) trivial (by omega) (by simp only [Int.toNat_natCast]; have := HLn.out; omega) (Below.refl _ _) (Nat.le_refl _) ?_; intro v1 w1 ho hb hg_ hnew_; clear hg_ hnew_; have HO := Aside0.mk ho; have HB := Aside0.mk hb; clear ho hb))
  go_loopg [4] (l.length + 1) (fun kq v4 w' => ∃ (k : Nat) (x : List Int), k ≤ l.length ∧ kq = l.length + 1 - k ∧ v4 = .int .i64 k ∧ x.length = l.length ∧ Aside0 (∀ j, j < k → x.getD j 0 = l.getD j 0) ∧ Aside0 (Kd.R (Kd.int .i64) 3 w' w.heap.size (fun _ => True) v1 x) ∧ Aside0 (Below w.heap.size w w'))
  case atStart => exact ⟨0, _, by omega, by omega, rfl, by simp, ⟨fun j hj => by omega⟩, HO, HB⟩
  case round =>
    clear HO HB
    obtain ⟨k, x, hk, rfl, rfl, hx, HX, HO, HB⟩ := hrel
    have hN := Aside0.mk hx
    by_cases hlt : k < l.length
    · obtain ⟨ad, rfl, hc⟩ := at_nat HR.out k hlt
      have hcell := (HB.out.cell (World.block_lt_of_cell? w _ hc)).trans hc
      clear hc
      obtain ⟨go, co, eo, gbl, gl, cl, HG⟩ := Kd.R_form HO.out (by omega)
      subst eo
      have GB := Aside0.mk gbl
      clear gbl gl cl HG
      have p9 : (0 : Int) ≤ (k : Int) := by omega
      have q9 : (k : Int) < (x.length : Int) := by omega
      obtain ⟨hx9, hf9⟩ := Kd.R_celln 0 HO.out (k : Int) p9 q9
      have HP := Kd.R_putg HO.out (k : Int) (l.getD k 0)
      rw [Int.toNat_natCast] at hx9 hf9 HP
      have hi : (k : Int) < (l.length : Int) := by omega
      clear hx
      go_wp2_with (first | ((with_reducible refine gate_store (t := 3) (p := 20) rfl ?_); refine store_event (t := 3) (p := 20) (v := ?vo) (w1 := (wr.setCell ⟨go, k, none⟩ (.int .i64 (l.getD k 0)))) ?hg ?ho ?hn ?hr ?_; (case ho => rfl); (case hg => rfl); (case hn => rfl); (case hr => first | (go_simp; done) | (go_simp; rfl)); intro w2 hw; have HO2 := Aside0.mk (show Kd.R (Kd.int .i64) 3 w2 w.heap.size (fun _ => True) (.slice (some ⟨go, 0, none⟩) x.length co) (x.set k (l.getD k 0)) by rw [hw]; exact HP.1); have HB2 := Aside0.mk (show Below w.heap.size w w2 by rw [hw]; exact below_set HB.out GB.out); clear HP HO HB hw))
      go_roundg (l.length + 1 - (k + 1))
      case measure => omega
      case rel =>
        refine ⟨k + 1, x.set k (l.getD k 0), by omega, rfl, by go_num, by rw [List.length_set]; exact hN.out, ⟨fun j hj => ?_⟩, HO2, HB2⟩
        by_cases e : j = k
        · rw [e]; exact getD_set_self _ _ _ (by have := hN.out; omega)
        · rw [getD_set_ne _ _ _ _ e]; exact HX.out j (by omega)
    · have hkl : k = l.length := by omega
      subst hkl
      have hxl := eq_of_getD hN.out (fun j hj => HX.out j hj)
      have HZ := Aside0.mk hxl
      clear hxl hx
      go_wp2
      go_ret
      obtain ⟨A', c', hv, ho⟩ := SlO.of HO.out
      rw [HZ.out] at hv ho
      exact ⟨A', c', by rw [← hv]; rfl, ho, HB.out⟩

abbrev four (V : Nat → Value) : Array Value := #[V 0, V 1, V 2, V 3]
theorem four_set (V : Nat → Value) (k : Nat) (v : Value) (hk : k < 4) : (four V).setIfInBounds k v = four (fun i => if i = k then v else V i) := by
  match k, hk with
  | 0, _ => rfl
  | 1, _ => rfl
  | 2, _ => rfl
  | 3, _ => rfl
/-- The first n values are rows of the call's own, their blocks from lo on and below hi, none another's. -/
def VO (w : World) (lo hi : Nat) (L : Nat → List Int) (n : Nat) (V : Nat → Value) : Prop :=
  (∀ i, i < n → ∃ A c, V i = .slice A (L i).length c ∧ SlO w lo hi A c (L i)) ∧ ∀ i j, i < n → j < n → i ≠ j → NeRow (V i) (V j)
theorem SlO.lt {w : World} {lo hi : Nat} {A : Option Addr} {c : Nat} {l : List Int} (h : SlO w lo hi A c l) (k : Nat) (hk : (Value.slice A l.length c).ownBlock = some k) : lo ≤ k ∧ k < hi := h.1 k hk
theorem SlO.ne {w w1 : World} {lo hi lo' hi' : Nat} {A A' : Option Addr} {c c' : Nat} {l l' : List Int} (h : SlO w lo hi A c l) (h' : SlO w1 lo' hi' A' c' l') (hd : hi ≤ lo' ∨ hi' ≤ lo) : NeRow (.slice A l.length c) (.slice A' l'.length c') := fun k hk hk' => by
  have := h.lt k hk
  have := h'.lt k hk'
  omega
theorem VO.map {w w1 : World} {lo hi lo' hi' : Nat} {L : Nat → List Int} {n : Nat} {V : Nat → Value} (h : VO w lo hi L n V) (f : ∀ {A c l}, SlO w lo hi A c l → SlO w1 lo' hi' A c l) : VO w1 lo' hi' L n V :=
  ⟨fun i hi => by obtain ⟨A, c, e, ho⟩ := h.1 i hi; exact ⟨A, c, e, f ho⟩, h.2⟩
theorem VO.below {w w1 : World} {lo hi : Nat} {L : Nat → List Int} {n : Nat} {V : Nat → Value} (h : VO w lo hi L n V) (hb : Below w.heap.size w w1) : VO w1 lo hi L n V := h.map fun ho => ho.below hb
theorem VO.move {w w1 : World} {lo hi : Nat} {L : Nat → List Int} {n : Nat} {V : Nat → Value} (h : VO w lo hi L n V) (hm : ∀ k, lo ≤ k → k < hi → k < w.heap.size → w1.heap[k]? = w.heap[k]?) : VO w1 lo hi L n V := h.map fun ho => ho.move hm
theorem VO.wide {w : World} {lo hi lo' hi' : Nat} {L : Nat → List Int} {n : Nat} {V : Nat → Value} (h : VO w lo hi L n V) (h0 : lo' ≤ lo) (h1 : hi ≤ hi') : VO w lo' hi' L n V := h.map fun ho => ho.wide h0 h1
theorem SlO.set {w : World} {lo hi : Nat} {A : Option Addr} {c : Nat} {l : List Int} (h : SlO w lo hi A c l) {g t : Nat} {cells : Array Value} (hb : w.heap[g]? = some (.cells cells t (0, 0))) (ht : 3 ≠ t) (j : Nat) (u : Value) : SlO (w.setCell ⟨g, j, none⟩ u) lo hi A c l :=
  Kd.R_set h hb (fun q hq => by simp [Kd.int, Kd.scalar] at hq; subst hq; exact ht) j u
theorem size_set (w : World) (g j : Nat) (u : Value) : (w.setCell ⟨g, j, none⟩ u).heap.size = w.heap.size := by simp
theorem VO.set {w : World} {lo hi : Nat} {L : Nat → List Int} {n : Nat} {V : Nat → Value} (h : VO w lo hi L n V) {g t : Nat} {cells : Array Value} (hb : w.heap[g]? = some (.cells cells t (0, 0))) (ht : 3 ≠ t) (j : Nat) (u : Value) : VO (w.setCell ⟨g, j, none⟩ u) lo hi L n V := h.map fun ho => ho.set hb ht j u
theorem VO.snoc {w w1 : World} {lo : Nat} {L : Nat → List Int} {n : Nat} {V : Nat → Value} (h : VO w lo w.heap.size L n V) (hb : Below w.heap.size w w1) {A : Option Addr} {c : Nat} (ho : SlO w1 w.heap.size w1.heap.size A c (L n)) (hlo : lo ≤ w.heap.size) : VO w1 lo w1.heap.size L (n + 1) (fun i => if i = n then .slice A (L n).length c else V i) := by
  refine ⟨fun i hi => ?_, fun i j hi hj hne => ?_⟩
  · by_cases e : i = n
    · subst e; exact ⟨A, c, by simp, ho.wide hlo (Nat.le_refl _)⟩
    · obtain ⟨A', c', e', ho'⟩ := h.1 i (by omega); exact ⟨A', c', by simp [e, e'], (ho'.below hb).wide (Nat.le_refl _) hb.size⟩
  · by_cases e : i = n
    · subst e
      obtain ⟨A', c', e', ho'⟩ := h.1 j (by omega)
      have : j ≠ i := fun h => hne h.symm
      simp only [if_true, if_neg this, e']
      exact ho.ne ho' (Or.inr (Nat.le_refl _))
    · by_cases e2 : j = n
      · subst e2
        obtain ⟨A', c', e', ho'⟩ := h.1 i (by omega)
        simp only [if_true, if_neg e, e']
        exact ho'.ne ho (Or.inl (Nat.le_refl _))
      · simp only [if_neg e, if_neg e2]; exact h.2 i j (by omega) (by omega) hne
theorem VO.app {w w1 : World} {lo : Nat} {L : Nat → List Int} {n m : Nat} {V V' : Nat → Value} (h : VO w lo w.heap.size L n V) (hb : Below w.heap.size w w1) (h' : VO w1 w.heap.size w1.heap.size (fun i => L (i + n)) m V') (hlo : lo ≤ w.heap.size) : VO w1 lo w1.heap.size L (n + m) (fun i => if i < n then V i else V' (i - n)) := by
  have key : ∀ i, i < n + m → ¬ i < n → ∃ A c, V' (i - n) = .slice A (L i).length c ∧ SlO w1 w.heap.size w1.heap.size A c (L i) := fun i hi hn => by
    obtain ⟨A, c, e, ho⟩ := h'.1 (i - n) (by omega)
    have hin : i - n + n = i := by omega
    simp only [hin] at e ho
    exact ⟨A, c, e, ho⟩
  refine ⟨fun i hi => ?_, fun i j hi hj hne => ?_⟩
  · by_cases e : i < n
    · obtain ⟨A', c', e', ho'⟩ := h.1 i e; exact ⟨A', c', by simp [e, e'], (ho'.below hb).wide (Nat.le_refl _) hb.size⟩
    · obtain ⟨A, c, e', ho⟩ := key i hi e; exact ⟨A, c, by simp [e, e'], ho.wide hlo (Nat.le_refl _)⟩
  · by_cases e : i < n <;> by_cases e2 : j < n
    · simp only [if_pos e, if_pos e2]; exact h.2 i j e e2 hne
    · obtain ⟨A, c, q, ho⟩ := h.1 i e
      obtain ⟨A', c', q', ho'⟩ := key j hj e2
      simp only [if_pos e, if_neg e2, q, q']
      exact ho.ne ho' (Or.inl (Nat.le_refl _))
    · obtain ⟨A, c, q, ho⟩ := h.1 j e2
      obtain ⟨A', c', q', ho'⟩ := key i hi e
      simp only [if_neg e, if_pos e2, q, q']
      exact ho'.ne ho (Or.inr (Nat.le_refl _))
    · simp only [if_neg e, if_neg e2]; exact h'.2 (i - n) (j - n) (by omega) (by omega) (by omega)
theorem VO.none (w : World) (lo hi : Nat) (L : Nat → List Int) (V : Nat → Value) : VO w lo hi L 0 V := ⟨fun i hi => by omega, fun i j hi => by omega⟩
theorem VO.one {w : World} {lo hi : Nat} {L : Nat → List Int} {V : Nat → Value} (h : VO w lo hi L 4 V) : (four V).all (·.oneCell') = true := by
  obtain ⟨A0, c0, e0, _⟩ := h.1 0 (by omega)
  obtain ⟨A1, c1, e1, _⟩ := h.1 1 (by omega)
  obtain ⟨A2, c2, e2, _⟩ := h.1 2 (by omega)
  obtain ⟨A3, c3, e3, _⟩ := h.1 3 (by omega)
  simp [four, e0, e1, e2, e3, Value.oneCell']
theorem SlO.row {w : World} {lo hi : Nat} {A : Option Addr} {c : Nat} {l : List Int} (h : SlO w lo hi A c l) {g t : Nat} {cells : Array Value} (hb : w.heap[g]? = some (.cells cells t (0, 0))) (ht : 3 ≠ t) (cs : Array Value) : SlO (w.setRow g cs) lo hi A c l :=
  Row.row_R rfl h hb (fun q hq => by simp [Kd.int, Kd.scalar] at hq; subst hq; exact ht)
theorem size_row (w : World) (g : Nat) (cs : Array Value) : (w.setRow g cs).heap.size = w.heap.size := by simp
theorem VO.row {w : World} {lo hi : Nat} {L : Nat → List Int} {n : Nat} {V : Nat → Value} (h : VO w lo hi L n V) {g t : Nat} {cells : Array Value} (hb : w.heap[g]? = some (.cells cells t (0, 0))) (ht : 3 ≠ t) (cs : Array Value) : VO (w.setRow g cs) lo hi L n V := h.map fun ho => ho.row hb ht cs
def aOf : Value → Option Addr
  | .slice A _ _ => A
  | _ => none
def cOf : Value → Nat
  | .slice _ _ c => c
  | _ => 0
theorem VO.at_ {w : World} {lo hi : Nat} {L : Nat → List Int} {n : Nat} {V : Nat → Value} (h : VO w lo hi L n V) (i : Nat) (hi' : i < n) : V i = .slice (aOf (V i)) (L i).length (cOf (V i)) := by
  obtain ⟨A, c, e, _⟩ := h.1 i hi'
  rw [e]; rfl
/-- The rows, by their addresses and capacities. -/
abbrev slV (A : Nat → Option Addr) (c : Nat → Nat) (L : Nat → List Int) : Nat → Value := fun i => .slice (A i) (L i).length (c i)
theorem VO.sl {w : World} {lo hi : Nat} {L : Nat → List Int} {n : Nat} {V : Nat → Value} (h : VO w lo hi L n V) : VO w lo hi L n (slV (fun i => aOf (V i)) (fun i => cOf (V i)) L) :=
  ⟨fun i hi => by obtain ⟨A, c, e, ho⟩ := h.1 i hi; exact ⟨A, c, by simp [slV, e, aOf, cOf], ho⟩, fun i j hi hj hne => by have := h.2 i j hi hj hne; rw [h.at_ i hi, h.at_ j hj] at this; exact this⟩
theorem VO.c {w : World} {lo hi : Nat} {L : Nat → List Int} {n : Nat} {A : Nat → Option Addr} {c : Nat → Nat} (h : VO w lo hi L n (slV A c L)) (i : Nat) (hi' : i < n) : SlC w (A i) (c i) (L i) := by
  obtain ⟨A', c', e, ho⟩ := h.1 i hi'
  simp only [slV, Value.slice.injEq, true_and] at e
  obtain ⟨rfl, rfl⟩ := e
  exact ho.c
def nil4 : Nat → Value := fun _ => .slice none 0 0
set_option maxRecDepth 100000 in
theorem toIntSA4_calls (A : Nat → Option Addr) (c : Nat → Nat) (L : Nat → List Int) (w : World) (h : ArC w A c L) (hl : ∀ i, (L i).length ≤ 35184372088832) :
    Calls Try.prog 44 #[.agg (arrV A c L)] w fun e w' => ∃ A' c', e = .returned (.agg (arrV A' c' L)) ∧ VO w' w.heap.size w'.heap.size L 4 (slV A' c' L) ∧ Below w.heap.size w w' := by
  have HR := Aside0.mk h
  have HL := Aside0.mk hl
  clear h hl
  have HB := Aside0.mk (Below.refl w.heap.size w)
  go_enter Try.func44, Try.ntmps44
  go_wp2_with (first | ((with_reducible refine gate_dst (N := 1) rfl ?_); refine box_event rfl (N := 1) rfl (cs := arrV A c L) (t := 25) (by first | (go_simp; done) | (go_simp; rfl)) ?_; intro gb hggb w1 hbox hb; have n0_ := Aside0.mk (below_step HB.out hb); have BKgb := Aside0.mk hbox; have HGgb := Aside0.mk (show w.heap.size ≤ gb by rw [hggb]; exact HB.out.size); clear HB; have HB := n0_; clear n0_ hbox hb hggb) | ((with_reducible refine gate_dst (N := 2) rfl ?_); refine box_event rfl (N := 2) rfl (cs := four nil4) (t := 25) (by first | (go_simp; done) | (go_simp; rfl)) ?_; intro gr hggr w2 hbox hb; have n0_ := Aside0.mk (below_step HB.out hb); have BKgr := Aside0.mk hbox; have HGgr := Aside0.mk (show w.heap.size ≤ gr by rw [hggr]; exact HB.out.size); clear HB; have HB := n0_; have BKgb := Aside0.mk (blk_below BKgb.out hb); clear n0_ hbox hb hggr) | ((with_reducible refine gate_dst (N := 3) rfl ?_); refine box_event rfl (N := 3) rfl (cs := four nil4) (t := 25) (by first | (go_simp; done) | (go_simp; rfl)) ?_; intro go hggo w3 hbox hb; have n0_ := Aside0.mk (below_step HB.out hb); have BKgo := Aside0.mk hbox; have HGgo := Aside0.mk (show w.heap.size ≤ go by rw [hggo]; exact HB.out.size); clear HB; have HB := n0_; have NE1 := Aside0.mk (show gb ≠ go by have := blk_lt BKgb.out; omega); have NE2 := Aside0.mk (show gr ≠ go by have := blk_lt BKgr.out; omega); have BKgb := Aside0.mk (blk_below BKgb.out hb); have BKgr := Aside0.mk (blk_below BKgr.out hb); clear n0_ hbox hb hggo))
  go_loopg [4] 5 (fun kq v4 w' => ∃ (k : Nat) (V : Nat → Value), k ≤ 4 ∧ kq = 5 - k ∧ v4 = .int .i64 k ∧ Aside0 (w'.heap[gb]? = some (.cells (arrV A c L) 25 (0, 0))) ∧ Aside0 (w'.heap[gr]? = some (.cells (four nil4) 25 (0, 0))) ∧ Aside0 (w'.heap[go]? = some (.cells (four V) 25 (0, 0))) ∧ Aside0 (VO w' w.heap.size w'.heap.size L k V) ∧ Aside0 (Below w.heap.size w w'))
  case atStart => exact ⟨0, nil4, by omega, by omega, rfl, BKgb, BKgr, BKgo, ⟨VO.none _ _ _ _ _⟩, HB⟩
  case round =>
    clear HB BKgb BKgr BKgo
    obtain ⟨k, V, hk, rfl, rfl, BKgb, BKgr, BKgo, HV, HB⟩ := hrel
    by_cases hlt : k < 4
    · have hcell : wr.cell? ⟨gb, k, none⟩ = some (.slice (A k) (L k).length (c k)) := (blk_cell BKgb.out k).trans (arrV_at A c L k hlt)
      have hfz := blk_frozen BKgb.out k
      have hi : (k : Int) < 4 := by omega
      have HC := Aside0.mk ((HR.out k hlt).below HB.out)
      go_wp2_with fail
      refine (toIntS_calls _ _ _ _ HC.out (HL.out k)).mono ?_
      rintro e w4 ⟨A', c', rfl, ho, hb⟩
      have HV4 := Aside0.mk (HV.out.snoc hb ho HB.out.size)
      have HB4 := Aside0.mk (below_step HB.out hb)
      have BKgb4 := Aside0.mk (blk_below BKgb.out hb)
      have BKgr4 := Aside0.mk (blk_below BKgr.out hb)
      have BKgo4 := Aside0.mk (blk_below BKgo.out hb)
      clear HV HB BKgb BKgr BKgo HC hcell hfz ho hb
      have hold : w4.cell? ⟨go, k, none⟩ = some (V k) := (blk_cell BKgo4.out k).trans (by match k, hlt with | 0, _ => rfl | 1, _ => rfl | 2, _ => rfl | 3, _ => rfl)
      have hfo := blk_frozen BKgo4.out k
      go_wp2_with (first | ((with_reducible refine gate_store (t := 24) (p := 14) rfl ?_); refine store_event (t := 24) (p := 14) (v := ?vo_1) (w1 := (w4.setCell ⟨go, k, none⟩ (.slice A' (L k).length c'))) ?hg ?ho ?hn ?hr ?_; (case ho => rfl); (case hg => rfl); (case hn => rfl); (case hr => first | (go_simp; done) | (go_simp; rfl)); intro w5 hw; have HV := Aside0.mk (show VO w5 w.heap.size w5.heap.size L (k + 1) _ by rw [hw, size_set]; exact HV4.out.set BKgo4.out (by decide) k _); have HB := Aside0.mk (show Below w.heap.size w w5 by rw [hw]; exact below_set HB4.out HGgo.out); have BKgb := Aside0.mk (show w5.heap[gb]? = some (.cells (arrV A c L) 25 (0, 0)) by rw [hw]; exact blk_far BKgb4.out NE1.out _); have BKgr := Aside0.mk (show w5.heap[gr]? = some (.cells (four nil4) 25 (0, 0)) by rw [hw]; exact blk_far BKgr4.out NE2.out _); have BKgo := Aside0.mk (show w5.heap[go]? = some (.cells (four _) 25 (0, 0)) by rw [hw]; exact (blk_set BKgo4.out k _).trans (by rw [four_set V k _ hlt])); clear hw))
      go_roundg (5 - (k + 1))
      case measure => omega
      case rel => exact ⟨k + 1, _, by omega, rfl, by go_num, BKgb, BKgr, BKgo, HV, HB⟩
    · have hk4 : k = 4 := by omega
      subst hk4
      go_wp2_with (first | ((with_reducible refine gate_dst (N := 15) rfl ?_); refine Kd.event_run rfl (Row.load_row_run (g := go) (t := 25) (cells := four V) rfl rfl BKgo.out Try.underlying25 rfl (by kernel_rfl)) ?_) | ((with_reducible refine gate_store (t := 25) (p := 2) rfl ?_); refine store_event (t := 25) (p := 2) (v := ?vo_2) (w1 := wr.setRow gr (four V)) ?hg ?ho ?hn ?hr ?_; (case ho => rfl); (case hg => rfl); (case hn => rfl); (case hr => exact (Row.store_row_run (g := gr) (cells := four V) (t := 25) (old := four nil4) rfl (by rfl) (by rfl) BKgr.out (by kernel_rfl) rfl (HV.out.one))); intro w6 hw; have HV5 := Aside0.mk (show VO w6 w.heap.size w6.heap.size L 4 V by rw [hw, size_row]; exact HV.out.row BKgr.out (by decide) _); have HB5 := Aside0.mk (Row.row_below hw HB.out HGgr.out); have BK5 := Aside0.mk (Row.row_here hw BKgr.out); clear hw))
      refine bodyPost_ret (results_cell_row rfl _ _ gr 25 (four V) (0, 0) _ rfl BK5.out Try.underlying25 rfl (by kernel_rfl)) rfl ?_
      exact ⟨_, _, by simp only [four, arrV]; rw [← HV5.out.at_ 0 (by omega), ← HV5.out.at_ 1 (by omega), ← HV5.out.at_ 2 (by omega), ← HV5.out.at_ 3 (by omega)], HV5.out.sl, HB5.out⟩
end Go.Proofs.Ytekneicikmaplaa.Bk

/- The plain law: the reference's and the program's look at a book say the same. -/
import Derived.Test.YtekneicikmaplaaBk13
import Derived.Test.YtekneicikmaplaaBk24
set_option linter.unusedVariables false
set_option linter.unusedSimpArgs false
namespace Go.Proofs.Ytekneicikmaplaa.Bk
open Go.RowKit

theorem getD_over (l : List Int) (u : Nat) (h : ¬ u < l.length) : l.getD u 0 = 0 := by simp [List.getD, List.getElem?_eq_none (by omega : l.length ≤ u)]
theorem NzN_zero (O : List Int) (f n : Nat) : NzN O f n = 0 ↔ ∀ u, u < n → O.getD (f + u) 0 = 0 := by
  induction n with
  | zero => simp [NzN]
  | succ n ih =>
    unfold NzN
    by_cases h : O.getD (f + n) 0 ≠ 0
    · rw [if_pos h]
      exact ⟨fun q => by omega, fun q => absurd (q n (by omega)) h⟩
    · rw [if_neg h, Nat.add_zero, ih]
      have h' : O.getD (f + n) 0 = 0 := by simpa using h
      exact ⟨fun q u hu => if e : u < n then q u e else (show n = u by omega) ▸ h', fun q u hu => q u (by omega)⟩
theorem NzN_one (O : List Int) (f n : Nat) (h0 : O.getD f 0 ≠ 0) : NzN O f (n + 1) = 1 ↔ ∀ u, 1 ≤ u → u < n + 1 → O.getD (f + u) 0 = 0 := by
  induction n with
  | zero =>
    have : NzN O f 1 = 1 := by unfold NzN; rw [if_pos (by simpa using h0)]; rfl
    exact ⟨fun _ u h1 h2 => by omega, fun _ => this⟩
  | succ n ih =>
    have hpos : ∀ m, 1 ≤ NzN O f (m + 1) := by
      intro m
      induction m with
      | zero => have : NzN O f 1 = 1 := by unfold NzN; rw [if_pos (by simpa using h0)]; rfl
                show 1 ≤ NzN O f 1
                omega
      | succ m ih => rw [show NzN O f (m + 1 + 1) = NzN O f (m + 1) + if O.getD (f + (m + 1)) 0 ≠ 0 then 1 else 0 from rfl]; omega
    rw [show NzN O f (n + 1 + 1) = NzN O f (n + 1) + if O.getD (f + (n + 1)) 0 ≠ 0 then 1 else 0 from rfl]
    by_cases h : O.getD (f + (n + 1)) 0 ≠ 0
    · rw [if_pos h]
      have := hpos n
      exact ⟨fun q => by omega, fun q => absurd (q (n + 1) (by omega) (by omega)) h⟩
    · rw [if_neg h, Nat.add_zero, ih]
      have h' : O.getD (f + (n + 1)) 0 = 0 := by simpa using h
      exact ⟨fun q u h1 hu => if e : u < n + 1 then q u h1 e else (show n + 1 = u by omega) ▸ h', fun q u h1 hu => q u h1 (by omega)⟩
theorem own_nn {s : Int} {L : Nat → List Int} (h : SlotsP s L) (u : Nat) : 0 ≤ (L 5).getD u 0 := by
  by_cases hu : u < (L 5).length
  · have := (h.2.2 u hu).1; omega
  · rw [getD_over _ _ hu]; omega
theorem free_iff {s : Int} {L : Nat → List Int} (h : SlotsP s L) (p : Nat) : FreeP (L 5) p 0 ↔ NzN (L 5) (p * 8) 8 = 0 := by
  rw [NzN_zero]
  exact ⟨fun q u hu => by have := q u (by omega) hu; have := own_nn h (p * 8 + u); omega, fun q u _ hu => by rw [q u hu]; omega⟩
theorem free1_iff {s : Int} {L : Nat → List Int} (h : SlotsP s L) (p : Nat) : FreeP (L 5) p 1 ↔ ∀ u, 1 ≤ u → u < 8 → (L 5).getD (p * 8 + u) 0 = 0 :=
  ⟨fun q u h1 hu => by have := q u h1 hu; have := own_nn h (p * 8 + u); omega, fun q u h1 hu => by rw [q u h1 hu]; omega⟩
theorem cnt_pos {l : List Int} {x : Int} (h : 0 < cnt l x) : ∃ i, i < l.length ∧ l.getD i 0 = x := by
  unfold cnt at h
  rw [List.count_pos_iff] at h
  obtain ⟨i, hi, he⟩ := List.getElem_of_mem h
  exact ⟨i, hi, by simp [List.getD, List.getElem?_eq_getElem hi, he]⟩
theorem sizeN_dvd (k : Nat) : ∃ m, 8 = m * sizeN k := by
  unfold sizeN
  split
  · exact ⟨8, rfl⟩
  · exact ⟨4, rfl⟩
  · exact ⟨2, rfl⟩
  · exact ⟨1, rfl⟩
theorem mod_page (k p u : Nat) : (p * 8 + u) % sizeN k = u % sizeN k := by
  obtain ⟨m, hm⟩ := sizeN_dvd k
  rw [show p * 8 = sizeN k * (p * m) by rw [hm, ← Nat.mul_assoc, Nat.mul_comm], Nat.mul_add_mod]
theorem rooms_iff {s : Int} {L : Nat → List Int} (hS : SlotsP s L) (hL : ListsP L) (p k : Nat) (hk : k < 4) : RoomsP (L 5) (L (k + 1)) (sizeN k) p ↔ KindP (L 5) (L (k + 1)) (sizeN k) p := by
  have hn : ∀ u, ¬ u % sizeN k = 0 → cnt (L (k + 1)) ((p : Int) * 8 + (u : Int)) = 0 := by
    intro u hu
    by_cases h0 : 0 < cnt (L (k + 1)) ((p : Int) * 8 + (u : Int))
    · obtain ⟨i, hi, he⟩ := cnt_pos h0
      have h4 := ((hL k hk).2 i hi).2.2.2
      rw [he] at h4
      have h5 : ((p : Int) * 8 + (u : Int)) % (sizeN k : Int) = (((p * 8 + u) % sizeN k : Nat) : Int) := by
        rw [show (p : Int) * 8 + (u : Int) = ((p * 8 + u : Nat) : Int) by omega]; rfl
      rw [h5, mod_page] at h4
      omega
    · omega
  have hu : ∀ u, RoomU (L 5) (L (k + 1)) (sizeN k) p u ↔ KindU (L 5) (L (k + 1)) (sizeN k) (p * 8 + u) := by
    intro u
    unfold RoomU KindU
    rw [mod_page, show ((p * 8 + u : Nat) : Int) = (p : Int) * 8 + (u : Int) by omega]
    have h0 := own_nn hS (p * 8 + u)
    by_cases hz : u % sizeN k = 0
    · rw [if_neg (by omega)]
      generalize (L 5).getD (p * 8 + u) 0 = o at *
      generalize cnt (L (k + 1)) ((p : Int) * 8 + (u : Int)) = n at *
      omega
    · rw [if_pos (by omega), hn u hz]
      generalize (L 5).getD (p * 8 + u) 0 = o at *
      omega
  unfold RoomsP KindP
  constructor
  · rintro ⟨h1, u, hu8, _, ho⟩
    refine ⟨fun u h => (hu u).mp (h1 u h), ?_⟩
    by_cases e : NzN (L 5) (p * 8) 8 = 0
    · have := (NzN_zero _ _ _).mp e u hu8; omega
    · omega
  · rintro ⟨h1, h2⟩
    have h1' : ∀ u, u < 8 → RoomU (L 5) (L (k + 1)) (sizeN k) p u := fun u h => (hu u).mpr (h1 u h)
    refine ⟨h1', ?_⟩
    by_cases e : ∃ u, u < 8 ∧ u % sizeN k = 0 ∧ (L 5).getD (p * 8 + u) 0 > 0
    · exact e
    · have : NzN (L 5) (p * 8) 8 = 0 := (NzN_zero _ _ _).mpr fun u h8 => by
        have h0 := own_nn hS (p * 8 + u)
        by_cases hz : u % sizeN k = 0
        · by_cases ho : (L 5).getD (p * 8 + u) 0 > 0
          · exact absurd ⟨u, h8, hz, ho⟩ e
          · omega
        · have h3 := h1' u h8
          unfold RoomU at h3
          rw [if_pos (by omega)] at h3
          by_cases ho : (L 5).getD (p * 8 + u) 0 > 0
          · exact absurd (Or.inl ho) h3
          · omega
      omega
/-- No wide room that begins ahead of p goes beyond p. -/
def InvP (L : Nat → List Int) (p : Nat) : Prop := ∀ q : Nat, q < p → (L 0).getD q 0 > 8 → (q : Int) + ((L 0).getD q 0 - 8) ≤ (p : Int)
theorem page_0 {L : Nat → List Int} {p : Nat} (h : (L 0).getD p 0 = 0) : PageP L p ↔ FreeP (L 5) p 0 := by unfold PageP; rw [if_pos h]
theorem page_k {L : Nat → List Int} {p k : Nat} (hk : k < 4) (h : (L 0).getD p 0 = (k : Int) + 1) : PageP L p ↔ RoomsP (L 5) (L (k + 1)) (sizeN k) p := by
  unfold PageP
  rw [h, if_neg (by omega), if_pos (by omega), show ((k : Int) + 1 - 1).toNat = k by omega]
theorem page_7 {L : Nat → List Int} {p : Nat} (h : (L 0).getD p 0 = 7) : PageP L p ↔ RestP (L 0) (L 5) p := by
  unfold PageP
  rw [h, if_neg (by omega), if_neg (by omega), if_pos rfl]
theorem page_w {L : Nat → List Int} {p : Nat} (h0 : ¬ (L 0).getD p 0 = 0) (h4 : ¬ (1 ≤ (L 0).getD p 0 ∧ (L 0).getD p 0 ≤ 4)) (h7 : ¬ (L 0).getD p 0 = 7) : PageP L p ↔ WideP (L 0) (L 5) p := by
  unfold PageP
  rw [if_neg h0, if_neg h4, if_neg h7]
theorem wrap_small {q v : Int} (h0 : 0 ≤ q) (h1 : q ≤ 100) (h2 : 0 ≤ v) (h3 : v ≤ 100) : wrap64 (wrap64 (q + v) - 8) = q + v - 8 := by unfold wrap64; omega
theorem pf_of {s : Int} {L : Nat → List Int} (hS : SlotsP s L) (hL : ListsP L) (h : ∀ p, p < (L 0).length → PageP L p) : ∀ d p, (L 0).length - p = d → p ≤ (L 0).length → InvP L p → PF L p := by
  have h6 := hS.1.2.2.2.2.2.1
  intro d
  induction d using Nat.strongRecOn with
  | _ d ih =>
    intro p hd hp hI
    by_cases hlt : p < (L 0).length
    · have hP := h p hlt
      by_cases h0 : (L 0).getD p 0 = 0
      · refine .empty hlt h0 ((free_iff hS p).mp ((page_0 h0).mp hP)) (ih ((L 0).length - (p + 1)) (by omega) (p + 1) rfl (by omega) fun q hq hv => ?_)
        by_cases e : q < p
        · have := hI q e hv; omega
        · obtain rfl : q = p := by omega
          omega
      · by_cases h4 : 1 ≤ (L 0).getD p 0 ∧ (L 0).getD p 0 ≤ 4
        · obtain ⟨k, hk⟩ : ∃ k : Nat, (L 0).getD p 0 = (k : Int) + 1 := ⟨((L 0).getD p 0 - 1).toNat, by omega⟩
          have hk4 : k < 4 := by omega
          refine .kind k hlt hk4 hk ((rooms_iff hS hL p k hk4).mp ((page_k hk4 hk).mp hP)) (ih ((L 0).length - (p + 1)) (by omega) (p + 1) rfl (by omega) fun q hq hv => ?_)
          by_cases e : q < p
          · have := hI q e hv; omega
          · obtain rfl : q = p := by omega
            omega
        · by_cases h7 : (L 0).getD p 0 = 7
          · obtain ⟨q, hQ, hv, hw, _⟩ := (page_7 h7).mp hP
            obtain ⟨hqp, _, _⟩ := hQ
            by_cases e : q < p
            · have hq := h q (by omega)
              obtain ⟨a, b, _⟩ := (page_w (by omega) (by omega) (by omega)).mp hq
              rw [wrap_small (by omega) (by omega) (by omega) (by omega)] at hw
              have := hI q e hv
              omega
            · obtain rfl : q = p := by omega
              omega
          · obtain ⟨a, b, hlen, ho, hF, hr⟩ := (page_w h0 h4 h7).mp hP
            obtain ⟨m, hm⟩ : ∃ m : Nat, (L 0).getD p 0 = (m : Int) + 8 := ⟨((L 0).getD p 0 - 8).toNat, by omega⟩
            rw [hm] at a b hlen hr
            have hr' : ∀ i, 1 ≤ i → i < m → (L 0).getD (p + i) 0 = 7 := fun i h1 h2 => hr i h1 (by omega)
            have hone : NzN (L 5) (p * 8) (m * 8) = 1 := by
              obtain ⟨m', hm'⟩ : ∃ m', m * 8 = m' + 1 := ⟨m * 8 - 1, by omega⟩
              rw [hm', NzN_one _ _ _ ho]
              intro u h1 h2
              have hf1 := (free1_iff hS p).mp hF
              by_cases e8 : u < 8
              · exact hf1 u h1 e8
              · have h7' := hr' (u / 8) (by omega) (by omega)
                obtain ⟨_, _, _, _, hfr⟩ := (page_7 h7').mp (h (p + u / 8) (by omega))
                have hz := (NzN_zero _ _ _).mp ((free_iff hS (p + u / 8)).mp hfr) (u % 8) (by omega)
                rw [show (p + u / 8) * 8 + u % 8 = p * 8 + u by omega] at hz
                exact hz
            refine .wide m hlt (by omega) hm (by omega) ho hone hr' (ih ((L 0).length - (p + m)) (by omega) (p + m) rfl (by omega) fun q hq hv => ?_)
            by_cases e : q < p
            · have := hI q e hv; omega
            · by_cases e2 : q = p
              · subst e2; omega
              · have := hr' (q - p) (by omega) (by omega)
                rw [show p + (q - p) = q by omega] at this
                omega
    · exact .done (by omega)
theorem pages_of {s : Int} {L : Nat → List Int} (hS : SlotsP s L) (hL : ListsP L) {p : Nat} (h : PF L p) : ∀ r, p ≤ r → r < (L 0).length → PageP L r := by
  have h6 := hS.1.2.2.2.2.2.1
  induction h with
  | done h => intro r h1 h2; omega
  | @empty p hp hv hz _ ih =>
    intro r h1 h2
    by_cases e : r = p
    · subst e; exact (page_0 hv).mpr ((free_iff hS _).mpr hz)
    · exact ih r (by omega) h2
  | @kind p k hp hk hv hK _ ih =>
    intro r h1 h2
    by_cases e : r = p
    · subst e; exact (page_k hk hv).mpr ((rooms_iff hS hL _ k hk).mpr hK)
    · exact ih r (by omega) h2
  | @wide p n hp hn hv hl h0 h1 hr _ ih =>
    intro r hr1 hr2
    obtain ⟨m', hm'⟩ : ∃ m', n * 8 = m' + 1 := ⟨n * 8 - 1, by omega⟩
    rw [hm', NzN_one _ _ _ h0] at h1
    by_cases e : r = p
    · subst e
      refine (page_w (by omega) (by omega) (by omega)).mpr ⟨by omega, by omega, by omega, h0, (free1_iff hS _).mpr fun u a b => h1 u a (by omega), fun i a b => hr i a (by omega)⟩
    · by_cases e2 : r < p + n
      · have h7 := hr (r - p) (by omega) (by omega)
        rw [show p + (r - p) = r by omega] at h7
        refine (page_7 h7).mpr ⟨p, ⟨by omega, fun j a b => ?_, by omega⟩, by omega, ?_, (free_iff hS r).mpr ((NzN_zero _ _ _).mpr fun u hu => ?_)⟩
        · have := hr (j - p) (by omega) (by omega)
          rw [show p + (j - p) = j by omega] at this
          exact this
        · rw [wrap_small (by omega) (by omega) (by omega) (by omega)]; omega
        · have := h1 ((r - p) * 8 + u) (by omega) (by omega)
          rw [show p * 8 + ((r - p) * 8 + u) = r * 8 + u by omega] at this
          exact this
      · exact ih r (by omega) hr2
theorem book_iff (s : Int) (L : Nat → List Int) : BookP s L ↔ ((SlotsP s L ∧ ListsP L) ∧ PF L 0) := by
  constructor
  · rintro ⟨hS, hL, hP⟩
    exact ⟨⟨hS, hL⟩, pf_of hS hL hP _ 0 rfl (by omega) fun q hq => by omega⟩
  · rintro ⟨⟨hS, hL⟩, hF⟩
    exact ⟨hS, hL, fun p hp => pages_of hS hL hF p (by omega) hp⟩
end Go.Proofs.Ytekneicikmaplaa.Bk

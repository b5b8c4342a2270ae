/- FnExactVowGuest: the law's own walk, as the row wants it. -/
import Derived.Test.YtfpdccaomhjpjaaPFnExactVowGuestx0
import Derived.Test.YtfpdccaomhjpjaaGt
import Derived.Test.YtfpdccaomhjpjaaGvg
import Derived.Test.YtfpdccaomhjpjaaHe
set_option linter.unusedVariables false
set_option linter.unusedSimpArgs false
namespace Go.Proofs.Ytfpdccaomhjpjaa.PFnExactVowGuest
open Go.RowKit Go.Proofs.YtfpdccaomhjpjaaW.PrintWords Go.Proofs.YtfpdccaomhjpjaaW.PrintLast Go.Proofs.YtfpdccaomhjpjaaW.PrintMore Go.Proofs.Ytfpdccaomhjpjaa.Gu Go.Proofs.Ytfpdccaomhjpjaa.Pl

def gOf (x : S82) : Gu := ⟨x.f0, x.f1, x.f2, x.f3, x.f4.f0, x.f4.f1, x.f4.f2, x.f4.f3, x.f5, x.f6, x.f7, x.f8, x.f9, x.f10, x.f11, x.f12, x.f13, x.f14, x.f15, x.f16, x.f17, x.f18, x.f19, x.f20, x.f21, x.f22⟩
theorem kmap {w : World} {A : Option Addr} {n : Nat} {xs : List S82} (h : Kd.C k82 w A n xs) : Kd.C kG w A n (xs.map gOf) := by
  refine ⟨by rw [List.length_map]; exact h.1, h.2.1, fun hn => ?_⟩
  obtain ⟨ad, e, hc⟩ := h.2.2 hn
  refine ⟨ad, e, fun j p hj => ?_⟩
  rw [List.getElem?_map] at hj
  obtain ⟨x, hx, rfl⟩ := Option.map_eq_some_iff.1 hj
  obtain ⟨c, hs, hK, hcell⟩ := hc j x hx
  obtain ⟨A21, c21, A22, c22, rfl, l21, g21, l22, g22⟩ := k82_open hK
  exact ⟨_, hs, ⟨A21, c21, A22, c22, rfl, ⟨g21, l21⟩, ⟨g22, l22⟩⟩, hcell⟩
theorem len_gOf {l : List S82} (h : ∀ y ∈ l, y.f18.length ≤ 9223372036854775807 ∧ y.f19.length ≤ 9223372036854775807) : ∀ g ∈ l.map gOf, g.snap.length ≤ 9223372036854775807 ∧ g.plan.length ≤ 9223372036854775807 := fun g hg => by
  obtain ⟨y, hy, rfl⟩ := List.mem_map.1 hg
  exact h y hy
def laws_FnExactVowGuest.f (l0_0 : List Int) (l0_1 : List S82) (a1 : Int) : Option Bool := if (l0_0.length ≤ 9223372036854775807 ∧ ∀ x ∈ l0_0, 0 ≤ x ∧ x ≤ 18446744073709551615) ∧ (l0_1.length ≤ 9223372036854775807 ∧ ∀ y ∈ l0_1, y.f18.length ≤ 9223372036854775807 ∧ y.f19.length ≤ 9223372036854775807) then some true else none
set_option maxRecDepth 100000 in
theorem laws_FnExactVowGuest.calls (A0_0 : Option Addr) (c0_0 : Nat) (l0_0 : List Int) (A0_1 : Option Addr) (c0_1 : Nat) (l0_1 : List (S82)) (a1 : Int) (r : Bool) (w : World) (hr0_0 : Kd.C (Kd.int .u64) w A0_0 l0_0.length l0_0) (hc0_0 : l0_0.length ≤ c0_0) (hr0_1 : Kd.C k82 w A0_1 l0_1.length l0_1) (hc0_1 : l0_1.length ≤ c0_1) (h : laws_FnExactVowGuest.f l0_0 l0_1 a1 = some r) :
    Calls Try.prog 5 #[.agg #[.slice A0_0 l0_0.length c0_0, .slice A0_1 l0_1.length c0_1], .int .i64 a1] w fun e w' => e = .returned (.bool r) ∧ Below w.heap.size w w' := by
  unfold laws_FnExactVowGuest.f at h
  by_cases q : (l0_0.length ≤ 9223372036854775807 ∧ ∀ x ∈ l0_0, 0 ≤ x ∧ x ≤ 18446744073709551615) ∧ (l0_1.length ≤ 9223372036854775807 ∧ ∀ y ∈ l0_1, y.f18.length ≤ 9223372036854775807 ∧ y.f19.length ≤ 9223372036854775807)
  · rw [if_pos q] at h
    obtain rfl := Option.some.inj h
    have hp : (chk l0_0).2.2.2 = true → pok (chk l0_0).1 (chk l0_0).2.1 (chk l0_0).2.2.1 := fun e => by
      rcases chk_cases l0_0 with h | ⟨a, b, c, h, hq, _⟩
      · rw [h] at e; cases e
      · rw [h]; exact hq
    have hk := kmap hr0_1
    have hG : GsC w A0_1 c0_1 (l0_1.map gOf) := ⟨by rw [List.length_map]; exact hk, by rw [List.length_map]; exact hc0_1⟩
    have := lawVG_calls a1 l0_0 (l0_1.map gOf) A0_0 c0_0 A0_1 c0_1 w ⟨hr0_0, hc0_0⟩ hG q.1.1 (by rw [List.length_map]; exact q.2.1) (len_gOf q.2.2) _
      (fun A c B e w hu h hl => svow_calls (Gq.checks22 l0_0 q.1.2) (fun e => Gp.asks34 (hp e)) (Gvg.hin l0_0) (fun e => Gvs.h41 (hp e)) (Gvs.h40 l0_0 q.1.2) (Gvs.h26 l0_0 q.1.2) (Gvs.h25 l0_0 q.1.2) (Gvg.hep l0_0) a1 A c B e _ w hu h hl)
      (fun A c B e w hu h hl => ivow_calls (Gq.checks29 l0_0 q.1.2) (fun e => Gp.asks38 (hp e)) (Gvg.hin l0_0) (fun e => Gvi.h71 _ _ _) (Gvi.h69 l0_0 q.1.2) (Gvi.h59 l0_0 q.1.2) (Gvi.h72 l0_0 q.1.2) (Gvg.hep l0_0) a1 A c B e _ w hu h hl)
    rw [List.length_map] at this
    exact this
  · rw [if_neg q] at h
    cases h
end Go.Proofs.Ytfpdccaomhjpjaa.PFnExactVowGuest

/- The reference's small functions over a book: walks. -/
import Derived.Test.YtekneicikmaplaaBk4
set_option linter.unusedVariables false
set_option linter.unusedSimpArgs false
namespace Go.Proofs.Ytekneicikmaplaa.Bk
open Go.RowKit Go.Proofs.YtekneicikmaplaaW.PrintWords Go.Proofs.YtekneicikmaplaaW.PrintLast Go.Proofs.YtekneicikmaplaaW.PrintMore

def kindN (s : Int) : Int := if s < 1 then -1 else if s > 4 then -1 else s - 1
theorem l3Kind_calls (s : Int) (w : World) : Calls Try.prog 66 #[.int .i64 s] w fun e w' => e = .returned (.int .i64 (kindN s)) ∧ w = w' := by
  by_cases h1 : s < 1
  · have HF : Aside0 (kindN s = -1) := ⟨if_pos h1⟩
    go_enter Try.func66, Try.ntmps66
    go_wp2
    go_ret
    exact ⟨by rw [HF.out]; rfl, rfl⟩
  · by_cases h2 : s > 4
    · have HF : Aside0 (kindN s = -1) := ⟨by unfold kindN; rw [if_neg h1, if_pos h2]⟩
      go_enter Try.func66, Try.ntmps66
      go_wp2
      go_ret
      exact ⟨by rw [HF.out]; rfl, rfl⟩
    · have HF : Aside0 (kindN s = s - 1) := ⟨by unfold kindN; rw [if_neg h1, if_neg h2]⟩
      go_enter Try.func66, Try.ntmps66
      go_wp2
      go_ret
      exact ⟨by rw [HF.out]; rfl, rfl⟩
def sizeN : Nat → Nat
  | 0 => 1
  | 1 => 2
  | 2 => 4
  | _ => 8
theorem l3Size_calls (k : Nat) (hk : k < 4) (w : World) : Calls Try.prog 67 #[.int .i64 (k : Int)] w fun e w' => e = .returned (.int .i64 (sizeN k : Nat)) ∧ Below w.heap.size w w' := by
  match k, hk with
  | 0, _ =>
    go_enter Try.func67, Try.ntmps67
    go_wp2
    go_ret
    exact ⟨rfl, below_alloc (Below.refl _ _) _⟩
  | 1, _ =>
    go_enter Try.func67, Try.ntmps67
    go_wp2
    go_ret
    exact ⟨rfl, below_alloc (Below.refl _ _) _⟩
  | 2, _ =>
    go_enter Try.func67, Try.ntmps67
    go_wp2
    go_ret
    exact ⟨rfl, below_alloc (Below.refl _ _) _⟩
  | 3, _ =>
    go_enter Try.func67, Try.ntmps67
    go_wp2
    go_ret
    exact ⟨rfl, below_alloc (Below.refl _ _) _⟩
def cnt (l : List Int) (x : Int) : Nat := l.count x
theorem cnt_succ (l : List Int) (x : Int) (k : Nat) (hk : k < l.length) : cnt (l.take (k + 1)) x = cnt (l.take k) x + (if l.getD k 0 = x then 1 else 0) := by
  unfold cnt
  rw [List.take_succ_eq_append_getElem hk, List.count_append, List.count_singleton]
  have : l.getD k 0 = l[k] := by simp [List.getD, List.getElem?_eq_getElem hk]
  rw [this]
  congr 1
  by_cases e : l[k] = x <;> simp [e]
theorem cnt_le (l : List Int) (x : Int) : cnt l x ≤ l.length := List.count_le_length
set_option maxRecDepth 100000 in
theorem l3In_calls (A : Option Addr) (c : Nat) (l : List Int) (x : Int) (w : World) (h : SlC w A c l) (hl : l.length ≤ 35184372088832) :
    Calls Try.prog 90 #[.slice A l.length c, .int .i64 x] w fun e w' => e = .returned (.int .i64 (cnt l x : Nat)) ∧ w = w' := by
  have HR := Aside0.mk h
  have HLn := Aside0.mk hl
  clear h
  go_enter Try.func90, Try.ntmps90
  go_wp2
  go_loopg [5, 6] (l.length + 1) (fun kq v5 v6 w' => ∃ k n : Nat, k ≤ l.length ∧ kq = l.length + 1 - k ∧ n ≤ k ∧ v5 = .int .i64 n ∧ v6 = .int .i64 k ∧ Aside0 (n = cnt (l.take k) x) ∧ w = w')
  case atStart => exact ⟨0, 0, by omega, by omega, by omega, rfl, rfl, ⟨by simp [cnt]⟩, rfl⟩
  case round =>
    obtain ⟨k, n, hk, rfl, hnk, rfl, rfl, HN, rfl⟩ := hrel
    by_cases hlt : k < l.length
    · obtain ⟨ad, rfl, hc⟩ := at_nat HR.out k hlt
      have hi : (k : Int) < (l.length : Int) := by omega
      have HS := Aside0.mk (cnt_succ l x k hlt)
      generalize hv : l.getD k 0 = v at hc
      rw [hv] at HS
      clear hv
      by_cases e : v = x
      · subst e
        have HS2 : Aside0 (n + 1 = cnt (l.take (k + 1)) v) := ⟨by rw [HS.out, HN.out]; simp⟩
        go_wp2
        go_roundg (l.length + 1 - (k + 1))
        case measure => omega
        case rel => exact ⟨k + 1, n + 1, by omega, rfl, by omega, by go_num, by go_num, HS2, rfl⟩
      · have HS2 : Aside0 (n = cnt (l.take (k + 1)) x) := ⟨by rw [HS.out, HN.out, if_neg e]; rfl⟩
        have hb : (v == x) = false := beq_eq_false_iff_ne.mpr e
        clear e
        go_wp2
        go_roundg (l.length + 1 - (k + 1))
        case measure => omega
        case rel => exact ⟨k + 1, n, by omega, rfl, by omega, rfl, by go_num, HS2, rfl⟩
    · have hkl : k = l.length := by omega
      have HZ : Aside0 (cnt l x = n) := ⟨by rw [HN.out, hkl, List.take_length]⟩
      go_wp2
      go_ret
      exact ⟨by rw [HZ.out]; rfl, rfl⟩
end Go.Proofs.Ytekneicikmaplaa.Bk

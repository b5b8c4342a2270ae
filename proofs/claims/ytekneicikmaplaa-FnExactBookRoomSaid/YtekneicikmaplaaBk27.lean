/- A book out of its eight lists; what a law's row tells of them. -/
import Derived.Test.YtekneicikmaplaaBk8
set_option linter.unusedVariables false
set_option linter.unusedSimpArgs false
namespace Go.Proofs.Ytekneicikmaplaa.Bk
open Go.RowKit Go.Proofs.YtekneicikmaplaaW.PrintWords Go.Proofs.YtekneicikmaplaaW.PrintLast Go.Proofs.YtekneicikmaplaaW.PrintMore

def isI64 (a : Int) : Bool := decide (-9223372036854775808 ≤ a ∧ a ≤ 9223372036854775807)
def isRow (l : List Int) : Bool := decide (l.length ≤ 9223372036854775807) && l.all isI64
theorem isI64_of {a : Int} (h : (Lit.int .i64 a).wf = true) : isI64 a = true := by
  have : -9223372036854775808 ≤ a ∧ a ≤ 9223372036854775807 := by simpa [Lit.wf, IntKind.min, IntKind.max, IntKind.bits, IntKind.signed] using h
  exact decide_eq_true this
theorem isI64_r {a : Int} (h : isI64 a = true) : -9223372036854775808 ≤ a ∧ a ≤ 9223372036854775807 := of_decide_eq_true h
theorem isRow_of {l : List Int} (h : l.length ≤ 9223372036854775807 ∧ ∀ y0 ∈ l, (Lit.int .i64 y0).wf = true) : isRow l = true := by
  unfold isRow
  rw [Bool.and_eq_true]
  exact ⟨decide_eq_true h.1, List.all_eq_true.mpr fun y hy => isI64_of (h.2 y hy)⟩
theorem isRow_r {l : List Int} (h : isRow l = true) : l.length ≤ 9223372036854775807 ∧ Wf64 l := by
  unfold isRow at h
  rw [Bool.and_eq_true] at h
  refine ⟨of_decide_eq_true h.1, fun k => ?_⟩
  by_cases hk : k < l.length
  · have hm := List.all_eq_true.mp h.2 l[k] (List.getElem_mem hk)
    have := isI64_r hm
    simpa [List.getD, List.getElem?_eq_getElem hk] using this
  · simp [List.getD, List.getElem?_eq_none (by omega : l.length ≤ k)]
def lst8 (a b c d e f g h : List Int) : Nat → List Int
  | 0 => a
  | 1 => b
  | 2 => c
  | 3 => d
  | 4 => e
  | 5 => f
  | 6 => g
  | 7 => h
  | _ => []
def adr8 (a b c d e f g h : Option Addr) : Nat → Option Addr
  | 0 => a
  | 1 => b
  | 2 => c
  | 3 => d
  | 4 => e
  | 5 => f
  | 6 => g
  | _ => h
def cap8 (a b c d e f g h : Nat) : Nat → Nat
  | 0 => a
  | 1 => b
  | 2 => c
  | 3 => d
  | 4 => e
  | 5 => f
  | 6 => g
  | _ => h
theorem lst8_over (a b c d e f g h : List Int) (i : Nat) (hi : 8 ≤ i) : lst8 a b c d e f g h i = [] := by
  match i, hi with
  | i + 8, _ => rfl
theorem lst8_all {Q : List Int → Prop} {a b c d e f g h : List Int} (h0 : Q a) (h1 : Q b) (h2 : Q c) (h3 : Q d) (h4 : Q e) (h5 : Q f) (h6 : Q g) (h7 : Q h) (hn : Q []) : ∀ i, Q (lst8 a b c d e f g h i)
  | 0 => h0
  | 1 => h1
  | 2 => h2
  | 3 => h3
  | 4 => h4
  | 5 => h5
  | 6 => h6
  | 7 => h7
  | _ + 8 => hn
theorem wf64_nil : Wf64 [] := fun k => by simp
end Go.Proofs.Ytekneicikmaplaa.Bk

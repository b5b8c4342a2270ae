/- Words of books: a book's value, its eight rows, and how they stand in a world. -/
import Derived.Test.YtekneicikmaplaaProg
import Derived.Below
import Derived.Deep.Draws
import Derived.Deep.AppendLies
import Derived.Maps.AppendAt
import Derived.OwnWalk
import Derived.Laws.BytesArg
import Derived.Laws.MakeOwn
import Derived.Laws.OwnMore
import Derived.Deep.OwnRows
import Derived.Tactics
import Derived.Lib.ConvBytes
import Derived.Laws.Slices
import Derived.WalkKit
import Derived.KernelRfl
import Derived.RowKit3
import Derived.Deep.LoopGhost
import Derived.Deep.QuietTactic
import Derived.BigQuiet
import Derived.WideLaws
import Derived.Deep.DeepCutAuto
import Derived.Deep.CutBlock
import Derived.Deep.RegionHeld3
import Derived.Laws.Rows
import Derived.Lib.AppendStr
import Derived.ArgAppend
import Derived.Laws.IdiomCopy
import Derived.OrdersHeld
import Derived.Laws.BitsLemmas
import Derived.RowKit
import Derived.WalkSpells
import Derived.Test.YtekneicikmaplaaRow
import Derived.Test.YtekneicikmaplaaWWords
import Derived.Test.YtekneicikmaplaaWLast
import Derived.Test.YtekneicikmaplaaWTab
import Derived.Test.YtekneicikmaplaaWFour
import Derived.Test.YtekneicikmaplaaWQPut
import Derived.Test.YtekneicikmaplaaWApart
import Derived.Test.YtekneicikmaplaaWArr
import Derived.Test.YtekneicikmaplaaWZeros
import Derived.Test.YtekneicikmaplaaWFoot
import Derived.Test.YtekneicikmaplaaWKept
import Derived.Test.YtekneicikmaplaaWShare
import Derived.Test.YtekneicikmaplaaWN
import Derived.Test.YtekneicikmaplaaWFootNe
import Derived.Test.YtekneicikmaplaaWAt
import Derived.Test.YtekneicikmaplaaWEqStruct
import Derived.Test.YtekneicikmaplaaWRepsOne
import Derived.Test.YtekneicikmaplaaWInv
import Derived.Test.YtekneicikmaplaaWInvWords
import Derived.Test.YtekneicikmaplaaWGuard
import Derived.Test.YtekneicikmaplaaWNEv
import Derived.Test.YtekneicikmaplaaWMore
set_option linter.unusedVariables false
set_option linter.unusedSimpArgs false
namespace Go.Proofs.Ytekneicikmaplaa.Bk
open Go.RowKit Go.Proofs.YtekneicikmaplaaW.PrintWords Go.Proofs.YtekneicikmaplaaW.PrintLast Go.Proofs.YtekneicikmaplaaW.PrintMore

theorem info3 : (Try.prog.info? 3).map (fun i => (i.zero, i.size, i.bytes)) = some (some (.int .i64 0), 1, 8) := by kernel_rfl
/-- A slice of ints that can be read in w. -/
def SlC (w : World) (A : Option Addr) (c : Nat) (l : List Int) : Prop := Kd.C (Kd.int .i64) w A l.length l ∧ l.length ≤ c
theorem SlC.below {w w1 : World} {A : Option Addr} {c : Nat} {l : List Int} (h : SlC w A c l) (hb : Below w.heap.size w w1) : SlC w1 A c l := ⟨Kd.C_below h.1 hb, h.2⟩
theorem SlC.drewN {w : World} {A : Option Addr} {c : Nat} {l : List Int} (h : SlC w A c l) (n : Nat) : SlC (w.drewN n) A c l := h
abbrev sl (A : Nat → Option Addr) (c : Nat → Nat) (L : Nat → List Int) (i : Nat) : Value := .slice (A i) (L i).length (c i)
/-- A book's cells. -/
abbrev bkCells (s : Int) (A : Nat → Option Addr) (c : Nat → Nat) (L : Nat → List Int) : Array Value :=
  #[.int .i64 s, .slice (A 0) (L 0).length (c 0), .slice (A 1) (L 1).length (c 1), .slice (A 2) (L 2).length (c 2), .slice (A 3) (L 3).length (c 3), .slice (A 4) (L 4).length (c 4), .slice (A 5) (L 5).length (c 5), .slice (A 6) (L 6).length (c 6), .slice (A 7) (L 7).length (c 7)]
/-- All rows of a book can be read. -/
def BkC (w : World) (A : Nat → Option Addr) (c : Nat → Nat) (L : Nat → List Int) : Prop := ∀ i, i < 8 → SlC w (A i) (c i) (L i)
theorem BkC.below {w w1 : World} {A : Nat → Option Addr} {c : Nat → Nat} {L : Nat → List Int} (h : BkC w A c L) (hb : Below w.heap.size w w1) : BkC w1 A c L := fun i hi => (h i hi).below hb
end Go.Proofs.Ytekneicikmaplaa.Bk

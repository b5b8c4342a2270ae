/-
  No cell of these rows narrows 'for every input' (looked for: loops, veiled, ifaces, maps, wideKeys, modest, calm, conditions, laid).
  DERIVED. THE GIVEN ROWS OF THIS SEAT. 12 by the template 'for every input the law returns true; each argument reads behind the call as it read before'; 0 by the template 'total and deterministic' (their statements: YtgeeaieapkfnoaaTotals.lean).
  GIVEN WITH THE SEED: the statements are not yours to turn. If you find one false, say at which input.
  Laid BY PROGRAM, IN A SANDBOX (cutbox-rows.mjs): the forced cells as the released guide's own fill.sh prints them over the translation d057046e72354042… (all of the seat's roots in one cut). By AI agents, Wed Nov 11 2026. No macro, syntax, notation, axiom, sorry.
-/
import Derived.Test.YtgeeaieapkfnoaaChecked
import GoSem.Claim
import GoSem.ClaimJoined
import GoSem.ClaimMapViews
import Derived.JoinedTies
import Derived.KernelRfl
namespace Go.Proofs.Ytgeeaieapkfnoaa
/- THE CELL 'sum', in the pinned program and in every row, IS THE sha256 OF THE DUMP (.gsa) THAT YtgeeaieapkfnoaaProg.lean LOADS. Nothing in Lean hashes anything: it is a label: what it is worth is what the hold of that sum in a sandbox is worth. -/
noncomputable def Try.pinned : Pinned := { name := "ytgeeaieapkfnoaa", sum := "d057046e72354042ce6400b785011a677910823a64a6233a99380f357333cb96", checked := Try.checked }
namespace Rows
def none {H : Type} : Left H := { results := [], args := [] }

/-- 'laws.FnExactPlatLoad': WHATEVER THE INPUT: true; the input reads as it did. -/
def fnExactPlatLoadSpec : ChangeSpec := { name := "fnExactPlatLoad", fn := fun _ => fun
  | [d1, d2] => { results := [.lit (.bool true)], args := [d1, d2] }
  | _ => none }
def fnExactPlatLoadRow : OpenClaim := { program := "ytgeeaieapkfnoaa", sum := "d057046e72354042ce6400b785011a677910823a64a6233a99380f357333cb96", func := "loop.example/hostel/laws.FnExactPlatLoad", spec := "fnExactPlatLoad", apart := false }
def FnExactPlatLoadSaid : Prop := fnExactPlatLoadRow.holds Try.pinned (OpenSpec.ofChange fnExactPlatLoadSpec)

/-- ITS FALSE NEIGHBOUR: 'it returns false'. Refute it at one input. -/
def fnExactPlatLoadWrong : ChangeSpec := { name := "fnExactPlatLoad", fn := fun _ => fun
  | [d1, d2] => { results := [.lit (.bool false)], args := [d1, d2] }
  | _ => none }
def FnExactPlatLoadWrongFalsely : Prop := fnExactPlatLoadRow.holds Try.pinned (OpenSpec.ofChange fnExactPlatLoadWrong)

/-- 'laws.FnExactPlatDesk': WHATEVER THE INPUT: true; the input reads as it did. -/
def fnExactPlatDeskSpec : ChangeSpec := { name := "fnExactPlatDesk", fn := fun _ => fun
  | [d1, d2] => { results := [.lit (.bool true)], args := [d1, d2] }
  | _ => none }
def fnExactPlatDeskRow : OpenClaim := { program := "ytgeeaieapkfnoaa", sum := "d057046e72354042ce6400b785011a677910823a64a6233a99380f357333cb96", func := "loop.example/hostel/laws.FnExactPlatDesk", spec := "fnExactPlatDesk", apart := false }
def FnExactPlatDeskSaid : Prop := fnExactPlatDeskRow.holds Try.pinned (OpenSpec.ofChange fnExactPlatDeskSpec)

/-- ITS FALSE NEIGHBOUR: 'it returns false'. Refute it at one input. -/
def fnExactPlatDeskWrong : ChangeSpec := { name := "fnExactPlatDesk", fn := fun _ => fun
  | [d1, d2] => { results := [.lit (.bool false)], args := [d1, d2] }
  | _ => none }
def FnExactPlatDeskWrongFalsely : Prop := fnExactPlatDeskRow.holds Try.pinned (OpenSpec.ofChange fnExactPlatDeskWrong)

/-- 'laws.FnExactPlatSize': WHATEVER THE INPUT: true; the input reads as it did. -/
def fnExactPlatSizeSpec : ChangeSpec := { name := "fnExactPlatSize", fn := fun _ => fun
  | [d] => { results := [.lit (.bool true)], args := [d] }
  | _ => none }
def fnExactPlatSizeRow : OpenClaim := { program := "ytgeeaieapkfnoaa", sum := "d057046e72354042ce6400b785011a677910823a64a6233a99380f357333cb96", func := "loop.example/hostel/laws.FnExactPlatSize", spec := "fnExactPlatSize", apart := false }
def FnExactPlatSizeSaid : Prop := fnExactPlatSizeRow.holds Try.pinned (OpenSpec.ofChange fnExactPlatSizeSpec)

/-- ITS FALSE NEIGHBOUR: 'it returns false'. Refute it at one input. -/
def fnExactPlatSizeWrong : ChangeSpec := { name := "fnExactPlatSize", fn := fun _ => fun
  | [d] => { results := [.lit (.bool false)], args := [d] }
  | _ => none }
def FnExactPlatSizeWrongFalsely : Prop := fnExactPlatSizeRow.holds Try.pinned (OpenSpec.ofChange fnExactPlatSizeWrong)

/-- 'laws.FnExactSoloMost': WHATEVER THE INPUT: true; the input reads as it did. -/
def fnExactSoloMostSpec : ChangeSpec := { name := "fnExactSoloMost", fn := fun _ => fun
  | [d] => { results := [.lit (.bool true)], args := [d] }
  | _ => none }
def fnExactSoloMostRow : OpenClaim := { program := "ytgeeaieapkfnoaa", sum := "d057046e72354042ce6400b785011a677910823a64a6233a99380f357333cb96", func := "loop.example/hostel/laws.FnExactSoloMost", spec := "fnExactSoloMost", apart := false }
def FnExactSoloMostSaid : Prop := fnExactSoloMostRow.holds Try.pinned (OpenSpec.ofChange fnExactSoloMostSpec)

/-- ITS FALSE NEIGHBOUR: 'it returns false'. Refute it at one input. -/
def fnExactSoloMostWrong : ChangeSpec := { name := "fnExactSoloMost", fn := fun _ => fun
  | [d] => { results := [.lit (.bool false)], args := [d] }
  | _ => none }
def FnExactSoloMostWrongFalsely : Prop := fnExactSoloMostRow.holds Try.pinned (OpenSpec.ofChange fnExactSoloMostWrong)

/-- 'laws.FnExactPlatSwap': WHATEVER THE INPUT: true; the input reads as it did. -/
def fnExactPlatSwapSpec : ChangeSpec := { name := "fnExactPlatSwap", fn := fun _ => fun
  | [d1, d2, d3, d4] => { results := [.lit (.bool true)], args := [d1, d2, d3, d4] }
  | _ => none }
def fnExactPlatSwapRow : OpenClaim := { program := "ytgeeaieapkfnoaa", sum := "d057046e72354042ce6400b785011a677910823a64a6233a99380f357333cb96", func := "loop.example/hostel/laws.FnExactPlatSwap", spec := "fnExactPlatSwap", apart := false }
def FnExactPlatSwapSaid : Prop := fnExactPlatSwapRow.holds Try.pinned (OpenSpec.ofChange fnExactPlatSwapSpec)

/-- ITS FALSE NEIGHBOUR: 'it returns false'. Refute it at one input. -/
def fnExactPlatSwapWrong : ChangeSpec := { name := "fnExactPlatSwap", fn := fun _ => fun
  | [d1, d2, d3, d4] => { results := [.lit (.bool false)], args := [d1, d2, d3, d4] }
  | _ => none }
def FnExactPlatSwapWrongFalsely : Prop := fnExactPlatSwapRow.holds Try.pinned (OpenSpec.ofChange fnExactPlatSwapWrong)

/-- 'laws.FnPlatSwap': WHATEVER THE INPUT: true; the input reads as it did. -/
def fnPlatSwapSpec : ChangeSpec := { name := "fnPlatSwap", fn := fun _ => fun
  | [d] => { results := [.lit (.bool true)], args := [d] }
  | _ => none }
def fnPlatSwapRow : OpenClaim := { program := "ytgeeaieapkfnoaa", sum := "d057046e72354042ce6400b785011a677910823a64a6233a99380f357333cb96", func := "loop.example/hostel/laws.FnPlatSwap", spec := "fnPlatSwap", apart := false }
def FnPlatSwapSaid : Prop := fnPlatSwapRow.holds Try.pinned (OpenSpec.ofChange fnPlatSwapSpec)

/-- ITS FALSE NEIGHBOUR: 'it returns false'. Refute it at one input. -/
def fnPlatSwapWrong : ChangeSpec := { name := "fnPlatSwap", fn := fun _ => fun
  | [d] => { results := [.lit (.bool false)], args := [d] }
  | _ => none }
def FnPlatSwapWrongFalsely : Prop := fnPlatSwapRow.holds Try.pinned (OpenSpec.ofChange fnPlatSwapWrong)

/-- 'laws.FnCellOrder': WHATEVER THE INPUT: true; the input reads as it did. -/
def fnCellOrderSpec : ChangeSpec := { name := "fnCellOrder", fn := fun _ => fun
  | [d1, d2] => { results := [.lit (.bool true)], args := [d1, d2] }
  | _ => none }
def fnCellOrderRow : OpenClaim := { program := "ytgeeaieapkfnoaa", sum := "d057046e72354042ce6400b785011a677910823a64a6233a99380f357333cb96", func := "loop.example/hostel/laws.FnCellOrder", spec := "fnCellOrder", apart := false }
def FnCellOrderSaid : Prop := fnCellOrderRow.holds Try.pinned (OpenSpec.ofChange fnCellOrderSpec)

/-- ITS FALSE NEIGHBOUR: 'it returns false'. Refute it at one input. -/
def fnCellOrderWrong : ChangeSpec := { name := "fnCellOrder", fn := fun _ => fun
  | [d1, d2] => { results := [.lit (.bool false)], args := [d1, d2] }
  | _ => none }
def FnCellOrderWrongFalsely : Prop := fnCellOrderRow.holds Try.pinned (OpenSpec.ofChange fnCellOrderWrong)

/-- 'laws.FnCell': WHATEVER THE INPUT: true; the input reads as it did. -/
def fnCellSpec : ChangeSpec := { name := "fnCell", fn := fun _ => fun
  | [d] => { results := [.lit (.bool true)], args := [d] }
  | _ => none }
def fnCellRow : OpenClaim := { program := "ytgeeaieapkfnoaa", sum := "d057046e72354042ce6400b785011a677910823a64a6233a99380f357333cb96", func := "loop.example/hostel/laws.FnCell", spec := "fnCell", apart := false }
def FnCellSaid : Prop := fnCellRow.holds Try.pinned (OpenSpec.ofChange fnCellSpec)

/-- ITS FALSE NEIGHBOUR: 'it returns false'. Refute it at one input. -/
def fnCellWrong : ChangeSpec := { name := "fnCell", fn := fun _ => fun
  | [d] => { results := [.lit (.bool false)], args := [d] }
  | _ => none }
def FnCellWrongFalsely : Prop := fnCellRow.holds Try.pinned (OpenSpec.ofChange fnCellWrong)

/-- 'laws.FnExactPlatFormat': WHATEVER THE INPUT: true; the input reads as it did. -/
def fnExactPlatFormatSpec : ChangeSpec := { name := "fnExactPlatFormat", fn := fun _ => fun
  | [d] => { results := [.lit (.bool true)], args := [d] }
  | _ => none }
def fnExactPlatFormatRow : OpenClaim := { program := "ytgeeaieapkfnoaa", sum := "d057046e72354042ce6400b785011a677910823a64a6233a99380f357333cb96", func := "loop.example/hostel/laws.FnExactPlatFormat", spec := "fnExactPlatFormat", apart := false }
def FnExactPlatFormatSaid : Prop := fnExactPlatFormatRow.holds Try.pinned (OpenSpec.ofChange fnExactPlatFormatSpec)

/-- ITS FALSE NEIGHBOUR: 'it returns false'. Refute it at one input. -/
def fnExactPlatFormatWrong : ChangeSpec := { name := "fnExactPlatFormat", fn := fun _ => fun
  | [d] => { results := [.lit (.bool false)], args := [d] }
  | _ => none }
def FnExactPlatFormatWrongFalsely : Prop := fnExactPlatFormatRow.holds Try.pinned (OpenSpec.ofChange fnExactPlatFormatWrong)

/-- 'laws.FnExactPlatCheck': WHATEVER THE INPUT: true; the input reads as it did. -/
def fnExactPlatCheckSpec : ChangeSpec := { name := "fnExactPlatCheck", fn := fun _ => fun
  | [d] => { results := [.lit (.bool true)], args := [d] }
  | _ => none }
def fnExactPlatCheckRow : OpenClaim := { program := "ytgeeaieapkfnoaa", sum := "d057046e72354042ce6400b785011a677910823a64a6233a99380f357333cb96", func := "loop.example/hostel/laws.FnExactPlatCheck", spec := "fnExactPlatCheck", apart := false }
def FnExactPlatCheckSaid : Prop := fnExactPlatCheckRow.holds Try.pinned (OpenSpec.ofChange fnExactPlatCheckSpec)

/-- ITS FALSE NEIGHBOUR: 'it returns false'. Refute it at one input. -/
def fnExactPlatCheckWrong : ChangeSpec := { name := "fnExactPlatCheck", fn := fun _ => fun
  | [d] => { results := [.lit (.bool false)], args := [d] }
  | _ => none }
def FnExactPlatCheckWrongFalsely : Prop := fnExactPlatCheckRow.holds Try.pinned (OpenSpec.ofChange fnExactPlatCheckWrong)

/-- 'laws.FnExactTermOver': WHATEVER THE INPUT: true; the input reads as it did. -/
def fnExactTermOverSpec : ChangeSpec := { name := "fnExactTermOver", fn := fun _ => fun
  | [d1, d2] => { results := [.lit (.bool true)], args := [d1, d2] }
  | _ => none }
def fnExactTermOverRow : OpenClaim := { program := "ytgeeaieapkfnoaa", sum := "d057046e72354042ce6400b785011a677910823a64a6233a99380f357333cb96", func := "loop.example/hostel/laws.FnExactTermOver", spec := "fnExactTermOver", apart := false }
def FnExactTermOverSaid : Prop := fnExactTermOverRow.holds Try.pinned (OpenSpec.ofChange fnExactTermOverSpec)

/-- ITS FALSE NEIGHBOUR: 'it returns false'. Refute it at one input. -/
def fnExactTermOverWrong : ChangeSpec := { name := "fnExactTermOver", fn := fun _ => fun
  | [d1, d2] => { results := [.lit (.bool false)], args := [d1, d2] }
  | _ => none }
def FnExactTermOverWrongFalsely : Prop := fnExactTermOverRow.holds Try.pinned (OpenSpec.ofChange fnExactTermOverWrong)

/-- 'laws.FnExactVowStamps': WHATEVER THE INPUT: true; the input reads as it did. -/
def fnExactVowStampsSpec : ChangeSpec := { name := "fnExactVowStamps", fn := fun _ => fun
  | [d] => { results := [.lit (.bool true)], args := [d] }
  | _ => none }
def fnExactVowStampsRow : OpenClaim := { program := "ytgeeaieapkfnoaa", sum := "d057046e72354042ce6400b785011a677910823a64a6233a99380f357333cb96", func := "loop.example/hostel/laws.FnExactVowStamps", spec := "fnExactVowStamps", apart := false }
def FnExactVowStampsSaid : Prop := fnExactVowStampsRow.holds Try.pinned (OpenSpec.ofChange fnExactVowStampsSpec)

/-- ITS FALSE NEIGHBOUR: 'it returns false'. Refute it at one input. -/
def fnExactVowStampsWrong : ChangeSpec := { name := "fnExactVowStamps", fn := fun _ => fun
  | [d] => { results := [.lit (.bool false)], args := [d] }
  | _ => none }
def FnExactVowStampsWrongFalsely : Prop := fnExactVowStampsRow.holds Try.pinned (OpenSpec.ofChange fnExactVowStampsWrong)

/- THE SECOND FORM. 'bulk': how many values and letters a reading holds, each counted each time it is reached (what is shared counts as often as it is met; a slice's spare places count too). A statement '..UptoSaid' is the law's where the arguments, and the package variables that the reading takes, are together of bulk at most 1048576: NARROWER than '..Said'. Prove '..Said' where nothing that the law and all that it calls make is longer than what came in: it says more and counts as full. Else prove '..UptoSaid'. A law counts once. -/
mutual
def uptoBulk {H : Type} : DataW H → Nat
  | .lit (.string bytes) => bytes.length + 1
  | .lit _ => 1
  | .nil => 1
  | .ptr d => uptoBulk d + 1
  | .slice elems spare => uptoBulkAll elems + uptoBulkAll spare + 1
  | .agg parts => uptoBulkAll parts + 1
  | .iface _ d => uptoBulk d + 1
  | .map entries => uptoBulkEntries entries + 1
  | .held _ => 1
def uptoBulkAll {H : Type} : List (DataW H) → Nat
  | [] => 0
  | d :: r => uptoBulk d + uptoBulkAll r
def uptoBulkEntries {H : Type} : List (Lit × DataW H) → Nat
  | [] => 0
  | x :: r => uptoBulkEntry x + uptoBulkEntries r
def uptoBulkEntry {H : Type} : Lit × DataW H → Nat
  | (.string bytes, d) => bytes.length + uptoBulk d + 1
  | (_, d) => uptoBulk d + 1
 end
def uptoSmall : (H : Type) → List (DataW H) → Bool := fun _ ds => decide (uptoBulkAll ds ≤ 1048576)
def OpenSpec.upto (s : _root_.Go.ChangeSpec) : _root_.Go.OpenSpec := { _root_.Go.OpenSpec.ofChange s with cond := some uptoSmall }

/-- 'laws.FnExactPlatLoad', WHERE WHAT IT READS IS OF BULK AT MOST 1048576: true; the input reads as it did. -/
def fnExactPlatLoadUptoRow : OpenClaim := { program := "ytgeeaieapkfnoaa", sum := "d057046e72354042ce6400b785011a677910823a64a6233a99380f357333cb96", func := "loop.example/hostel/laws.FnExactPlatLoad", spec := "fnExactPlatLoad", apart := false, narrowed := true }
def FnExactPlatLoadUptoSaid : Prop := fnExactPlatLoadUptoRow.holds Try.pinned (OpenSpec.upto fnExactPlatLoadSpec)

/-- 'laws.FnExactPlatDesk', WHERE WHAT IT READS IS OF BULK AT MOST 1048576: true; the input reads as it did. -/
def fnExactPlatDeskUptoRow : OpenClaim := { program := "ytgeeaieapkfnoaa", sum := "d057046e72354042ce6400b785011a677910823a64a6233a99380f357333cb96", func := "loop.example/hostel/laws.FnExactPlatDesk", spec := "fnExactPlatDesk", apart := false, narrowed := true }
def FnExactPlatDeskUptoSaid : Prop := fnExactPlatDeskUptoRow.holds Try.pinned (OpenSpec.upto fnExactPlatDeskSpec)

/-- 'laws.FnExactPlatSize', WHERE WHAT IT READS IS OF BULK AT MOST 1048576: true; the input reads as it did. -/
def fnExactPlatSizeUptoRow : OpenClaim := { program := "ytgeeaieapkfnoaa", sum := "d057046e72354042ce6400b785011a677910823a64a6233a99380f357333cb96", func := "loop.example/hostel/laws.FnExactPlatSize", spec := "fnExactPlatSize", apart := false, narrowed := true }
def FnExactPlatSizeUptoSaid : Prop := fnExactPlatSizeUptoRow.holds Try.pinned (OpenSpec.upto fnExactPlatSizeSpec)

/-- 'laws.FnExactSoloMost', WHERE WHAT IT READS IS OF BULK AT MOST 1048576: true; the input reads as it did. -/
def fnExactSoloMostUptoRow : OpenClaim := { program := "ytgeeaieapkfnoaa", sum := "d057046e72354042ce6400b785011a677910823a64a6233a99380f357333cb96", func := "loop.example/hostel/laws.FnExactSoloMost", spec := "fnExactSoloMost", apart := false, narrowed := true }
def FnExactSoloMostUptoSaid : Prop := fnExactSoloMostUptoRow.holds Try.pinned (OpenSpec.upto fnExactSoloMostSpec)

/-- 'laws.FnExactPlatSwap', WHERE WHAT IT READS IS OF BULK AT MOST 1048576: true; the input reads as it did. -/
def fnExactPlatSwapUptoRow : OpenClaim := { program := "ytgeeaieapkfnoaa", sum := "d057046e72354042ce6400b785011a677910823a64a6233a99380f357333cb96", func := "loop.example/hostel/laws.FnExactPlatSwap", spec := "fnExactPlatSwap", apart := false, narrowed := true }
def FnExactPlatSwapUptoSaid : Prop := fnExactPlatSwapUptoRow.holds Try.pinned (OpenSpec.upto fnExactPlatSwapSpec)

/-- 'laws.FnPlatSwap', WHERE WHAT IT READS IS OF BULK AT MOST 1048576: true; the input reads as it did. -/
def fnPlatSwapUptoRow : OpenClaim := { program := "ytgeeaieapkfnoaa", sum := "d057046e72354042ce6400b785011a677910823a64a6233a99380f357333cb96", func := "loop.example/hostel/laws.FnPlatSwap", spec := "fnPlatSwap", apart := false, narrowed := true }
def FnPlatSwapUptoSaid : Prop := fnPlatSwapUptoRow.holds Try.pinned (OpenSpec.upto fnPlatSwapSpec)

/-- 'laws.FnCellOrder', WHERE WHAT IT READS IS OF BULK AT MOST 1048576: true; the input reads as it did. -/
def fnCellOrderUptoRow : OpenClaim := { program := "ytgeeaieapkfnoaa", sum := "d057046e72354042ce6400b785011a677910823a64a6233a99380f357333cb96", func := "loop.example/hostel/laws.FnCellOrder", spec := "fnCellOrder", apart := false, narrowed := true }
def FnCellOrderUptoSaid : Prop := fnCellOrderUptoRow.holds Try.pinned (OpenSpec.upto fnCellOrderSpec)

/-- 'laws.FnCell', WHERE WHAT IT READS IS OF BULK AT MOST 1048576: true; the input reads as it did. -/
def fnCellUptoRow : OpenClaim := { program := "ytgeeaieapkfnoaa", sum := "d057046e72354042ce6400b785011a677910823a64a6233a99380f357333cb96", func := "loop.example/hostel/laws.FnCell", spec := "fnCell", apart := false, narrowed := true }
def FnCellUptoSaid : Prop := fnCellUptoRow.holds Try.pinned (OpenSpec.upto fnCellSpec)

/-- 'laws.FnExactPlatFormat', WHERE WHAT IT READS IS OF BULK AT MOST 1048576: true; the input reads as it did. -/
def fnExactPlatFormatUptoRow : OpenClaim := { program := "ytgeeaieapkfnoaa", sum := "d057046e72354042ce6400b785011a677910823a64a6233a99380f357333cb96", func := "loop.example/hostel/laws.FnExactPlatFormat", spec := "fnExactPlatFormat", apart := false, narrowed := true }
def FnExactPlatFormatUptoSaid : Prop := fnExactPlatFormatUptoRow.holds Try.pinned (OpenSpec.upto fnExactPlatFormatSpec)

/-- 'laws.FnExactPlatCheck', WHERE WHAT IT READS IS OF BULK AT MOST 1048576: true; the input reads as it did. -/
def fnExactPlatCheckUptoRow : OpenClaim := { program := "ytgeeaieapkfnoaa", sum := "d057046e72354042ce6400b785011a677910823a64a6233a99380f357333cb96", func := "loop.example/hostel/laws.FnExactPlatCheck", spec := "fnExactPlatCheck", apart := false, narrowed := true }
def FnExactPlatCheckUptoSaid : Prop := fnExactPlatCheckUptoRow.holds Try.pinned (OpenSpec.upto fnExactPlatCheckSpec)

/-- 'laws.FnExactTermOver', WHERE WHAT IT READS IS OF BULK AT MOST 1048576: true; the input reads as it did. -/
def fnExactTermOverUptoRow : OpenClaim := { program := "ytgeeaieapkfnoaa", sum := "d057046e72354042ce6400b785011a677910823a64a6233a99380f357333cb96", func := "loop.example/hostel/laws.FnExactTermOver", spec := "fnExactTermOver", apart := false, narrowed := true }
def FnExactTermOverUptoSaid : Prop := fnExactTermOverUptoRow.holds Try.pinned (OpenSpec.upto fnExactTermOverSpec)

/-- 'laws.FnExactVowStamps', WHERE WHAT IT READS IS OF BULK AT MOST 1048576: true; the input reads as it did. -/
def fnExactVowStampsUptoRow : OpenClaim := { program := "ytgeeaieapkfnoaa", sum := "d057046e72354042ce6400b785011a677910823a64a6233a99380f357333cb96", func := "loop.example/hostel/laws.FnExactVowStamps", spec := "fnExactVowStamps", apart := false, narrowed := true }
def FnExactVowStampsUptoSaid : Prop := fnExactVowStampsUptoRow.holds Try.pinned (OpenSpec.upto fnExactVowStampsSpec)

end Rows
end Go.Proofs.Ytgeeaieapkfnoaa

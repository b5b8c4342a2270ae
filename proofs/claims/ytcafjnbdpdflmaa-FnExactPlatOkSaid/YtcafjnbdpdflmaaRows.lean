/-
  No cell of these rows narrows 'for every input' (looked for: loops, veiled, ifaces, maps, wideKeys, modest, calm, conditions, laid).
  DERIVED. THE GIVEN ROWS OF THIS SEAT. 12 by the template 'for every input the law returns true; each argument reads behind the call as it read before'; 0 by the template 'total and deterministic' (their statements: YtcafjnbdpdflmaaTotals.lean).
  GIVEN WITH THE SEED: the statements are not yours to turn. If you find one false, say at which input.
  Laid BY PROGRAM, IN A SANDBOX (cutbox-rows.mjs): the forced cells as the released guide's own fill.sh prints them over the translation bfd2017e62c0e0aa… (all of the seat's roots in one cut). By AI agents, Wed Nov 11 2026. No macro, syntax, notation, axiom, sorry.
-/
import Derived.Test.YtcafjnbdpdflmaaChecked
import GoSem.Claim
import GoSem.ClaimJoined
import GoSem.ClaimMapViews
import Derived.JoinedTies
import Derived.KernelRfl
namespace Go.Proofs.Ytcafjnbdpdflmaa
/- THE CELL 'sum', in the pinned program and in every row, IS THE sha256 OF THE DUMP (.gsa) THAT YtcafjnbdpdflmaaProg.lean LOADS. Nothing in Lean hashes anything: it is a label: what it is worth is what the hold of that sum in a sandbox is worth. -/
noncomputable def Try.pinned : Pinned := { name := "ytcafjnbdpdflmaa", sum := "bfd2017e62c0e0aae4e3435d1e0762b81f96e79d5334af216df1d6dd5a87fc7a", checked := Try.checked }
namespace Rows
def none {H : Type} : Left H := { results := [], args := [] }

/-- 'laws.FnExactConstants': WHATEVER THE INPUT: true; the input reads as it did. -/
def fnExactConstantsSpec : ChangeSpec := { name := "fnExactConstants", fn := fun _ => fun
  | [] => { results := [.lit (.bool true)], args := [] }
  | _ => none }
def fnExactConstantsRow : OpenClaim := { program := "ytcafjnbdpdflmaa", sum := "bfd2017e62c0e0aae4e3435d1e0762b81f96e79d5334af216df1d6dd5a87fc7a", func := "loop.example/hostel/laws.FnExactConstants", spec := "fnExactConstants", apart := false }
def FnExactConstantsSaid : Prop := fnExactConstantsRow.holds Try.pinned (OpenSpec.ofChange fnExactConstantsSpec)

/-- ITS FALSE NEIGHBOUR: 'it returns false'. Refute it at one input. -/
def fnExactConstantsWrong : ChangeSpec := { name := "fnExactConstants", fn := fun _ => fun
  | [] => { results := [.lit (.bool false)], args := [] }
  | _ => none }
def FnExactConstantsWrongFalsely : Prop := fnExactConstantsRow.holds Try.pinned (OpenSpec.ofChange fnExactConstantsWrong)

/-- 'laws.FnExactCellStamp': WHATEVER THE INPUT: true; the input reads as it did. -/
def fnExactCellStampSpec : ChangeSpec := { name := "fnExactCellStamp", fn := fun _ => fun
  | [d] => { results := [.lit (.bool true)], args := [d] }
  | _ => none }
def fnExactCellStampRow : OpenClaim := { program := "ytcafjnbdpdflmaa", sum := "bfd2017e62c0e0aae4e3435d1e0762b81f96e79d5334af216df1d6dd5a87fc7a", func := "loop.example/hostel/laws.FnExactCellStamp", spec := "fnExactCellStamp", apart := false }
def FnExactCellStampSaid : Prop := fnExactCellStampRow.holds Try.pinned (OpenSpec.ofChange fnExactCellStampSpec)

/-- ITS FALSE NEIGHBOUR: 'it returns false'. Refute it at one input. -/
def fnExactCellStampWrong : ChangeSpec := { name := "fnExactCellStamp", fn := fun _ => fun
  | [d] => { results := [.lit (.bool false)], args := [d] }
  | _ => none }
def FnExactCellStampWrongFalsely : Prop := fnExactCellStampRow.holds Try.pinned (OpenSpec.ofChange fnExactCellStampWrong)

/-- 'laws.FnExactCellVal': WHATEVER THE INPUT: true; the input reads as it did. -/
def fnExactCellValSpec : ChangeSpec := { name := "fnExactCellVal", fn := fun _ => fun
  | [d] => { results := [.lit (.bool true)], args := [d] }
  | _ => none }
def fnExactCellValRow : OpenClaim := { program := "ytcafjnbdpdflmaa", sum := "bfd2017e62c0e0aae4e3435d1e0762b81f96e79d5334af216df1d6dd5a87fc7a", func := "loop.example/hostel/laws.FnExactCellVal", spec := "fnExactCellVal", apart := false }
def FnExactCellValSaid : Prop := fnExactCellValRow.holds Try.pinned (OpenSpec.ofChange fnExactCellValSpec)

/-- ITS FALSE NEIGHBOUR: 'it returns false'. Refute it at one input. -/
def fnExactCellValWrong : ChangeSpec := { name := "fnExactCellVal", fn := fun _ => fun
  | [d] => { results := [.lit (.bool false)], args := [d] }
  | _ => none }
def FnExactCellValWrongFalsely : Prop := fnExactCellValRow.holds Try.pinned (OpenSpec.ofChange fnExactCellValWrong)

/-- 'laws.FnExactCellRegOf': WHATEVER THE INPUT: true; the input reads as it did. -/
def fnExactCellRegOfSpec : ChangeSpec := { name := "fnExactCellRegOf", fn := fun _ => fun
  | [d] => { results := [.lit (.bool true)], args := [d] }
  | _ => none }
def fnExactCellRegOfRow : OpenClaim := { program := "ytcafjnbdpdflmaa", sum := "bfd2017e62c0e0aae4e3435d1e0762b81f96e79d5334af216df1d6dd5a87fc7a", func := "loop.example/hostel/laws.FnExactCellRegOf", spec := "fnExactCellRegOf", apart := false }
def FnExactCellRegOfSaid : Prop := fnExactCellRegOfRow.holds Try.pinned (OpenSpec.ofChange fnExactCellRegOfSpec)

/-- ITS FALSE NEIGHBOUR: 'it returns false'. Refute it at one input. -/
def fnExactCellRegOfWrong : ChangeSpec := { name := "fnExactCellRegOf", fn := fun _ => fun
  | [d] => { results := [.lit (.bool false)], args := [d] }
  | _ => none }
def FnExactCellRegOfWrongFalsely : Prop := fnExactCellRegOfRow.holds Try.pinned (OpenSpec.ofChange fnExactCellRegOfWrong)

/-- 'laws.FnExactCellEntryOf': WHATEVER THE INPUT: true; the input reads as it did. -/
def fnExactCellEntryOfSpec : ChangeSpec := { name := "fnExactCellEntryOf", fn := fun _ => fun
  | [d] => { results := [.lit (.bool true)], args := [d] }
  | _ => none }
def fnExactCellEntryOfRow : OpenClaim := { program := "ytcafjnbdpdflmaa", sum := "bfd2017e62c0e0aae4e3435d1e0762b81f96e79d5334af216df1d6dd5a87fc7a", func := "loop.example/hostel/laws.FnExactCellEntryOf", spec := "fnExactCellEntryOf", apart := false }
def FnExactCellEntryOfSaid : Prop := fnExactCellEntryOfRow.holds Try.pinned (OpenSpec.ofChange fnExactCellEntryOfSpec)

/-- ITS FALSE NEIGHBOUR: 'it returns false'. Refute it at one input. -/
def fnExactCellEntryOfWrong : ChangeSpec := { name := "fnExactCellEntryOf", fn := fun _ => fun
  | [d] => { results := [.lit (.bool false)], args := [d] }
  | _ => none }
def FnExactCellEntryOfWrongFalsely : Prop := fnExactCellEntryOfRow.holds Try.pinned (OpenSpec.ofChange fnExactCellEntryOfWrong)

/-- 'laws.FnExactCellDoorOf': WHATEVER THE INPUT: true; the input reads as it did. -/
def fnExactCellDoorOfSpec : ChangeSpec := { name := "fnExactCellDoorOf", fn := fun _ => fun
  | [d] => { results := [.lit (.bool true)], args := [d] }
  | _ => none }
def fnExactCellDoorOfRow : OpenClaim := { program := "ytcafjnbdpdflmaa", sum := "bfd2017e62c0e0aae4e3435d1e0762b81f96e79d5334af216df1d6dd5a87fc7a", func := "loop.example/hostel/laws.FnExactCellDoorOf", spec := "fnExactCellDoorOf", apart := false }
def FnExactCellDoorOfSaid : Prop := fnExactCellDoorOfRow.holds Try.pinned (OpenSpec.ofChange fnExactCellDoorOfSpec)

/-- ITS FALSE NEIGHBOUR: 'it returns false'. Refute it at one input. -/
def fnExactCellDoorOfWrong : ChangeSpec := { name := "fnExactCellDoorOf", fn := fun _ => fun
  | [d] => { results := [.lit (.bool false)], args := [d] }
  | _ => none }
def FnExactCellDoorOfWrongFalsely : Prop := fnExactCellDoorOfRow.holds Try.pinned (OpenSpec.ofChange fnExactCellDoorOfWrong)

/-- 'laws.FnExactPlatOk': WHATEVER THE INPUT: true; the input reads as it did. -/
def fnExactPlatOkSpec : ChangeSpec := { name := "fnExactPlatOk", fn := fun _ => fun
  | [d] => { results := [.lit (.bool true)], args := [d] }
  | _ => none }
def fnExactPlatOkRow : OpenClaim := { program := "ytcafjnbdpdflmaa", sum := "bfd2017e62c0e0aae4e3435d1e0762b81f96e79d5334af216df1d6dd5a87fc7a", func := "loop.example/hostel/laws.FnExactPlatOk", spec := "fnExactPlatOk", apart := false }
def FnExactPlatOkSaid : Prop := fnExactPlatOkRow.holds Try.pinned (OpenSpec.ofChange fnExactPlatOkSpec)

/-- ITS FALSE NEIGHBOUR: 'it returns false'. Refute it at one input. -/
def fnExactPlatOkWrong : ChangeSpec := { name := "fnExactPlatOk", fn := fun _ => fun
  | [d] => { results := [.lit (.bool false)], args := [d] }
  | _ => none }
def FnExactPlatOkWrongFalsely : Prop := fnExactPlatOkRow.holds Try.pinned (OpenSpec.ofChange fnExactPlatOkWrong)

/-- 'laws.FnExactCellPack': WHATEVER THE INPUT: true; the input reads as it did. -/
def fnExactCellPackSpec : ChangeSpec := { name := "fnExactCellPack", fn := fun _ => fun
  | [d1, d2] => { results := [.lit (.bool true)], args := [d1, d2] }
  | _ => none }
def fnExactCellPackRow : OpenClaim := { program := "ytcafjnbdpdflmaa", sum := "bfd2017e62c0e0aae4e3435d1e0762b81f96e79d5334af216df1d6dd5a87fc7a", func := "loop.example/hostel/laws.FnExactCellPack", spec := "fnExactCellPack", apart := false }
def FnExactCellPackSaid : Prop := fnExactCellPackRow.holds Try.pinned (OpenSpec.ofChange fnExactCellPackSpec)

/-- ITS FALSE NEIGHBOUR: 'it returns false'. Refute it at one input. -/
def fnExactCellPackWrong : ChangeSpec := { name := "fnExactCellPack", fn := fun _ => fun
  | [d1, d2] => { results := [.lit (.bool false)], args := [d1, d2] }
  | _ => none }
def FnExactCellPackWrongFalsely : Prop := fnExactCellPackRow.holds Try.pinned (OpenSpec.ofChange fnExactCellPackWrong)

/-- 'laws.FnExactCellDoor': WHATEVER THE INPUT: true; the input reads as it did. -/
def fnExactCellDoorSpec : ChangeSpec := { name := "fnExactCellDoor", fn := fun _ => fun
  | [d1, d2, d3, d4] => { results := [.lit (.bool true)], args := [d1, d2, d3, d4] }
  | _ => none }
def fnExactCellDoorRow : OpenClaim := { program := "ytcafjnbdpdflmaa", sum := "bfd2017e62c0e0aae4e3435d1e0762b81f96e79d5334af216df1d6dd5a87fc7a", func := "loop.example/hostel/laws.FnExactCellDoor", spec := "fnExactCellDoor", apart := false }
def FnExactCellDoorSaid : Prop := fnExactCellDoorRow.holds Try.pinned (OpenSpec.ofChange fnExactCellDoorSpec)

/-- ITS FALSE NEIGHBOUR: 'it returns false'. Refute it at one input. -/
def fnExactCellDoorWrong : ChangeSpec := { name := "fnExactCellDoor", fn := fun _ => fun
  | [d1, d2, d3, d4] => { results := [.lit (.bool false)], args := [d1, d2, d3, d4] }
  | _ => none }
def FnExactCellDoorWrongFalsely : Prop := fnExactCellDoorRow.holds Try.pinned (OpenSpec.ofChange fnExactCellDoorWrong)

/-- 'laws.FnExactCellEntry': WHATEVER THE INPUT: true; the input reads as it did. -/
def fnExactCellEntrySpec : ChangeSpec := { name := "fnExactCellEntry", fn := fun _ => fun
  | [d1, d2, d3] => { results := [.lit (.bool true)], args := [d1, d2, d3] }
  | _ => none }
def fnExactCellEntryRow : OpenClaim := { program := "ytcafjnbdpdflmaa", sum := "bfd2017e62c0e0aae4e3435d1e0762b81f96e79d5334af216df1d6dd5a87fc7a", func := "loop.example/hostel/laws.FnExactCellEntry", spec := "fnExactCellEntry", apart := false }
def FnExactCellEntrySaid : Prop := fnExactCellEntryRow.holds Try.pinned (OpenSpec.ofChange fnExactCellEntrySpec)

/-- ITS FALSE NEIGHBOUR: 'it returns false'. Refute it at one input. -/
def fnExactCellEntryWrong : ChangeSpec := { name := "fnExactCellEntry", fn := fun _ => fun
  | [d1, d2, d3] => { results := [.lit (.bool false)], args := [d1, d2, d3] }
  | _ => none }
def FnExactCellEntryWrongFalsely : Prop := fnExactCellEntryRow.holds Try.pinned (OpenSpec.ofChange fnExactCellEntryWrong)

/-- 'laws.FnExactCellReg': WHATEVER THE INPUT: true; the input reads as it did. -/
def fnExactCellRegSpec : ChangeSpec := { name := "fnExactCellReg", fn := fun _ => fun
  | [d1, d2, d3] => { results := [.lit (.bool true)], args := [d1, d2, d3] }
  | _ => none }
def fnExactCellRegRow : OpenClaim := { program := "ytcafjnbdpdflmaa", sum := "bfd2017e62c0e0aae4e3435d1e0762b81f96e79d5334af216df1d6dd5a87fc7a", func := "loop.example/hostel/laws.FnExactCellReg", spec := "fnExactCellReg", apart := false }
def FnExactCellRegSaid : Prop := fnExactCellRegRow.holds Try.pinned (OpenSpec.ofChange fnExactCellRegSpec)

/-- ITS FALSE NEIGHBOUR: 'it returns false'. Refute it at one input. -/
def fnExactCellRegWrong : ChangeSpec := { name := "fnExactCellReg", fn := fun _ => fun
  | [d1, d2, d3] => { results := [.lit (.bool false)], args := [d1, d2, d3] }
  | _ => none }
def FnExactCellRegWrongFalsely : Prop := fnExactCellRegRow.holds Try.pinned (OpenSpec.ofChange fnExactCellRegWrong)

/-- 'laws.FnExactBookKind': WHATEVER THE INPUT: true; the input reads as it did. -/
def fnExactBookKindSpec : ChangeSpec := { name := "fnExactBookKind", fn := fun _ => fun
  | [d] => { results := [.lit (.bool true)], args := [d] }
  | _ => none }
def fnExactBookKindRow : OpenClaim := { program := "ytcafjnbdpdflmaa", sum := "bfd2017e62c0e0aae4e3435d1e0762b81f96e79d5334af216df1d6dd5a87fc7a", func := "loop.example/hostel/laws.FnExactBookKind", spec := "fnExactBookKind", apart := false }
def FnExactBookKindSaid : Prop := fnExactBookKindRow.holds Try.pinned (OpenSpec.ofChange fnExactBookKindSpec)

/-- ITS FALSE NEIGHBOUR: 'it returns false'. Refute it at one input. -/
def fnExactBookKindWrong : ChangeSpec := { name := "fnExactBookKind", fn := fun _ => fun
  | [d] => { results := [.lit (.bool false)], args := [d] }
  | _ => none }
def FnExactBookKindWrongFalsely : Prop := fnExactBookKindRow.holds Try.pinned (OpenSpec.ofChange fnExactBookKindWrong)

/- THE SECOND FORM. 'bulk': how many values and letters a reading holds, each counted each time it is reached (what is shared counts as often as it is met; a slice's spare places count too). A statement '..UptoSaid' is the law's where the arguments, and the package variables that the reading takes, are together of bulk at most 1048576: NARROWER than '..Said'. Prove '..Said' where nothing that the law and all that it calls make is longer than what came in: it says more and counts as full. Else prove '..UptoSaid'. A law counts once. -/
mutual
def uptoBulk {H : Type} : DataW H → Nat
  | .lit (.string bytes) => bytes.length + 1
  | .lit _ => 1
  | .nil => 1
  | .ptr d => uptoBulk d + 1
  | .slice elems spare => uptoBulkAll elems + uptoBulkAll spare + 1
  | .agg parts => uptoBulkAll parts + 1
  | .iface _ d => uptoBulk d + 1
  | .map entries => uptoBulkEntries entries + 1
  | .held _ => 1
def uptoBulkAll {H : Type} : List (DataW H) → Nat
  | [] => 0
  | d :: r => uptoBulk d + uptoBulkAll r
def uptoBulkEntries {H : Type} : List (Lit × DataW H) → Nat
  | [] => 0
  | x :: r => uptoBulkEntry x + uptoBulkEntries r
def uptoBulkEntry {H : Type} : Lit × DataW H → Nat
  | (.string bytes, d) => bytes.length + uptoBulk d + 1
  | (_, d) => uptoBulk d + 1
 end
def uptoSmall : (H : Type) → List (DataW H) → Bool := fun _ ds => decide (uptoBulkAll ds ≤ 1048576)
def OpenSpec.upto (s : _root_.Go.ChangeSpec) : _root_.Go.OpenSpec := { _root_.Go.OpenSpec.ofChange s with cond := some uptoSmall }

/-- 'laws.FnExactConstants', WHERE WHAT IT READS IS OF BULK AT MOST 1048576: true; the input reads as it did. -/
def fnExactConstantsUptoRow : OpenClaim := { program := "ytcafjnbdpdflmaa", sum := "bfd2017e62c0e0aae4e3435d1e0762b81f96e79d5334af216df1d6dd5a87fc7a", func := "loop.example/hostel/laws.FnExactConstants", spec := "fnExactConstants", apart := false, narrowed := true }
def FnExactConstantsUptoSaid : Prop := fnExactConstantsUptoRow.holds Try.pinned (OpenSpec.upto fnExactConstantsSpec)

/-- 'laws.FnExactCellStamp', WHERE WHAT IT READS IS OF BULK AT MOST 1048576: true; the input reads as it did. -/
def fnExactCellStampUptoRow : OpenClaim := { program := "ytcafjnbdpdflmaa", sum := "bfd2017e62c0e0aae4e3435d1e0762b81f96e79d5334af216df1d6dd5a87fc7a", func := "loop.example/hostel/laws.FnExactCellStamp", spec := "fnExactCellStamp", apart := false, narrowed := true }
def FnExactCellStampUptoSaid : Prop := fnExactCellStampUptoRow.holds Try.pinned (OpenSpec.upto fnExactCellStampSpec)

/-- 'laws.FnExactCellVal', WHERE WHAT IT READS IS OF BULK AT MOST 1048576: true; the input reads as it did. -/
def fnExactCellValUptoRow : OpenClaim := { program := "ytcafjnbdpdflmaa", sum := "bfd2017e62c0e0aae4e3435d1e0762b81f96e79d5334af216df1d6dd5a87fc7a", func := "loop.example/hostel/laws.FnExactCellVal", spec := "fnExactCellVal", apart := false, narrowed := true }
def FnExactCellValUptoSaid : Prop := fnExactCellValUptoRow.holds Try.pinned (OpenSpec.upto fnExactCellValSpec)

/-- 'laws.FnExactCellRegOf', WHERE WHAT IT READS IS OF BULK AT MOST 1048576: true; the input reads as it did. -/
def fnExactCellRegOfUptoRow : OpenClaim := { program := "ytcafjnbdpdflmaa", sum := "bfd2017e62c0e0aae4e3435d1e0762b81f96e79d5334af216df1d6dd5a87fc7a", func := "loop.example/hostel/laws.FnExactCellRegOf", spec := "fnExactCellRegOf", apart := false, narrowed := true }
def FnExactCellRegOfUptoSaid : Prop := fnExactCellRegOfUptoRow.holds Try.pinned (OpenSpec.upto fnExactCellRegOfSpec)

/-- 'laws.FnExactCellEntryOf', WHERE WHAT IT READS IS OF BULK AT MOST 1048576: true; the input reads as it did. -/
def fnExactCellEntryOfUptoRow : OpenClaim := { program := "ytcafjnbdpdflmaa", sum := "bfd2017e62c0e0aae4e3435d1e0762b81f96e79d5334af216df1d6dd5a87fc7a", func := "loop.example/hostel/laws.FnExactCellEntryOf", spec := "fnExactCellEntryOf", apart := false, narrowed := true }
def FnExactCellEntryOfUptoSaid : Prop := fnExactCellEntryOfUptoRow.holds Try.pinned (OpenSpec.upto fnExactCellEntryOfSpec)

/-- 'laws.FnExactCellDoorOf', WHERE WHAT IT READS IS OF BULK AT MOST 1048576: true; the input reads as it did. -/
def fnExactCellDoorOfUptoRow : OpenClaim := { program := "ytcafjnbdpdflmaa", sum := "bfd2017e62c0e0aae4e3435d1e0762b81f96e79d5334af216df1d6dd5a87fc7a", func := "loop.example/hostel/laws.FnExactCellDoorOf", spec := "fnExactCellDoorOf", apart := false, narrowed := true }
def FnExactCellDoorOfUptoSaid : Prop := fnExactCellDoorOfUptoRow.holds Try.pinned (OpenSpec.upto fnExactCellDoorOfSpec)

/-- 'laws.FnExactPlatOk', WHERE WHAT IT READS IS OF BULK AT MOST 1048576: true; the input reads as it did. -/
def fnExactPlatOkUptoRow : OpenClaim := { program := "ytcafjnbdpdflmaa", sum := "bfd2017e62c0e0aae4e3435d1e0762b81f96e79d5334af216df1d6dd5a87fc7a", func := "loop.example/hostel/laws.FnExactPlatOk", spec := "fnExactPlatOk", apart := false, narrowed := true }
def FnExactPlatOkUptoSaid : Prop := fnExactPlatOkUptoRow.holds Try.pinned (OpenSpec.upto fnExactPlatOkSpec)

/-- 'laws.FnExactCellPack', WHERE WHAT IT READS IS OF BULK AT MOST 1048576: true; the input reads as it did. -/
def fnExactCellPackUptoRow : OpenClaim := { program := "ytcafjnbdpdflmaa", sum := "bfd2017e62c0e0aae4e3435d1e0762b81f96e79d5334af216df1d6dd5a87fc7a", func := "loop.example/hostel/laws.FnExactCellPack", spec := "fnExactCellPack", apart := false, narrowed := true }
def FnExactCellPackUptoSaid : Prop := fnExactCellPackUptoRow.holds Try.pinned (OpenSpec.upto fnExactCellPackSpec)

/-- 'laws.FnExactCellDoor', WHERE WHAT IT READS IS OF BULK AT MOST 1048576: true; the input reads as it did. -/
def fnExactCellDoorUptoRow : OpenClaim := { program := "ytcafjnbdpdflmaa", sum := "bfd2017e62c0e0aae4e3435d1e0762b81f96e79d5334af216df1d6dd5a87fc7a", func := "loop.example/hostel/laws.FnExactCellDoor", spec := "fnExactCellDoor", apart := false, narrowed := true }
def FnExactCellDoorUptoSaid : Prop := fnExactCellDoorUptoRow.holds Try.pinned (OpenSpec.upto fnExactCellDoorSpec)

/-- 'laws.FnExactCellEntry', WHERE WHAT IT READS IS OF BULK AT MOST 1048576: true; the input reads as it did. -/
def fnExactCellEntryUptoRow : OpenClaim := { program := "ytcafjnbdpdflmaa", sum := "bfd2017e62c0e0aae4e3435d1e0762b81f96e79d5334af216df1d6dd5a87fc7a", func := "loop.example/hostel/laws.FnExactCellEntry", spec := "fnExactCellEntry", apart := false, narrowed := true }
def FnExactCellEntryUptoSaid : Prop := fnExactCellEntryUptoRow.holds Try.pinned (OpenSpec.upto fnExactCellEntrySpec)

/-- 'laws.FnExactCellReg', WHERE WHAT IT READS IS OF BULK AT MOST 1048576: true; the input reads as it did. -/
def fnExactCellRegUptoRow : OpenClaim := { program := "ytcafjnbdpdflmaa", sum := "bfd2017e62c0e0aae4e3435d1e0762b81f96e79d5334af216df1d6dd5a87fc7a", func := "loop.example/hostel/laws.FnExactCellReg", spec := "fnExactCellReg", apart := false, narrowed := true }
def FnExactCellRegUptoSaid : Prop := fnExactCellRegUptoRow.holds Try.pinned (OpenSpec.upto fnExactCellRegSpec)

/-- 'laws.FnExactBookKind', WHERE WHAT IT READS IS OF BULK AT MOST 1048576: true; the input reads as it did. -/
def fnExactBookKindUptoRow : OpenClaim := { program := "ytcafjnbdpdflmaa", sum := "bfd2017e62c0e0aae4e3435d1e0762b81f96e79d5334af216df1d6dd5a87fc7a", func := "loop.example/hostel/laws.FnExactBookKind", spec := "fnExactBookKind", apart := false, narrowed := true }
def FnExactBookKindUptoSaid : Prop := fnExactBookKindUptoRow.holds Try.pinned (OpenSpec.upto fnExactBookKindSpec)

end Rows
end Go.Proofs.Ytcafjnbdpdflmaa

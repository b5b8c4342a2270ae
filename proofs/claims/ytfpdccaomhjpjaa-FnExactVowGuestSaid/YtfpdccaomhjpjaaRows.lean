/-
  No cell of these rows narrows 'for every input' (looked for: loops, veiled, ifaces, maps, wideKeys, modest, calm, conditions, laid).
  DERIVED. THE GIVEN ROWS OF THIS SEAT. 4 by the template 'for every input the law returns true; each argument reads behind the call as it read before'; 0 by the template 'total and deterministic' (their statements: YtfpdccaomhjpjaaTotals.lean).
  GIVEN WITH THE SEED: the statements are not yours to turn. If you find one false, say at which input.
  Laid BY PROGRAM, IN A SANDBOX (cutbox-rows.mjs): the forced cells as the released guide's own fill.sh prints them over the translation 84bc6457093c8fa1… (all of the seat's roots in one cut). By AI agents, Wed Nov 11 2026. No macro, syntax, notation, axiom, sorry.
-/
import Derived.Test.YtfpdccaomhjpjaaChecked
import GoSem.Claim
import GoSem.ClaimJoined
import GoSem.ClaimMapViews
import Derived.JoinedTies
import Derived.KernelRfl
namespace Go.Proofs.Ytfpdccaomhjpjaa
/- THE CELL 'sum', in the pinned program and in every row, IS THE sha256 OF THE DUMP (.gsa) THAT YtfpdccaomhjpjaaProg.lean LOADS. Nothing in Lean hashes anything: it is a label: what it is worth is what the hold of that sum in a sandbox is worth. -/
noncomputable def Try.pinned : Pinned := { name := "ytfpdccaomhjpjaa", sum := "84bc6457093c8fa17c73281b05d78304c5590ebbff8943c7a976a1ffd45ebe1a", checked := Try.checked }
namespace Rows
def none {H : Type} : Left H := { results := [], args := [] }

/-- 'laws.FnExactCensDone': WHATEVER THE INPUT: true; the input reads as it did. -/
def fnExactCensDoneSpec : ChangeSpec := { name := "fnExactCensDone", fn := fun _ => fun
  | [d] => { results := [.lit (.bool true)], args := [d] }
  | _ => none }
def fnExactCensDoneRow : OpenClaim := { program := "ytfpdccaomhjpjaa", sum := "84bc6457093c8fa17c73281b05d78304c5590ebbff8943c7a976a1ffd45ebe1a", func := "loop.example/hostel/laws.FnExactCensDone", spec := "fnExactCensDone", apart := false }
def FnExactCensDoneSaid : Prop := fnExactCensDoneRow.holds Try.pinned (OpenSpec.ofChange fnExactCensDoneSpec)

/-- ITS FALSE NEIGHBOUR: 'it returns false'. Refute it at one input. -/
def fnExactCensDoneWrong : ChangeSpec := { name := "fnExactCensDone", fn := fun _ => fun
  | [d] => { results := [.lit (.bool false)], args := [d] }
  | _ => none }
def FnExactCensDoneWrongFalsely : Prop := fnExactCensDoneRow.holds Try.pinned (OpenSpec.ofChange fnExactCensDoneWrong)

/-- 'laws.FnExactWorldOk': WHATEVER THE INPUT: true; the input reads as it did. -/
def fnExactWorldOkSpec : ChangeSpec := { name := "fnExactWorldOk", fn := fun _ => fun
  | [d] => { results := [.lit (.bool true)], args := [d] }
  | _ => none }
def fnExactWorldOkRow : OpenClaim := { program := "ytfpdccaomhjpjaa", sum := "84bc6457093c8fa17c73281b05d78304c5590ebbff8943c7a976a1ffd45ebe1a", func := "loop.example/hostel/laws.FnExactWorldOk", spec := "fnExactWorldOk", unfollowed := true, recurses := true, apart := false }
def FnExactWorldOkSaid : Prop := fnExactWorldOkRow.holds Try.pinned (OpenSpec.ofChange fnExactWorldOkSpec)

/-- ITS FALSE NEIGHBOUR: 'it returns false'. Refute it at one input. -/
def fnExactWorldOkWrong : ChangeSpec := { name := "fnExactWorldOk", fn := fun _ => fun
  | [d] => { results := [.lit (.bool false)], args := [d] }
  | _ => none }
def FnExactWorldOkWrongFalsely : Prop := fnExactWorldOkRow.holds Try.pinned (OpenSpec.ofChange fnExactWorldOkWrong)

/-- 'laws.FnExactVowGuest': WHATEVER THE INPUT: true; the input reads as it did. -/
def fnExactVowGuestSpec : ChangeSpec := { name := "fnExactVowGuest", fn := fun _ => fun
  | [d1, d2] => { results := [.lit (.bool true)], args := [d1, d2] }
  | _ => none }
def fnExactVowGuestRow : OpenClaim := { program := "ytfpdccaomhjpjaa", sum := "84bc6457093c8fa17c73281b05d78304c5590ebbff8943c7a976a1ffd45ebe1a", func := "loop.example/hostel/laws.FnExactVowGuest", spec := "fnExactVowGuest", unfollowed := true, recurses := true, apart := false }
def FnExactVowGuestSaid : Prop := fnExactVowGuestRow.holds Try.pinned (OpenSpec.ofChange fnExactVowGuestSpec)

/-- ITS FALSE NEIGHBOUR: 'it returns false'. Refute it at one input. -/
def fnExactVowGuestWrong : ChangeSpec := { name := "fnExactVowGuest", fn := fun _ => fun
  | [d1, d2] => { results := [.lit (.bool false)], args := [d1, d2] }
  | _ => none }
def FnExactVowGuestWrongFalsely : Prop := fnExactVowGuestRow.holds Try.pinned (OpenSpec.ofChange fnExactVowGuestWrong)

/-- 'laws.FnExactVowHolder': WHATEVER THE INPUT: true; the input reads as it did. -/
def fnExactVowHolderSpec : ChangeSpec := { name := "fnExactVowHolder", fn := fun _ => fun
  | [d] => { results := [.lit (.bool true)], args := [d] }
  | _ => none }
def fnExactVowHolderRow : OpenClaim := { program := "ytfpdccaomhjpjaa", sum := "84bc6457093c8fa17c73281b05d78304c5590ebbff8943c7a976a1ffd45ebe1a", func := "loop.example/hostel/laws.FnExactVowHolder", spec := "fnExactVowHolder", unfollowed := true, recurses := true, apart := false }
def FnExactVowHolderSaid : Prop := fnExactVowHolderRow.holds Try.pinned (OpenSpec.ofChange fnExactVowHolderSpec)

/-- ITS FALSE NEIGHBOUR: 'it returns false'. Refute it at one input. -/
def fnExactVowHolderWrong : ChangeSpec := { name := "fnExactVowHolder", fn := fun _ => fun
  | [d] => { results := [.lit (.bool false)], args := [d] }
  | _ => none }
def FnExactVowHolderWrongFalsely : Prop := fnExactVowHolderRow.holds Try.pinned (OpenSpec.ofChange fnExactVowHolderWrong)

/- THE SECOND FORM. 'bulk': how many values and letters a reading holds, each counted each time it is reached (what is shared counts as often as it is met; a slice's spare places count too). A statement '..UptoSaid' is the law's where the arguments, and the package variables that the reading takes, are together of bulk at most 1048576: NARROWER than '..Said'. Prove '..Said' where nothing that the law and all that it calls make is longer than what came in: it says more and counts as full. Else prove '..UptoSaid'. A law counts once. -/
mutual
def uptoBulk {H : Type} : DataW H → Nat
  | .lit (.string bytes) => bytes.length + 1
  | .lit _ => 1
  | .nil => 1
  | .ptr d => uptoBulk d + 1
  | .slice elems spare => uptoBulkAll elems + uptoBulkAll spare + 1
  | .agg parts => uptoBulkAll parts + 1
  | .iface _ d => uptoBulk d + 1
  | .map entries => uptoBulkEntries entries + 1
  | .held _ => 1
def uptoBulkAll {H : Type} : List (DataW H) → Nat
  | [] => 0
  | d :: r => uptoBulk d + uptoBulkAll r
def uptoBulkEntries {H : Type} : List (Lit × DataW H) → Nat
  | [] => 0
  | x :: r => uptoBulkEntry x + uptoBulkEntries r
def uptoBulkEntry {H : Type} : Lit × DataW H → Nat
  | (.string bytes, d) => bytes.length + uptoBulk d + 1
  | (_, d) => uptoBulk d + 1
 end
def uptoSmall : (H : Type) → List (DataW H) → Bool := fun _ ds => decide (uptoBulkAll ds ≤ 1048576)
def OpenSpec.upto (s : _root_.Go.ChangeSpec) : _root_.Go.OpenSpec := { _root_.Go.OpenSpec.ofChange s with cond := some uptoSmall }

/-- 'laws.FnExactCensDone', WHERE WHAT IT READS IS OF BULK AT MOST 1048576: true; the input reads as it did. -/
def fnExactCensDoneUptoRow : OpenClaim := { program := "ytfpdccaomhjpjaa", sum := "84bc6457093c8fa17c73281b05d78304c5590ebbff8943c7a976a1ffd45ebe1a", func := "loop.example/hostel/laws.FnExactCensDone", spec := "fnExactCensDone", apart := false, narrowed := true }
def FnExactCensDoneUptoSaid : Prop := fnExactCensDoneUptoRow.holds Try.pinned (OpenSpec.upto fnExactCensDoneSpec)

/-- 'laws.FnExactWorldOk', WHERE WHAT IT READS IS OF BULK AT MOST 1048576: true; the input reads as it did. -/
def fnExactWorldOkUptoRow : OpenClaim := { program := "ytfpdccaomhjpjaa", sum := "84bc6457093c8fa17c73281b05d78304c5590ebbff8943c7a976a1ffd45ebe1a", func := "loop.example/hostel/laws.FnExactWorldOk", spec := "fnExactWorldOk", unfollowed := true, recurses := true, apart := false, narrowed := true }
def FnExactWorldOkUptoSaid : Prop := fnExactWorldOkUptoRow.holds Try.pinned (OpenSpec.upto fnExactWorldOkSpec)

/-- 'laws.FnExactVowGuest', WHERE WHAT IT READS IS OF BULK AT MOST 1048576: true; the input reads as it did. -/
def fnExactVowGuestUptoRow : OpenClaim := { program := "ytfpdccaomhjpjaa", sum := "84bc6457093c8fa17c73281b05d78304c5590ebbff8943c7a976a1ffd45ebe1a", func := "loop.example/hostel/laws.FnExactVowGuest", spec := "fnExactVowGuest", unfollowed := true, recurses := true, apart := false, narrowed := true }
def FnExactVowGuestUptoSaid : Prop := fnExactVowGuestUptoRow.holds Try.pinned (OpenSpec.upto fnExactVowGuestSpec)

/-- 'laws.FnExactVowHolder', WHERE WHAT IT READS IS OF BULK AT MOST 1048576: true; the input reads as it did. -/
def fnExactVowHolderUptoRow : OpenClaim := { program := "ytfpdccaomhjpjaa", sum := "84bc6457093c8fa17c73281b05d78304c5590ebbff8943c7a976a1ffd45ebe1a", func := "loop.example/hostel/laws.FnExactVowHolder", spec := "fnExactVowHolder", unfollowed := true, recurses := true, apart := false, narrowed := true }
def FnExactVowHolderUptoSaid : Prop := fnExactVowHolderUptoRow.holds Try.pinned (OpenSpec.upto fnExactVowHolderSpec)

end Rows
end Go.Proofs.Ytfpdccaomhjpjaa

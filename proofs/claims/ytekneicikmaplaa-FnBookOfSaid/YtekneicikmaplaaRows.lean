/-
  No cell of these rows narrows 'for every input' (looked for: loops, veiled, ifaces, maps, wideKeys, modest, calm, conditions, laid).
  DERIVED. THE GIVEN ROWS OF THIS SEAT. 8 by the template 'for every input the law returns true; each argument reads behind the call as it read before'; 0 by the template 'total and deterministic' (their statements: YtekneicikmaplaaTotals.lean).
  GIVEN WITH THE SEED: the statements are not yours to turn. If you find one false, say at which input.
  Laid BY PROGRAM, IN A SANDBOX (cutbox-rows.mjs): the forced cells as the released guide's own fill.sh prints them over the translation 3443dc7b48766645… (all of the seat's roots in one cut). By AI agents, Wed Nov 11 2026. No macro, syntax, notation, axiom, sorry.
-/
import Derived.Test.YtekneicikmaplaaChecked
import GoSem.Claim
import GoSem.ClaimJoined
import GoSem.ClaimMapViews
import Derived.JoinedTies
import Derived.KernelRfl
namespace Go.Proofs.Ytekneicikmaplaa
/- THE CELL 'sum', in the pinned program and in every row, IS THE sha256 OF THE DUMP (.gsa) THAT YtekneicikmaplaaProg.lean LOADS. Nothing in Lean hashes anything: it is a label: what it is worth is what the hold of that sum in a sandbox is worth. -/
noncomputable def Try.pinned : Pinned := { name := "ytekneicikmaplaa", sum := "3443dc7b4876664594a9579ef99a56a55fed9608d2a91aeaddf247ca65914f55", checked := Try.checked }
namespace Rows
def none {H : Type} : Left H := { results := [], args := [] }

/-- 'laws.FnExactBookOpen': WHATEVER THE INPUT: true; the input reads as it did. -/
def fnExactBookOpenSpec : ChangeSpec := { name := "fnExactBookOpen", fn := fun _ => fun
  | [d] => { results := [.lit (.bool true)], args := [d] }
  | _ => none }
def fnExactBookOpenRow : OpenClaim := { program := "ytekneicikmaplaa", sum := "3443dc7b4876664594a9579ef99a56a55fed9608d2a91aeaddf247ca65914f55", func := "loop.example/hostel/laws.FnExactBookOpen", spec := "fnExactBookOpen", apart := false }
def FnExactBookOpenSaid : Prop := fnExactBookOpenRow.holds Try.pinned (OpenSpec.ofChange fnExactBookOpenSpec)

/-- ITS FALSE NEIGHBOUR: 'it returns false'. Refute it at one input. -/
def fnExactBookOpenWrong : ChangeSpec := { name := "fnExactBookOpen", fn := fun _ => fun
  | [d] => { results := [.lit (.bool false)], args := [d] }
  | _ => none }
def FnExactBookOpenWrongFalsely : Prop := fnExactBookOpenRow.holds Try.pinned (OpenSpec.ofChange fnExactBookOpenWrong)

/-- 'laws.FnExactBookSame': WHATEVER THE INPUT: true; the input reads as it did. -/
def fnExactBookSameSpec : ChangeSpec := { name := "fnExactBookSame", fn := fun _ => fun
  | [d1, d2] => { results := [.lit (.bool true)], args := [d1, d2] }
  | _ => none }
def fnExactBookSameRow : OpenClaim := { program := "ytekneicikmaplaa", sum := "3443dc7b4876664594a9579ef99a56a55fed9608d2a91aeaddf247ca65914f55", func := "loop.example/hostel/laws.FnExactBookSame", spec := "fnExactBookSame", apart := false }
def FnExactBookSameSaid : Prop := fnExactBookSameRow.holds Try.pinned (OpenSpec.ofChange fnExactBookSameSpec)

/-- ITS FALSE NEIGHBOUR: 'it returns false'. Refute it at one input. -/
def fnExactBookSameWrong : ChangeSpec := { name := "fnExactBookSame", fn := fun _ => fun
  | [d1, d2] => { results := [.lit (.bool false)], args := [d1, d2] }
  | _ => none }
def FnExactBookSameWrongFalsely : Prop := fnExactBookSameRow.holds Try.pinned (OpenSpec.ofChange fnExactBookSameWrong)

/-- 'laws.FnExactBookOk': WHATEVER THE INPUT: true; the input reads as it did. -/
def fnExactBookOkSpec : ChangeSpec := { name := "fnExactBookOk", fn := fun _ => fun
  | [d] => { results := [.lit (.bool true)], args := [d] }
  | _ => none }
def fnExactBookOkRow : OpenClaim := { program := "ytekneicikmaplaa", sum := "3443dc7b4876664594a9579ef99a56a55fed9608d2a91aeaddf247ca65914f55", func := "loop.example/hostel/laws.FnExactBookOk", spec := "fnExactBookOk", apart := false }
def FnExactBookOkSaid : Prop := fnExactBookOkRow.holds Try.pinned (OpenSpec.ofChange fnExactBookOkSpec)

/-- ITS FALSE NEIGHBOUR: 'it returns false'. Refute it at one input. -/
def fnExactBookOkWrong : ChangeSpec := { name := "fnExactBookOk", fn := fun _ => fun
  | [d] => { results := [.lit (.bool false)], args := [d] }
  | _ => none }
def FnExactBookOkWrongFalsely : Prop := fnExactBookOkRow.holds Try.pinned (OpenSpec.ofChange fnExactBookOkWrong)

/-- 'laws.FnExactBookRoom': WHATEVER THE INPUT: true; the input reads as it did. -/
def fnExactBookRoomSpec : ChangeSpec := { name := "fnExactBookRoom", fn := fun _ => fun
  | [d1, d2] => { results := [.lit (.bool true)], args := [d1, d2] }
  | _ => none }
def fnExactBookRoomRow : OpenClaim := { program := "ytekneicikmaplaa", sum := "3443dc7b4876664594a9579ef99a56a55fed9608d2a91aeaddf247ca65914f55", func := "loop.example/hostel/laws.FnExactBookRoom", spec := "fnExactBookRoom", apart := false }
def FnExactBookRoomSaid : Prop := fnExactBookRoomRow.holds Try.pinned (OpenSpec.ofChange fnExactBookRoomSpec)

/-- ITS FALSE NEIGHBOUR: 'it returns false'. Refute it at one input. -/
def fnExactBookRoomWrong : ChangeSpec := { name := "fnExactBookRoom", fn := fun _ => fun
  | [d1, d2] => { results := [.lit (.bool false)], args := [d1, d2] }
  | _ => none }
def FnExactBookRoomWrongFalsely : Prop := fnExactBookRoomRow.holds Try.pinned (OpenSpec.ofChange fnExactBookRoomWrong)

/-- 'laws.FnExactBookOf': WHATEVER THE INPUT: true; the input reads as it did. -/
def fnExactBookOfSpec : ChangeSpec := { name := "fnExactBookOf", fn := fun _ => fun
  | [d1, d2] => { results := [.lit (.bool true)], args := [d1, d2] }
  | _ => none }
def fnExactBookOfRow : OpenClaim := { program := "ytekneicikmaplaa", sum := "3443dc7b4876664594a9579ef99a56a55fed9608d2a91aeaddf247ca65914f55", func := "loop.example/hostel/laws.FnExactBookOf", spec := "fnExactBookOf", apart := false }
def FnExactBookOfSaid : Prop := fnExactBookOfRow.holds Try.pinned (OpenSpec.ofChange fnExactBookOfSpec)

/-- ITS FALSE NEIGHBOUR: 'it returns false'. Refute it at one input. -/
def fnExactBookOfWrong : ChangeSpec := { name := "fnExactBookOf", fn := fun _ => fun
  | [d1, d2] => { results := [.lit (.bool false)], args := [d1, d2] }
  | _ => none }
def FnExactBookOfWrongFalsely : Prop := fnExactBookOfRow.holds Try.pinned (OpenSpec.ofChange fnExactBookOfWrong)

/-- 'laws.FnExactBookCut': WHATEVER THE INPUT: true; the input reads as it did. -/
def fnExactBookCutSpec : ChangeSpec := { name := "fnExactBookCut", fn := fun _ => fun
  | [d1, d2] => { results := [.lit (.bool true)], args := [d1, d2] }
  | _ => none }
def fnExactBookCutRow : OpenClaim := { program := "ytekneicikmaplaa", sum := "3443dc7b4876664594a9579ef99a56a55fed9608d2a91aeaddf247ca65914f55", func := "loop.example/hostel/laws.FnExactBookCut", spec := "fnExactBookCut", apart := false }
def FnExactBookCutSaid : Prop := fnExactBookCutRow.holds Try.pinned (OpenSpec.ofChange fnExactBookCutSpec)

/-- ITS FALSE NEIGHBOUR: 'it returns false'. Refute it at one input. -/
def fnExactBookCutWrong : ChangeSpec := { name := "fnExactBookCut", fn := fun _ => fun
  | [d1, d2] => { results := [.lit (.bool false)], args := [d1, d2] }
  | _ => none }
def FnExactBookCutWrongFalsely : Prop := fnExactBookCutRow.holds Try.pinned (OpenSpec.ofChange fnExactBookCutWrong)

/-- 'laws.FnExactCensLay': WHATEVER THE INPUT: true; the input reads as it did. -/
def fnExactCensLaySpec : ChangeSpec := { name := "fnExactCensLay", fn := fun _ => fun
  | [d1, d2] => { results := [.lit (.bool true)], args := [d1, d2] }
  | _ => none }
def fnExactCensLayRow : OpenClaim := { program := "ytekneicikmaplaa", sum := "3443dc7b4876664594a9579ef99a56a55fed9608d2a91aeaddf247ca65914f55", func := "loop.example/hostel/laws.FnExactCensLay", spec := "fnExactCensLay", apart := false }
def FnExactCensLaySaid : Prop := fnExactCensLayRow.holds Try.pinned (OpenSpec.ofChange fnExactCensLaySpec)

/-- ITS FALSE NEIGHBOUR: 'it returns false'. Refute it at one input. -/
def fnExactCensLayWrong : ChangeSpec := { name := "fnExactCensLay", fn := fun _ => fun
  | [d1, d2] => { results := [.lit (.bool false)], args := [d1, d2] }
  | _ => none }
def FnExactCensLayWrongFalsely : Prop := fnExactCensLayRow.holds Try.pinned (OpenSpec.ofChange fnExactCensLayWrong)

/-- 'laws.FnBookOf': WHATEVER THE INPUT: true; the input reads as it did. -/
def fnBookOfSpec : ChangeSpec := { name := "fnBookOf", fn := fun _ => fun
  | [d] => { results := [.lit (.bool true)], args := [d] }
  | _ => none }
def fnBookOfRow : OpenClaim := { program := "ytekneicikmaplaa", sum := "3443dc7b4876664594a9579ef99a56a55fed9608d2a91aeaddf247ca65914f55", func := "loop.example/hostel/laws.FnBookOf", spec := "fnBookOf", apart := false }
def FnBookOfSaid : Prop := fnBookOfRow.holds Try.pinned (OpenSpec.ofChange fnBookOfSpec)

/-- ITS FALSE NEIGHBOUR: 'it returns false'. Refute it at one input. -/
def fnBookOfWrong : ChangeSpec := { name := "fnBookOf", fn := fun _ => fun
  | [d] => { results := [.lit (.bool false)], args := [d] }
  | _ => none }
def FnBookOfWrongFalsely : Prop := fnBookOfRow.holds Try.pinned (OpenSpec.ofChange fnBookOfWrong)

/- THE SECOND FORM. 'bulk': how many values and letters a reading holds, each counted each time it is reached (what is shared counts as often as it is met; a slice's spare places count too). A statement '..UptoSaid' is the law's where the arguments, and the package variables that the reading takes, are together of bulk at most 1048576: NARROWER than '..Said'. Prove '..Said' where nothing that the law and all that it calls make is longer than what came in: it says more and counts as full. Else prove '..UptoSaid'. A law counts once. -/
mutual
def uptoBulk {H : Type} : DataW H → Nat
  | .lit (.string bytes) => bytes.length + 1
  | .lit _ => 1
  | .nil => 1
  | .ptr d => uptoBulk d + 1
  | .slice elems spare => uptoBulkAll elems + uptoBulkAll spare + 1
  | .agg parts => uptoBulkAll parts + 1
  | .iface _ d => uptoBulk d + 1
  | .map entries => uptoBulkEntries entries + 1
  | .held _ => 1
def uptoBulkAll {H : Type} : List (DataW H) → Nat
  | [] => 0
  | d :: r => uptoBulk d + uptoBulkAll r
def uptoBulkEntries {H : Type} : List (Lit × DataW H) → Nat
  | [] => 0
  | x :: r => uptoBulkEntry x + uptoBulkEntries r
def uptoBulkEntry {H : Type} : Lit × DataW H → Nat
  | (.string bytes, d) => bytes.length + uptoBulk d + 1
  | (_, d) => uptoBulk d + 1
 end
def uptoSmall : (H : Type) → List (DataW H) → Bool := fun _ ds => decide (uptoBulkAll ds ≤ 1048576)
def OpenSpec.upto (s : _root_.Go.ChangeSpec) : _root_.Go.OpenSpec := { _root_.Go.OpenSpec.ofChange s with cond := some uptoSmall }

/-- 'laws.FnExactBookOpen', WHERE WHAT IT READS IS OF BULK AT MOST 1048576: true; the input reads as it did. -/
def fnExactBookOpenUptoRow : OpenClaim := { program := "ytekneicikmaplaa", sum := "3443dc7b4876664594a9579ef99a56a55fed9608d2a91aeaddf247ca65914f55", func := "loop.example/hostel/laws.FnExactBookOpen", spec := "fnExactBookOpen", apart := false, narrowed := true }
def FnExactBookOpenUptoSaid : Prop := fnExactBookOpenUptoRow.holds Try.pinned (OpenSpec.upto fnExactBookOpenSpec)

/-- 'laws.FnExactBookSame', WHERE WHAT IT READS IS OF BULK AT MOST 1048576: true; the input reads as it did. -/
def fnExactBookSameUptoRow : OpenClaim := { program := "ytekneicikmaplaa", sum := "3443dc7b4876664594a9579ef99a56a55fed9608d2a91aeaddf247ca65914f55", func := "loop.example/hostel/laws.FnExactBookSame", spec := "fnExactBookSame", apart := false, narrowed := true }
def FnExactBookSameUptoSaid : Prop := fnExactBookSameUptoRow.holds Try.pinned (OpenSpec.upto fnExactBookSameSpec)

/-- 'laws.FnExactBookOk', WHERE WHAT IT READS IS OF BULK AT MOST 1048576: true; the input reads as it did. -/
def fnExactBookOkUptoRow : OpenClaim := { program := "ytekneicikmaplaa", sum := "3443dc7b4876664594a9579ef99a56a55fed9608d2a91aeaddf247ca65914f55", func := "loop.example/hostel/laws.FnExactBookOk", spec := "fnExactBookOk", apart := false, narrowed := true }
def FnExactBookOkUptoSaid : Prop := fnExactBookOkUptoRow.holds Try.pinned (OpenSpec.upto fnExactBookOkSpec)

/-- 'laws.FnExactBookRoom', WHERE WHAT IT READS IS OF BULK AT MOST 1048576: true; the input reads as it did. -/
def fnExactBookRoomUptoRow : OpenClaim := { program := "ytekneicikmaplaa", sum := "3443dc7b4876664594a9579ef99a56a55fed9608d2a91aeaddf247ca65914f55", func := "loop.example/hostel/laws.FnExactBookRoom", spec := "fnExactBookRoom", apart := false, narrowed := true }
def FnExactBookRoomUptoSaid : Prop := fnExactBookRoomUptoRow.holds Try.pinned (OpenSpec.upto fnExactBookRoomSpec)

/-- 'laws.FnExactBookOf', WHERE WHAT IT READS IS OF BULK AT MOST 1048576: true; the input reads as it did. -/
def fnExactBookOfUptoRow : OpenClaim := { program := "ytekneicikmaplaa", sum := "3443dc7b4876664594a9579ef99a56a55fed9608d2a91aeaddf247ca65914f55", func := "loop.example/hostel/laws.FnExactBookOf", spec := "fnExactBookOf", apart := false, narrowed := true }
def FnExactBookOfUptoSaid : Prop := fnExactBookOfUptoRow.holds Try.pinned (OpenSpec.upto fnExactBookOfSpec)

/-- 'laws.FnExactBookCut', WHERE WHAT IT READS IS OF BULK AT MOST 1048576: true; the input reads as it did. -/
def fnExactBookCutUptoRow : OpenClaim := { program := "ytekneicikmaplaa", sum := "3443dc7b4876664594a9579ef99a56a55fed9608d2a91aeaddf247ca65914f55", func := "loop.example/hostel/laws.FnExactBookCut", spec := "fnExactBookCut", apart := false, narrowed := true }
def FnExactBookCutUptoSaid : Prop := fnExactBookCutUptoRow.holds Try.pinned (OpenSpec.upto fnExactBookCutSpec)

/-- 'laws.FnExactCensLay', WHERE WHAT IT READS IS OF BULK AT MOST 1048576: true; the input reads as it did. -/
def fnExactCensLayUptoRow : OpenClaim := { program := "ytekneicikmaplaa", sum := "3443dc7b4876664594a9579ef99a56a55fed9608d2a91aeaddf247ca65914f55", func := "loop.example/hostel/laws.FnExactCensLay", spec := "fnExactCensLay", apart := false, narrowed := true }
def FnExactCensLayUptoSaid : Prop := fnExactCensLayUptoRow.holds Try.pinned (OpenSpec.upto fnExactCensLaySpec)

/-- 'laws.FnBookOf', WHERE WHAT IT READS IS OF BULK AT MOST 1048576: true; the input reads as it did. -/
def fnBookOfUptoRow : OpenClaim := { program := "ytekneicikmaplaa", sum := "3443dc7b4876664594a9579ef99a56a55fed9608d2a91aeaddf247ca65914f55", func := "loop.example/hostel/laws.FnBookOf", spec := "fnBookOf", apart := false, narrowed := true }
def FnBookOfUptoSaid : Prop := fnBookOfUptoRow.holds Try.pinned (OpenSpec.upto fnBookOfSpec)

end Rows
end Go.Proofs.Ytekneicikmaplaa

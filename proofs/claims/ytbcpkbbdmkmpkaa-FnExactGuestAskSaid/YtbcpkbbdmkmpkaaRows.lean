/-
  No cell of these rows narrows 'for every input' (looked for: loops, veiled, ifaces, maps, wideKeys, modest, calm, conditions, laid).
  DERIVED. THE GIVEN ROWS OF THIS SEAT. 12 by the template 'for every input the law returns true; each argument reads behind the call as it read before'; 0 by the template 'total and deterministic' (their statements: YtbcpkbbdmkmpkaaTotals.lean).
  GIVEN WITH THE SEED: the statements are not yours to turn. If you find one false, say at which input.
  Laid BY PROGRAM, IN A SANDBOX (cutbox-rows.mjs): the forced cells as the released guide's own fill.sh prints them over the translation c6a4ccffccd5b279… (all of the seat's roots in one cut). By AI agents, Wed Nov 11 2026. No macro, syntax, notation, axiom, sorry.
-/
import Derived.Test.YtbcpkbbdmkmpkaaChecked
import GoSem.Claim
import GoSem.ClaimJoined
import GoSem.ClaimMapViews
import Derived.JoinedTies
import Derived.KernelRfl
namespace Go.Proofs.Ytbcpkbbdmkmpkaa
/- THE CELL 'sum', in the pinned program and in every row, IS THE sha256 OF THE DUMP (.gsa) THAT YtbcpkbbdmkmpkaaProg.lean LOADS. Nothing in Lean hashes anything: it is a label: what it is worth is what the hold of that sum in a sandbox is worth. -/
noncomputable def Try.pinned : Pinned := { name := "ytbcpkbbdmkmpkaa", sum := "c6a4ccffccd5b279648ebd66ea822f2b02b294b8283c6fc45d8680cc894b9a17", checked := Try.checked }
namespace Rows
def none {H : Type} : Left H := { results := [], args := [] }

/-- 'laws.FnExactPlatReg': WHATEVER THE INPUT: true; the input reads as it did. -/
def fnExactPlatRegSpec : ChangeSpec := { name := "fnExactPlatReg", fn := fun _ => fun
  | [d1, d2] => { results := [.lit (.bool true)], args := [d1, d2] }
  | _ => none }
def fnExactPlatRegRow : OpenClaim := { program := "ytbcpkbbdmkmpkaa", sum := "c6a4ccffccd5b279648ebd66ea822f2b02b294b8283c6fc45d8680cc894b9a17", func := "loop.example/hostel/laws.FnExactPlatReg", spec := "fnExactPlatReg", unfollowed := true, recurses := true, apart := false }
def FnExactPlatRegSaid : Prop := fnExactPlatRegRow.holds Try.pinned (OpenSpec.ofChange fnExactPlatRegSpec)

/-- ITS FALSE NEIGHBOUR: 'it returns false'. Refute it at one input. -/
def fnExactPlatRegWrong : ChangeSpec := { name := "fnExactPlatReg", fn := fun _ => fun
  | [d1, d2] => { results := [.lit (.bool false)], args := [d1, d2] }
  | _ => none }
def FnExactPlatRegWrongFalsely : Prop := fnExactPlatRegRow.holds Try.pinned (OpenSpec.ofChange fnExactPlatRegWrong)

/-- 'laws.FnExactPlatBeat': WHATEVER THE INPUT: true; the input reads as it did. -/
def fnExactPlatBeatSpec : ChangeSpec := { name := "fnExactPlatBeat", fn := fun _ => fun
  | [d1, d2] => { results := [.lit (.bool true)], args := [d1, d2] }
  | _ => none }
def fnExactPlatBeatRow : OpenClaim := { program := "ytbcpkbbdmkmpkaa", sum := "c6a4ccffccd5b279648ebd66ea822f2b02b294b8283c6fc45d8680cc894b9a17", func := "loop.example/hostel/laws.FnExactPlatBeat", spec := "fnExactPlatBeat", unfollowed := true, recurses := true, apart := false }
def FnExactPlatBeatSaid : Prop := fnExactPlatBeatRow.holds Try.pinned (OpenSpec.ofChange fnExactPlatBeatSpec)

/-- ITS FALSE NEIGHBOUR: 'it returns false'. Refute it at one input. -/
def fnExactPlatBeatWrong : ChangeSpec := { name := "fnExactPlatBeat", fn := fun _ => fun
  | [d1, d2] => { results := [.lit (.bool false)], args := [d1, d2] }
  | _ => none }
def FnExactPlatBeatWrongFalsely : Prop := fnExactPlatBeatRow.holds Try.pinned (OpenSpec.ofChange fnExactPlatBeatWrong)

/-- 'laws.FnExactPlatHead': WHATEVER THE INPUT: true; the input reads as it did. -/
def fnExactPlatHeadSpec : ChangeSpec := { name := "fnExactPlatHead", fn := fun _ => fun
  | [d1, d2] => { results := [.lit (.bool true)], args := [d1, d2] }
  | _ => none }
def fnExactPlatHeadRow : OpenClaim := { program := "ytbcpkbbdmkmpkaa", sum := "c6a4ccffccd5b279648ebd66ea822f2b02b294b8283c6fc45d8680cc894b9a17", func := "loop.example/hostel/laws.FnExactPlatHead", spec := "fnExactPlatHead", unfollowed := true, recurses := true, apart := false }
def FnExactPlatHeadSaid : Prop := fnExactPlatHeadRow.holds Try.pinned (OpenSpec.ofChange fnExactPlatHeadSpec)

/-- ITS FALSE NEIGHBOUR: 'it returns false'. Refute it at one input. -/
def fnExactPlatHeadWrong : ChangeSpec := { name := "fnExactPlatHead", fn := fun _ => fun
  | [d1, d2] => { results := [.lit (.bool false)], args := [d1, d2] }
  | _ => none }
def FnExactPlatHeadWrongFalsely : Prop := fnExactPlatHeadRow.holds Try.pinned (OpenSpec.ofChange fnExactPlatHeadWrong)

/-- 'laws.FnExactPlatPage': WHATEVER THE INPUT: true; the input reads as it did. -/
def fnExactPlatPageSpec : ChangeSpec := { name := "fnExactPlatPage", fn := fun _ => fun
  | [d1, d2] => { results := [.lit (.bool true)], args := [d1, d2] }
  | _ => none }
def fnExactPlatPageRow : OpenClaim := { program := "ytbcpkbbdmkmpkaa", sum := "c6a4ccffccd5b279648ebd66ea822f2b02b294b8283c6fc45d8680cc894b9a17", func := "loop.example/hostel/laws.FnExactPlatPage", spec := "fnExactPlatPage", unfollowed := true, recurses := true, apart := false }
def FnExactPlatPageSaid : Prop := fnExactPlatPageRow.holds Try.pinned (OpenSpec.ofChange fnExactPlatPageSpec)

/-- ITS FALSE NEIGHBOUR: 'it returns false'. Refute it at one input. -/
def fnExactPlatPageWrong : ChangeSpec := { name := "fnExactPlatPage", fn := fun _ => fun
  | [d1, d2] => { results := [.lit (.bool false)], args := [d1, d2] }
  | _ => none }
def FnExactPlatPageWrongFalsely : Prop := fnExactPlatPageRow.holds Try.pinned (OpenSpec.ofChange fnExactPlatPageWrong)

/-- 'laws.FnExactPlatTag': WHATEVER THE INPUT: true; the input reads as it did. -/
def fnExactPlatTagSpec : ChangeSpec := { name := "fnExactPlatTag", fn := fun _ => fun
  | [d1, d2] => { results := [.lit (.bool true)], args := [d1, d2] }
  | _ => none }
def fnExactPlatTagRow : OpenClaim := { program := "ytbcpkbbdmkmpkaa", sum := "c6a4ccffccd5b279648ebd66ea822f2b02b294b8283c6fc45d8680cc894b9a17", func := "loop.example/hostel/laws.FnExactPlatTag", spec := "fnExactPlatTag", unfollowed := true, recurses := true, apart := false }
def FnExactPlatTagSaid : Prop := fnExactPlatTagRow.holds Try.pinned (OpenSpec.ofChange fnExactPlatTagSpec)

/-- ITS FALSE NEIGHBOUR: 'it returns false'. Refute it at one input. -/
def fnExactPlatTagWrong : ChangeSpec := { name := "fnExactPlatTag", fn := fun _ => fun
  | [d1, d2] => { results := [.lit (.bool false)], args := [d1, d2] }
  | _ => none }
def FnExactPlatTagWrongFalsely : Prop := fnExactPlatTagRow.holds Try.pinned (OpenSpec.ofChange fnExactPlatTagWrong)

/-- 'laws.FnExactPlatLink': WHATEVER THE INPUT: true; the input reads as it did. -/
def fnExactPlatLinkSpec : ChangeSpec := { name := "fnExactPlatLink", fn := fun _ => fun
  | [d1, d2] => { results := [.lit (.bool true)], args := [d1, d2] }
  | _ => none }
def fnExactPlatLinkRow : OpenClaim := { program := "ytbcpkbbdmkmpkaa", sum := "c6a4ccffccd5b279648ebd66ea822f2b02b294b8283c6fc45d8680cc894b9a17", func := "loop.example/hostel/laws.FnExactPlatLink", spec := "fnExactPlatLink", unfollowed := true, recurses := true, apart := false }
def FnExactPlatLinkSaid : Prop := fnExactPlatLinkRow.holds Try.pinned (OpenSpec.ofChange fnExactPlatLinkSpec)

/-- ITS FALSE NEIGHBOUR: 'it returns false'. Refute it at one input. -/
def fnExactPlatLinkWrong : ChangeSpec := { name := "fnExactPlatLink", fn := fun _ => fun
  | [d1, d2] => { results := [.lit (.bool false)], args := [d1, d2] }
  | _ => none }
def FnExactPlatLinkWrongFalsely : Prop := fnExactPlatLinkRow.holds Try.pinned (OpenSpec.ofChange fnExactPlatLinkWrong)

/-- 'laws.FnPlat': WHATEVER THE INPUT: true; the input reads as it did. -/
def fnPlatSpec : ChangeSpec := { name := "fnPlat", fn := fun _ => fun
  | [d] => { results := [.lit (.bool true)], args := [d] }
  | _ => none }
def fnPlatRow : OpenClaim := { program := "ytbcpkbbdmkmpkaa", sum := "c6a4ccffccd5b279648ebd66ea822f2b02b294b8283c6fc45d8680cc894b9a17", func := "loop.example/hostel/laws.FnPlat", spec := "fnPlat", unfollowed := true, recurses := true, apart := false }
def FnPlatSaid : Prop := fnPlatRow.holds Try.pinned (OpenSpec.ofChange fnPlatSpec)

/-- ITS FALSE NEIGHBOUR: 'it returns false'. Refute it at one input. -/
def fnPlatWrong : ChangeSpec := { name := "fnPlat", fn := fun _ => fun
  | [d] => { results := [.lit (.bool false)], args := [d] }
  | _ => none }
def FnPlatWrongFalsely : Prop := fnPlatRow.holds Try.pinned (OpenSpec.ofChange fnPlatWrong)

/-- 'laws.FnExactGuestNew': WHATEVER THE INPUT: true; the input reads as it did. -/
def fnExactGuestNewSpec : ChangeSpec := { name := "fnExactGuestNew", fn := fun _ => fun
  | [d] => { results := [.lit (.bool true)], args := [d] }
  | _ => none }
def fnExactGuestNewRow : OpenClaim := { program := "ytbcpkbbdmkmpkaa", sum := "c6a4ccffccd5b279648ebd66ea822f2b02b294b8283c6fc45d8680cc894b9a17", func := "loop.example/hostel/laws.FnExactGuestNew", spec := "fnExactGuestNew", apart := false }
def FnExactGuestNewSaid : Prop := fnExactGuestNewRow.holds Try.pinned (OpenSpec.ofChange fnExactGuestNewSpec)

/-- ITS FALSE NEIGHBOUR: 'it returns false'. Refute it at one input. -/
def fnExactGuestNewWrong : ChangeSpec := { name := "fnExactGuestNew", fn := fun _ => fun
  | [d] => { results := [.lit (.bool false)], args := [d] }
  | _ => none }
def FnExactGuestNewWrongFalsely : Prop := fnExactGuestNewRow.holds Try.pinned (OpenSpec.ofChange fnExactGuestNewWrong)

/-- 'laws.FnExactTaleOf': WHATEVER THE INPUT: true; the input reads as it did. -/
def fnExactTaleOfSpec : ChangeSpec := { name := "fnExactTaleOf", fn := fun _ => fun
  | [d1, d2] => { results := [.lit (.bool true)], args := [d1, d2] }
  | _ => none }
def fnExactTaleOfRow : OpenClaim := { program := "ytbcpkbbdmkmpkaa", sum := "c6a4ccffccd5b279648ebd66ea822f2b02b294b8283c6fc45d8680cc894b9a17", func := "loop.example/hostel/laws.FnExactTaleOf", spec := "fnExactTaleOf", apart := false }
def FnExactTaleOfSaid : Prop := fnExactTaleOfRow.holds Try.pinned (OpenSpec.ofChange fnExactTaleOfSpec)

/-- ITS FALSE NEIGHBOUR: 'it returns false'. Refute it at one input. -/
def fnExactTaleOfWrong : ChangeSpec := { name := "fnExactTaleOf", fn := fun _ => fun
  | [d1, d2] => { results := [.lit (.bool false)], args := [d1, d2] }
  | _ => none }
def FnExactTaleOfWrongFalsely : Prop := fnExactTaleOfRow.holds Try.pinned (OpenSpec.ofChange fnExactTaleOfWrong)

/-- 'laws.FnExactWorldOpen': WHATEVER THE INPUT: true; the input reads as it did. -/
def fnExactWorldOpenSpec : ChangeSpec := { name := "fnExactWorldOpen", fn := fun _ => fun
  | [d] => { results := [.lit (.bool true)], args := [d] }
  | _ => none }
def fnExactWorldOpenRow : OpenClaim := { program := "ytbcpkbbdmkmpkaa", sum := "c6a4ccffccd5b279648ebd66ea822f2b02b294b8283c6fc45d8680cc894b9a17", func := "loop.example/hostel/laws.FnExactWorldOpen", spec := "fnExactWorldOpen", apart := false }
def FnExactWorldOpenSaid : Prop := fnExactWorldOpenRow.holds Try.pinned (OpenSpec.ofChange fnExactWorldOpenSpec)

/-- ITS FALSE NEIGHBOUR: 'it returns false'. Refute it at one input. -/
def fnExactWorldOpenWrong : ChangeSpec := { name := "fnExactWorldOpen", fn := fun _ => fun
  | [d] => { results := [.lit (.bool false)], args := [d] }
  | _ => none }
def FnExactWorldOpenWrongFalsely : Prop := fnExactWorldOpenRow.holds Try.pinned (OpenSpec.ofChange fnExactWorldOpenWrong)

/-- 'laws.FnExactPlanDo': WHATEVER THE INPUT: true; the input reads as it did. -/
def fnExactPlanDoSpec : ChangeSpec := { name := "fnExactPlanDo", fn := fun _ => fun
  | [d1, d2] => { results := [.lit (.bool true)], args := [d1, d2] }
  | _ => none }
def fnExactPlanDoRow : OpenClaim := { program := "ytbcpkbbdmkmpkaa", sum := "c6a4ccffccd5b279648ebd66ea822f2b02b294b8283c6fc45d8680cc894b9a17", func := "loop.example/hostel/laws.FnExactPlanDo", spec := "fnExactPlanDo", apart := false }
def FnExactPlanDoSaid : Prop := fnExactPlanDoRow.holds Try.pinned (OpenSpec.ofChange fnExactPlanDoSpec)

/-- ITS FALSE NEIGHBOUR: 'it returns false'. Refute it at one input. -/
def fnExactPlanDoWrong : ChangeSpec := { name := "fnExactPlanDo", fn := fun _ => fun
  | [d1, d2] => { results := [.lit (.bool false)], args := [d1, d2] }
  | _ => none }
def FnExactPlanDoWrongFalsely : Prop := fnExactPlanDoRow.holds Try.pinned (OpenSpec.ofChange fnExactPlanDoWrong)

/-- 'laws.FnExactGuestAsk': WHATEVER THE INPUT: true; the input reads as it did. -/
def fnExactGuestAskSpec : ChangeSpec := { name := "fnExactGuestAsk", fn := fun _ => fun
  | [d1, d2] => { results := [.lit (.bool true)], args := [d1, d2] }
  | _ => none }
def fnExactGuestAskRow : OpenClaim := { program := "ytbcpkbbdmkmpkaa", sum := "c6a4ccffccd5b279648ebd66ea822f2b02b294b8283c6fc45d8680cc894b9a17", func := "loop.example/hostel/laws.FnExactGuestAsk", spec := "fnExactGuestAsk", apart := false }
def FnExactGuestAskSaid : Prop := fnExactGuestAskRow.holds Try.pinned (OpenSpec.ofChange fnExactGuestAskSpec)

/-- ITS FALSE NEIGHBOUR: 'it returns false'. Refute it at one input. -/
def fnExactGuestAskWrong : ChangeSpec := { name := "fnExactGuestAsk", fn := fun _ => fun
  | [d1, d2] => { results := [.lit (.bool false)], args := [d1, d2] }
  | _ => none }
def FnExactGuestAskWrongFalsely : Prop := fnExactGuestAskRow.holds Try.pinned (OpenSpec.ofChange fnExactGuestAskWrong)

/- THE SECOND FORM. 'bulk': how many values and letters a reading holds, each counted each time it is reached (what is shared counts as often as it is met; a slice's spare places count too). A statement '..UptoSaid' is the law's where the arguments, and the package variables that the reading takes, are together of bulk at most 1048576: NARROWER than '..Said'. Prove '..Said' where nothing that the law and all that it calls make is longer than what came in: it says more and counts as full. Else prove '..UptoSaid'. A law counts once. -/
mutual
def uptoBulk {H : Type} : DataW H → Nat
  | .lit (.string bytes) => bytes.length + 1
  | .lit _ => 1
  | .nil => 1
  | .ptr d => uptoBulk d + 1
  | .slice elems spare => uptoBulkAll elems + uptoBulkAll spare + 1
  | .agg parts => uptoBulkAll parts + 1
  | .iface _ d => uptoBulk d + 1
  | .map entries => uptoBulkEntries entries + 1
  | .held _ => 1
def uptoBulkAll {H : Type} : List (DataW H) → Nat
  | [] => 0
  | d :: r => uptoBulk d + uptoBulkAll r
def uptoBulkEntries {H : Type} : List (Lit × DataW H) → Nat
  | [] => 0
  | x :: r => uptoBulkEntry x + uptoBulkEntries r
def uptoBulkEntry {H : Type} : Lit × DataW H → Nat
  | (.string bytes, d) => bytes.length + uptoBulk d + 1
  | (_, d) => uptoBulk d + 1
 end
def uptoSmall : (H : Type) → List (DataW H) → Bool := fun _ ds => decide (uptoBulkAll ds ≤ 1048576)
def OpenSpec.upto (s : _root_.Go.ChangeSpec) : _root_.Go.OpenSpec := { _root_.Go.OpenSpec.ofChange s with cond := some uptoSmall }

/-- 'laws.FnExactPlatReg', WHERE WHAT IT READS IS OF BULK AT MOST 1048576: true; the input reads as it did. -/
def fnExactPlatRegUptoRow : OpenClaim := { program := "ytbcpkbbdmkmpkaa", sum := "c6a4ccffccd5b279648ebd66ea822f2b02b294b8283c6fc45d8680cc894b9a17", func := "loop.example/hostel/laws.FnExactPlatReg", spec := "fnExactPlatReg", unfollowed := true, recurses := true, apart := false, narrowed := true }
def FnExactPlatRegUptoSaid : Prop := fnExactPlatRegUptoRow.holds Try.pinned (OpenSpec.upto fnExactPlatRegSpec)

/-- 'laws.FnExactPlatBeat', WHERE WHAT IT READS IS OF BULK AT MOST 1048576: true; the input reads as it did. -/
def fnExactPlatBeatUptoRow : OpenClaim := { program := "ytbcpkbbdmkmpkaa", sum := "c6a4ccffccd5b279648ebd66ea822f2b02b294b8283c6fc45d8680cc894b9a17", func := "loop.example/hostel/laws.FnExactPlatBeat", spec := "fnExactPlatBeat", unfollowed := true, recurses := true, apart := false, narrowed := true }
def FnExactPlatBeatUptoSaid : Prop := fnExactPlatBeatUptoRow.holds Try.pinned (OpenSpec.upto fnExactPlatBeatSpec)

/-- 'laws.FnExactPlatHead', WHERE WHAT IT READS IS OF BULK AT MOST 1048576: true; the input reads as it did. -/
def fnExactPlatHeadUptoRow : OpenClaim := { program := "ytbcpkbbdmkmpkaa", sum := "c6a4ccffccd5b279648ebd66ea822f2b02b294b8283c6fc45d8680cc894b9a17", func := "loop.example/hostel/laws.FnExactPlatHead", spec := "fnExactPlatHead", unfollowed := true, recurses := true, apart := false, narrowed := true }
def FnExactPlatHeadUptoSaid : Prop := fnExactPlatHeadUptoRow.holds Try.pinned (OpenSpec.upto fnExactPlatHeadSpec)

/-- 'laws.FnExactPlatPage', WHERE WHAT IT READS IS OF BULK AT MOST 1048576: true; the input reads as it did. -/
def fnExactPlatPageUptoRow : OpenClaim := { program := "ytbcpkbbdmkmpkaa", sum := "c6a4ccffccd5b279648ebd66ea822f2b02b294b8283c6fc45d8680cc894b9a17", func := "loop.example/hostel/laws.FnExactPlatPage", spec := "fnExactPlatPage", unfollowed := true, recurses := true, apart := false, narrowed := true }
def FnExactPlatPageUptoSaid : Prop := fnExactPlatPageUptoRow.holds Try.pinned (OpenSpec.upto fnExactPlatPageSpec)

/-- 'laws.FnExactPlatTag', WHERE WHAT IT READS IS OF BULK AT MOST 1048576: true; the input reads as it did. -/
def fnExactPlatTagUptoRow : OpenClaim := { program := "ytbcpkbbdmkmpkaa", sum := "c6a4ccffccd5b279648ebd66ea822f2b02b294b8283c6fc45d8680cc894b9a17", func := "loop.example/hostel/laws.FnExactPlatTag", spec := "fnExactPlatTag", unfollowed := true, recurses := true, apart := false, narrowed := true }
def FnExactPlatTagUptoSaid : Prop := fnExactPlatTagUptoRow.holds Try.pinned (OpenSpec.upto fnExactPlatTagSpec)

/-- 'laws.FnExactPlatLink', WHERE WHAT IT READS IS OF BULK AT MOST 1048576: true; the input reads as it did. -/
def fnExactPlatLinkUptoRow : OpenClaim := { program := "ytbcpkbbdmkmpkaa", sum := "c6a4ccffccd5b279648ebd66ea822f2b02b294b8283c6fc45d8680cc894b9a17", func := "loop.example/hostel/laws.FnExactPlatLink", spec := "fnExactPlatLink", unfollowed := true, recurses := true, apart := false, narrowed := true }
def FnExactPlatLinkUptoSaid : Prop := fnExactPlatLinkUptoRow.holds Try.pinned (OpenSpec.upto fnExactPlatLinkSpec)

/-- 'laws.FnPlat', WHERE WHAT IT READS IS OF BULK AT MOST 1048576: true; the input reads as it did. -/
def fnPlatUptoRow : OpenClaim := { program := "ytbcpkbbdmkmpkaa", sum := "c6a4ccffccd5b279648ebd66ea822f2b02b294b8283c6fc45d8680cc894b9a17", func := "loop.example/hostel/laws.FnPlat", spec := "fnPlat", unfollowed := true, recurses := true, apart := false, narrowed := true }
def FnPlatUptoSaid : Prop := fnPlatUptoRow.holds Try.pinned (OpenSpec.upto fnPlatSpec)

/-- 'laws.FnExactGuestNew', WHERE WHAT IT READS IS OF BULK AT MOST 1048576: true; the input reads as it did. -/
def fnExactGuestNewUptoRow : OpenClaim := { program := "ytbcpkbbdmkmpkaa", sum := "c6a4ccffccd5b279648ebd66ea822f2b02b294b8283c6fc45d8680cc894b9a17", func := "loop.example/hostel/laws.FnExactGuestNew", spec := "fnExactGuestNew", apart := false, narrowed := true }
def FnExactGuestNewUptoSaid : Prop := fnExactGuestNewUptoRow.holds Try.pinned (OpenSpec.upto fnExactGuestNewSpec)

/-- 'laws.FnExactTaleOf', WHERE WHAT IT READS IS OF BULK AT MOST 1048576: true; the input reads as it did. -/
def fnExactTaleOfUptoRow : OpenClaim := { program := "ytbcpkbbdmkmpkaa", sum := "c6a4ccffccd5b279648ebd66ea822f2b02b294b8283c6fc45d8680cc894b9a17", func := "loop.example/hostel/laws.FnExactTaleOf", spec := "fnExactTaleOf", apart := false, narrowed := true }
def FnExactTaleOfUptoSaid : Prop := fnExactTaleOfUptoRow.holds Try.pinned (OpenSpec.upto fnExactTaleOfSpec)

/-- 'laws.FnExactWorldOpen', WHERE WHAT IT READS IS OF BULK AT MOST 1048576: true; the input reads as it did. -/
def fnExactWorldOpenUptoRow : OpenClaim := { program := "ytbcpkbbdmkmpkaa", sum := "c6a4ccffccd5b279648ebd66ea822f2b02b294b8283c6fc45d8680cc894b9a17", func := "loop.example/hostel/laws.FnExactWorldOpen", spec := "fnExactWorldOpen", apart := false, narrowed := true }
def FnExactWorldOpenUptoSaid : Prop := fnExactWorldOpenUptoRow.holds Try.pinned (OpenSpec.upto fnExactWorldOpenSpec)

/-- 'laws.FnExactPlanDo', WHERE WHAT IT READS IS OF BULK AT MOST 1048576: true; the input reads as it did. -/
def fnExactPlanDoUptoRow : OpenClaim := { program := "ytbcpkbbdmkmpkaa", sum := "c6a4ccffccd5b279648ebd66ea822f2b02b294b8283c6fc45d8680cc894b9a17", func := "loop.example/hostel/laws.FnExactPlanDo", spec := "fnExactPlanDo", apart := false, narrowed := true }
def FnExactPlanDoUptoSaid : Prop := fnExactPlanDoUptoRow.holds Try.pinned (OpenSpec.upto fnExactPlanDoSpec)

/-- 'laws.FnExactGuestAsk', WHERE WHAT IT READS IS OF BULK AT MOST 1048576: true; the input reads as it did. -/
def fnExactGuestAskUptoRow : OpenClaim := { program := "ytbcpkbbdmkmpkaa", sum := "c6a4ccffccd5b279648ebd66ea822f2b02b294b8283c6fc45d8680cc894b9a17", func := "loop.example/hostel/laws.FnExactGuestAsk", spec := "fnExactGuestAsk", apart := false, narrowed := true }
def FnExactGuestAskUptoSaid : Prop := fnExactGuestAskUptoRow.holds Try.pinned (OpenSpec.upto fnExactGuestAskSpec)

end Rows
end Go.Proofs.Ytbcpkbbdmkmpkaa

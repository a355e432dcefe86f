/-
  No cell of these rows narrows 'for every input' (looked for: loops, veiled, ifaces, maps, wideKeys, modest, calm, conditions, laid).
  DERIVED. THE GIVEN ROWS OF THIS SEAT. 12 by the template 'for every input the law returns true; each argument reads behind the call as it read before'; 0 by the template 'total and deterministic' (their statements: YtjafmdilgpnbaaaTotals.lean).
  GIVEN WITH THE SEED: the statements are not yours to turn. If you find one false, say at which input.
  Laid BY PROGRAM, IN A SANDBOX (cutbox-rows.mjs): the forced cells as the released guide's own fill.sh prints them over the translation 484240a714b90328… (all of the seat's roots in one cut). By AI agents, Wed Nov 11 2026. No macro, syntax, notation, axiom, sorry.
-/
import Derived.Test.YtjafmdilgpnbaaaChecked
import GoSem.Claim
import GoSem.ClaimJoined
import GoSem.ClaimMapViews
import Derived.JoinedTies
import Derived.KernelRfl
namespace Go.Proofs.Ytjafmdilgpnbaaa
/- THE CELL 'sum', in the pinned program and in every row, IS THE sha256 OF THE DUMP (.gsa) THAT YtjafmdilgpnbaaaProg.lean LOADS. Nothing in Lean hashes anything: it is a label: what it is worth is what the hold of that sum in a sandbox is worth. -/
noncomputable def Try.pinned : Pinned := { name := "ytjafmdilgpnbaaa", sum := "484240a714b903285374f6ccf2a2d1e6a6bec264ca6f6b826d182e0d1addd155", checked := Try.checked }
namespace Rows
def none {H : Type} : Left H := { results := [], args := [] }

/-- 'laws.FnExactConstants': WHATEVER THE INPUT: true; the input reads as it did. -/
def fnExactConstantsSpec : ChangeSpec := { name := "fnExactConstants", fn := fun _ => fun
  | [] => { results := [.lit (.bool true)], args := [] }
  | _ => none }
def fnExactConstantsRow : OpenClaim := { program := "ytjafmdilgpnbaaa", sum := "484240a714b903285374f6ccf2a2d1e6a6bec264ca6f6b826d182e0d1addd155", func := "loop.example/g00315/laws.FnExactConstants", spec := "fnExactConstants", apart := false }
def FnExactConstantsSaid : Prop := fnExactConstantsRow.holds Try.pinned (OpenSpec.ofChange fnExactConstantsSpec)

/-- ITS FALSE NEIGHBOUR: 'it returns false'. Refute it at one input. -/
def fnExactConstantsWrong : ChangeSpec := { name := "fnExactConstants", fn := fun _ => fun
  | [] => { results := [.lit (.bool false)], args := [] }
  | _ => none }
def FnExactConstantsWrongFalsely : Prop := fnExactConstantsRow.holds Try.pinned (OpenSpec.ofChange fnExactConstantsWrong)

/-- 'laws.FnExactNumberItem': WHATEVER THE INPUT: true; the input reads as it did. -/
def fnExactNumberItemSpec : ChangeSpec := { name := "fnExactNumberItem", fn := fun _ => fun
  | [d] => { results := [.lit (.bool true)], args := [d] }
  | _ => none }
def fnExactNumberItemRow : OpenClaim := { program := "ytjafmdilgpnbaaa", sum := "484240a714b903285374f6ccf2a2d1e6a6bec264ca6f6b826d182e0d1addd155", func := "loop.example/g00315/laws.FnExactNumberItem", spec := "fnExactNumberItem", apart := false }
def FnExactNumberItemSaid : Prop := fnExactNumberItemRow.holds Try.pinned (OpenSpec.ofChange fnExactNumberItemSpec)

/-- ITS FALSE NEIGHBOUR: 'it returns false'. Refute it at one input. -/
def fnExactNumberItemWrong : ChangeSpec := { name := "fnExactNumberItem", fn := fun _ => fun
  | [d] => { results := [.lit (.bool false)], args := [d] }
  | _ => none }
def FnExactNumberItemWrongFalsely : Prop := fnExactNumberItemRow.holds Try.pinned (OpenSpec.ofChange fnExactNumberItemWrong)

/-- 'laws.FnExactCrcAdd': WHATEVER THE INPUT: true; the input reads as it did. -/
def fnExactCrcAddSpec : ChangeSpec := { name := "fnExactCrcAdd", fn := fun _ => fun
  | [d1, d2] => { results := [.lit (.bool true)], args := [d1, d2] }
  | _ => none }
def fnExactCrcAddRow : OpenClaim := { program := "ytjafmdilgpnbaaa", sum := "484240a714b903285374f6ccf2a2d1e6a6bec264ca6f6b826d182e0d1addd155", func := "loop.example/g00315/laws.FnExactCrcAdd", spec := "fnExactCrcAdd", apart := false }
def FnExactCrcAddSaid : Prop := fnExactCrcAddRow.holds Try.pinned (OpenSpec.ofChange fnExactCrcAddSpec)

/-- ITS FALSE NEIGHBOUR: 'it returns false'. Refute it at one input. -/
def fnExactCrcAddWrong : ChangeSpec := { name := "fnExactCrcAdd", fn := fun _ => fun
  | [d1, d2] => { results := [.lit (.bool false)], args := [d1, d2] }
  | _ => none }
def FnExactCrcAddWrongFalsely : Prop := fnExactCrcAddRow.holds Try.pinned (OpenSpec.ofChange fnExactCrcAddWrong)

/-- 'laws.FnExactSdnvOf': WHATEVER THE INPUT: true; the input reads as it did. -/
def fnExactSdnvOfSpec : ChangeSpec := { name := "fnExactSdnvOf", fn := fun _ => fun
  | [d] => { results := [.lit (.bool true)], args := [d] }
  | _ => none }
def fnExactSdnvOfRow : OpenClaim := { program := "ytjafmdilgpnbaaa", sum := "484240a714b903285374f6ccf2a2d1e6a6bec264ca6f6b826d182e0d1addd155", func := "loop.example/g00315/laws.FnExactSdnvOf", spec := "fnExactSdnvOf", apart := false }
def FnExactSdnvOfSaid : Prop := fnExactSdnvOfRow.holds Try.pinned (OpenSpec.ofChange fnExactSdnvOfSpec)

/-- ITS FALSE NEIGHBOUR: 'it returns false'. Refute it at one input. -/
def fnExactSdnvOfWrong : ChangeSpec := { name := "fnExactSdnvOf", fn := fun _ => fun
  | [d] => { results := [.lit (.bool false)], args := [d] }
  | _ => none }
def FnExactSdnvOfWrongFalsely : Prop := fnExactSdnvOfRow.holds Try.pinned (OpenSpec.ofChange fnExactSdnvOfWrong)

/-- 'laws.FnExactTakeSdnv': WHATEVER THE INPUT: true; the input reads as it did. -/
def fnExactTakeSdnvSpec : ChangeSpec := { name := "fnExactTakeSdnv", fn := fun _ => fun
  | [d1, d2] => { results := [.lit (.bool true)], args := [d1, d2] }
  | _ => none }
def fnExactTakeSdnvRow : OpenClaim := { program := "ytjafmdilgpnbaaa", sum := "484240a714b903285374f6ccf2a2d1e6a6bec264ca6f6b826d182e0d1addd155", func := "loop.example/g00315/laws.FnExactTakeSdnv", spec := "fnExactTakeSdnv", apart := false }
def FnExactTakeSdnvSaid : Prop := fnExactTakeSdnvRow.holds Try.pinned (OpenSpec.ofChange fnExactTakeSdnvSpec)

/-- ITS FALSE NEIGHBOUR: 'it returns false'. Refute it at one input. -/
def fnExactTakeSdnvWrong : ChangeSpec := { name := "fnExactTakeSdnv", fn := fun _ => fun
  | [d1, d2] => { results := [.lit (.bool false)], args := [d1, d2] }
  | _ => none }
def FnExactTakeSdnvWrongFalsely : Prop := fnExactTakeSdnvRow.holds Try.pinned (OpenSpec.ofChange fnExactTakeSdnvWrong)

/-- 'laws.FnExactCrcOf': WHATEVER THE INPUT: true; the input reads as it did. -/
def fnExactCrcOfSpec : ChangeSpec := { name := "fnExactCrcOf", fn := fun _ => fun
  | [d] => { results := [.lit (.bool true)], args := [d] }
  | _ => none }
def fnExactCrcOfRow : OpenClaim := { program := "ytjafmdilgpnbaaa", sum := "484240a714b903285374f6ccf2a2d1e6a6bec264ca6f6b826d182e0d1addd155", func := "loop.example/g00315/laws.FnExactCrcOf", spec := "fnExactCrcOf", apart := false }
def FnExactCrcOfSaid : Prop := fnExactCrcOfRow.holds Try.pinned (OpenSpec.ofChange fnExactCrcOfSpec)

/-- ITS FALSE NEIGHBOUR: 'it returns false'. Refute it at one input. -/
def fnExactCrcOfWrong : ChangeSpec := { name := "fnExactCrcOf", fn := fun _ => fun
  | [d] => { results := [.lit (.bool false)], args := [d] }
  | _ => none }
def FnExactCrcOfWrongFalsely : Prop := fnExactCrcOfRow.holds Try.pinned (OpenSpec.ofChange fnExactCrcOfWrong)

/-- 'laws.FnExactHeadOf': WHATEVER THE INPUT: true; the input reads as it did. -/
def fnExactHeadOfSpec : ChangeSpec := { name := "fnExactHeadOf", fn := fun _ => fun
  | [d1, d2] => { results := [.lit (.bool true)], args := [d1, d2] }
  | _ => none }
def fnExactHeadOfRow : OpenClaim := { program := "ytjafmdilgpnbaaa", sum := "484240a714b903285374f6ccf2a2d1e6a6bec264ca6f6b826d182e0d1addd155", func := "loop.example/g00315/laws.FnExactHeadOf", spec := "fnExactHeadOf", apart := false }
def FnExactHeadOfSaid : Prop := fnExactHeadOfRow.holds Try.pinned (OpenSpec.ofChange fnExactHeadOfSpec)

/-- ITS FALSE NEIGHBOUR: 'it returns false'. Refute it at one input. -/
def fnExactHeadOfWrong : ChangeSpec := { name := "fnExactHeadOf", fn := fun _ => fun
  | [d1, d2] => { results := [.lit (.bool false)], args := [d1, d2] }
  | _ => none }
def FnExactHeadOfWrongFalsely : Prop := fnExactHeadOfRow.holds Try.pinned (OpenSpec.ofChange fnExactHeadOfWrong)

/-- 'laws.FnExactWithCrc': WHATEVER THE INPUT: true; the input reads as it did. -/
def fnExactWithCrcSpec : ChangeSpec := { name := "fnExactWithCrc", fn := fun _ => fun
  | [d] => { results := [.lit (.bool true)], args := [d] }
  | _ => none }
def fnExactWithCrcRow : OpenClaim := { program := "ytjafmdilgpnbaaa", sum := "484240a714b903285374f6ccf2a2d1e6a6bec264ca6f6b826d182e0d1addd155", func := "loop.example/g00315/laws.FnExactWithCrc", spec := "fnExactWithCrc", apart := false }
def FnExactWithCrcSaid : Prop := fnExactWithCrcRow.holds Try.pinned (OpenSpec.ofChange fnExactWithCrcSpec)

/-- ITS FALSE NEIGHBOUR: 'it returns false'. Refute it at one input. -/
def fnExactWithCrcWrong : ChangeSpec := { name := "fnExactWithCrc", fn := fun _ => fun
  | [d] => { results := [.lit (.bool false)], args := [d] }
  | _ => none }
def FnExactWithCrcWrongFalsely : Prop := fnExactWithCrcRow.holds Try.pinned (OpenSpec.ofChange fnExactWithCrcWrong)

/-- 'laws.FnExactCheckCrc': WHATEVER THE INPUT: true; the input reads as it did. -/
def fnExactCheckCrcSpec : ChangeSpec := { name := "fnExactCheckCrc", fn := fun _ => fun
  | [d] => { results := [.lit (.bool true)], args := [d] }
  | _ => none }
def fnExactCheckCrcRow : OpenClaim := { program := "ytjafmdilgpnbaaa", sum := "484240a714b903285374f6ccf2a2d1e6a6bec264ca6f6b826d182e0d1addd155", func := "loop.example/g00315/laws.FnExactCheckCrc", spec := "fnExactCheckCrc", apart := false }
def FnExactCheckCrcSaid : Prop := fnExactCheckCrcRow.holds Try.pinned (OpenSpec.ofChange fnExactCheckCrcSpec)

/-- ITS FALSE NEIGHBOUR: 'it returns false'. Refute it at one input. -/
def fnExactCheckCrcWrong : ChangeSpec := { name := "fnExactCheckCrc", fn := fun _ => fun
  | [d] => { results := [.lit (.bool false)], args := [d] }
  | _ => none }
def FnExactCheckCrcWrongFalsely : Prop := fnExactCheckCrcRow.holds Try.pinned (OpenSpec.ofChange fnExactCheckCrcWrong)

/-- 'laws.FnExactSdnvList': WHATEVER THE INPUT: true; the input reads as it did. -/
def fnExactSdnvListSpec : ChangeSpec := { name := "fnExactSdnvList", fn := fun _ => fun
  | [d] => { results := [.lit (.bool true)], args := [d] }
  | _ => none }
def fnExactSdnvListRow : OpenClaim := { program := "ytjafmdilgpnbaaa", sum := "484240a714b903285374f6ccf2a2d1e6a6bec264ca6f6b826d182e0d1addd155", func := "loop.example/g00315/laws.FnExactSdnvList", spec := "fnExactSdnvList", apart := false }
def FnExactSdnvListSaid : Prop := fnExactSdnvListRow.holds Try.pinned (OpenSpec.ofChange fnExactSdnvListSpec)

/-- ITS FALSE NEIGHBOUR: 'it returns false'. Refute it at one input. -/
def fnExactSdnvListWrong : ChangeSpec := { name := "fnExactSdnvList", fn := fun _ => fun
  | [d] => { results := [.lit (.bool false)], args := [d] }
  | _ => none }
def FnExactSdnvListWrongFalsely : Prop := fnExactSdnvListRow.holds Try.pinned (OpenSpec.ofChange fnExactSdnvListWrong)

/-- 'laws.FnExactReadSdnvs': WHATEVER THE INPUT: true; the input reads as it did. -/
def fnExactReadSdnvsSpec : ChangeSpec := { name := "fnExactReadSdnvs", fn := fun _ => fun
  | [d] => { results := [.lit (.bool true)], args := [d] }
  | _ => none }
def fnExactReadSdnvsRow : OpenClaim := { program := "ytjafmdilgpnbaaa", sum := "484240a714b903285374f6ccf2a2d1e6a6bec264ca6f6b826d182e0d1addd155", func := "loop.example/g00315/laws.FnExactReadSdnvs", spec := "fnExactReadSdnvs", apart := false }
def FnExactReadSdnvsSaid : Prop := fnExactReadSdnvsRow.holds Try.pinned (OpenSpec.ofChange fnExactReadSdnvsSpec)

/-- ITS FALSE NEIGHBOUR: 'it returns false'. Refute it at one input. -/
def fnExactReadSdnvsWrong : ChangeSpec := { name := "fnExactReadSdnvs", fn := fun _ => fun
  | [d] => { results := [.lit (.bool false)], args := [d] }
  | _ => none }
def FnExactReadSdnvsWrongFalsely : Prop := fnExactReadSdnvsRow.holds Try.pinned (OpenSpec.ofChange fnExactReadSdnvsWrong)

/-- 'laws.FnCrc': WHATEVER THE INPUT: true; the input reads as it did. -/
def fnCrcSpec : ChangeSpec := { name := "fnCrc", fn := fun _ => fun
  | [d1, d2] => { results := [.lit (.bool true)], args := [d1, d2] }
  | _ => none }
def fnCrcRow : OpenClaim := { program := "ytjafmdilgpnbaaa", sum := "484240a714b903285374f6ccf2a2d1e6a6bec264ca6f6b826d182e0d1addd155", func := "loop.example/g00315/laws.FnCrc", spec := "fnCrc", apart := false }
def FnCrcSaid : Prop := fnCrcRow.holds Try.pinned (OpenSpec.ofChange fnCrcSpec)

/-- ITS FALSE NEIGHBOUR: 'it returns false'. Refute it at one input. -/
def fnCrcWrong : ChangeSpec := { name := "fnCrc", fn := fun _ => fun
  | [d1, d2] => { results := [.lit (.bool false)], args := [d1, d2] }
  | _ => none }
def FnCrcWrongFalsely : Prop := fnCrcRow.holds Try.pinned (OpenSpec.ofChange fnCrcWrong)

/- THE SECOND FORM. 'bulk': how many values and letters a reading holds, each counted each time it is reached (what is shared counts as often as it is met; a slice's spare places count too). A statement '..UptoSaid' is the law's where the arguments, and the package variables that the reading takes, are together of bulk at most 1048576: NARROWER than '..Said'. Prove '..Said' where nothing that the law and all that it calls make is longer than what came in: it says more and counts as full. Else prove '..UptoSaid'. A law counts once. -/
mutual
def uptoBulk {H : Type} : DataW H → Nat
  | .lit (.string bytes) => bytes.length + 1
  | .lit _ => 1
  | .nil => 1
  | .ptr d => uptoBulk d + 1
  | .slice elems spare => uptoBulkAll elems + uptoBulkAll spare + 1
  | .agg parts => uptoBulkAll parts + 1
  | .iface _ d => uptoBulk d + 1
  | .map entries => uptoBulkEntries entries + 1
  | .held _ => 1
def uptoBulkAll {H : Type} : List (DataW H) → Nat
  | [] => 0
  | d :: r => uptoBulk d + uptoBulkAll r
def uptoBulkEntries {H : Type} : List (Lit × DataW H) → Nat
  | [] => 0
  | x :: r => uptoBulkEntry x + uptoBulkEntries r
def uptoBulkEntry {H : Type} : Lit × DataW H → Nat
  | (.string bytes, d) => bytes.length + uptoBulk d + 1
  | (_, d) => uptoBulk d + 1
 end
def uptoSmall : (H : Type) → List (DataW H) → Bool := fun _ ds => decide (uptoBulkAll ds ≤ 1048576)
def OpenSpec.upto (s : _root_.Go.ChangeSpec) : _root_.Go.OpenSpec := { _root_.Go.OpenSpec.ofChange s with cond := some uptoSmall }

/-- 'laws.FnExactConstants', WHERE WHAT IT READS IS OF BULK AT MOST 1048576: true; the input reads as it did. -/
def fnExactConstantsUptoRow : OpenClaim := { program := "ytjafmdilgpnbaaa", sum := "484240a714b903285374f6ccf2a2d1e6a6bec264ca6f6b826d182e0d1addd155", func := "loop.example/g00315/laws.FnExactConstants", spec := "fnExactConstants", apart := false, narrowed := true }
def FnExactConstantsUptoSaid : Prop := fnExactConstantsUptoRow.holds Try.pinned (OpenSpec.upto fnExactConstantsSpec)

/-- 'laws.FnExactNumberItem', WHERE WHAT IT READS IS OF BULK AT MOST 1048576: true; the input reads as it did. -/
def fnExactNumberItemUptoRow : OpenClaim := { program := "ytjafmdilgpnbaaa", sum := "484240a714b903285374f6ccf2a2d1e6a6bec264ca6f6b826d182e0d1addd155", func := "loop.example/g00315/laws.FnExactNumberItem", spec := "fnExactNumberItem", apart := false, narrowed := true }
def FnExactNumberItemUptoSaid : Prop := fnExactNumberItemUptoRow.holds Try.pinned (OpenSpec.upto fnExactNumberItemSpec)

/-- 'laws.FnExactCrcAdd', WHERE WHAT IT READS IS OF BULK AT MOST 1048576: true; the input reads as it did. -/
def fnExactCrcAddUptoRow : OpenClaim := { program := "ytjafmdilgpnbaaa", sum := "484240a714b903285374f6ccf2a2d1e6a6bec264ca6f6b826d182e0d1addd155", func := "loop.example/g00315/laws.FnExactCrcAdd", spec := "fnExactCrcAdd", apart := false, narrowed := true }
def FnExactCrcAddUptoSaid : Prop := fnExactCrcAddUptoRow.holds Try.pinned (OpenSpec.upto fnExactCrcAddSpec)

/-- 'laws.FnExactSdnvOf', WHERE WHAT IT READS IS OF BULK AT MOST 1048576: true; the input reads as it did. -/
def fnExactSdnvOfUptoRow : OpenClaim := { program := "ytjafmdilgpnbaaa", sum := "484240a714b903285374f6ccf2a2d1e6a6bec264ca6f6b826d182e0d1addd155", func := "loop.example/g00315/laws.FnExactSdnvOf", spec := "fnExactSdnvOf", apart := false, narrowed := true }
def FnExactSdnvOfUptoSaid : Prop := fnExactSdnvOfUptoRow.holds Try.pinned (OpenSpec.upto fnExactSdnvOfSpec)

/-- 'laws.FnExactTakeSdnv', WHERE WHAT IT READS IS OF BULK AT MOST 1048576: true; the input reads as it did. -/
def fnExactTakeSdnvUptoRow : OpenClaim := { program := "ytjafmdilgpnbaaa", sum := "484240a714b903285374f6ccf2a2d1e6a6bec264ca6f6b826d182e0d1addd155", func := "loop.example/g00315/laws.FnExactTakeSdnv", spec := "fnExactTakeSdnv", apart := false, narrowed := true }
def FnExactTakeSdnvUptoSaid : Prop := fnExactTakeSdnvUptoRow.holds Try.pinned (OpenSpec.upto fnExactTakeSdnvSpec)

/-- 'laws.FnExactCrcOf', WHERE WHAT IT READS IS OF BULK AT MOST 1048576: true; the input reads as it did. -/
def fnExactCrcOfUptoRow : OpenClaim := { program := "ytjafmdilgpnbaaa", sum := "484240a714b903285374f6ccf2a2d1e6a6bec264ca6f6b826d182e0d1addd155", func := "loop.example/g00315/laws.FnExactCrcOf", spec := "fnExactCrcOf", apart := false, narrowed := true }
def FnExactCrcOfUptoSaid : Prop := fnExactCrcOfUptoRow.holds Try.pinned (OpenSpec.upto fnExactCrcOfSpec)

/-- 'laws.FnExactHeadOf', WHERE WHAT IT READS IS OF BULK AT MOST 1048576: true; the input reads as it did. -/
def fnExactHeadOfUptoRow : OpenClaim := { program := "ytjafmdilgpnbaaa", sum := "484240a714b903285374f6ccf2a2d1e6a6bec264ca6f6b826d182e0d1addd155", func := "loop.example/g00315/laws.FnExactHeadOf", spec := "fnExactHeadOf", apart := false, narrowed := true }
def FnExactHeadOfUptoSaid : Prop := fnExactHeadOfUptoRow.holds Try.pinned (OpenSpec.upto fnExactHeadOfSpec)

/-- 'laws.FnExactWithCrc', WHERE WHAT IT READS IS OF BULK AT MOST 1048576: true; the input reads as it did. -/
def fnExactWithCrcUptoRow : OpenClaim := { program := "ytjafmdilgpnbaaa", sum := "484240a714b903285374f6ccf2a2d1e6a6bec264ca6f6b826d182e0d1addd155", func := "loop.example/g00315/laws.FnExactWithCrc", spec := "fnExactWithCrc", apart := false, narrowed := true }
def FnExactWithCrcUptoSaid : Prop := fnExactWithCrcUptoRow.holds Try.pinned (OpenSpec.upto fnExactWithCrcSpec)

/-- 'laws.FnExactCheckCrc', WHERE WHAT IT READS IS OF BULK AT MOST 1048576: true; the input reads as it did. -/
def fnExactCheckCrcUptoRow : OpenClaim := { program := "ytjafmdilgpnbaaa", sum := "484240a714b903285374f6ccf2a2d1e6a6bec264ca6f6b826d182e0d1addd155", func := "loop.example/g00315/laws.FnExactCheckCrc", spec := "fnExactCheckCrc", apart := false, narrowed := true }
def FnExactCheckCrcUptoSaid : Prop := fnExactCheckCrcUptoRow.holds Try.pinned (OpenSpec.upto fnExactCheckCrcSpec)

/-- 'laws.FnExactSdnvList', WHERE WHAT IT READS IS OF BULK AT MOST 1048576: true; the input reads as it did. -/
def fnExactSdnvListUptoRow : OpenClaim := { program := "ytjafmdilgpnbaaa", sum := "484240a714b903285374f6ccf2a2d1e6a6bec264ca6f6b826d182e0d1addd155", func := "loop.example/g00315/laws.FnExactSdnvList", spec := "fnExactSdnvList", apart := false, narrowed := true }
def FnExactSdnvListUptoSaid : Prop := fnExactSdnvListUptoRow.holds Try.pinned (OpenSpec.upto fnExactSdnvListSpec)

/-- 'laws.FnExactReadSdnvs', WHERE WHAT IT READS IS OF BULK AT MOST 1048576: true; the input reads as it did. -/
def fnExactReadSdnvsUptoRow : OpenClaim := { program := "ytjafmdilgpnbaaa", sum := "484240a714b903285374f6ccf2a2d1e6a6bec264ca6f6b826d182e0d1addd155", func := "loop.example/g00315/laws.FnExactReadSdnvs", spec := "fnExactReadSdnvs", apart := false, narrowed := true }
def FnExactReadSdnvsUptoSaid : Prop := fnExactReadSdnvsUptoRow.holds Try.pinned (OpenSpec.upto fnExactReadSdnvsSpec)

/-- 'laws.FnCrc', WHERE WHAT IT READS IS OF BULK AT MOST 1048576: true; the input reads as it did. -/
def fnCrcUptoRow : OpenClaim := { program := "ytjafmdilgpnbaaa", sum := "484240a714b903285374f6ccf2a2d1e6a6bec264ca6f6b826d182e0d1addd155", func := "loop.example/g00315/laws.FnCrc", spec := "fnCrc", apart := false, narrowed := true }
def FnCrcUptoSaid : Prop := fnCrcUptoRow.holds Try.pinned (OpenSpec.upto fnCrcSpec)

end Rows
end Go.Proofs.Ytjafmdilgpnbaaa
